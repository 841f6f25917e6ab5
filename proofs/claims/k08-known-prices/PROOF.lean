import PyProof.Rows.All
import Wide.All
import OpenK.AllK
import Wide.FinOn
import HandS.ForMost
import HandS.Exc
import HandS.SetKeys
import KE.KDictKeyed
import KE.KeyNested
import HandS.TupAny
import HandS.TupMul
import HandS.WordsExc
import HandS.Style
import HandS.BoundList
import HandS.Replace
import HandS.SortInts
import HandS.SetFor
import HandS.Strs
import HandS.Small
import HandS.DictComp
import KE.KDictDisplayH
import HandS.Zip
import KE.GoesEnum
import KE.GoesZip
import KE.GoesMore
import HandS.ClsMeth
import HandS.More
import HandS.Ends
import PyProof.StrLawsIn
import PySem.Challenge.RW_trickfares_k08_known_prices
set_option Elab.async false
set_option linter.all false
set_option maxRecDepth 100000
section F_WLG
/-! WLG: defs whose promise may use that no repr is under way around the call. -/
namespace WL
open PySem PySem.Spec PyProof.Rows L2

abbrev Quiet (A : Around) : Prop := A.guards = some []
theorem quiet_deeper {A : Around} {env : Env} (h : Quiet A) : Quiet (A.deeper env) := by
  show (A.deeper env).guards = some []
  first | exact h | simpa [Around.deeper] using h
theorem quiet_make {A : Around} {C : Addr} {us : List Value} {kw : List (Str × Value)} (h : Quiet A) : Quiet (A.under (.builtin "type.__call__" ⟨.ref C :: us, kw⟩)) := by
  show (A.under (.builtin "type.__call__" ⟨.ref C :: us, kw⟩)).guards = some []
  first | exact h | simpa [Around.under, Code.guards, Code.isGuard, guardIds, pushGuards] using h

/-- a def's promise, kept where no repr is under way -/
structure FnG (P : Program) (w : World) (K : PySem.W.Frag) (mg : Str → Option Value) (base : Heap) (CX : CXT) (k : Nat) (f : Addr) (fd : FuncData) (ps : List Str) (sp : Sp) : Prop where
  ln : ∀ {vs H Q E}, sp vs H Q E → vs.length = ps.length
  go : ∀ {A : Around} {outer : List Env} {s : Shared} {H : Hp} {args : Args} {us : List Value} {vs : List V} {Q : VK} {E : XK}, Quiet A → Room k A →
    Env0 P w K mg base A outer s H → BindsTo s fd args (ps.zip us) → Vals vs us → sp vs H Q E → codeAny (model P w) A (.call (.ref f) args) (CR CX outer P w H s Q E) s

section
variable {P : Program} {w : World} {K : PySem.W.Frag} {mg : Str → Option Value} {base : Heap} {CX : CXT} {j k : Nat} {f : Addr} {fd : FuncData} {ps : List Str} {sp sp' : Sp}
theorem FnG.of (F : FnOk P w K mg base CX k f fd ps sp) : FnG P w K mg base CX k f fd ps sp :=
  ⟨fun h => F.len _ _ _ _ h, fun _ hr e b v h => F.run _ _ _ _ _ _ _ _ _ hr e b v h⟩
theorem FnG.up (F : FnG P w K mg base CX j f fd ps sp) (h : j ≤ k) : FnG P w K mg base CX k f fd ps sp :=
  ⟨F.ln, fun q hr => F.go q (hr.mono h)⟩
theorem FnG.weak (F : FnG P w K mg base CX k f fd ps sp) (h : ∀ vs H Q E, sp' vs H Q E → sp vs H Q E) : FnG P w K mg base CX k f fd ps sp' :=
  ⟨fun q => F.ln (h _ _ _ _ q), fun g hr e b v q => F.go g hr e b v (h _ _ _ _ q)⟩

/-- a def by its body -/
theorem fnG_body {name qual : Str} {params : Arguments} {body : List Stmt} {scope : Scope} {dV kV doc pm cdv ct oc : Value} {an od : Option Addr} {osl : Array (Option Value)} {N : List Str}
    (lk : K.lookup f = some ⟨oc, od, .func (PySem.W.fnOf name qual params body scope dV kV doc pm an cdv ct), osl⟩) (hcd : PySem.W.codeIn K cdv qual = true) (S : FnScope N ps scope)
    (ln : ∀ {vs H Q E}, sp vs H Q E → vs.length = ps.length)
    (hb : ∀ (A : Around) (outer : List Env) (s : Shared) (H : Hp) (vs : List V) (Q : VK) (E : XK), Quiet (A.deeper (envOfC qual scope s.heap.objs.size f cdv)) → Room k (A.deeper (envOfC qual scope s.heap.objs.size f cdv)) → sp vs H Q E →
      ∃ t, PSs (cxOf CX P w K mg base N qual scope f cdv A outer s H E) body t ∧ t { nx := fun _ H' => Q .non H', rt := Q } (start N vs) H) :
    FnG P w K mg base CX (k + 1) f (PySem.W.fnOf name qual params body scope dV kV doc pm an cdv ct) ps sp := by
  refine ⟨ln, @fun A outer s H args us vs Q E g hr e0 hbind r h => ?_⟩
  have len := ln h
  have KX := e0.mod.kin.keeps fun b o e => (e0.bs b o e).1
  have lim := e0.mod.nolimit.keeps fun b o e => (e0.bs b o e).1
  refine codeAny_call_function hr.depth (KX _ _ lk) rfl S.co S.gen rfl (PySem.W.codeRec_of KX hcd) (hbind _ _ _ _ (wpAny_newFunctionEnv_cells S.kind (fun ⟨n, v⟩ hy => ?_) fun env he s1 x => ?_))
  · rcases S.par n (List.of_mem_zip hy).1 with q | q
    · exact .inl q
    · exact .inr ⟨q, PySem.W.cellsFrom_some _ _ _ (.inl q)⟩
  · subst he
    refine ⟨lim.keeps x.toInCall.keep, codeAny_func ?_⟩
    obtain ⟨t, ht, hq⟩ := hb A outer s H vs Q E (quiet_deeper g) (hr.deeper _) h
    refine wpAny_mono (ht.run [] s1 (start N vs) H _ (inv_start S hr.hd e0 len r x) hq) (fun fl s' hs => ?_) fun e s' hs => hs
    match fl, hs with
    | .ret u, ⟨v, _, H', J, rv, q⟩ => exact ⟨v, H', J.os, J.bare, J.base, J.hok, rv, q⟩
    | .next, ⟨_, H', J, q⟩ => exact ⟨V.non, H', J.os, J.bare, J.base, J.hok, rfl, q⟩
    | .brk, ⟨_, _, _, q⟩ => exact q.elim
    | .cont, ⟨_, _, _, q⟩ => exact q.elim
end

section
variable {X : Cx} {CX : CXT} {k : Nat} {f C : Addr} {fd : FuncData} {ps : List Str} {sp : Sp} {E : XK} {x m : Str} {p pos apos : Pos} {e o : Expr} {es : List Expr} {ta : TE} {t : TA}
  {pins : List (Addr × Obj)} {σ : L2.St} {H : Hp} {s : Shared} {Q : VK} {us : List Value} {vs : List V}

theorem runG (F : FnG X.prog X.w X.K X.mg X.base CX k f fd ps sp) (g : Quiet X.A) (hr : Room k X.A) (hb : Binds X.K fd ps []) (hx : Passes CX X E)
    (I : Inv X pins σ H s) (r : Vals vs us) (h : sp vs H Q E) : wpAny (model X.prog X.w) X.A (call (.ref f) us) (EP X pins σ Q) X.xe s := by
  have b := hb s us I.kIn (by rw [List.append_nil, ← r.length]; exact F.ln h)
  rw [List.append_nil] at b
  refine wpAny_call (codeAny_mono (F.go g hr I.env0 b r h) fun rr s' hq => ?_)
  match rr, hq with
  | .error e, hq => exact hx pins σ H s e s' I hq
  | .ok (.ret u), hq => exact I.after hq
  | .ok .next, hq => exact False.elim hq
  | .ok .brk, hq => exact False.elim hq
  | .ok .cont, hq => exact False.elim hq

/-- f(e, ..) -/
theorem pg_call (F : FnG X.prog X.w X.K X.mg X.base CX k f fd ps sp) (g : Quiet X.A) (hr : Room k X.A) (hg : Gl X x) (hm : X.mg x = some (.ref f)) (hk : PySem.W.keepIn X.K (.ref f) = true) (hb : Binds X.K fd ps []) (hx : Passes CX X E)
    (ha : PA X (e :: es) t) (hdb : (x == ("__debug__" : Str)) = false := by decide) (he : starEach (e :: es) X.env = (false, eval e X.env) :: starEach es X.env := by rfl) (hpl : (backTo pos (starEach es X.env)).any (·.1) = false := by rfl) :
    PE X (.Call (.Name x p) (e :: es) [] pos) (fun σ H Q => t σ H fun vs H1 => sp vs H1 Q E) :=
  ⟨fun pins s σ H Q I h => wpAny_Call_Name_kw (ld_glob I hg hm (PySem.W.callWith_K (h₀ := X.base) I.ok.mod.kin hk
    (thn (ha.run pos pins s σ H _ I h) fun us s1 ⟨vs, H1, I1, r, q⟩ => ⟨I1.kIn, runG F g hr hb hx I1 r q⟩) he hpl) hdb)⟩
/-- f() -/
theorem pg_call0 (F : FnG X.prog X.w X.K X.mg X.base CX k f fd ps sp) (g : Quiet X.A) (hr : Room k X.A) (hg : Gl X x) (hm : X.mg x = some (.ref f)) (hk : PySem.W.keepIn X.K (.ref f) = true) (hb : Binds X.K fd ps []) (hx : Passes CX X E)
    (hdb : (x == ("__debug__" : Str)) = false := by decide) : PE X (.Call (.Name x p) [] [] pos) (fun σ H Q => sp [] H Q E) :=
  ⟨fun pins s σ H Q I h => wpAny_Call_Name_kw (ld_glob I hg hm (PySem.W.callWith_K0 I.kIn hk (runG (us := []) F g hr hb hx I .nil h)) hdb)⟩
/-- o.m(e, ..) -/
theorem pg_meth {pl : Sem Bool} (he : PE X o ta) (c : Cls X.K C) (hm : Meth X.K C m f) (F : FnG X.prog X.w X.K X.mg X.base CX k f fd ps sp) (g : Quiet X.A) (hr : Room k X.A) (hb : Binds X.K fd ps []) (hx : Passes CX X E) (ha : PA X (e :: es) t)
    (hst : starEach (e :: es) X.env = (false, eval e X.env) :: starEach es X.env := by rfl) (hpl : (backTo pos (starEach es X.env)).any (·.1) = false := by rfl)
    (ht : eval (.Call (.Attribute o m apos) (e :: es) [] pos) X.env = (eval o X.env >>= fun ov => standAt apos.atName >>= fun _ => holding [ov] (getMethod ov m pl) >>= fun q => callWith pos q.1 q.2 (backTo pos (starEach (e :: es) X.env)) (backToKw pos (keywordEach [] X.env))) := by rfl) :
    PE X (.Call (.Attribute o m apos) (e :: es) [] pos) (fun σ H Q => ta σ H fun x H1 => ∃ a dx fs, x = .ref a ∧ H1 a = some (.ins C dx fs) ∧ fs.lookup m = none ∧ t σ H1 fun vs H2 => sp (x :: vs) H2 Q E) := by
  refine ⟨fun pins s σ H Q I h => PySem.W.methodCall_KW (pl := pl) (thn (he.run pins s σ H _ I h) fun u s1 ⟨x, H1, I1, rx, a, dx, fs, ex, ea, l, q⟩ => ?_) ht⟩
  subst ex
  obtain rfl : u = Value.ref a := rx
  exact getmeth_ok I1 ea c hm l (PySem.W.callWith_K (first := [.ref a]) (h₀ := X.base) I.ok.mod.kin hm.kp
    (thn (ha.run pos pins s1 σ H1 _ I1 q) fun us s2 ⟨vs, H2, I2, r, q2⟩ => ⟨I2.kIn, runG (us := .ref a :: us) (vs := .ref a :: vs) F g hr hb hx I2 (.cons rfl r) q2⟩) hst hpl)
/-- o.m() -/
theorem pg_meth0 {pl : Sem Bool} (he : PE X o ta) (c : Cls X.K C) (hm : Meth X.K C m f) (F : FnG X.prog X.w X.K X.mg X.base CX k f fd ps sp) (g : Quiet X.A) (hr : Room k X.A) (hb : Binds X.K fd ps []) (hx : Passes CX X E)
    (ht : eval (.Call (.Attribute o m apos) [] [] pos) X.env = (eval o X.env >>= fun ov => standAt apos.atName >>= fun _ => holding [ov] (getMethod ov m pl) >>= fun q => callWith pos q.1 q.2 (backTo pos (starEach [] X.env)) (backToKw pos (keywordEach [] X.env))) := by rfl) :
    PE X (.Call (.Attribute o m apos) [] [] pos) (fun σ H Q => ta σ H fun x H1 => ∃ a dx fs, x = .ref a ∧ H1 a = some (.ins C dx fs) ∧ fs.lookup m = none ∧ sp [x] H1 Q E) := by
  refine ⟨fun pins s σ H Q I h => PySem.W.methodCall_KW (pl := pl) (thn (he.run pins s σ H _ I h) fun u s1 ⟨x, H1, I1, rx, a, dx, fs, ex, ea, l, q⟩ => ?_) ht⟩
  subst ex
  obtain rfl : u = Value.ref a := rx
  exact getmeth_ok I1 ea c hm l (PySem.W.callWith_K0 (first := [.ref a]) I1.kIn hm.kp (runG (us := [.ref a]) (vs := [.ref a]) F g hr hb hx I1 (.cons rfl .nil) q))

theorem runG_make (M : Mk X.K C f) (F : FnG X.prog X.w X.K X.mg X.base CX k f fd ps sp) (g : Quiet X.A) (hr : Room (k + 1) X.A) (hb : Binds X.K fd ps []) (hx : Passes CX X E) (I : Inv X pins σ H s) (r : Vals vs us)
    (h : ∀ x dx, H x = none → H dx = none → dx ≠ x → sp (.ref x :: vs) (upd (upd H dx (.own x)) x (.ins C dx [])) (fun v H2 => v = .non ∧ Q (.ref x) H2) E) :
    wpAny (model X.prog X.w) X.A (call (.ref C) us) (EP X pins σ Q) X.xe s := by
  have q := h (s.heap.objs.size + 1) s.heap.objs.size (I.hok.fresh (Nat.le_succ _)) (I.hok.fresh (Nat.le_refl _)) (Nat.ne_of_lt (Nat.lt_succ_self _))
  have J := Inv.made (C := C) I
  have r2 : Vals (V.ref (s.heap.objs.size + 1) :: vs) (Value.ref (s.heap.objs.size + 1) :: us) := .cons rfl r
  have b := hb { s with heap := (s.heap.push PySem.W.emptyDict).push (PySem.W.instObj C s.heap.objs.size) } (Value.ref (s.heap.objs.size + 1) :: us) J.kIn (by rw [List.append_nil, ← r2.length]; exact F.ln q)
  rw [List.append_nil] at b
  refine wpAny_call (make_map (f := f) I.kIn M.makes M.init (beq_iff_eq.mp M.fn) (codeAny_mono (F.go (quiet_make g) (hr.make C us []) (J.env0.make C us []) b r2 q) fun rr s' hq => ?_))
  match rr, hq with
  | .error e, hq => exact hx pins σ _ _ e s' J hq
  | .ok (.ret u), hq =>
    obtain ⟨v, H', I3, rv, ev, q3⟩ := J.after hq
    subst ev
    exact ⟨rv, ⟨V.ref (s.heap.objs.size + 1), H', I3, rfl, q3⟩⟩
  | .ok .next, hq => exact False.elim hq
  | .ok .brk, hq => exact False.elim hq
  | .ok .cont, hq => exact False.elim hq
end
end WL
end F_WLG

section F_WLA
/-! WLA: data as trees (W), how a value in a heap bears a tree (Is), the slots of a def (En), what holds between them (Rel). -/
namespace WL
open PySem PySem.Spec PyProof.Rows L2

/-- data -/
inductive W where
  | non | bl (b : Bool) | int (i : Int) | str (s : Str)
  | tup (ws : List W) | lst (ws : List W) | dic (ks : List Key) (vs : List W) | tdc (ks vs : List W) | obj (c : Str) (ns : List Str) (vs : List W)
  /-- the script: a list that is only read -/
  | scr (ns : List Int)
  /-- an own class -/
  | cl (c : Str)
deriving Inhabited

/-- the module: its written part, the addresses of its classes -/
structure Gm where
  P : Program
  w : World
  K : PySem.W.Frag
  cls : Str → Option Addr

mutual
/-- a key of a dict whose keys are tuples -/
def nk : W → Option NestedKey
  | .non => some .none
  | .int i => some (.num i)
  | .str s => some (.text s)
  | .tup ws => (nks ws).map .tup
  | _ => none
def nks : List W → Option (List NestedKey)
  | [] => some []
  | w :: ws => (nk w).bind fun k => (nks ws).map fun l => k :: l
end
/-- a tuple as a key -/
def kT : W → Option NestedKey
  | .tup ws => (nks ws).bind fun l => if NestedKey.depth (.tup l) ≤ 8 then some (.tup l) else none
  | _ => none
/-- a dict whose keys are tuples: the keys, their places, the values -/
def tdP (G : Gm) (a : Addr) (xs : List (NestedKey × Addr × V)) (h : Heap) : Prop :=
  (a == sysModules) = false ∧ xs.length ≤ sizeLine ∧ ∃ us : List (NestedKey × Addr × Value), Paired (fun (p : NestedKey × Addr × V) (q : NestedKey × Addr × Value) => p.1 = q.1 ∧ p.2.1 = q.2.1 ∧ RelV p.2.2 q.2.2) xs us ∧
    ∃ o es ep, h.get? a = some o ∧ o.ExactDict ∧ o.data = .dict es ep ∧ es.toList = us.map (entryOfKey (nestedKind G.P G.w)) ∧ (us.map (·.1)).Nodup
def tdO (G : Gm) (a : Addr) (xs : List (NestedKey × Addr × V)) : HO := .ext (tdP G a xs)

def wKey : Key → W
  | .inl i => .int i
  | .inr s => .str s
/-- a key that is an int or a text -/
def kK : W → Option Key
  | .int i => some (.inl i)
  | .str s => some (.inr s)
  | _ => none

mutual
def Is (G : Gm) (B : Hp) : W → V → Prop
  | .non, v => v = .non
  | .bl b, v => v = .bl b
  | .int i, v => v = .int i
  | .str s, v => v = .str s
  | .tup ws, v => ∃ a xs, v = .ref a ∧ SqT G.K B a xs ∧ Iss G B ws xs
  | .lst ws, v => ∃ a xs, v = .ref a ∧ B a = some (.lst xs) ∧ Iss G B ws xs
  | .dic ks vs, v => ∃ a, v = .ref a ∧ ∃ kvs : List (Key × V), B a = some (.dK kvs) ∧ kvs.map (·.1) = ks ∧ Iss G B vs (kvs.map (·.2))
  | .tdc ks vs, v => ∃ a, v = .ref a ∧ ∃ xs : List (NestedKey × Addr × V), B a = some (tdO G a xs) ∧ ks.map kT = xs.map (fun p => some p.1) ∧ Iss G B ks (xs.map fun p => V.ref p.2.1) ∧ Iss G B vs (xs.map (·.2.2))
  | .obj c ns vs, v => ∃ a C dx fs, v = .ref a ∧ G.cls c = some C ∧ B a = some (.ins C dx fs) ∧ fs.map (·.1) = ns ∧ Iss G B vs (fs.map (·.2))
  | .scr ns, v => ∃ a, v = .ref a ∧ SqL G.K B a (ns.map V.int)
  | .cl c, v => ∃ C, v = .ref C ∧ G.cls c = some C
def Iss (G : Gm) (B : Hp) : List W → List V → Prop
  | [], xs => xs = []
  | w :: ws, xs => ∃ x r, xs = x :: r ∧ Is G B w x ∧ Iss G B ws r
end

def Sub (B B' : Hp) : Prop := ∀ a o, B a = some o → B' a = some o
theorem Sub.refl (B : Hp) : Sub B B := fun _ _ h => h
theorem Sub.trans {A B C : Hp} (h : Sub A B) (k : Sub B C) : Sub A C := fun a o e => k a o (h a o e)
theorem Sub.new {B : Hp} {p : Addr} {o : HO} (h : B p = none) : Sub B (upd B p o) := fun a u e => by rw [upd_ne (ne_of_none e h)]; exact e
theorem Sub.upd {B H : Hp} {p : Addr} {o : HO} (s : Sub B H) : Sub (L2.upd B p o) (L2.upd H p o) := fun a u e => by
  by_cases q : a = p
  · subst q; rw [upd_same] at e ⊢; exact e
  · rw [upd_ne q] at e ⊢; exact s a u e
theorem Sub.put {B H : Hp} {p : Addr} {o : HO} (s : Sub B H) (h : B p = none) : Sub B (L2.upd H p o) := fun a u e => by
  rw [upd_ne (ne_of_none e h)]; exact s a u e
theorem Sub.non {B H : Hp} {p : Addr} (s : Sub B H) (h : H p = none) : B p = none := by
  cases e : B p with
  | none => rfl
  | some o => rw [s p o e] at h; cases h

theorem sub_rd {B B' : Hp} {a : Addr} {u : HO} (e : Sub B B') (h : Rd B a u) : Rd B' a u := by
  rcases h with h | ⟨o, h⟩
  · exact .inl (e _ _ h)
  · exact .inr ⟨o, e _ _ h⟩
theorem sub_sql {K : PySem.W.Frag} {B B' : Hp} {a : Addr} {xs : List V} (e : Sub B B') (h : SqL K B a xs) : SqL K B' a xs := h.imp (sub_rd e) id
theorem sub_sqt {K : PySem.W.Frag} {B B' : Hp} {a : Addr} {xs : List V} (e : Sub B B') (h : SqT K B a xs) : SqT K B' a xs := h.imp (sub_rd e) id

section
variable {G : Gm} {B B' : Hp}
mutual
theorem Is.mono (e : Sub B B') : ∀ {w : W} {v : V}, Is G B w v → Is G B' w v
  | .non, _, h => h
  | .bl _, _, h => h
  | .int _, _, h => h
  | .str _, _, h => h
  | .tup ws, _, ⟨a, xs, h1, h2, h3⟩ => ⟨a, xs, h1, sub_sqt e h2, Iss.mono e h3⟩
  | .lst ws, _, ⟨a, xs, h1, h2, h3⟩ => ⟨a, xs, h1, e _ _ h2, Iss.mono e h3⟩
  | .scr ns, _, ⟨a, h1, h2⟩ => ⟨a, h1, sub_sql e h2⟩
  | .cl _, _, h => h
  | .dic ks vs, _, ⟨a, h1, kvs, h2, h3, h4⟩ => ⟨a, h1, kvs, e _ _ h2, h3, Iss.mono e h4⟩
  | .tdc ks vs, _, ⟨a, h1, kvs, h2, h3, h5, h4⟩ => ⟨a, h1, kvs, e _ _ h2, h3, Iss.mono e h5, Iss.mono e h4⟩
  | .obj c ns vs, _, ⟨a, C, dx, fs, h1, h2, h3, h4, h5⟩ => ⟨a, C, dx, fs, h1, h2, e _ _ h3, h4, Iss.mono e h5⟩
theorem Iss.mono (e : Sub B B') : ∀ {ws : List W} {xs : List V}, Iss G B ws xs → Iss G B' ws xs
  | [], _, h => h
  | _ :: _, _, ⟨x, r, h1, h2, h3⟩ => ⟨x, r, h1, Is.mono e h2, Iss.mono e h3⟩
end
theorem Iss.nil : Iss G B [] [] := rfl
theorem Iss.cons {w : W} {ws : List W} {x : V} {xs : List V} (h : Is G B w x) (k : Iss G B ws xs) : Iss G B (w :: ws) (x :: xs) := ⟨x, xs, rfl, h, k⟩
theorem Iss.len : ∀ {ws : List W} {xs : List V}, Iss G B ws xs → ws.length = xs.length
  | [], _, h => by cases (show _ = [] from h); rfl
  | _ :: _, _, ⟨_, _, h1, _, h3⟩ => by subst h1; simp [Iss.len h3]
theorem Iss.get : ∀ {ws : List W} {xs : List V} {i : Nat} {w : W}, Iss G B ws xs → ws[i]? = some w → ∃ x, xs[i]? = some x ∧ Is G B w x
  | [], _, _, _, _, e => by simp at e
  | _ :: _, _, 0, _, ⟨x, r, h1, h2, _⟩, e => by
    subst h1
    simp only [List.getElem?_cons_zero, Option.some.injEq] at e ⊢
    subst e
    exact ⟨x, rfl, h2⟩
  | _ :: _, _, i + 1, _, ⟨_, r, h1, _, h3⟩, e => by
    subst h1
    simp only [List.getElem?_cons_succ] at e ⊢
    exact Iss.get h3 e
theorem Iss.getV {ws : List W} {xs : List V} {i : Nat} {x : V} (h : Iss G B ws xs) (e : xs[i]? = some x) : ∃ w, ws[i]? = some w ∧ Is G B w x := by
  have hl := h.len
  have hi := (List.getElem?_eq_some_iff.mp e).1
  have e2 : ws[i]? = some ws[i] := by simp
  obtain ⟨y, h1, h2⟩ := h.get e2
  rw [e] at h1; cases h1
  exact ⟨_, e2, h2⟩
theorem Iss.app : ∀ {ws us : List W} {xs ys : List V}, Iss G B ws xs → Iss G B us ys → Iss G B (ws ++ us) (xs ++ ys)
  | [], _, _, _, h, k => by cases (show _ = [] from h); exact k
  | _ :: _, _, _, _, ⟨x, r, h1, h2, h3⟩, k => by subst h1; exact ⟨x, r ++ _, rfl, h2, Iss.app h3 k⟩
theorem Iss.take : ∀ {ws : List W} {xs : List V} (n : Nat), Iss G B ws xs → Iss G B (ws.take n) (xs.take n)
  | _, _, 0, _ => by simp [Iss]
  | [], _, _ + 1, h => by cases (show _ = [] from h); exact rfl
  | _ :: _, _, n + 1, ⟨x, r, h1, h2, h3⟩ => by subst h1; exact ⟨x, r.take n, rfl, h2, Iss.take n h3⟩
theorem Iss.drop : ∀ {ws : List W} {xs : List V} (n : Nat), Iss G B ws xs → Iss G B (ws.drop n) (xs.drop n)
  | _, _, 0, h => h
  | [], _, _ + 1, h => by cases (show _ = [] from h); exact rfl
  | _ :: _, _, n + 1, ⟨x, r, h1, h2, h3⟩ => by subst h1; exact Iss.drop n h3
theorem Iss.set : ∀ {ws : List W} {xs : List V} {w : W} {x : V} (i : Nat), Iss G B ws xs → Is G B w x → Iss G B (ws.set i w) (xs.set i x)
  | [], _, _, _, _, h, _ => by cases (show _ = [] from h); exact rfl
  | _ :: _, _, _, _, 0, ⟨y, r, h1, h2, h3⟩, k => by subst h1; exact ⟨_, r, rfl, k, h3⟩
  | _ :: _, _, _, _, i + 1, ⟨y, r, h1, h2, h3⟩, k => by subst h1; exact ⟨y, _, rfl, h2, Iss.set i h3 k⟩
theorem Iss.rev : ∀ {ws : List W} {xs : List V}, Iss G B ws xs → Iss G B ws.reverse xs.reverse
  | [], _, h => by cases (show _ = [] from h); exact rfl
  | _ :: _, _, ⟨x, r, h1, h2, h3⟩ => by
    subst h1
    rw [List.reverse_cons, List.reverse_cons]
    exact (Iss.rev h3).app (.cons h2 .nil)
theorem Iss.ints : ∀ {ns : List Int} {xs : List V}, Iss G B (ns.map W.int) xs ↔ xs = ns.map V.int
  | [], _ => Iff.rfl
  | n :: ns, xs => by
    constructor
    · rintro ⟨x, r, h1, h2, h3⟩
      cases (show x = .int n from h2)
      rw [h1, Iss.ints.mp h3]; rfl
    · rintro rfl
      exact ⟨_, _, rfl, rfl, Iss.ints.mpr rfl⟩
theorem Iss.strs : ∀ {ns : List Str} {xs : List V}, Iss G B (ns.map W.str) xs ↔ xs = ns.map V.str
  | [], _ => Iff.rfl
  | n :: ns, xs => by
    constructor
    · rintro ⟨x, r, h1, h2, h3⟩
      cases (show x = .str n from h2)
      rw [h1, Iss.strs.mp h3]; rfl
    · rintro rfl
      exact ⟨_, _, rfl, rfl, Iss.strs.mpr rfl⟩
theorem Iss.bls : ∀ {ns : List Bool} {xs : List V}, Iss G B (ns.map W.bl) xs ↔ xs = ns.map V.bl
  | [], _ => Iff.rfl
  | n :: ns, xs => by
    constructor
    · rintro ⟨x, r, h1, h2, h3⟩
      cases (show x = .bl n from h2)
      rw [h1, Iss.bls.mp h3]; rfl
    · rintro rfl
      exact ⟨_, _, rfl, rfl, Iss.bls.mpr rfl⟩
end

/-- what stands at an owned address bears the tree, its parts in B -/
def Own (G : Gm) (B H : Hp) (a : Addr) : W → Prop
  | .lst ws => ∃ xs, H a = some (.lst xs) ∧ Iss G B ws xs
  | .dic ks vs => ∃ kvs : List (Key × V), H a = some (.dK kvs) ∧ kvs.map (·.1) = ks ∧ Iss G B vs (kvs.map (·.2))
  | .tdc ks vs => ∃ xs : List (NestedKey × Addr × V), H a = some (tdO G a xs) ∧ ks.map kT = xs.map (fun p => some p.1) ∧ Iss G B ks (xs.map fun p => V.ref p.2.1) ∧ Iss G B vs (xs.map (·.2.2))
  | .obj c ns vs => ∃ C dx fs, G.cls c = some C ∧ H a = some (.ins C dx fs) ∧ fs.map (·.1) = ns ∧ Iss G B vs (fs.map (·.2))
  | _ => False
section
variable {G : Gm} {B B' H H' : Hp} {a : Addr}
theorem Own.to (e : Sub B B') (f : ∀ o, H a = some o → H' a = some o) : ∀ {w : W}, Own G B H a w → Own G B' H' a w
  | .lst ws, ⟨xs, h1, h2⟩ => ⟨xs, f _ h1, h2.mono e⟩
  | .dic ks vs, ⟨kvs, h2, h3, h4⟩ => ⟨kvs, f _ h2, h3, Iss.mono e h4⟩
  | .tdc ks vs, ⟨kvs, h2, h3, h5, h4⟩ => ⟨kvs, f _ h2, h3, Iss.mono e h5, Iss.mono e h4⟩
  | .obj c ns vs, ⟨C, dx, fs, h1, h2, h3, h4⟩ => ⟨C, dx, fs, h1, f _ h2, h3, Iss.mono e h4⟩
  | .non, h => h.elim
  | .bl _, h => h.elim
  | .int _, h => h.elim
  | .str _, h => h.elim
  | .tup _, h => h.elim
  | .scr _, h => h.elim
  | .cl _, h => h.elim
theorem Own.some : ∀ {w : W}, Own G B H a w → ∃ u, H a = some u
  | .lst ws, ⟨xs, h1, h2⟩ => ⟨_, h1⟩
  | .dic ks vs, ⟨kvs, h2, h3, h4⟩ => ⟨_, h2⟩
  | .tdc ks vs, ⟨kvs, h2, h3, h5, h4⟩ => ⟨_, h2⟩
  | .obj c ns vs, ⟨C, dx, fs, h1, h2, h3, h4⟩ => ⟨_, h2⟩
  | .non, h => h.elim
  | .bl _, h => h.elim
  | .int _, h => h.elim
  | .str _, h => h.elim
  | .tup _, h => h.elim
  | .scr _, h => h.elim
  | .cl _, h => h.elim
theorem Own.is : ∀ {w : W}, Own G B B a w → Is G B w (.ref a)
  | .lst ws, ⟨xs, h1, h2⟩ => ⟨a, xs, rfl, h1, h2⟩
  | .dic ks vs, ⟨kvs, h2, h3, h4⟩ => ⟨a, rfl, kvs, h2, h3, h4⟩
  | .tdc ks vs, ⟨kvs, h2, h3, h5, h4⟩ => ⟨a, rfl, kvs, h2, h3, h5, h4⟩
  | .obj c ns vs, ⟨C, dx, fs, h1, h2, h3, h4⟩ => ⟨a, C, dx, fs, rfl, h1, h2, h3, h4⟩
  | .non, h => h.elim
  | .bl _, h => h.elim
  | .int _, h => h.elim
  | .str _, h => h.elim
  | .tup _, h => h.elim
  | .scr _, h => h.elim
  | .cl _, h => h.elim
end

/-- what a computation yields: a value, an exception of an own class with its fields, or nothing that is told -/
inductive R (α : Type) where
  | ok (a : α) | exn (c : Str) (ns : List Str) (vs : List W) | bad
namespace R
variable {α β : Type}
def bind : R α → (α → R β) → R β
  | .ok a, f => f a
  | .exn c ns vs, _ => .exn c ns vs
  | .bad, _ => .bad
@[simp] theorem bind_ok (a : α) (f : α → R β) : (R.ok a).bind f = f a := rfl
@[simp] theorem bind_bad (f : α → R β) : (R.bad : R α).bind f = .bad := rfl
@[simp] theorem bind_exn (c : Str) (ns : List Str) (vs : List W) (f : α → R β) : (R.exn c ns vs : R α).bind f = .exn c ns vs := rfl
end R

/-- a def's frame of reference: the module, the heap and the shared part at the entry, the objects handed in to be changed, the wish about exceptions -/
structure Ct where
  H0 : Hp
  B0 : Hp
  O : Addr → Prop
  E : XK

/-- a slot: without a value, of shared data, of data that this def may change (io: handed in to be changed) -/
inductive Sl where
  | un | sh (w : W) | ow (io : Bool) (w : W)
abbrev En := List Sl

structure Rel (G : Gm) (c : Ct) (σ : L2.St) (e : En) (H B : Hp) : Prop where
  len : σ.length = e.length
  sh : ∀ {i : Nat} {w : W}, e[i]? = some (Sl.sh w) → ∃ v, σ[i]? = some (some v) ∧ Is G B w v
  ow : ∀ {i : Nat} {b : Bool} {w : W}, e[i]? = some (Sl.ow b w) → ∃ a, σ[i]? = some (some (V.ref a)) ∧ B a = none ∧ (b = true → c.O a) ∧ (b = false → c.H0 a = none) ∧ Own G B H a w
  dj : ∀ {i j : Nat} {b b' : Bool} {w w' : W} {a : Addr}, i ≠ j → e[i]? = some (Sl.ow b w) → e[j]? = some (Sl.ow b' w') → σ[i]? = some (some (V.ref a)) → σ[j]? = some (some (V.ref a)) → False
  sub : Sub B H
  old : Sub c.B0 B
  new : ∀ {a : Addr} {o : HO}, B a = some o → (∃ u, c.B0 a = some u) ∨ c.H0 a = none
  keep : ∀ {a : Addr} {o : HO}, c.H0 a = some o → ¬ c.O a → H a = some o
  dom : ∀ {a : Addr} {o : HO}, c.H0 a = some o → ∃ u, H a = some u

/-- an exception of the class cl with these fields may leave -/
def XW (G : Gm) (c : Ct) (cl : Str) (ns : List Str) (ws : List W) : Prop :=
  ∀ (C d : Addr) (H' B' : Hp) (fs : List (Str × V)), G.cls cl = some C → H' d = some (.xd fs) → fs.map (·.1) = ns → Iss G B' ws (fs.map (·.2)) → Sub B' H' → Sub c.B0 B' →
    (∀ {a : Addr} {o : HO}, B' a = some o → (∃ u, c.B0 a = some u) ∨ c.H0 a = none) → (∀ {a : Addr} {o : HO}, c.H0 a = some o → ¬ c.O a → H' a = some o) → c.H0 d = none → c.E (.ref C) (some d) H'

def RB (G : Gm) (c : Ct) {α : Type} (r : R α) (k : α → Prop) : Prop := match r with
  | .ok a => k a
  | .exn cl ns vs => XW G c cl ns vs
  | .bad => False
section
variable {G : Gm} {c : Ct} {α β : Type}
theorem RB.mono {r : R α} {k k' : α → Prop} (h : RB G c r k) (i : ∀ a, k a → k' a) : RB G c r k' := by
  cases r with
  | ok a => exact i a h
  | exn => exact h
  | bad => exact h
theorem RB_bind {r : R α} {f : α → R β} {k : β → Prop} : RB G c (r.bind f) k = RB G c r (fun a => RB G c (f a) k) := by cases r <;> rfl
end

/-- how an expression's value lies: shared, new and nobody's, or as the slot's -/
inductive Rs where
  | sh (w : W) | fr (w : W) | nm (i : Nat)

def RV (G : Gm) (c : Ct) (σ : L2.St) (e : En) (H B : Hp) (v : V) : Rs → Prop
  | .sh w => Is G B w v
  | .fr w => ∃ a, v = .ref a ∧ B a = none ∧ c.H0 a = none ∧ (∀ (i : Nat) (b : Bool) (w' : W), e[i]? = some (Sl.ow b w') → σ[i]? ≠ some (some (V.ref a))) ∧ Own G B H a w
  | .nm i => σ[i]? = some (some v)

/-- the reading of an expression -/
def tW (G : Gm) (c : Ct) (m : En → R (Rs × En)) : TE := fun σ H Q => ∃ e B, Rel G c σ e H B ∧
  RB G c (m e) fun r => ∀ v H' B', Rel G c σ r.2 H' B' → Sub B B' → RV G c σ r.2 H' B' v r.1 → Q v H'
/-- .. of a test -/
def tWT (G : Gm) (c : Ct) (m : En → R (Bool × En)) : TT := fun σ H Q => ∃ e B, Rel G c σ e H B ∧
  RB G c (m e) fun r => ∀ H' B', Rel G c σ r.2 H' B' → Sub B B' → Q r.1 H'
/-- .. of arguments, all of them shared -/
def tWA (G : Gm) (c : Ct) (m : En → R (List W × En)) : TA := fun σ H Q => ∃ e B, Rel G c σ e H B ∧
  RB G c (m e) fun r => ∀ vs H' B', Rel G c σ r.2 H' B' → Sub B B' → Iss G B' r.1 vs → Q vs H'
inductive Fl where
  | nx | rt (r : Rs) | bk | ct
def FlP (G : Gm) (c : Ct) (D : Ends) (B : Hp) (e : En) : Fl → Prop
  | .nx => ∀ σ H' B', Rel G c σ e H' B' → Sub B B' → D.nx σ H'
  | .rt r => ∀ v σ H' B', Rel G c σ e H' B' → Sub B B' → RV G c σ e H' B' v r → D.rt v H'
  | .bk => ∀ σ H' B', Rel G c σ e H' B' → Sub B B' → D.bk σ H'
  | .ct => ∀ σ H' B', Rel G c σ e H' B' → Sub B B' → D.ct σ H'
/-- .. of a statement -/
def tWS (G : Gm) (c : Ct) (m : En → R (Fl × En)) : TS := fun D σ H => ∃ e B, Rel G c σ e H B ∧ RB G c (m e) fun r => FlP G c D B r.2 r.1
/-- .. of a target, shared data in hand -/
def gW (G : Gm) (c : Ct) (t : W → En → R En) : TG := fun v σ H Q => ∃ e B w, Rel G c σ e H B ∧ Is G B w v ∧ RB G c (t w e) fun e' => ∀ σ' H' B', Rel G c σ' e' H' B' → Sub B B' → Q σ' H'
def gWs (G : Gm) (c : Ct) (t : List W → En → R En) : TGs := fun vs σ H Q => ∃ e B ws, Rel G c σ e H B ∧ Iss G B ws vs ∧ RB G c (t ws e) fun e' => ∀ σ' H' B', Rel G c σ' e' H' B' → Sub B B' → Q σ' H'
end WL
end F_WLA

section F_WLB
/-! WLB: Rel through the steps: a new object, a store, a slot. -/
namespace WL
open PySem PySem.Spec PyProof.Rows L2

section
variable {G : Gm} {c : Ct} {σ : L2.St} {e : En} {H B : Hp} {p : Addr} {o : HO} {i : Nat} {v : V} {w : W} {r : Rs}

theorem Rel.h0 (R : Rel G c σ e H B) (h : H p = none) : c.H0 p = none := by
  cases q : c.H0 p with
  | none => rfl
  | some u => obtain ⟨z, hz⟩ := R.dom q; rw [h] at hz; cases hz
theorem Rel.oH (R : Rel G c σ e H B) {b : Bool} {a : Addr} (h : e[i]? = some (.ow b w)) (hs : σ[i]? = some (some (.ref a))) : B a = none ∧ (b = true → c.O a) ∧ (b = false → c.H0 a = none) ∧ Own G B H a w := by
  obtain ⟨a', h1, h2⟩ := R.ow h
  rw [hs] at h1; cases h1
  exact h2
/-- a new object, shared -/
theorem Rel.newB (R : Rel G c σ e H B) (h : H p = none) : Rel G c σ e (upd H p o) (upd B p o) := by
  have hB := R.sub.non h
  refine ⟨R.len, fun hi => ?_, fun hi => ?_, R.dj, R.sub.upd, R.old.trans (Sub.new hB), fun {a u} e1 => ?_, fun {a u} e1 hO => ?_, fun {a u} e1 => ?_⟩
  · obtain ⟨v, h1, h2⟩ := R.sh hi
    exact ⟨v, h1, h2.mono (Sub.new hB)⟩
  · obtain ⟨a, h1, h2, h3, h4, h5⟩ := R.ow hi
    obtain ⟨u, hu⟩ := h5.some
    have ne : a ≠ p := fun z => by rw [z, h] at hu; cases hu
    exact ⟨a, h1, by rw [upd_ne ne]; exact h2, h3, h4, h5.to (Sub.new hB) fun o q => by rw [upd_ne ne]; exact q⟩
  · by_cases q : a = p
    · exact .inr (by rw [q]; exact R.h0 h)
    · rw [upd_ne q] at e1; exact R.new e1
  · have := R.keep e1 hO
    rw [upd_ne (ne_of_none this h)]; exact this
  · by_cases q : a = p
    · exact ⟨o, by rw [q]; exact upd_same⟩
    · rw [upd_ne q]; exact R.dom e1
/-- a new object, nobody's -/
theorem Rel.newO (R : Rel G c σ e H B) (h : H p = none) : Rel G c σ e (upd H p o) B := by
  have hB := R.sub.non h
  refine ⟨R.len, R.sh, fun hi => ?_, R.dj, R.sub.put hB, R.old, R.new, fun {a u} e1 hO => ?_, fun {a u} e1 => ?_⟩
  · obtain ⟨a, h1, h2, h3, h4, h5⟩ := R.ow hi
    obtain ⟨u, hu⟩ := h5.some
    have ne : a ≠ p := fun z => by rw [z, h] at hu; cases hu
    exact ⟨a, h1, h2, h3, h4, h5.to (Sub.refl B) fun o q => by rw [upd_ne ne]; exact q⟩
  · have := R.keep e1 hO
    rw [upd_ne (ne_of_none this h)]; exact this
  · by_cases q : a = p
    · exact ⟨o, by rw [q]; exact upd_same⟩
    · rw [upd_ne q]; exact R.dom e1
theorem Rel.nobody (R : Rel G c σ e H B) (h : H p = none) : ∀ (i : Nat) (b : Bool) (w' : W), e[i]? = some (Sl.ow b w') → σ[i]? ≠ some (some (V.ref p)) := fun i b w' hi hs => by
  obtain ⟨_, _, _, h5⟩ := R.oH hi hs
  obtain ⟨u, hu⟩ := h5.some
  rw [h] at hu; cases hu
theorem Rel.fresh (R : Rel G c σ e H B) (h : H p = none) (ho : Own G B (upd H p o) p w) : RV G c σ e (upd H p o) B (.ref p) (.fr w) :=
  ⟨p, rfl, R.sub.non h, R.h0 h, R.nobody h, ho⟩
/-- what is new is shared from here on -/
theorem Rel.give (R : Rel G c σ e H B) (h : RV G c σ e H B v (.fr w)) : ∃ B', Rel G c σ e H B' ∧ Sub B B' ∧ Is G B' w v := by
  obtain ⟨a, rfl, hB, h0, hn, ho⟩ := h
  obtain ⟨u, hu⟩ := ho.some
  refine ⟨upd B a u, ⟨R.len, fun hi => ?_, fun {i b w} hi => ?_, R.dj, fun x y q => ?_, R.old.trans (Sub.new hB), fun {x y} e1 => ?_, R.keep, R.dom⟩, Sub.new hB, ?_⟩
  · obtain ⟨v, h1, h2⟩ := R.sh hi
    exact ⟨v, h1, h2.mono (Sub.new hB)⟩
  · obtain ⟨a', h1, h2, h3, h4, h5⟩ := R.ow hi
    have ne : a' ≠ a := fun z => hn i b w hi (by rw [h1, z])
    exact ⟨a', h1, by rw [upd_ne ne]; exact h2, h3, h4, h5.to (Sub.new hB) fun _ q => q⟩
  · by_cases z : x = a
    · subst z; rw [upd_same] at q; cases q; exact hu
    · rw [upd_ne z] at q; exact R.sub x y q
  · by_cases z : x = a
    · exact .inr (by rw [z]; exact h0)
    · rw [upd_ne z] at e1; exact R.new e1
  · exact Own.is (ho.to (Sub.new hB) fun o q => by rw [upd_same]; exact hu.symm.trans q)
/-- a slot's own data is shared from here on -/
theorem Rel.freeze (R : Rel G c σ e H B) (hi : e[i]? = some (.ow false w)) (hs : σ[i]? = some (some v)) : ∃ B', Rel G c σ (e.set i (.sh w)) H B' ∧ Sub B B' ∧ Is G B' w v := by
  obtain ⟨a, h1, hB, _, h0, ho⟩ := R.ow hi
  rw [hs] at h1; cases h1
  have h0 := h0 rfl
  obtain ⟨u, hu⟩ := ho.some
  have his : Is G (upd B a u) w (.ref a) := Own.is (ho.to (Sub.new hB) fun o q => by rw [upd_same]; exact hu.symm.trans q)
  have hil : i < e.length := (List.getElem?_eq_some_iff.mp hi).1
  refine ⟨upd B a u, ⟨by simpa using R.len, fun {j w'} hj => ?_, fun {j b w'} hj => ?_, fun {j k b b' w' w'' x} ne hj hk => ?_, fun x y q => ?_, R.old.trans (Sub.new hB), fun {x y} e1 => ?_, R.keep, R.dom⟩, Sub.new hB, his⟩
  · by_cases z : j = i
    · subst z
      rw [List.getElem?_set_self hil] at hj; cases hj
      exact ⟨_, hs, his⟩
    · rw [List.getElem?_set_ne (Ne.symm z)] at hj
      obtain ⟨v, h1, h2⟩ := R.sh hj
      exact ⟨v, h1, h2.mono (Sub.new hB)⟩
  · by_cases z : j = i
    · subst z
      rw [List.getElem?_set_self hil] at hj; cases hj
    · rw [List.getElem?_set_ne (Ne.symm z)] at hj
      obtain ⟨a', h1, h2, h3, h4, h5⟩ := R.ow hj
      have ne : a' ≠ a := fun q => R.dj z hj hi (q ▸ h1) hs
      exact ⟨a', h1, by rw [upd_ne ne]; exact h2, h3, h4, h5.to (Sub.new hB) fun _ q => q⟩
  · by_cases z : j = i
    · subst z; rw [List.getElem?_set_self hil] at hj; cases hj
    · by_cases z' : k = i
      · subst z'; rw [List.getElem?_set_self hil] at hk; cases hk
      · rw [List.getElem?_set_ne (Ne.symm z)] at hj
        rw [List.getElem?_set_ne (Ne.symm z')] at hk
        exact R.dj ne hj hk
  · by_cases z : x = a
    · subst z; rw [upd_same] at q; cases q; exact hu
    · rw [upd_ne z] at q; exact R.sub x y q
  · by_cases z : x = a
    · exact .inr (by rw [z]; exact h0)
    · rw [upd_ne z] at e1; exact R.new e1
/-- a slot is stored: shared data -/
theorem Rel.setSh (R : Rel G c σ e H B) (i : Nat) (h : Is G B w v) : Rel G c (σ.set i (some v)) (e.set i (.sh w)) H B := by
  refine ⟨by simpa using R.len, fun {j w'} hj => ?_, fun {j b w'} hj => ?_, fun {j k b b' w' w'' x} ne hj hk h1 h2 => ?_, R.sub, R.old, R.new, R.keep, R.dom⟩
  · by_cases z : i = j
    · subst z
      have hil := (List.getElem?_eq_some_iff.mp hj).1
      rw [List.length_set] at hil
      rw [List.getElem?_set_self hil] at hj; cases hj
      exact ⟨v, List.getElem?_set_self (by rw [R.len]; exact hil), h⟩
    · rw [List.getElem?_set_ne z] at hj ⊢
      exact R.sh hj
  · by_cases z : i = j
    · subst z
      have hil := (List.getElem?_eq_some_iff.mp hj).1
      rw [List.length_set] at hil
      rw [List.getElem?_set_self hil] at hj; cases hj
    · rw [List.getElem?_set_ne z] at hj ⊢
      exact R.ow hj
  · have nj : ∀ {j : Nat} {b : Bool} {w' : W}, (e.set i (Sl.sh w))[j]? = some (.ow b w') → i ≠ j := fun {j b w'} hj z => by
      subst z
      have hil := (List.getElem?_eq_some_iff.mp hj).1
      rw [List.length_set] at hil
      rw [List.getElem?_set_self hil] at hj; cases hj
    have z1 := nj hj
    have z2 := nj hk
    rw [List.getElem?_set_ne z1] at hj h1
    rw [List.getElem?_set_ne z2] at hk h2
    exact R.dj ne hj hk h1 h2
/-- .. new data, this def's own -/
theorem Rel.setOw (R : Rel G c σ e H B) (i : Nat) (h : RV G c σ e H B v (.fr w)) : Rel G c (σ.set i (some v)) (e.set i (.ow false w)) H B := by
  obtain ⟨a, rfl, hB, h0, hn, ho⟩ := h
  have look : ∀ {j : Nat} {b : Bool} {w' : W}, (e.set i (Sl.ow false w))[j]? = some (.ow b w') → (i = j ∧ b = false ∧ w' = w ∧ i < e.length) ∨ (i ≠ j ∧ e[j]? = some (.ow b w')) := fun {j b w'} hj => by
    by_cases z : i = j
    · subst z
      have hil := (List.getElem?_eq_some_iff.mp hj).1
      rw [List.length_set] at hil
      rw [List.getElem?_set_self hil] at hj; cases hj
      exact .inl ⟨rfl, rfl, rfl, hil⟩
    · rw [List.getElem?_set_ne z] at hj
      exact .inr ⟨z, hj⟩
  refine ⟨by simpa using R.len, fun {j w'} hj => ?_, fun {j b w'} hj => ?_, fun {j k b b' w' w'' x} ne hj hk h1 h2 => ?_, R.sub, R.old, R.new, R.keep, R.dom⟩
  · by_cases z : i = j
    · subst z
      have hil := (List.getElem?_eq_some_iff.mp hj).1
      rw [List.length_set] at hil
      rw [List.getElem?_set_self hil] at hj; cases hj
    · rw [List.getElem?_set_ne z] at hj ⊢
      exact R.sh hj
  · rcases look hj with ⟨rfl, rfl, rfl, hil⟩ | ⟨z, hj⟩
    · exact ⟨a, List.getElem?_set_self (by rw [R.len]; exact hil), hB, (fun q => nomatch q), fun _ => h0, ho⟩
    · rw [List.getElem?_set_ne z]
      exact R.ow hj
  · rcases look hj with ⟨rfl, rfl, rfl, hil⟩ | ⟨z, hj2⟩
    · rcases look hk with ⟨z2, _⟩ | ⟨z, hk2⟩
      · exact ne z2
      · rw [List.getElem?_set_self (by rw [R.len]; exact hil)] at h1
        rw [List.getElem?_set_ne z] at h2
        exact hn _ _ _ hk2 (h2.trans h1.symm)
    · rw [List.getElem?_set_ne z] at h1
      rcases look hk with ⟨rfl, rfl, rfl, hil⟩ | ⟨z2, hk2⟩
      · rw [List.getElem?_set_self (by rw [R.len]; exact hil)] at h2
        exact hn _ _ _ hj2 (h1.trans h2.symm)
      · rw [List.getElem?_set_ne z2] at h2
        exact R.dj ne hj2 hk2 h1 h2
/-- a slot's own object is changed -/
theorem Rel.mut (R : Rel G c σ e H B) {b : Bool} {a : Addr} {w' : W} (hi : e[i]? = some (.ow b w)) (hs : σ[i]? = some (some (.ref a))) (ho : Own G B (upd H a o) a w') : Rel G c σ (e.set i (.ow b w')) (upd H a o) B := by
  obtain ⟨hB, hb1, hb0, _⟩ := R.oH hi hs
  have hil : i < e.length := (List.getElem?_eq_some_iff.mp hi).1
  refine ⟨by simpa using R.len, fun {j w''} hj => ?_, fun {j b' w''} hj => ?_, fun {j k b' b'' w' w'' x} ne hj hk h1 h2 => ?_, R.sub.put hB, R.old, R.new, fun {x y} e1 hO => ?_, fun {x y} e1 => ?_⟩
  · by_cases z : i = j
    · subst z; rw [List.getElem?_set_self hil] at hj; cases hj
    · rw [List.getElem?_set_ne z] at hj; exact R.sh hj
  · by_cases z : i = j
    · subst z
      rw [List.getElem?_set_self hil] at hj; cases hj
      exact ⟨a, hs, hB, hb1, hb0, ho⟩
    · rw [List.getElem?_set_ne z] at hj
      obtain ⟨a', h1, h2, h3, h4, h5⟩ := R.ow hj
      have ne : a' ≠ a := fun q => R.dj z hi hj hs (q ▸ h1)
      exact ⟨a', h1, h2, h3, h4, h5.to (Sub.refl B) fun o q => by rw [upd_ne ne]; exact q⟩
  · have back : ∀ {j : Nat} {y : Sl} {b' : Bool} {w'' : W}, (e.set i y)[j]? = some (.ow b' w'') → ∃ b3 w3, e[j]? = some (.ow b3 w3) := fun {j y b' w''} hj => by
      by_cases z : i = j
      · subst z; exact ⟨_, _, hi⟩
      · rw [List.getElem?_set_ne z] at hj; exact ⟨_, _, hj⟩
    obtain ⟨_, _, hj2⟩ := back hj
    obtain ⟨_, _, hk2⟩ := back hk
    exact R.dj ne hj2 hk2 h1 h2
  · have ne : x ≠ a := fun z => by
      subst z
      cases b with
      | true => exact hO (hb1 rfl)
      | false => rw [hb0 rfl] at e1; cases e1
    rw [upd_ne ne]; exact R.keep e1 hO
  · by_cases z : x = a
    · exact ⟨o, by rw [z]; exact upd_same⟩
    · rw [upd_ne z]; exact R.dom e1

/-- read by the top in H, the parts in B -/
def Isb (G : Gm) (H B : Hp) : W → V → Prop
  | .non, v => v = .non
  | .bl b, v => v = .bl b
  | .int i, v => v = .int i
  | .str s, v => v = .str s
  | .tup ws, v => ∃ a xs, v = .ref a ∧ SqT G.K B a xs ∧ Iss G B ws xs
  | .lst ws, v => ∃ a, v = .ref a ∧ Own G B H a (.lst ws)
  | .dic ks vs, v => ∃ a, v = .ref a ∧ Own G B H a (.dic ks vs)
  | .tdc ks vs, v => ∃ a, v = .ref a ∧ Own G B H a (.tdc ks vs)
  | .obj c ns vs, v => ∃ a, v = .ref a ∧ Own G B H a (.obj c ns vs)
  | .scr ns, v => ∃ a, v = .ref a ∧ SqL G.K H a (ns.map V.int)
  | .cl c, v => ∃ C, v = .ref C ∧ G.cls c = some C
theorem Is.b {G : Gm} (s : Sub B H) : ∀ {w : W} {v : V}, Is G B w v → Isb G H B w v
  | .non, _, h => h
  | .bl _, _, h => h
  | .int _, _, h => h
  | .str _, _, h => h
  | .tup ws, _, ⟨a, xs, h1, h2, h3⟩ => ⟨a, xs, h1, h2, h3⟩
  | .lst ws, _, ⟨a, xs, h1, h2, h3⟩ => ⟨a, h1, xs, s _ _ h2, h3⟩
  | .dic ks vs, _, ⟨a, h1, kvs, h2, h3, h4⟩ => ⟨a, h1, kvs, s _ _ h2, h3, h4⟩
  | .tdc ks vs, _, ⟨a, h1, kvs, h2, h3, h5, h4⟩ => ⟨a, h1, kvs, s _ _ h2, h3, h5, h4⟩
  | .obj c ns vs, _, ⟨a, C, dx, fs, h1, h2, h3, h4, h5⟩ => ⟨a, h1, C, dx, fs, h2, s _ _ h3, h4, h5⟩
  | .scr ns, _, ⟨a, h1, h2⟩ => ⟨a, h1, sub_sql s h2⟩
  | .cl _, _, h => h
theorem Own.b {G : Gm} {a : Addr} : ∀ {w : W}, Own G B H a w → Isb G H B w (.ref a)
  | .lst ws, h => ⟨a, rfl, h⟩
  | .dic ks vs, h => ⟨a, rfl, h⟩
  | .tdc ks vs, h => ⟨a, rfl, h⟩
  | .obj c ns vs, h => ⟨a, rfl, h⟩
  | .non, h => h.elim
  | .bl _, h => h.elim
  | .int _, h => h.elim
  | .str _, h => h.elim
  | .tup _, h => h.elim
  | .scr _, h => h.elim
  | .cl _, h => h.elim
theorem Isb.is {G : Gm} (s : Sub B H) : ∀ {w : W} {v : V}, Isb G H B w v → Is G H w v
  | .non, _, h => h
  | .bl _, _, h => h
  | .int _, _, h => h
  | .str _, _, h => h
  | .tup ws, _, ⟨a, xs, h1, h2, h3⟩ => ⟨a, xs, h1, sub_sqt s h2, h3.mono s⟩
  | .lst ws, _, ⟨a, h1, h2⟩ => h1 ▸ (h2.to s fun _ q => q).is
  | .dic ks vs, _, ⟨a, h1, h2⟩ => h1 ▸ (h2.to s fun _ q => q).is
  | .tdc ks vs, _, ⟨a, h1, h2⟩ => h1 ▸ (h2.to s fun _ q => q).is
  | .obj c ns vs, _, ⟨a, h1, h2⟩ => h1 ▸ (h2.to s fun _ q => q).is
  | .scr ns, _, ⟨a, h1, h2⟩ => ⟨a, h1, h2⟩
  | .cl _, _, h => h

/-- the frame of reference speaks of this very text -/
structure Ties (X : Cx) (G : Gm) : Prop where
  K : G.K = X.K
  P : G.P = X.prog
  w : G.w = X.w
/-- the tree behind a result, as things stand -/
def rd (r : Rs) (e : En) : R W := match r with
  | .sh w => .ok w
  | .fr w => .ok w
  | .nm i => match e[i]? with
    | some (.sh w) => .ok w
    | some (.ow _ w) => .ok w
    | _ => .bad
/-- the tree behind a result, to be kept -/
def shr (r : Rs) (e : En) : R (W × En) := match r with
  | .sh w => .ok (w, e)
  | .fr w => .ok (w, e)
  | .nm i => match e[i]? with
    | some (.sh w) => .ok (w, e)
    | some (.ow false w) => .ok (w, e.set i (.sh w))
    | _ => .bad
theorem rd_is (R : Rel G c σ e H B) (h : RV G c σ e H B v r) (k : rd r e = .ok w) : Isb G H B w v := by
  cases r with
  | sh w' => cases k; exact Is.b R.sub h
  | fr w' =>
    cases k
    obtain ⟨a, rfl, _, _, _, ho⟩ := h
    exact ho.b
  | nm i =>
    have h : σ[i]? = some (some v) := h
    unfold rd at k
    cases q : e[i]? with
    | none => simp [q] at k
    | some s =>
      cases s with
      | un => simp [q] at k
      | sh w' =>
        simp only [q, WL.R.ok.injEq] at k
        subst k
        obtain ⟨v', h1, h2⟩ := R.sh q
        rw [h] at h1; cases h1
        exact Is.b R.sub h2
      | ow b w' =>
        simp only [q, WL.R.ok.injEq] at k
        subst k
        obtain ⟨a, h1, _, _, _, ho⟩ := R.ow q
        rw [h] at h1; cases h1
        exact ho.b
theorem shr_is {e' : En} (R : Rel G c σ e H B) (h : RV G c σ e H B v r) (k : shr r e = .ok (w, e')) : ∃ B', Rel G c σ e' H B' ∧ Sub B B' ∧ Is G B' w v := by
  cases r with
  | sh w' => cases k; exact ⟨B, R, Sub.refl B, h⟩
  | fr w' => cases k; exact R.give h
  | nm i =>
    have h : σ[i]? = some (some v) := h
    unfold shr at k
    cases q : e[i]? with
    | none => simp [q] at k
    | some s =>
      cases s with
      | un => simp [q] at k
      | sh w' =>
        simp only [q, WL.R.ok.injEq, Prod.mk.injEq] at k
        obtain ⟨rfl, rfl⟩ := k
        obtain ⟨v', h1, h2⟩ := R.sh q
        rw [h] at h1; cases h1
        exact ⟨B, R, Sub.refl B, h2⟩
      | ow b w' =>
        cases b with
        | true => simp [q] at k
        | false =>
          simp only [q, WL.R.ok.injEq, Prod.mk.injEq] at k
          obtain ⟨rfl, rfl⟩ := k
          exact R.freeze q h
/-- a result that is put aside while more is reckoned: new data becomes shared -/
def Rs.sv : Rs → Rs
  | .fr w => .sh w
  | r => r
theorem sv_is (R : Rel G c σ e H B) (h : RV G c σ e H B v r) : ∃ B', Rel G c σ e H B' ∧ Sub B B' ∧ RV G c σ e H B' v r.sv := by
  cases r with
  | sh w => exact ⟨B, R, Sub.refl B, h⟩
  | fr w => exact R.give h
  | nm i => exact ⟨B, R, Sub.refl B, h⟩
theorem sv_later {e' : En} {H' B' : Hp} (s : Sub B B') (h : RV G c σ e H B v r.sv) : RV G c σ e' H' B' v r.sv := by
  cases r with
  | sh w => exact Is.mono s (show Is G B w v from h)
  | fr w => exact Is.mono s (show Is G B w v from h)
  | nm i => exact h
end
end WL
end F_WLB

section F_WLC
/-! WLC: expressions: names, constants, operators, comparisons, displays, subscripts, tests. -/
namespace WL
open PySem PySem.Spec PyProof.Rows L2

abbrev Mx := En → R (Rs × En)
abbrev Mt := En → R (Bool × En)
abbrev Ma := En → R (List W × En)
abbrev Ms := En → R (Fl × En)
abbrev WE (X : Cx) (G : Gm) (c : Ct) (e : Expr) (m : Mx) : Prop := PE X e (tW G c m)
abbrev WT (X : Cx) (G : Gm) (c : Ct) (e : Expr) (m : Mt) : Prop := PT X e (tWT G c m)
abbrev WA (X : Cx) (G : Gm) (c : Ct) (es : List Expr) (m : Ma) : Prop := PA X es (tWA G c m)
abbrev WS (X : Cx) (G : Gm) (c : Ct) (s : Stmt) (m : Ms) : Prop := PS X s (tWS G c m)
abbrev WSs (X : Cx) (G : Gm) (c : Ct) (s : List Stmt) (m : Ms) : Prop := PSs X s (tWS G c m)

def mName (i : Nat) : Mx := fun e => match e[i]? with
  | some (.sh _) => .ok (.nm i, e)
  | some (.ow _ _) => .ok (.nm i, e)
  | _ => .bad
def mC (w : W) : Mx := fun e => .ok (.sh w, e)
/-- two operands, from the left -/
def m2 (a b : Mx) : En → R (W × W × En) := fun e => (a e).bind fun p => (b p.2).bind fun q => (rd p.1.sv q.2).bind fun w1 => (rd q.1 q.2).bind fun w2 => .ok (w1, w2, q.2)
def mBin (f : W → W → R Rs) (a b : Mx) : Mx := fun e => (m2 a b e).bind fun t => (f t.1 t.2.1).bind fun r => .ok (r, t.2.2)
def m1 (a : Mx) : En → R (W × En) := fun e => (a e).bind fun p => (rd p.1 p.2).bind fun w => .ok (w, p.2)
def mUn (f : W → R Rs) (a : Mx) : Mx := fun e => (m1 a e).bind fun t => (f t.1).bind fun r => .ok (r, t.2)
/-- .. to be kept -/
def mSh (a : Mx) : En → R (W × En) := fun e => (a e).bind fun p => shr p.1 p.2

section
variable {X : Cx} {G : Gm} {c : Ct} {pos : Pos} {a b : Expr} {ma mb : Mx} {σ : L2.St} {e : En} {H B : Hp} {i : Nat}

theorem we_name (i : Nat) {x : Str} (hN : X.N[i]? = some x := by rfl) (hv : Vis X.env.scope x := by first | exact Or.inl rfl | exact Or.inr (Or.inl rfl) | exact Or.inr (Or.inr rfl))
    (hd : (x == ("__debug__" : Str)) = false := by decide) (hcd : (x == ("__classdict__" : Str)) = false := by decide) : WE X G c (.Name x pos) (mName i) := by
  refine ⟨fun pins s σ H Q I h => (pe_var hN hv hd hcd).run pins s σ H Q I ?_⟩
  obtain ⟨e, B, R, h⟩ := h
  unfold mName at h
  cases q : e[i]? with
  | none => simp only [q] at h; exact h.elim
  | some sl =>
    cases sl with
    | un => simp only [q] at h; exact h.elim
    | sh w =>
      simp only [q] at h
      obtain ⟨v, h1, h2⟩ := R.sh q
      exact ⟨v, h1, h v H B R (Sub.refl B) h1⟩
    | ow io w =>
      simp only [q] at h
      obtain ⟨a, h1, _⟩ := R.ow q
      exact ⟨_, h1, h _ H B R (Sub.refl B) h1⟩
theorem tW_C {w : W} {v : V} {Q : VK} (hi : ∀ B, Is G B w v) (h : tW G c (mC w) σ H Q) : Q v H := by
  obtain ⟨e, B, R, h⟩ := h
  exact h v H B R (Sub.refl B) (hi B)
theorem we_int {i : Int} {j} : WE X G c (.Constant (.int i) j pos) (mC (.int i)) := ⟨fun pins s σ H Q I h => pe_int.run pins s σ H Q I (tW_C (w := .int i) (fun _ => rfl) h)⟩
theorem we_str {x : Str} {j} : WE X G c (.Constant (.str x) j pos) (mC (.str x)) := ⟨fun pins s σ H Q I h => pe_str.run pins s σ H Q I (tW_C (w := .str x) (fun _ => rfl) h)⟩
theorem we_bl {k : Bool} {j} : WE X G c (.Constant (.bool k) j pos) (mC (.bl k)) := ⟨fun pins s σ H Q I h => pe_bl.run pins s σ H Q I (tW_C (w := .bl k) (fun _ => rfl) h)⟩
theorem we_non {j} : WE X G c (.Constant .none j pos) (mC .non) := ⟨fun pins s σ H Q I h => pe_non.run pins s σ H Q I (tW_C (w := .non) (fun _ => rfl) h)⟩
theorem we_glob {x : Str} {v : V} {u : Value} {w : W} (hg : Gl X x) (hm : X.mg x = some u) (r : RelV v u) (hi : ∀ B, Is G B w v) (hd : (x == ("__debug__" : Str)) = false := by decide) : WE X G c (.Name x pos) (mC w) :=
  ⟨fun pins s σ H Q I h => (pe_glob hg hm r hd).run pins s σ H Q I (tW_C hi h)⟩

/-- running an expression: its results as they lie -/
theorem tW_run {m : Mx} {K : V → Hp → Prop} (R : Rel G c σ e H B) (h : RB G c (m e) fun r => ∀ v H' B', Rel G c σ r.2 H' B' → Sub B B' → RV G c σ r.2 H' B' v r.1 → K v H') : tW G c m σ H K := ⟨e, B, R, h⟩
theorem tW1 {K : V → Hp → Prop} (R : Rel G c σ e H B) (h : RB G c (m1 ma e) fun t => ∀ x H1 B1, Rel G c σ t.2 H1 B1 → Sub B B1 → Isb G H1 B1 t.1 x → K x H1) : tW G c ma σ H K := by
  refine ⟨e, B, R, ?_⟩
  rw [m1, RB_bind] at h
  refine h.mono fun p h => fun v H' B' R' s rv => ?_
  rw [RB_bind] at h
  cases q : rd p.1 p.2 with
  | ok w => rw [q] at h; exact h v H' B' R' s (rd_is R' rv q)
  | exn => rw [q] at h; revert q; unfold rd; split <;> (try split) <;> intro q <;> cases q
  | bad => rw [q] at h; exact h.elim
theorem rd_ne {r : Rs} {e : En} {x : Str} {ns : List Str} {ws : List W} (h : rd r e = .exn x ns ws) : False := by
  revert h; unfold rd; split <;> (try split) <;> intro q <;> cases q
theorem shr_ne {r : Rs} {e : En} {x : Str} {ns : List Str} {ws : List W} (h : shr r e = .exn x ns ws) : False := by
  revert h; unfold shr; split <;> (try split) <;> intro q <;> cases q
theorem tW2 {K : V → V → Hp → Prop} (R : Rel G c σ e H B)
    (h : RB G c (m2 ma mb e) fun t => ∀ x y H2 B2, Rel G c σ t.2.2 H2 B2 → Sub B B2 → Isb G H2 B2 t.1 x → Isb G H2 B2 t.2.1 y → K x y H2) : tW G c ma σ H fun x H1 => tW G c mb σ H1 fun y H2 => K x y H2 := by
  refine ⟨e, B, R, ?_⟩
  rw [m2, RB_bind] at h
  refine h.mono fun p h => fun x H1 B1 R1 s1 rx => ?_
  obtain ⟨B1', R1', s1', rx'⟩ := sv_is R1 rx
  refine ⟨p.2, B1', R1', ?_⟩
  rw [RB_bind] at h
  refine h.mono fun q h => fun y H2 B2 R2 s2 ry => ?_
  rw [RB_bind] at h
  have rx2 : RV G c σ q.2 H2 B2 x p.1.sv := sv_later s2 rx'
  cases z : rd p.1.sv q.2 with
  | exn => exact (rd_ne z).elim
  | bad => rw [z] at h; exact h.elim
  | ok w1 =>
    rw [z] at h
    simp only [RB, WL.R.bind] at h
    cases z2 : rd q.1 q.2 with
    | exn => exact (rd_ne z2).elim
    | bad => rw [z2] at h; exact h.elim
    | ok w2 =>
      rw [z2] at h
      exact h x y H2 B2 R2 ((s1.trans s1').trans s2) (rd_is R2 rx2 z) (rd_is R2 ry z2)
/-- what is to be shown of a result -/
abbrev Po (G : Gm) (c : Ct) (σ : L2.St) (e : En) (B : Hp) (Q : VK) (r : Rs) : Prop := ∀ z H' B', Rel G c σ e H' B' → Sub B B' → RV G c σ e H' B' z r → Q z H'
theorem Po.sh {Q : VK} {w : W} {z : V} (p : Po G c σ e B Q (.sh w)) (R : Rel G c σ e H B) (h : Is G B w z) : Q z H := p z H B R (Sub.refl B) h
theorem Po.fr {Q : VK} {w : W} (p : Po G c σ e B Q (.fr w)) (R : Rel G c σ e H B) {q : Addr} {o : HO} (hq : H q = none) (h : Own G B (upd H q o) q w) : Q (.ref q) (upd H q o) := p _ _ B (R.newO hq) (Sub.refl B) (R.fresh hq h)
/-- a new tuple -/
theorem Po.tup {Q : VK} {ws : List W} {xs : List V} (p : Po G c σ e B Q (.sh (.tup ws))) (R : Rel G c σ e H B) {q : Addr} (hq : H q = none) (h : Iss G B ws xs) : Q (.ref q) (upd H q (.tup xs)) :=
  p _ _ _ (R.newB hq) (Sub.new (R.sub.non hq)) ⟨q, xs, rfl, .inl (.inl upd_same), h.mono (Sub.new (R.sub.non hq))⟩
theorem Po.lst {Q : VK} {ws : List W} {xs : List V} (p : Po G c σ e B Q (.fr (.lst ws))) (R : Rel G c σ e H B) {q : Addr} (hq : H q = none) (h : Iss G B ws xs) : Q (.ref q) (upd H q (.lst xs)) :=
  p.fr R hq ⟨xs, upd_same, h⟩

/-- a rule for an operator that is told by trees: for every two trees one of the rules by values -/
def OpW (X : Cx) (G : Gm) (c : Ct) (op : Value → Value → Sem Value) (f : W → W → R Rs) : Prop :=
  ∀ w1 w2, ∃ r : R2, OpR X op r ∧ ∀ (σ : L2.St) (e : En) (H B : Hp) (x y : V) (Q : VK), Rel G c σ e H B → Isb G H B w1 x → Isb G H B w2 y → RB G c (f w1 w2) (Po G c σ e B Q) → r x y H Q
theorem op_two {r : W → W → R2} {f : W → W → R Rs} {K : W → W → V → V → Hp → Prop} (R : Rel G c σ e H B) {Q : VK} (h : RB G c (mBin f ma mb e) fun r => Po G c σ r.2 B Q r.1)
    (hr : ∀ w1 w2 x y e2 H2 B2, m2 ma mb e = .ok (w1, w2, e2) → Rel G c σ e2 H2 B2 → Sub B B2 → Isb G H2 B2 w1 x → Isb G H2 B2 w2 y → RB G c (f w1 w2) (Po G c σ e2 B2 Q) → K w1 w2 x y H2) :
    RB G c (m2 ma mb e) fun t => ∀ x y H2 B2, Rel G c σ t.2.2 H2 B2 → Sub B B2 → Isb G H2 B2 t.1 x → Isb G H2 B2 t.2.1 y → K t.1 t.2.1 x y H2 := by
  rw [mBin, RB_bind] at h
  cases q : m2 ma mb e with
  | bad => rw [q] at h; exact h.elim
  | exn => rw [q] at h; exact h
  | ok t =>
    rw [q] at h
    intro x y H2 B2 R2 s i1 i2
    refine hr t.1 t.2.1 x y t.2.2 H2 B2 q R2 s i1 i2 ?_
    have h : RB G c ((f t.1 t.2.1).bind fun r => .ok (r, t.2.2)) fun r => Po G c σ r.2 B Q r.1 := h
    rw [RB_bind] at h
    exact RB.mono h fun r p z H' B' R' s' rv => p z H' B' R' (s.trans s') rv
theorem we_bin {op : Operator} {f : W → W → R Rs} (ho : OpW X G c (binaryOp op) f) (ha : WE X G c a ma) (hb : WE X G c b mb) : WE X G c (.BinOp a op b pos) (mBin f ma mb) := by
  refine ⟨fun pins s σ H Q I h => ?_⟩
  obtain ⟨e, B, R, h⟩ := h
  have h' := op_two (r := fun _ _ _ _ _ _ => True) (K := fun w1 w2 x y H2 => (ho w1 w2).choose x y H2 Q) R h fun w1 w2 x y e2 H2 B2 _ R2 s i1 i2 p => (ho w1 w2).choose_spec.2 σ e2 H2 B2 x y Q R2 i1 i2 p
  cases q : m2 ma mb e with
  | bad => rw [q] at h'; exact h'.elim
  | exn =>
    refine (pe_op (ho .non .non).choose_spec.1 ha hb).run pins s σ H Q I (tW2 R ?_)
    rw [q] at h' ⊢; exact h'
  | ok t =>
    refine (pe_op (ho t.1 t.2.1).choose_spec.1 ha hb).run pins s σ H Q I (tW2 R ?_)
    rw [q] at h' ⊢; exact h'
theorem we_cmp {op : CmpOp} {f : W → W → R Rs} (ho : OpW X G c (compareOp op) f) (ha : WE X G c a ma) (hb : WE X G c b mb) (hm : behindInMarks op b = false := by first | exact nomark _ | rfl) : WE X G c (.Compare a [op] [b] pos) (mBin f ma mb) := by
  refine ⟨fun pins s σ H Q I h => ?_⟩
  obtain ⟨e, B, R, h⟩ := h
  have h' := op_two (r := fun _ _ _ _ _ _ => True) (K := fun w1 w2 x y H2 => (ho w1 w2).choose x y H2 Q) R h fun w1 w2 x y e2 H2 B2 _ R2 s i1 i2 p => (ho w1 w2).choose_spec.2 σ e2 H2 B2 x y Q R2 i1 i2 p
  cases q : m2 ma mb e with
  | bad => rw [q] at h'; exact h'.elim
  | exn =>
    refine (pe_cmpR (ho .non .non).choose_spec.1 ha hb hm).run pins s σ H Q I (tW2 R ?_)
    rw [q] at h' ⊢; exact h'
  | ok t =>
    refine (pe_cmpR (ho t.1 t.2.1).choose_spec.1 ha hb hm).run pins s σ H Q I (tW2 R ?_)
    rw [q] at h' ⊢; exact h'
end
end WL
end F_WLC

section F_WLO
/-! WLO: the operators by trees. -/
namespace WL
open PySem PySem.Spec PyProof.Rows L2

abbrev line : Nat := 16777216
theorem line_le {n : Nat} (h : n ≤ line) : n ≤ sizeLine := by rw [sizeLine_eq]; exact h
theorem line_lt {n : Nat} (h : n < line) : n < sizeLine := by rw [sizeLine_eq]; exact h

/-- a result under a condition -/
def iff (p : Prop) [Decidable p] {α : Type} (r : R α) : R α := if p then r else .bad
theorem RB_iff {G : Gm} {c : Ct} {p : Prop} [Decidable p] {α : Type} {r : R α} {k : α → Prop} (h : RB G c (iff p r) k) : p ∧ RB G c r k := by
  unfold iff at h
  by_cases q : p
  · rw [if_pos q] at h; exact ⟨q, h⟩
  · rw [if_neg q] at h; exact h.elim
@[simp] theorem iff_pos {p : Prop} [Decidable p] {α : Type} {r : R α} (h : p) : iff p r = r := if_pos h

def fAdd : W → W → R Rs
  | .int i, .int j => .ok (.sh (.int (i + j)))
  | .str a, .str b => iff (a.length + b.length ≤ line) (.ok (.sh (.str (a ++ b))))
  | .lst a, .lst b => iff (a.length + b.length ≤ line) (.ok (.fr (.lst (a ++ b))))
  | .tup a, .tup b => iff (a.length + b.length ≤ line) (.ok (.sh (.tup (a ++ b))))
  | _, _ => .bad
def fSub : W → W → R Rs
  | .int i, .int j => .ok (.sh (.int (i - j)))
  | _, _ => .bad
def fMul : W → W → R Rs
  | .int i, .int j => iff ((-(2 ^ 64) < i ∧ i < 2 ^ 64) ∨ (-(2 ^ 64) < j ∧ j < 2 ^ 64)) (.ok (.sh (.int (i * j))))
  | .str z, .int k => iff ((-100000 ≤ k ∧ k ≤ 100000) ∧ z.length ≤ 100) (.ok (.sh (.str (Txt.mul z k))))
  | .lst a, .int k => iff ((-(2 ^ 63) ≤ k ∧ k < 2 ^ 63) ∧ a.length * k.toNat ≤ line) (.ok (.fr (.lst (List.replicate k.toNat a).flatten)))
  | .tup a, .int k => iff ((a ≠ [] ∧ 2 ≤ k) ∧ k ≤ 1000 ∧ a.length ≤ 1000) (.ok (.sh (.tup (List.replicate k.toNat a).flatten)))
  | _, _ => .bad
def fDiv : W → W → R Rs
  | .int i, .int j => iff (0 < j ∧ j < 1073741824) (.ok (.sh (.int (i / j))))
  | _, _ => .bad
def fMod : W → W → R Rs
  | .int i, .int j => iff (0 < j) (.ok (.sh (.int (i % j))))
  | _, _ => .bad
def fPow : W → W → R Rs
  | .int i, .int j => iff (0 ≤ j ∧ j ≤ 1000000 ∧ i.natAbs < 2 ^ 64) (.ok (.sh (.int (i ^ j.toNat))))
  | _, _ => .bad
def fLt : W → W → R Rs
  | .int i, .int j => .ok (.sh (.bl (decide (i < j))))
  | .str i, .str j => .ok (.sh (.bl (decide (i.cps.toList < j.cps.toList))))
  | _, _ => .bad
def fLe : W → W → R Rs
  | .int i, .int j => .ok (.sh (.bl (decide (i ≤ j))))
  | .str i, .str j => .ok (.sh (.bl (!decide (j.cps.toList < i.cps.toList))))
  | _, _ => .bad
def fGt : W → W → R Rs
  | .int i, .int j => .ok (.sh (.bl (decide (j < i))))
  | .str i, .str j => .ok (.sh (.bl (decide (j.cps.toList < i.cps.toList))))
  | _, _ => .bad
def fGe : W → W → R Rs
  | .int i, .int j => .ok (.sh (.bl (decide (j ≤ i))))
  | .str i, .str j => .ok (.sh (.bl (!decide (i.cps.toList < j.cps.toList))))
  | _, _ => .bad

mutual
def wD : W → PyData
  | .non => .none
  | .bl b => .bool b
  | .int i => .int i
  | .str s => .str s
  | .tup ws => .tuple (wDs ws)
  | .lst ws => .list (wDs ws)
  | .dic _ _ => .dict []
  | .tdc _ _ => .dict []
  | .obj _ _ _ => .dict []
  | .scr _ => .dict []
  | .cl _ => .dict []
def wDs : List W → List PyData
  | [] => []
  | w :: ws => wD w :: wDs ws
end
mutual
theorem Is.dp {G : Gm} {H : Hp} : ∀ {w : W} {v : V}, Is G H w v → (wD w).canLay0 = true → Dp G.K H v (wD w)
  | .non, v, h, _ => by cases (show v = .non from h); exact .non
  | .bl b, v, h, _ => by cases (show v = .bl b from h); exact .bl b
  | .int i, v, h, _ => by cases (show v = .int i from h); exact .int i
  | .str s, v, h, _ => by cases (show v = .str s from h); exact .str s
  | .tup ws, v, ⟨a, xs, h1, h2, h3⟩, k => by subst h1; exact .tup h2 (Iss.dp h3 k)
  | .lst ws, v, ⟨a, xs, h1, h2, h3⟩, k => by subst h1; exact .lst (.inl (.inl h2)) (Iss.dp h3 k)
  | .dic _ _, _, _, k => by cases k
  | .tdc _ _, _, _, k => by cases k
  | .obj _ _ _, _, _, k => by cases k
  | .scr _, _, _, k => by cases k
  | .cl _, _, _, k => by cases k
theorem Iss.dp {G : Gm} {H : Hp} : ∀ {ws : List W} {xs : List V}, Iss G H ws xs → PyData.canLayAll0 (wDs ws) = true → DpAll G.K H xs (wDs ws)
  | [], xs, h, _ => by cases (show xs = [] from h); exact .nil
  | w :: ws, xs, ⟨x, r, h1, h2, h3⟩, k => by
    subst h1
    have k : ((wD w).canLay0 && PyData.canLayAll0 (wDs ws)) = true := k
    rw [Bool.and_eq_true] at k
    exact .cons (Is.dp h2 k.1) (Iss.dp h3 k.2)
end
/-- == of scalars -/
def eqS : W → W → Option Bool
  | .non, .non => some true
  | .bl a, .bl b => some (a == b)
  | .int a, .int b => some (decide (a = b))
  | .str a, .str b => some (decide (a = b))
  | .non, .int _ => some false | .int _, .non => some false | .non, .bl _ => some false | .bl _, .non => some false
  | .non, .str _ => some false | .str _, .non => some false | .int _, .str _ => some false | .str _, .int _ => some false
  | .bl _, .str _ => some false | .str _, .bl _ => some false
  | _, _ => none
def fEq (w1 w2 : W) : R Rs := match eqS w1 w2 with
  | some b => .ok (.sh (.bl b))
  | none => iff ((SeqAt.shaped (wD w1) && SeqAt.shaped (wD w2)) = true) (.ok (.sh (.bl (PyData.eqv (wD w1) (wD w2)))))
def fNe (w1 w2 : W) : R Rs := match eqS w1 w2 with
  | some b => .ok (.sh (.bl (!b)))
  | none => iff ((SeqAt.shaped (wD w1) && SeqAt.shaped (wD w2)) = true) (.ok (.sh (.bl (!PyData.eqv (wD w1) (wD w2)))))
def fIsN (w1 w2 : W) : R Rs := match w2 with
  | .non => .ok (.sh (.bl (match w1 with | .non => true | _ => false)))
  | _ => .bad
def fNotN (w1 w2 : W) : R Rs := match w2 with
  | .non => .ok (.sh (.bl (match w1 with | .non => false | _ => true)))
  | _ => .bad
/-- a flat tree's value -/
def vOf : W → V
  | .non => .non
  | .bl b => .bl b
  | .int i => .int i
  | .str s => .str s
  | _ => .flt 0
def flatW : W → Bool
  | .non => true
  | .bl _ => true
  | .int _ => true
  | .str _ => true
  | _ => false
theorem flat_v {G : Gm} {B : Hp} : ∀ {w : W} {v : V}, Is G B w v → flatW w = true → v = vOf w ∧ flatV v = true
  | .non, v, h, _ => by cases (show v = .non from h); exact ⟨rfl, rfl⟩
  | .bl b, v, h, _ => by cases (show v = .bl b from h); exact ⟨rfl, rfl⟩
  | .int i, v, h, _ => by cases (show v = .int i from h); exact ⟨rfl, rfl⟩
  | .str s, v, h, _ => by cases (show v = .str s from h); exact ⟨rfl, rfl⟩
  | .tup _, _, _, k => by cases k
  | .lst _, _, _, k => by cases k
  | .dic _ _, _, _, k => by cases k
  | .tdc _ _, _, _, k => by cases k
  | .obj _ _ _, _, _, k => by cases k
  | .scr _, _, _, k => by cases k
  | .cl _, _, _, k => by cases k
theorem flat_vs {G : Gm} {B : Hp} : ∀ {ws : List W} {xs : List V}, Iss G B ws xs → ws.all flatW = true → xs = ws.map vOf ∧ xs.all flatV = true
  | [], xs, h, _ => by cases (show xs = [] from h); exact ⟨rfl, rfl⟩
  | w :: ws, xs, ⟨x, r, h1, h2, h3⟩, k => by
    subst h1
    rw [List.all_cons, Bool.and_eq_true] at k
    obtain ⟨e1, f1⟩ := flat_v h2 k.1
    obtain ⟨e2, f2⟩ := flat_vs h3 k.2
    exact ⟨by rw [e1, e2]; rfl, by rw [List.all_cons, f1, f2]; rfl⟩
def eqF : W → W → Bool
  | .non, .non => true
  | .bl a, .bl b => a == b
  | .bl a, .int b => (if a then 1 else 0) == b
  | .int a, .bl b => a == (if b then 1 else 0)
  | .int a, .int b => a == b
  | .str a, .str b => a == b
  | _, _ => false
theorem eqF_v : ∀ w u : W, flatW w = true → flatW u = true → eqV (vOf w) (vOf u) = eqF w u := by
  intro w u h k
  cases w <;> (try cases h) <;> cases u <;> (try cases k) <;> rfl
def inF (w : W) (ws : List W) : Bool := ws.any fun y => eqF y w
theorem inF_v {w : W} : ∀ {ws : List W}, flatW w = true → ws.all flatW = true → inV (vOf w) (ws.map vOf) = inF w ws
  | [], _, _ => rfl
  | u :: us, h, k => by
    rw [List.all_cons, Bool.and_eq_true] at k
    have ih := inF_v (ws := us) h k.2
    show (eqV (vOf u) (vOf w) || inV (vOf w) (us.map vOf)) = _
    rw [ih, eqF_v u w k.1 h]; rfl
/-- a text in a text -/
def strIn (x z : Str) : Bool := if x.cps.size = 1 then decide (x.cps.getD 0 0 ∈ z.cps.toList) else !(Builtin.Str.occurrences z x 0 z.length 1).isEmpty
def fIn (w1 w2 : W) : R Rs := match w2 with
  | .str z => match w1 with
    | .str x => .ok (.sh (.bl (strIn x z)))
    | _ => .bad
  | .lst ws => iff ((flatW w1 && ws.all flatW) = true) (.ok (.sh (.bl (inF w1 ws))))
  | .tup ws => iff ((flatW w1 && ws.all flatW) = true) (.ok (.sh (.bl (inF w1 ws))))
  | _ => .bad
def fNotIn (w1 w2 : W) : R Rs := match w2 with
  | .str z => match w1 with
    | .str x => .ok (.sh (.bl (!strIn x z)))
    | _ => .bad
  | .lst ws => iff ((flatW w1 && ws.all flatW) = true) (.ok (.sh (.bl (!inF w1 ws))))
  | .tup ws => iff ((flatW w1 && ws.all flatW) = true) (.ok (.sh (.bl (!inF w1 ws))))
  | _ => .bad

section
variable {X : Cx} {G : Gm} {c : Ct}
theorem Isb.dp {G : Gm} {H B : Hp} {w : W} {v : V} (s : Sub B H) (h : Isb G H B w v) (k : SeqAt.shaped (wD w) = true) : Dp G.K H v (wD w) := by
  have k : ((wD w).canLay0 && decide ((wD w).depth ≤ 64)) = true := k
  rw [Bool.and_eq_true] at k
  exact (h.is s).dp k.1
theorem ow_add (g : Ties X G) : OpW X G c (binaryOp .Add) fAdd := by
  intro w1 w2
  cases w1 <;> cases w2
  case int.int i j => exact ⟨_, op_add, fun σ e H B x y Q R i1 i2 h => ⟨i, j, i1, i2, Po.sh h R rfl⟩⟩
  case str.str i j => exact ⟨_, op_add_str, fun σ e H B x y Q R i1 i2 h => have ⟨z, h⟩ := RB_iff h; ⟨i, j, i1, i2, line_le z, Po.sh h R rfl⟩⟩
  case lst.lst ws us => exact ⟨_, op_cat, fun σ e H B x y Q R i1 i2 h => by
    obtain ⟨z, h⟩ := RB_iff h
    obtain ⟨a, rfl, xs, ha, ia⟩ := i1
    obtain ⟨b, rfl, ys, hb, ib⟩ := i2
    refine ⟨a, b, xs, ys, rfl, rfl, ha, hb, ?_, fun p hp => Po.lst h R hp (ia.app ib)⟩
    rw [← ia.len, ← ib.len]; exact line_le z⟩
  case tup.tup ws us => exact ⟨_, op_catA, fun σ e H B x y Q R i1 i2 h => by
    obtain ⟨z, h⟩ := RB_iff h
    obtain ⟨a, xs, rfl, ha, ia⟩ := i1
    obtain ⟨b, ys, rfl, hb, ib⟩ := i2
    rw [g.K] at ha hb
    have l1 := ia.len
    have l2 := ib.len
    refine ⟨a, b, xs, ys, rfl, rfl, sub_sqt R.sub ha, sub_sqt R.sub hb, ?_, fun e1 => ?_, fun _ e2 => ?_, fun _ _ p hp => Po.tup h R hp (ia.app ib)⟩
    · rw [← l1, ← l2]; exact line_le z
    · subst e1
      have e : ws = [] := List.eq_nil_of_length_eq_zero l1
      subst e
      exact Po.sh h R ⟨b, ys, rfl, by rw [g.K]; exact hb, ib⟩
    · subst e2
      have e : us = [] := List.eq_nil_of_length_eq_zero l2
      subst e
      rw [List.append_nil] at h
      exact Po.sh h R ⟨a, xs, rfl, by rw [g.K]; exact ha, ia⟩⟩
  all_goals exact ⟨_, op_add, fun _ _ _ _ _ _ _ _ _ _ h => False.elim h⟩
theorem ow_sub : OpW X G c (binaryOp .Sub) fSub := by
  intro w1 w2
  cases w1 <;> cases w2
  case int.int i j => exact ⟨_, op_sub, fun σ e H B x y Q R i1 i2 h => ⟨i, j, i1, i2, Po.sh h R rfl⟩⟩
  all_goals exact ⟨_, op_sub, fun _ _ _ _ _ _ _ _ _ _ h => False.elim h⟩
theorem iss_rep {G : Gm} {B : Hp} {ws : List W} {xs : List V} (h : Iss G B ws xs) : ∀ n : Nat, Iss G B (List.replicate n ws).flatten (List.replicate n xs).flatten
  | 0 => rfl
  | n + 1 => by rw [List.replicate_succ, List.replicate_succ, List.flatten_cons, List.flatten_cons]; exact h.app (iss_rep h n)
theorem op_strmul : OpR X (binaryOp .Mult) (fun x y H Q => ∃ (z : Str) (k : Int), x = .str z ∧ y = .int k ∧ MulOk z k ∧ Q (.str (Txt.mul z k)) H) := by
  intro pins s σ H x y v u Q I rx ry ⟨z, k, ex, ey, hok, q⟩
  subst ex; subst ey
  obtain ⟨t, rfl⟩ := rx
  obtain ⟨t', rfl⟩ := ry
  exact SB.mul hok fun t2 k2 => ⟨.str (Txt.mul z k), H, I.tok _, ⟨t2, rfl⟩, q⟩
theorem mulOk_of {z : Str} {k : Int} (h1 : -100000 ≤ k) (h2 : k ≤ 100000) (h3 : z.length ≤ 100) : MulOk z k := by
  refine ⟨by simp; omega, fun h _ => ?_, fun h _ => ?_⟩
  · have h4 : ((2 : Int) ^ 63 - 1) / 100000 ≤ (2 ^ 63 - 1) / k := by
      refine Int.le_ediv_of_mul_le (by omega) ?_
      have : ((2 : Int) ^ 63 - 1) / 100000 = 92233720368547 := by decide
      rw [this]
      have : (2 : Int) ^ 63 - 1 = 9223372036854775807 := by decide
      rw [this]; omega
    have h5 : ((2 : Int) ^ 63 - 1) / 100000 = 92233720368547 := by decide
    rw [h5] at h4
    omega
  · have h4 : z.length * k.toNat ≤ 100 * 100000 := Nat.mul_le_mul h3 (by omega)
    unfold Builtin.Str.tooLong
    simp only [decide_eq_false_iff_not]
    first | (rw [sizeLine_eq]; omega) | omega | (simp only [sizeLine_eq]; omega)
theorem ow_mul (g : Ties X G) : OpW X G c (binaryOp .Mult) fMul := by
  intro w1 w2
  cases w1 <;> cases w2
  case int.int i j => exact ⟨_, op_mul, fun σ e H B x y Q R i1 i2 h => have ⟨z, h⟩ := RB_iff h; ⟨i, j, i1, i2, z, Po.sh h R rfl⟩⟩
  case str.int z k => exact ⟨_, op_strmul, fun σ e H B x y Q R i1 i2 h => have ⟨⟨⟨z1, z2⟩, z3⟩, h⟩ := RB_iff h; ⟨z, k, i1, i2, mulOk_of z1 z2 z3, Po.sh h R rfl⟩⟩
  case lst.int ws k => exact ⟨_, op_rep, fun σ e H B x y Q R i1 i2 h => by
    obtain ⟨⟨⟨z1, z2⟩, z3⟩, h⟩ := RB_iff h
    obtain ⟨a, rfl, xs, ha, ia⟩ := i1
    exact ⟨a, k, xs, rfl, i2, ha, z1, z2, by rw [← ia.len]; exact line_le z3, fun p hp => Po.lst h R hp (iss_rep ia _)⟩⟩
  case tup.int ws k => exact ⟨_, op_repT, fun σ e H B x y Q R i1 i2 h => by
    obtain ⟨⟨⟨z1, z2⟩, z3, z4⟩, h⟩ := RB_iff h
    obtain ⟨a, xs, rfl, ha, ia⟩ := i1
    rw [g.K] at ha
    have l1 := ia.len
    exact ⟨a, k, xs, rfl, i2, sub_sqt R.sub ha, fun e1 => z1 (List.eq_nil_of_length_eq_zero (by rw [l1, e1]; rfl)), z2, z3, by omega, fun p hp => Po.tup h R hp (iss_rep ia _)⟩⟩
  all_goals exact ⟨_, op_mul, fun _ _ _ _ _ _ _ _ _ _ h => False.elim h⟩
theorem ow_div : OpW X G c (binaryOp .FloorDiv) fDiv := by
  intro w1 w2
  cases w1 <;> cases w2
  case int.int i j => exact ⟨_, op_fdiv, fun σ e H B x y Q R i1 i2 h => have ⟨z, h⟩ := RB_iff h; ⟨i, j, i1, i2, z, Po.sh h R rfl⟩⟩
  all_goals exact ⟨_, op_fdiv, fun _ _ _ _ _ _ _ _ _ _ h => False.elim h⟩
theorem ow_mod : OpW X G c (binaryOp .Mod) fMod := by
  intro w1 w2
  cases w1 <;> cases w2
  case int.int i j => exact ⟨_, op_mod, fun σ e H B x y Q R i1 i2 h => have ⟨z, h⟩ := RB_iff h; ⟨i, j, i1, i2, z, Po.sh h R rfl⟩⟩
  all_goals exact ⟨_, op_mod, fun _ _ _ _ _ _ _ _ _ _ h => False.elim h⟩
theorem ow_pow : OpW X G c (binaryOp .Pow) fPow := by
  intro w1 w2
  cases w1 <;> cases w2
  case int.int i j => exact ⟨_, op_pow, fun σ e H B x y Q R i1 i2 h => have ⟨z, h⟩ := RB_iff h; ⟨i, j, i1, i2, z, Po.sh h R rfl⟩⟩
  all_goals exact ⟨_, op_pow, fun _ _ _ _ _ _ _ _ _ _ h => False.elim h⟩
theorem ow_lt : OpW X G c (compareOp .Lt) fLt := by
  intro w1 w2
  cases w1 <;> cases w2
  case int.int i j => exact ⟨_, op_lt, fun σ e H B x y Q R i1 i2 h => ⟨i, j, i1, i2, Po.sh h R rfl⟩⟩
  case str.str i j => exact ⟨_, op_lt_str, fun σ e H B x y Q R i1 i2 h => ⟨i, j, i1, i2, Po.sh h R rfl⟩⟩
  all_goals exact ⟨_, op_lt, fun _ _ _ _ _ _ _ _ _ _ h => False.elim h⟩
theorem ow_le : OpW X G c (compareOp .LtE) fLe := by
  intro w1 w2
  cases w1 <;> cases w2
  case int.int i j => exact ⟨_, op_le, fun σ e H B x y Q R i1 i2 h => ⟨i, j, i1, i2, Po.sh h R rfl⟩⟩
  case str.str i j => exact ⟨_, op_le_str, fun σ e H B x y Q R i1 i2 h => ⟨i, j, i1, i2, Po.sh h R rfl⟩⟩
  all_goals exact ⟨_, op_le, fun _ _ _ _ _ _ _ _ _ _ h => False.elim h⟩
theorem ow_gt : OpW X G c (compareOp .Gt) fGt := by
  intro w1 w2
  cases w1 <;> cases w2
  case int.int i j => exact ⟨_, op_gt, fun σ e H B x y Q R i1 i2 h => ⟨i, j, i1, i2, Po.sh h R rfl⟩⟩
  case str.str i j => exact ⟨_, op_gt_str, fun σ e H B x y Q R i1 i2 h => ⟨i, j, i1, i2, Po.sh h R rfl⟩⟩
  all_goals exact ⟨_, op_gt, fun _ _ _ _ _ _ _ _ _ _ h => False.elim h⟩
theorem ow_ge : OpW X G c (compareOp .GtE) fGe := by
  intro w1 w2
  cases w1 <;> cases w2
  case int.int i j => exact ⟨_, op_ge, fun σ e H B x y Q R i1 i2 h => ⟨i, j, i1, i2, Po.sh h R rfl⟩⟩
  case str.str i j => exact ⟨_, op_ge_str, fun σ e H B x y Q R i1 i2 h => ⟨i, j, i1, i2, Po.sh h R rfl⟩⟩
  all_goals exact ⟨_, op_ge, fun _ _ _ _ _ _ _ _ _ _ h => False.elim h⟩
theorem eqS_v {G : Gm} {H B : Hp} {w1 w2 : W} {x y : V} {b : Bool} (h : eqS w1 w2 = some b) (i1 : Isb G H B w1 x) (i2 : Isb G H B w2 y) : scal x y = true ∧ decide (x = y) = b := by
  cases w1 <;> cases w2 <;> simp only [eqS, reduceCtorEq, Option.some.injEq] at h <;> (simp only [Isb] at i1 i2; subst i1; subst i2; subst h) <;> (first | exact ⟨rfl, rfl⟩ | exact ⟨rfl, dec_bl⟩ | exact ⟨rfl, by simp⟩)
theorem ow_eq (g : Ties X G) (hu : X.A.units + 64 < cLine) : OpW X G c (compareOp .Eq) fEq := by
  intro w1 w2
  cases q : eqS w1 w2 with
  | some b => exact ⟨_, op_eq, fun σ e H B x y Q R i1 i2 h => by
      obtain ⟨s, d⟩ := eqS_v q i1 i2
      unfold fEq at h
      rw [q] at h
      exact ⟨s, by rw [d]; exact Po.sh h R rfl⟩⟩
  | none => exact ⟨_, op_eqD hu, fun σ e H B x y Q R i1 i2 h => by
      unfold fEq at h
      rw [q] at h
      obtain ⟨z, h⟩ := RB_iff h
      rw [Bool.and_eq_true] at z
      exact ⟨_, _, g.K ▸ i1.dp R.sub z.1, g.K ▸ i2.dp R.sub z.2, z.1, z.2, Po.sh h R rfl⟩⟩
theorem ow_ne (g : Ties X G) (hu : X.A.units + 64 < cLine) : OpW X G c (compareOp .NotEq) fNe := by
  intro w1 w2
  cases q : eqS w1 w2 with
  | some b => exact ⟨_, op_ne, fun σ e H B x y Q R i1 i2 h => by
      obtain ⟨s, d⟩ := eqS_v q i1 i2
      unfold fNe at h
      rw [q] at h
      exact ⟨s, by rw [d]; exact Po.sh h R rfl⟩⟩
  | none => exact ⟨_, op_neD hu, fun σ e H B x y Q R i1 i2 h => by
      unfold fNe at h
      rw [q] at h
      obtain ⟨z, h⟩ := RB_iff h
      rw [Bool.and_eq_true] at z
      exact ⟨_, _, g.K ▸ i1.dp R.sub z.1, g.K ▸ i2.dp R.sub z.2, z.1, z.2, Po.sh h R rfl⟩⟩
theorem ow_isN : OpW X G c (compareOp .Is) fIsN := by
  intro w1 w2
  cases w2
  case non =>
    refine ⟨_, op_isN, fun σ e H B x y Q R i1 i2 h => ⟨i2, ?_⟩⟩
    cases w1 <;> simp only [Isb] at i1 <;> first
      | (subst i1; exact Po.sh h R rfl)
      | (obtain ⟨a, xs, rfl, _⟩ := i1; exact Po.sh h R rfl)
      | (obtain ⟨a, rfl, _⟩ := i1; exact Po.sh h R rfl)
  all_goals exact ⟨_, op_isN, fun _ _ _ _ _ _ _ _ _ _ h => False.elim h⟩
theorem ow_notN : OpW X G c (compareOp .IsNot) fNotN := by
  intro w1 w2
  cases w2
  case non =>
    refine ⟨_, op_notN, fun σ e H B x y Q R i1 i2 h => ⟨i2, ?_⟩⟩
    cases w1 <;> simp only [Isb] at i1 <;> first
      | (subst i1; exact Po.sh h R rfl)
      | (obtain ⟨a, xs, rfl, _⟩ := i1; exact Po.sh h R rfl)
      | (obtain ⟨a, rfl, _⟩ := i1; exact Po.sh h R rfl)
  all_goals exact ⟨_, op_notN, fun _ _ _ _ _ _ _ _ _ _ h => False.elim h⟩
theorem isb_flat {G : Gm} {H B : Hp} {w : W} {v : V} (s : Sub B H) (h : Isb G H B w v) (k : flatW w = true) : v = vOf w ∧ flatV v = true := flat_v (h.is s) k
theorem ow_in (g : Ties X G) : OpW X G c (compareOp .In) fIn := by
  intro w1 w2
  cases w2
  case str z =>
    cases w1
    case str x =>
      by_cases q : x.cps.size = 1
      · obtain ⟨n, rfl⟩ : ∃ n, x = ⟨#[n]⟩ := by
          obtain ⟨⟨l⟩⟩ := x
          match l, q with
          | [n], _ => exact ⟨n, rfl⟩
        exact ⟨_, op_in_sign, fun σ e H B x y Q R i1 i2 h => ⟨n, z, i1, i2, Po.sh h R rfl⟩⟩
      · refine ⟨_, op_in_str, fun σ e H B x' y Q R i1 i2 h => ⟨x, z, i1, i2, Po.sh (w := .bl (!(Builtin.Str.occurrences z x 0 z.length 1).isEmpty)) ?_ R rfl⟩⟩
        have e : strIn x z = !(Builtin.Str.occurrences z x 0 z.length 1).isEmpty := by
          unfold strIn
          rw [if_neg q]
        rw [← e]; exact h
    all_goals exact ⟨_, op_in_str, fun _ _ _ _ _ _ _ _ _ _ h => False.elim h⟩
  case lst ws => exact ⟨_, op_in_seq, fun σ e H B x y Q R i1 i2 h => by
    obtain ⟨z, h⟩ := RB_iff h
    rw [Bool.and_eq_true] at z
    obtain ⟨a, rfl, xs, ha, ia⟩ := i2
    obtain ⟨e1, f1⟩ := isb_flat R.sub i1 z.1
    obtain ⟨e2, f2⟩ := flat_vs ia z.2
    refine ⟨a, xs, rfl, .inl (.inl (.inl ha)), f1, f2, Po.sh h R ?_⟩
    rw [e1, e2, inF_v z.1 z.2]; rfl⟩
  case tup ws => exact ⟨_, op_in_seq, fun σ e H B x y Q R i1 i2 h => by
    obtain ⟨z, h⟩ := RB_iff h
    rw [Bool.and_eq_true] at z
    obtain ⟨a, xs, rfl, ha, ia⟩ := i2
    rw [g.K] at ha
    obtain ⟨e1, f1⟩ := isb_flat R.sub i1 z.1
    obtain ⟨e2, f2⟩ := flat_vs ia z.2
    refine ⟨a, xs, rfl, .inr (sub_sqt R.sub ha), f1, f2, Po.sh h R ?_⟩
    rw [e1, e2, inF_v z.1 z.2]; rfl⟩
  all_goals exact ⟨_, op_in_str, fun _ _ _ _ _ _ _ _ _ _ h => False.elim h⟩
theorem ow_notIn (g : Ties X G) : OpW X G c (compareOp .NotIn) fNotIn := by
  intro w1 w2
  cases w2
  case str z =>
    cases w1
    case str x =>
      by_cases q : x.cps.size = 1
      · obtain ⟨n, rfl⟩ : ∃ n, x = ⟨#[n]⟩ := by
          obtain ⟨⟨l⟩⟩ := x
          match l, q with
          | [n], _ => exact ⟨n, rfl⟩
        exact ⟨_, op_notIn_sign, fun σ e H B x y Q R i1 i2 h => ⟨n, z, i1, i2, Po.sh h R rfl⟩⟩
      · refine ⟨_, op_notin_str, fun σ e H B x' y Q R i1 i2 h => ⟨x, z, i1, i2, Po.sh (w := .bl (!(!(Builtin.Str.occurrences z x 0 z.length 1).isEmpty))) ?_ R rfl⟩⟩
        have e : strIn x z = !(Builtin.Str.occurrences z x 0 z.length 1).isEmpty := by
          unfold strIn
          rw [if_neg q]
        rw [← e]; exact h
    all_goals exact ⟨_, op_notin_str, fun _ _ _ _ _ _ _ _ _ _ h => False.elim h⟩
  case lst ws => exact ⟨_, op_notIn_seq, fun σ e H B x y Q R i1 i2 h => by
    obtain ⟨z, h⟩ := RB_iff h
    rw [Bool.and_eq_true] at z
    obtain ⟨a, rfl, xs, ha, ia⟩ := i2
    obtain ⟨e1, f1⟩ := isb_flat R.sub i1 z.1
    obtain ⟨e2, f2⟩ := flat_vs ia z.2
    refine ⟨a, xs, rfl, .inl (.inl (.inl ha)), f1, f2, Po.sh h R ?_⟩
    rw [e1, e2, inF_v z.1 z.2]; rfl⟩
  case tup ws => exact ⟨_, op_notIn_seq, fun σ e H B x y Q R i1 i2 h => by
    obtain ⟨z, h⟩ := RB_iff h
    rw [Bool.and_eq_true] at z
    obtain ⟨a, xs, rfl, ha, ia⟩ := i2
    rw [g.K] at ha
    obtain ⟨e1, f1⟩ := isb_flat R.sub i1 z.1
    obtain ⟨e2, f2⟩ := flat_vs ia z.2
    refine ⟨a, xs, rfl, .inr (sub_sqt R.sub ha), f1, f2, Po.sh h R ?_⟩
    rw [e1, e2, inF_v z.1 z.2]; rfl⟩
  all_goals exact ⟨_, op_notin_str, fun _ _ _ _ _ _ _ _ _ _ h => False.elim h⟩
end
end WL
end F_WLO

section F_WLX
/-! WLX: displays, subscripts, slices, attributes, tests, and | or | not, a if t else b. -/
namespace WL
open PySem PySem.Spec PyProof.Rows L2

/-! ### arguments, displays -/
def mNilA : Ma := fun e => .ok ([], e)
def mConsA (a : Mx) (r : Ma) : Ma := fun e => (mSh a e).bind fun p => (r p.2).bind fun q => .ok (p.1 :: q.1, q.2)
def mTup (a : Ma) : Mx := fun e => (a e).bind fun p => iff (p.1.length ≤ line) (.ok (.sh (.tup p.1), p.2))
def mLst (a : Ma) : Mx := fun e => (a e).bind fun p => iff (p.1.length ≤ line) (.ok (.fr (.lst p.1), p.2))
/-- a result that is kept -/
def mKeep (a : Mx) : Mx := fun e => (mSh a e).bind fun p => .ok (.sh p.1, p.2)

section
variable {X : Cx} {G : Gm} {c : Ct} {pos : Pos} {a b : Expr} {es : List Expr} {ma mb : Mx} {mr : Ma} {σ : L2.St} {e : En} {H B : Hp} {i : Nat}

theorem tSh {K : V → Hp → Prop} (R : Rel G c σ e H B) (h : RB G c (mSh ma e) fun t => ∀ x H1 B1, Rel G c σ t.2 H1 B1 → Sub B B1 → Is G B1 t.1 x → K x H1) : tW G c ma σ H K := by
  refine ⟨e, B, R, ?_⟩
  rw [mSh, RB_bind] at h
  refine h.mono fun p h => fun v H' B' R' s rv => ?_
  cases q : shr p.1 p.2 with
  | ok t =>
    rw [q] at h
    obtain ⟨B2, R2, s2, i2⟩ := shr_is R' rv (w := t.1) (e' := t.2) q
    exact h v H' B2 R2 (s.trans s2) i2
  | exn => exact (shr_ne q).elim
  | bad => rw [q] at h; exact h.elim
theorem tA_run {K : List V → Hp → Prop} {t : TA} (R : Rel G c σ e H B) (ht : t = tWA G c mr) (h : RB G c (mr e) fun r => ∀ vs H' B', Rel G c σ r.2 H' B' → Sub B B' → Iss G B' r.1 vs → K vs H') : t σ H K := by
  subst ht; exact ⟨e, B, R, h⟩
theorem wa_nil : WA X G c [] mNilA := ⟨fun pos pins s σ H Q I h => pa_nil.run pos pins s σ H Q I (by
  obtain ⟨e, B, R, h⟩ := h
  exact h [] H B R (Sub.refl B) rfl)⟩
theorem wa_cons (ha : WE X G c a ma) (hr : WA X G c es mr) (hs : starEach (a :: es) X.env = (false, eval a X.env) :: starEach es X.env := by rfl) : WA X G c (a :: es) (mConsA ma mr) :=
  ⟨fun pos pins s σ H Q I h => (pa_cons ha hr hs).run pos pins s σ H Q I (by
    obtain ⟨e, B, R, h⟩ := h
    rw [mConsA, RB_bind] at h
    refine tSh R (h.mono fun t h x H1 B1 R1 s1 i1 => ⟨t.2, B1, R1, ?_⟩)
    rw [RB_bind] at h
    exact h.mono fun q h vs H2 B2 R2 s2 i2 => h (x :: vs) H2 B2 R2 (s1.trans s2) (.cons (i1.mono s2) i2))⟩
theorem we_tup {x1} (h : WA X G c es mr) : WE X G c (.Tuple es x1 pos) (mTup mr) := ⟨fun pins s σ H Q I q => (pe_tup h).run pins s σ H Q I (by
  obtain ⟨e, B, R, q⟩ := q
  rw [mTup, RB_bind] at q
  refine ⟨e, B, R, q.mono fun p q vs H1 B1 R1 s1 i1 => ?_⟩
  obtain ⟨z, q⟩ := RB_iff q
  exact ⟨by rw [← i1.len]; exact line_le z, fun p hp => q _ _ _ (R1.newB hp) (s1.trans (Sub.new (R1.sub.non hp))) ⟨p, vs, rfl, .inl (.inl upd_same), i1.mono (Sub.new (R1.sub.non hp))⟩⟩)⟩
theorem we_lst (h : WA X G c es mr) : WE X G c (.List es pos) (mLst mr) := ⟨fun pins s σ H Q I q => (pe_lst h).run pins s σ H Q I (by
  obtain ⟨e, B, R, q⟩ := q
  rw [mLst, RB_bind] at q
  refine ⟨e, B, R, q.mono fun p q vs H1 B1 R1 s1 i1 => ?_⟩
  obtain ⟨z, q⟩ := RB_iff q
  exact ⟨by rw [← i1.len]; exact line_le z, fun p hp => q _ _ B1 (R1.newO hp) s1 (R1.fresh hp ⟨vs, upd_same, i1⟩)⟩)⟩
/-- the value is kept (its slot gives it away) -/
theorem we_keep (h : WE X G c a ma) : WE X G c a (mKeep ma) := ⟨fun pins s σ H Q I q => h.run pins s σ H Q I (by
  obtain ⟨e, B, R, q⟩ := q
  rw [mKeep, RB_bind] at q
  exact tSh R (q.mono fun t q x H1 B1 R1 s1 i1 => q x H1 B1 R1 s1 i1))⟩

/-! ### one operand -/
theorem un_neg_w (ha : WE X G c a ma) : WE X G c (.UnaryOp .USub a pos) (mUn (fun w => match w with | .int i => .ok (.sh (.int (-i))) | _ => .bad) ma) := ⟨fun pins s σ H Q I q => (pe_un un_neg ha).run pins s σ H Q I (by
  obtain ⟨e, B, R, q⟩ := q
  rw [mUn, RB_bind] at q
  refine tW1 R (q.mono fun t q x H1 B1 R1 s1 i1 => ?_)
  rw [RB_bind] at q
  obtain ⟨w, e1⟩ := t
  cases w <;> first | exact False.elim q | skip
  rename_i j
  exact ⟨j, i1, q _ H1 B1 R1 s1 rfl⟩)⟩

/-! ### subscripts -/
theorem atI_is {G : Gm} {B : Hp} {ws : List W} {xs : List V} {i : Int} {w : W} (h : Iss G B ws xs) (q : atI ws i = some w) : ∃ x, atI xs i = some x ∧ Is G B w x := by
  unfold atI at q ⊢
  rw [← h.len]
  cases z : ixN ws.length i with
  | none => rw [z] at q; cases q
  | some j => rw [z] at q; exact h.get q
def ofO {α : Type} : Option α → R α
  | some a => .ok a
  | none => .bad
theorem RB_ofO {α : Type} {o : Option α} {k : α → Prop} (h : RB G c (ofO o) k) : ∃ a, o = some a ∧ k a := by
  cases o with
  | none => exact h.elim
  | some a => exact ⟨a, rfl, h⟩
def dGet : List Key → List W → Key → Option W
  | k :: ks, v :: vs, q => if k = q then some v else dGet ks vs q
  | _, _, _ => none
def tGet : List W → List W → NestedKey → Option W
  | k :: ks, v :: vs, q => if kT k = some q then some v else tGet ks vs q
  | _, _, _ => none
def fIx : W → W → R Rs
  | .lst ws, .int i => (ofO (atI ws i)).bind fun w => .ok (.sh w)
  | .tup ws, .int i => (ofO (atI ws i)).bind fun w => .ok (.sh w)
  | .scr ns, .int i => (ofO (atI ns i)).bind fun n => .ok (.sh (.int n))
  | .str z, .int i => iff (z.length ≤ line) ((ofO (atI z.cps.toList i)).bind fun n => .ok (.sh (.str ⟨#[n]⟩)))
  | _, _ => .bad
def IxW (X : Cx) (G : Gm) (c : Ct) (f : W → W → R Rs) : Prop :=
  ∀ w1 w2, ∃ r : R2, IxR X r ∧ ∀ (σ : L2.St) (e : En) (H B : Hp) (x y : V) (Q : VK), Rel G c σ e H B → Isb G H B w1 x → Isb G H B w2 y → RB G c (f w1 w2) (Po G c σ e B Q) → r x y H Q
theorem we_ix {f : W → W → R Rs} (ho : IxW X G c f) (ha : WE X G c a ma) (hb : WE X G c b mb) (hs : PlainIx b := by exact fun _ _ => rfl) : WE X G c (.Subscript a b pos) (mBin f ma mb) := by
  refine ⟨fun pins s σ H Q I h => ?_⟩
  obtain ⟨e, B, R, h⟩ := h
  have h' := op_two (r := fun _ _ _ _ _ _ => True) (K := fun w1 w2 x y H2 => (ho w1 w2).choose x y H2 Q) R h fun w1 w2 x y e2 H2 B2 _ R2 s i1 i2 p => (ho w1 w2).choose_spec.2 σ e2 H2 B2 x y Q R2 i1 i2 p
  cases q : m2 ma mb e with
  | bad => rw [q] at h'; exact h'.elim
  | exn =>
    refine (pe_ix (ho .non .non).choose_spec.1 ha hb hs).run pins s σ H Q I (tW2 R ?_)
    rw [q] at h' ⊢; exact h'
  | ok t =>
    refine (pe_ix (ho t.1 t.2.1).choose_spec.1 ha hb hs).run pins s σ H Q I (tW2 R ?_)
    rw [q] at h' ⊢; exact h'

/-! ### slices -/
def mPartN : En → R (Option Int × En) := fun e => .ok (none, e)
def mPart (a : Mx) : En → R (Option Int × En) := fun e => (m1 a e).bind fun t => match t.1 with
  | .int i => .ok (some i, t.2)
  | _ => .bad
def tWO (G : Gm) (c : Ct) (m : En → R (Option Int × En)) : TO := fun σ H Q => ∃ e B, Rel G c σ e H B ∧ RB G c (m e) fun r => ∀ H' B', Rel G c σ r.2 H' B' → Sub B B' → Q r.1 H'
theorem PO.imp {o : Option Expr} {t t' : TO} (h : PO X o t) (i : ∀ σ H Q, t' σ H Q → t σ H Q) : PO X o t' := ⟨fun pins s σ H Q I q => h.run pins s σ H Q I (i σ H Q q)⟩
theorem wo_none : PO X none (tWO G c mPartN) := PO.imp po_none fun σ H Q ⟨e, B, R, h⟩ => h H B R (Sub.refl B)
theorem wo_some (ha : WE X G c a ma) : PO X (some a) (tWO G c (mPart ma)) := PO.imp (po_some ha) fun σ H Q ⟨e, B, R, h⟩ => by
  rw [mPart, RB_bind] at h
  refine tW1 R (h.mono fun t h x H1 B1 R1 s1 i1 => ?_)
  obtain ⟨w, e1⟩ := t
  cases w <;> first | exact False.elim h | skip
  rename_i j
  exact ⟨j, i1, h H1 B1 R1 s1⟩
def cutW (ws : List W) (lo hi : Option Int) : List W := (ws.drop (HT.sIx ws.length 0 lo)).take (HT.sIx ws.length ws.length hi - HT.sIx ws.length 0 lo)
theorem cut_is {G : Gm} {B : Hp} {ws : List W} {xs : List V} (h : Iss G B ws xs) (lo hi : Option Int) : Iss G B (cutW ws lo hi) (cutV xs lo hi) := by
  unfold cutW cutV
  rw [← h.len]
  exact (h.drop _).take _
def fSl (w : W) (lo hi : Option Int) : R Rs := match w with
  | .lst ws => .ok (.fr (.lst (cutW ws lo hi)))
  | .str z => iff (z.length ≤ line) (.ok (.sh (.str (cutS z lo hi))))
  | .tup ws => iff (¬ (HT.sIx ws.length 0 lo = 0 ∧ HT.sIx ws.length ws.length hi = ws.length)) (.ok (.sh (.tup (cutW ws lo hi))))
  | _ => .bad
def mSl (a : Mx) (lo hi : En → R (Option Int × En)) : Mx := fun e => (a e).bind fun p => (lo p.2).bind fun q => (hi q.2).bind fun r => (rd p.1.sv r.2).bind fun w => (fSl w q.1 r.1).bind fun z => .ok (z, r.2)
theorem we_sl {lo hi : Option Expr} {ml mh : En → R (Option Int × En)} {p2 : Pos} (ha : WE X G c a ma) (hl : PO X lo (tWO G c ml)) (hh : PO X hi (tWO G c mh))
    (hS : ∀ w lo hi, ∃ r, SlR X r ∧ ∀ (σ : L2.St) (e : En) (H B : Hp) (x : V) (Q : VK), Rel G c σ e H B → Isb G H B w x → RB G c (fSl w lo hi) (Po G c σ e B Q) → r x lo hi H Q) :
    WE X G c (.Subscript a (.Slice lo hi none p2) pos) (mSl ma ml mh) := by
  refine ⟨fun pins s σ H Q I h => ?_⟩
  obtain ⟨e, B, R, h⟩ := h
  -- the rule by the tree that is cut
  have key : ∀ (r0 : V → Option Int → Option Int → Hp → VK → Prop), SlR X r0 →
      (∀ p q r w, ma e = .ok p → ml p.2 = .ok q → mh q.2 = .ok r → rd p.1.sv r.2 = .ok w → ∀ (H B : Hp) (x : V), Rel G c σ r.2 H B → Isb G H B w x → RB G c (fSl w q.1 r.1) (Po G c σ r.2 B Q) → r0 x q.1 r.1 H Q) →
      wpAny (model X.prog X.w) X.A (eval (.Subscript a (.Slice lo hi none p2) pos) X.env) (EP X pins σ Q) X.xe s := fun r0 h0 hq => by
    refine (pe_slice h0 ha hl hh).run pins s σ H Q I ⟨e, B, R, ?_⟩
    rw [mSl, RB_bind] at h
    cases z1 : ma e with
    | bad => rw [z1] at h; exact h.elim
    | exn => rw [z1] at h; exact h
    | ok p =>
      rw [z1] at h
      intro x H1 B1 R1 s1 rx
      obtain ⟨B1', R1', s1', rx'⟩ := sv_is R1 rx
      refine ⟨p.2, B1', R1', ?_⟩
      have h : RB G c ((ml p.2).bind fun q => (mh q.2).bind fun r => (rd p.1.sv r.2).bind fun w => (fSl w q.1 r.1).bind fun z => .ok (z, r.2)) fun r => Po G c σ r.2 B Q r.1 := h
      rw [RB_bind] at h
      cases z2 : ml p.2 with
      | bad => rw [z2] at h; exact h.elim
      | exn => rw [z2] at h; exact h
      | ok q =>
        rw [z2] at h
        intro H2 B2 R2 s2
        refine ⟨q.2, B2, R2, ?_⟩
        have h : RB G c ((mh q.2).bind fun r => (rd p.1.sv r.2).bind fun w => (fSl w q.1 r.1).bind fun z => .ok (z, r.2)) fun r => Po G c σ r.2 B Q r.1 := h
        rw [RB_bind] at h
        cases z3 : mh q.2 with
        | bad => rw [z3] at h; exact h.elim
        | exn => rw [z3] at h; exact h
        | ok r =>
          rw [z3] at h
          intro H3 B3 R3 s3
          have h : RB G c ((rd p.1.sv r.2).bind fun w => (fSl w q.1 r.1).bind fun z => .ok (z, r.2)) fun r => Po G c σ r.2 B Q r.1 := h
          rw [RB_bind] at h
          have rx3 : RV G c σ r.2 H3 B3 x p.1.sv := sv_later (s2.trans s3) rx'
          cases z4 : rd p.1.sv r.2 with
          | bad => rw [z4] at h; exact h.elim
          | exn => exact (rd_ne z4).elim
          | ok w =>
            rw [z4] at h
            have h : RB G c ((fSl w q.1 r.1).bind fun z => .ok (z, r.2)) fun r => Po G c σ r.2 B Q r.1 := h
            rw [RB_bind] at h
            exact hq p q r w z1 z2 z3 z4 H3 B3 x R3 (rd_is R3 rx3 z4) (h.mono fun z po v H' B' R' s' rv => po v H' B' R' (((s1.trans s1').trans (s2.trans s3)).trans s') rv)
  cases z1 : ma e with
  | bad => exact key _ (hS .non none none).choose_spec.1 fun p q r w e1 => by rw [z1] at e1; cases e1
  | exn => exact key _ (hS .non none none).choose_spec.1 fun p q r w e1 => by rw [z1] at e1; cases e1
  | ok p =>
    cases z2 : ml p.2 with
    | bad => exact key _ (hS .non none none).choose_spec.1 fun p' q r w e1 e2 => by rw [z1] at e1; cases e1; rw [z2] at e2; cases e2
    | exn => exact key _ (hS .non none none).choose_spec.1 fun p' q r w e1 e2 => by rw [z1] at e1; cases e1; rw [z2] at e2; cases e2
    | ok q =>
      cases z3 : mh q.2 with
      | bad => exact key _ (hS .non none none).choose_spec.1 fun p' q r w e1 e2 e3 => by rw [z1] at e1; cases e1; rw [z2] at e2; cases e2; rw [z3] at e3; cases e3
      | exn => exact key _ (hS .non none none).choose_spec.1 fun p' q r w e1 e2 e3 => by rw [z1] at e1; cases e1; rw [z2] at e2; cases e2; rw [z3] at e3; cases e3
      | ok r =>
        cases z4 : rd p.1.sv r.2 with
        | bad => exact key _ (hS .non none none).choose_spec.1 fun p' q r w e1 e2 e3 e4 => by rw [z1] at e1; cases e1; rw [z2] at e2; cases e2; rw [z3] at e3; cases e3; rw [z4] at e4; cases e4
        | exn => exact (rd_ne z4).elim
        | ok w =>
          refine key _ (hS w q.1 r.1).choose_spec.1 fun p' q' r' w' e1 e2 e3 e4 H3 B3 x R3 i3 po => ?_
          rw [z1] at e1; cases e1; rw [z2] at e2; cases e2; rw [z3] at e3; cases e3; rw [z4] at e4; cases e4
          exact (hS w q.1 r.1).choose_spec.2 σ r.2 H3 B3 x Q R3 i3 po
theorem sw_all (g : Ties X G) : ∀ w lo hi, ∃ r, SlR X r ∧ ∀ (σ : L2.St) (e : En) (H B : Hp) (x : V) (Q : VK), Rel G c σ e H B → Isb G H B w x → RB G c (fSl w lo hi) (Po G c σ e B Q) → r x lo hi H Q := by
  intro w lo hi
  cases w
  case lst ws => exact ⟨_, sl_list, fun σ e H B x Q R i1 h => by
    obtain ⟨a, rfl, xs, ha, ia⟩ := i1
    exact ⟨a, xs, rfl, .inl (.inl ha), fun p hp => Po.lst h R hp (cut_is ia lo hi)⟩⟩
  case str z => exact ⟨_, sl_str, fun σ e H B x Q R i1 h => have ⟨q, h⟩ := RB_iff h; ⟨z, i1, line_le q, Po.sh h R rfl⟩⟩
  case tup ws => exact ⟨_, sl_tup, fun σ e H B x Q R i1 h => by
    obtain ⟨q, h⟩ := RB_iff h
    obtain ⟨a, xs, rfl, ha, ia⟩ := i1
    rw [g.K] at ha
    exact ⟨a, xs, rfl, sub_sqt R.sub ha, by rw [← ia.len]; exact q, fun p hp => Po.tup h R hp (cut_is ia lo hi)⟩⟩
  all_goals exact ⟨_, sl_list, fun _ _ _ _ _ _ _ _ h => False.elim h⟩

theorem ixw_all (g : Ties X G) : IxW X G c fIx := by
  intro w1 w2
  cases w1
  case lst ws =>
    cases w2
    case int i => exact ⟨_, ix_list, fun σ e H B x y Q R i1 i2 h => by
      obtain ⟨a, rfl, xs, ha, ia⟩ := i1
      have h : RB G c ((ofO (atI ws i)).bind fun w => .ok (.sh w)) (Po G c σ e B Q) := h
      rw [RB_bind] at h
      obtain ⟨w, z, h⟩ := RB_ofO h
      obtain ⟨v, e1, iv⟩ := atI_is ia z
      exact ⟨a, xs, i, v, rfl, i2, .inl (.inl ha), e1, Po.sh h R iv⟩⟩
    all_goals exact ⟨_, ix_list, fun _ _ _ _ _ _ _ _ _ _ h => False.elim h⟩
  case tup ws =>
    cases w2
    case int i => exact ⟨_, ix_tup, fun σ e H B x y Q R i1 i2 h => by
      obtain ⟨a, xs, rfl, ha, ia⟩ := i1
      rw [g.K] at ha
      have h : RB G c ((ofO (atI ws i)).bind fun w => .ok (.sh w)) (Po G c σ e B Q) := h
      rw [RB_bind] at h
      obtain ⟨w, z, h⟩ := RB_ofO h
      obtain ⟨v, e1, iv⟩ := atI_is ia z
      exact ⟨a, xs, i, v, rfl, i2, sub_sqt R.sub ha, e1, Po.sh h R iv⟩⟩
    all_goals exact ⟨_, ix_list, fun _ _ _ _ _ _ _ _ _ _ h => False.elim h⟩
  case scr ns =>
    cases w2
    case int i => exact ⟨_, ix_list, fun σ e H B x y Q R i1 i2 h => by
      obtain ⟨a, rfl, ha⟩ := i1
      rw [g.K] at ha
      have h : RB G c ((ofO (atI ns i)).bind fun n => .ok (.sh (.int n))) (Po G c σ e B Q) := h
      rw [RB_bind] at h
      obtain ⟨n, z, h⟩ := RB_ofO h
      refine ⟨a, ns.map V.int, i, .int n, rfl, i2, ha, ?_, Po.sh h R rfl⟩
      unfold atI at z ⊢
      rw [List.length_map]
      cases q : ixN ns.length i with
      | none => rw [q] at z; cases z
      | some j =>
        rw [q] at z
        show (ns.map V.int)[j]? = _
        rw [List.getElem?_map, show ns[j]? = some n from z]; rfl⟩
    all_goals exact ⟨_, ix_list, fun _ _ _ _ _ _ _ _ _ _ h => False.elim h⟩
  case str z =>
    cases w2
    case int i => exact ⟨_, ix_str, fun σ e H B x y Q R i1 i2 h => by
      have h : RB G c (iff (z.length ≤ line) ((ofO (atI z.cps.toList i)).bind fun n => .ok (.sh (.str ⟨#[n]⟩)))) (Po G c σ e B Q) := h
      obtain ⟨zl, h⟩ := RB_iff h
      rw [RB_bind] at h
      obtain ⟨n, q, h⟩ := RB_ofO h
      exact ⟨z, i, n, i1, i2, line_le zl, q, Po.sh h R rfl⟩⟩
    all_goals exact ⟨_, ix_list, fun _ _ _ _ _ _ _ _ _ _ h => False.elim h⟩
  all_goals exact ⟨_, ix_list, fun _ _ _ _ _ _ _ _ _ _ h => False.elim h⟩

/-! ### attributes -/
def fld (f : Str) : List Str → List W → Option W
  | n :: ns, v :: vs => if f = n then some v else fld f ns vs
  | _, _ => none
theorem fld_is {f : Str} {B : Hp} : ∀ {fs : List (Str × V)} {vs : List W} {w : W}, Iss G B vs (fs.map (·.2)) → fld f (fs.map (·.1)) vs = some w → ∃ v, fs.lookup f = some v ∧ Is G B w v
  | [], _, _, _, h => by simp [fld] at h
  | (g, x) :: r, [], _, _, h => by simp [fld] at h
  | (g, x) :: r, v :: vs, w, ⟨y, l, h1, h2, h3⟩, h => by
    injection h1 with e1 e2
    subst e1
    rw [List.map_cons] at h
    simp only [fld] at h
    by_cases q : f = g
    · rw [if_pos q] at h; cases h
      exact ⟨x, by simp [List.lookup, q], h2⟩
    · rw [if_neg q] at h
      obtain ⟨v', e3, i3⟩ := fld_is (by rw [e2]; exact h3) h
      refine ⟨v', ?_, i3⟩
      have : (f == g) = false := beq_eq_false_iff_ne.mpr q
      simp only [List.lookup, this]; exact e3
def fFld (cn f : Str) (w : W) : R Rs := match w with
  | .obj c ns vs => iff (c = cn) ((ofO (fld f ns vs)).bind fun v => .ok (.sh v))
  | _ => .bad
/-- what a class is to a field f of its instances -/
def FldOk (X : Cx) (G : Gm) (cn f : Str) : Prop := ∀ C, G.cls cn = some C → Cls X.K C ∧ NoAttr X.K C f
theorem we_fld (cn : Str) {f : Str} (hf : FldOk X G cn f) (ha : WE X G c a ma) (hb : attributeBase a f X.env (eval a X.env) = eval a X.env := by rfl) : WE X G c (.Attribute a f pos) (mUn (fFld cn f) ma) := ⟨fun pins s σ H Q I q => (pe_fld ha hb).run pins s σ H Q I (by
  obtain ⟨e, B, R, q⟩ := q
  rw [mUn, RB_bind] at q
  refine tW1 R (q.mono fun t q x H1 B1 R1 s1 i1 => ?_)
  rw [RB_bind] at q
  obtain ⟨w, e1⟩ := t
  cases w <;> first | exact False.elim q | skip
  rename_i cc ns vs
  simp only [fFld] at q
  obtain ⟨z, q2⟩ := RB_iff q
  rw [RB_bind] at q2
  obtain ⟨v, z2, q3⟩ := RB_ofO q2
  obtain ⟨p, rfl, C, dx, fs, hC, hp, hn, hi⟩ := i1
  rw [z] at hC
  obtain ⟨c1, c2⟩ := hf C hC
  rw [← hn] at z2
  obtain ⟨y, l, iy⟩ := fld_is hi z2
  exact ⟨p, C, dx, fs, y, rfl, hp, c1, c2, l, q3 y H1 B1 R1 s1 iy⟩)⟩

/-! ### tests -/
def mTc (m : Mx) : Mt := fun e => (m1 m e).bind fun t => match t.1 with
  | .bl b => .ok (b, t.2)
  | _ => .bad
def truth : W → R Bool
  | .non => .ok false
  | .bl b => .ok b
  | .int i => .ok (i != 0)
  | .str s => iff (s.length ≤ line) (.ok ((s.length : Int) != 0))
  | .lst ws => .ok (!ws.isEmpty)
  | .tup ws => .ok (!ws.isEmpty)
  | _ => .bad
def mTru (m : Mx) : Mt := fun e => (m1 m e).bind fun t => (truth t.1).bind fun b => .ok (b, t.2)
def mAnd (a b : Mt) : Mt := fun e => (a e).bind fun p => if p.1 then b p.2 else .ok (false, p.2)
def mOr (a b : Mt) : Mt := fun e => (a e).bind fun p => if p.1 then .ok (true, p.2) else b p.2
def mNot (a : Mt) : Mt := fun e => (a e).bind fun p => .ok (!p.1, p.2)
def mIfE (t : Mt) (a b : Mx) : Mx := fun e => (t e).bind fun p => if p.1 then a p.2 else b p.2
def mAndV (a b : Mx) : Mx := fun e => (m1 a e).bind fun t => match t.1 with
  | .bl true => b t.2
  | .bl false => .ok (.sh (.bl false), t.2)
  | _ => .bad
def mOrV (a b : Mx) : Mx := fun e => (m1 a e).bind fun t => match t.1 with
  | .bl false => b t.2
  | .bl true => .ok (.sh (.bl true), t.2)
  | _ => .bad
def mNotV (a : Mx) : Mx := mUn (fun w => match w with | .bl b => .ok (.sh (.bl (!b))) | _ => .bad) a

theorem PT.imp {t t' : TT} (h : PT X a t) (i : ∀ σ H Q, t' σ H Q → t σ H Q) : PT X a t' := ⟨fun pins s σ H Q I q => h.run pins s σ H Q I (i σ H Q q)⟩
theorem PW.imp {t t' : TT} (h : PW X a t) (i : ∀ σ H Q, t' σ H Q → t σ H Q) : PW X a t' := ⟨fun wh pins s σ H Q I q => h.run wh pins s σ H Q I (i σ H Q q)⟩
theorem PE.imp {t t' : TE} (h : PE X a t) (i : ∀ σ H Q, t' σ H Q → t σ H Q) : PE X a t' := ⟨fun pins s σ H Q I q => h.run pins s σ H Q I (i σ H Q q)⟩
/-- the bool that an expression yields -/
theorem tTc {K : Bool → Hp → Prop} {t : TE} (ht : t = tW G c ma) (R : Rel G c σ e H B) (h : RB G c (mTc ma e) fun t => ∀ H1 B1, Rel G c σ t.2 H1 B1 → Sub B B1 → K t.1 H1) : t σ H fun x H1 => ∃ k, x = .bl k ∧ K k H1 := by
  subst ht
  rw [mTc, RB_bind] at h
  refine tW1 R (h.mono fun t h x H1 B1 R1 s1 i1 => ?_)
  obtain ⟨w, e1⟩ := t
  cases w <;> first | exact False.elim h | skip
  rename_i b
  exact ⟨b, i1, h H1 B1 R1 s1⟩
theorem wt_val (ha : WE X G c a ma) (he : ∀ whole, isTrue a X.env whole = (do let v ← whole; standAt a.pos; holding [v] (truthy v)) := by intro _; rfl) : WT X G c a (mTc ma) :=
  PT.imp (pt_val ha he) fun σ H Q ⟨e, B, R, h⟩ => tTc rfl R h
theorem wt_cmp {op : CmpOp} {f : W → W → R Rs} (ho : OpW X G c (compareOp op) f) (ha : WE X G c a ma) (hb : WE X G c b mb) (hm : behindInMarks op b = false := by first | exact nomark _ | rfl) : WT X G c (.Compare a [op] [b] pos) (mTc (mBin f ma mb)) := by
  refine ⟨fun pins s σ H Q I h => ?_⟩
  obtain ⟨e, B, R, h⟩ := h
  let Q' : VK := fun z H' => ∃ k, z = .bl k ∧ Q k H'
  have h : RB G c (mBin f ma mb e) fun r => Po G c σ r.2 B Q' r.1 := by
    rw [mTc, m1, RB_bind, RB_bind] at h
    refine h.mono fun p h z H' B' R' s' rv => ?_
    rw [RB_bind] at h
    cases q : rd p.1 p.2 with
    | bad => rw [q] at h; exact h.elim
    | exn => exact (rd_ne q).elim
    | ok w =>
      rw [q] at h
      have i := rd_is R' rv q
      cases w with
      | bl k => exact ⟨k, i, h H' B' R' s'⟩
      | _ => exact False.elim h
  have h' := op_two (r := fun _ _ _ _ _ _ => True) (K := fun w1 w2 x y H2 => (ho w1 w2).choose x y H2 Q') R h fun w1 w2 x y e2 H2 B2 _ R2 s i1 i2 p => (ho w1 w2).choose_spec.2 σ e2 H2 B2 x y Q' R2 i1 i2 p
  cases q : m2 ma mb e with
  | bad => rw [q] at h'; exact h'.elim
  | exn =>
    refine (pt_cmpR (ho .non .non).choose_spec.1 ha hb hm).run pins s σ H Q I (tW2 R ?_)
    rw [q] at h' ⊢; exact h'
  | ok t =>
    refine (pt_cmpR (ho t.1 t.2.1).choose_spec.1 ha hb hm).run pins s σ H Q I (tW2 R ?_)
    rw [q] at h' ⊢; exact h'
theorem wt_truth (g : Ties X G) (ha : WE X G c a ma) (he : ∀ whole, isTrue a X.env whole = (do let v ← whole; standAt a.pos; holding [v] (truthy v)) := by intro _; rfl) : WT X G c a (mTru ma) :=
  PT.imp (pt_truth ha he) fun σ H Q ⟨e, B, R, h⟩ => by
    rw [mTru, RB_bind] at h
    refine tW1 R (h.mono fun t h x H1 B1 R1 s1 i1 => ?_)
    obtain ⟨w, e1⟩ := t
    rw [RB_bind] at h
    cases w with
    | non => cases (show x = .non from i1); exact ⟨false, rfl, h H1 B1 R1 s1⟩
    | bl b => cases (show x = .bl b from i1); exact ⟨b, rfl, h H1 B1 R1 s1⟩
    | int i => cases (show x = .int i from i1); exact ⟨_, rfl, h H1 B1 R1 s1⟩
    | str z => cases (show x = .str z from i1); obtain ⟨q, h⟩ := RB_iff (show RB G c (iff (z.length ≤ line) (.ok ((z.length : Int) != 0))) _ from h); exact ⟨_, ⟨line_le q, rfl⟩, h H1 B1 R1 s1⟩
    | lst ws =>
      obtain ⟨a, rfl, xs, hx, ix⟩ := i1
      refine ⟨_, .inl ⟨xs, .inl (.inl hx), ?_⟩, h H1 B1 R1 s1⟩
      have l := ix.len
      cases ws <;> cases xs <;> first | rfl | cases l
    | tup ws =>
      obtain ⟨a, xs, rfl, hx, ix⟩ := i1
      rw [g.K] at hx
      refine ⟨_, .inr (.inl ⟨xs, sub_sqt R1.sub hx, ?_⟩), h H1 B1 R1 s1⟩
      have l := ix.len
      cases ws <;> cases xs <;> first | rfl | cases l
    | dic => exact False.elim h
    | tdc => exact False.elim h
    | obj => exact False.elim h
    | scr => exact False.elim h
    | cl => exact False.elim h
abbrev WP (X : Cx) (G : Gm) (c : Ct) (e : Expr) (m : Mt) : Prop := PW X e (tWT G c m)
variable {ta tb : Mt} {rest : List Expr}
theorem wp_and1 (ha : WT X G c a ta) : WP X G c (.BoolOp .And [a] pos) ta := pw_and1 ha
theorem wp_or1 (ha : WT X G c a ta) : WP X G c (.BoolOp .Or [a] pos) ta := pw_or1 ha
theorem wp_and (ha : WT X G c a ta) (hb : WP X G c (.BoolOp .And (b :: rest) pos) tb) : WP X G c (.BoolOp .And (a :: b :: rest) pos) (mAnd ta tb) := PW.imp (pw_and ha hb) fun σ H Q ⟨e, B, R, h⟩ => by
  rw [mAnd, RB_bind] at h
  refine ⟨e, B, R, h.mono fun p h H1 B1 R1 s1 => ?_⟩
  obtain ⟨k, e1⟩ := p
  cases k with
  | true => exact ⟨e1, B1, R1, h.mono fun q h H2 B2 R2 s2 => h H2 B2 R2 (s1.trans s2)⟩
  | false => exact h H1 B1 R1 s1
theorem wp_or (ha : WT X G c a ta) (hb : WP X G c (.BoolOp .Or (b :: rest) pos) tb) : WP X G c (.BoolOp .Or (a :: b :: rest) pos) (mOr ta tb) := PW.imp (pw_or ha hb) fun σ H Q ⟨e, B, R, h⟩ => by
  rw [mOr, RB_bind] at h
  refine ⟨e, B, R, h.mono fun p h H1 B1 R1 s1 => ?_⟩
  obtain ⟨k, e1⟩ := p
  cases k with
  | false => exact ⟨e1, B1, R1, h.mono fun q h H2 B2 R2 s2 => h H2 B2 R2 (s1.trans s2)⟩
  | true => exact h H1 B1 R1 s1
theorem wt_bool (h : WP X G c a ta) : WT X G c a ta := PW.pt h
theorem wt_not (ha : WT X G c a ta) : WT X G c (.UnaryOp .Not a pos) (mNot ta) := PT.imp (pt_not ha) fun σ H Q ⟨e, B, R, h⟩ => by
  rw [mNot, RB_bind] at h
  exact ⟨e, B, R, h⟩
theorem we_if {t : Expr} (ht : WT X G c t ta) (ha : WE X G c a ma) (hb : WE X G c b mb) : WE X G c (.IfExp t a b pos) (mIfE ta ma mb) := PE.imp (pe_ifExp ht ha hb) fun σ H Q ⟨e, B, R, h⟩ => by
  rw [mIfE, RB_bind] at h
  refine ⟨e, B, R, h.mono fun p h H1 B1 R1 s1 => ?_⟩
  obtain ⟨k, e1⟩ := p
  cases k with
  | true => exact ⟨e1, B1, R1, h.mono fun q h v H2 B2 R2 s2 => h v H2 B2 R2 (s1.trans s2)⟩
  | false => exact ⟨e1, B1, R1, h.mono fun q h v H2 B2 R2 s2 => h v H2 B2 R2 (s1.trans s2)⟩
theorem we_one {op} (ha : WE X G c a ma) : WE X G c (.BoolOp op [a] pos) ma := pe_one ha
theorem we_and (ha : WE X G c a ma) (hb : WE X G c (.BoolOp .And (b :: rest) pos) mb) : WE X G c (.BoolOp .And (a :: b :: rest) pos) (mAndV ma mb) := PE.imp (pe_and ha hb) fun σ H Q ⟨e, B, R, h⟩ => by
  rw [mAndV, RB_bind] at h
  refine tW1 R (h.mono fun t h x H1 B1 R1 s1 i1 => ?_)
  obtain ⟨w, e1⟩ := t
  cases w <;> first | exact False.elim h | skip
  rename_i k
  cases k with
  | true => exact ⟨true, i1, e1, B1, R1, RB.mono (show RB G c (mb e1) _ from h) fun q h v H2 B2 R2 s2 => h v H2 B2 R2 (s1.trans s2)⟩
  | false => exact ⟨false, i1, h (.bl false) H1 B1 R1 s1 rfl⟩
theorem we_or (ha : WE X G c a ma) (hb : WE X G c (.BoolOp .Or (b :: rest) pos) mb) : WE X G c (.BoolOp .Or (a :: b :: rest) pos) (mOrV ma mb) := PE.imp (pe_or ha hb) fun σ H Q ⟨e, B, R, h⟩ => by
  rw [mOrV, RB_bind] at h
  refine tW1 R (h.mono fun t h x H1 B1 R1 s1 i1 => ?_)
  obtain ⟨w, e1⟩ := t
  cases w <;> first | exact False.elim h | skip
  rename_i k
  cases k with
  | false => exact ⟨false, i1, e1, B1, R1, RB.mono (show RB G c (mb e1) _ from h) fun q h v H2 B2 R2 s2 => h v H2 B2 R2 (s1.trans s2)⟩
  | true => exact ⟨true, i1, h (.bl true) H1 B1 R1 s1 rfl⟩
theorem we_not (ha : WE X G c a ma) : WE X G c (.UnaryOp .Not a pos) (mNotV ma) := PE.imp (pe_not ha) fun σ H Q ⟨e, B, R, h⟩ => by
  rw [mNotV, mUn, RB_bind] at h
  refine tW1 R (h.mono fun t h x H1 B1 R1 s1 i1 => ?_)
  rw [RB_bind] at h
  obtain ⟨w, e1⟩ := t
  cases w <;> first | exact False.elim h | skip
  rename_i k
  exact ⟨k, i1, h _ H1 B1 R1 s1 rfl⟩
end
end WL
end F_WLX

section F_WLS
/-! WLS: statements, targets, loops, defs and their calls. -/
namespace WL
open PySem PySem.Spec PyProof.Rows L2

/-- where a piece of a def's text stands -/
structure Here (X : Cx) (G : Gm) (c : Ct) (k : Nat) : Prop where
  g : Ties X G
  q : Quiet X.A
  r : Room k X.A
  tk : Takes X (fun cls d _ H => c.E cls d H)
  calm : X.calm = true
  nd : X.N.Nodup

/-! ### what a def is worth -/
def fin (r : Rs) (e : En) : R Rs := match r with
  | .sh w => .ok (.sh w)
  | .fr w => .ok (.fr w)
  | .nm i => match e[i]? with
    | some (.sh w) => .ok (.sh w)
    | some (.ow false w) => .ok (.fr w)
    | _ => .bad
def mBody (j : Nat) (m : Ms) (ws : List W) : R Rs := (m (ws.map .sh ++ List.replicate j .un)).bind fun p => match p.1 with
  | .nx => .ok (.sh .non)
  | .rt r => fin r p.2
  | _ => .bad
def RO (G : Gm) (H B' H' : Hp) (v : V) : Rs → Prop
  | .sh w => Is G B' w v
  | .fr w => ∃ a, v = .ref a ∧ B' a = none ∧ H a = none ∧ Own G B' H' a w
  | .nm _ => False
def spW (G : Gm) (n : Nat) (g : List W → R Rs) : Sp := fun vs H Q E => ∃ B ws, ws.length = n ∧ Sub B H ∧ Iss G B ws vs ∧
  RB G ⟨H, B, fun _ => False, E⟩ (g ws) fun r => ∀ v H' B', Sub B B' → Sub B' H' → (∀ {a : Addr} {o : HO}, B' a = some o → (∃ u, B a = some u) ∨ H a = none) → (∀ {a : Addr} {o : HO}, H a = some o → H' a = some o) → RO G H B' H' v r → Q v H'
/-- a def whose first argument is changed -/
def own0 (e : En) : Option W := match e with
  | Sl.ow true w :: _ => some w
  | _ => none
def mBodyI (j : Nat) (m : Ms) (w0 : W) (ws : List W) : R (Rs × W) := (m (.ow true w0 :: ws.map .sh ++ List.replicate j .un)).bind fun p => match own0 p.2 with
  | some w1 => (match p.1 with
    | .nx => .ok (.sh .non, w1)
    | .rt r => (fin r p.2).bind fun r => .ok (r, w1)
    | _ => .bad)
  | none => .bad
def spI (G : Gm) (n : Nat) (g : W → List W → R (Rs × W)) : Sp := fun vs H Q E => ∃ B f w0 ws vr, vs = .ref f :: vr ∧ ws.length = n ∧ Sub B H ∧ B f = none ∧ Own G B H f w0 ∧ Iss G B ws vr ∧
  RB G ⟨H, B, fun z => z = f, E⟩ (g w0 ws) fun r => ∀ v H' B', Sub B B' → Sub B' H' → (∀ {a : Addr} {o : HO}, B' a = some o → (∃ u, B a = some u) ∨ H a = none) → (∀ {a : Addr} {o : HO}, H a = some o → a ≠ f → H' a = some o) →
    B' f = none → Own G B' H' f r.2 → RO G H B' H' v r.1 → Q v H'

section
variable {G : Gm} {c : Ct} {σ : L2.St} {e : En} {H B H' B' : Hp} {v : V} {r r' : Rs}
theorem fin_is (R : Rel G c σ e H B) (h : RV G c σ e H B v r) (k : fin r e = .ok r') (hO : c.H0 = H → True) : (match r' with | .sh w => Is G B w v | .fr w => ∃ a, v = .ref a ∧ B a = none ∧ c.H0 a = none ∧ Own G B H a w | .nm _ => False) := by
  cases r with
  | sh w => cases k; exact h
  | fr w => cases k; obtain ⟨a, h1, h2, h3, _, h5⟩ := h; exact ⟨a, h1, h2, h3, h5⟩
  | nm i =>
    have h : σ[i]? = some (some v) := h
    unfold fin at k
    cases q : e[i]? with
    | none => simp [q] at k
    | some s =>
      cases s with
      | un => simp [q] at k
      | sh w' =>
        simp only [q, WL.R.ok.injEq] at k
        subst k
        obtain ⟨v', h1, h2⟩ := R.sh q
        rw [h] at h1; cases h1
        exact h2
      | ow b w' =>
        cases b with
        | true => simp [q] at k
        | false =>
          simp only [q, WL.R.ok.injEq] at k
          subst k
          obtain ⟨a, h1, h2, _, h4, h5⟩ := R.ow q
          rw [h] at h1; cases h1
          exact ⟨a, rfl, h2, h4 rfl, h5⟩
theorem fin_ne {x : Str} {ns : List Str} {ws : List W} (h : fin r e = .exn x ns ws) : False := by
  revert h; unfold fin; split <;> (try split) <;> intro q <;> cases q
theorem start_rel {n j : Nat} {N : List Str} {ws : List W} {vs : List V} {E : XK} (hN : N.length = n + j) (hn : ws.length = n) (s : Sub B H) (is : Iss G B ws vs) : Rel G ⟨H, B, fun _ => False, E⟩ (start N vs) (ws.map .sh ++ List.replicate j .un) H B := by
  have l := is.len
  have look : ∀ {i : Nat} {b : Sl}, (ws.map Sl.sh ++ List.replicate j Sl.un)[i]? = some b → b ≠ .un → ∃ w, ws[i]? = some w ∧ b = .sh w := fun {i b} hi ne => by
    by_cases q : i < ws.length
    · rw [List.getElem?_append_left (by simpa using q), List.getElem?_map] at hi
      cases z : ws[i]? with
      | none => rw [z] at hi; cases hi
      | some w => rw [z] at hi; cases hi; exact ⟨w, rfl, rfl⟩
    · rw [List.getElem?_append_right (by simpa using q), List.getElem?_replicate] at hi
      split at hi
      · cases hi; exact (ne rfl).elim
      · cases hi
  refine ⟨?_, fun {i w} hi => ?_, fun {i b w} hi => ?_, fun {i j b b' w w' a} _ hi => ?_, s, Sub.refl B, fun e1 => .inl ⟨_, e1⟩, fun e1 _ => e1, fun e1 => ⟨_, e1⟩⟩
  · unfold L2.start
    simp only [List.length_append, List.length_map, List.length_replicate]
    omega
  · obtain ⟨w', h1, h2⟩ := look hi (by simp)
    cases h2
    obtain ⟨x, h3, h4⟩ := is.get h1
    refine ⟨x, ?_, h4⟩
    unfold L2.start
    rw [List.getElem?_append_left (by rw [List.length_map]; exact (List.getElem?_eq_some_iff.mp h3).1), List.getElem?_map, h3]
    rfl
  · obtain ⟨w', h1, h2⟩ := look hi (by simp)
    cases h2
  · obtain ⟨w', h1, h2⟩ := look hi (by simp)
    cases h2
theorem start_relI {n j : Nat} {N : List Str} {w0 : W} {ws : List W} {f : Addr} {vs : List V} {E : XK} (hN : N.length = n + 1 + j) (hn : ws.length = n) (s : Sub B H) (hf : B f = none) (ho : Own G B H f w0) (is : Iss G B ws vs) :
    Rel G ⟨H, B, fun z => z = f, E⟩ (start N (.ref f :: vs)) (.ow true w0 :: ws.map .sh ++ List.replicate j .un) H B := by
  have l := is.len
  have look : ∀ {i : Nat} {b : Sl}, (Sl.ow true w0 :: ws.map Sl.sh ++ List.replicate j Sl.un)[i]? = some b → b ≠ .un → (i = 0 ∧ b = .ow true w0) ∨ ∃ k w, i = k + 1 ∧ ws[k]? = some w ∧ b = .sh w := fun {i b} hi ne => by
    cases i with
    | zero => simp at hi; exact .inl ⟨rfl, hi.symm⟩
    | succ i =>
      have hi : (ws.map Sl.sh ++ List.replicate j Sl.un)[i]? = some b := hi
      by_cases q : i < ws.length
      · rw [List.getElem?_append_left (by simpa using q), List.getElem?_map] at hi
        cases z : ws[i]? with
        | none => rw [z] at hi; cases hi
        | some w => rw [z] at hi; cases hi; exact .inr ⟨i, w, rfl, z, rfl⟩
      · rw [List.getElem?_append_right (by simpa using q), List.getElem?_replicate] at hi
        split at hi
        · cases hi; exact (ne rfl).elim
        · cases hi
  refine ⟨?_, fun {i w} hi => ?_, fun {i b w} hi => ?_, fun {i j b b' w w' a} ne hi hj => ?_, s, Sub.refl B, fun e1 => .inl ⟨_, e1⟩, fun e1 _ => e1, fun e1 => ⟨_, e1⟩⟩
  · unfold L2.start
    simp only [List.length_append, List.length_map, List.length_replicate, List.length_cons]
    omega
  · rcases look hi (by simp) with ⟨_, h2⟩ | ⟨k, w', rfl, h1, h2⟩
    · cases h2
    · cases h2
      obtain ⟨x, h3, h4⟩ := is.get h1
      refine ⟨x, ?_, h4⟩
      unfold L2.start
      show (vs.map some ++ _)[k]? = _
      rw [List.getElem?_append_left (by rw [List.length_map]; exact (List.getElem?_eq_some_iff.mp h3).1), List.getElem?_map, h3]
      rfl
  · rcases look hi (by simp) with ⟨rfl, h2⟩ | ⟨k, w', rfl, h1, h2⟩
    · cases h2
      exact ⟨f, rfl, hf, fun _ => rfl, (fun z => nomatch z), ho⟩
    · cases h2
  · rcases look hi (by simp) with ⟨rfl, h2⟩ | ⟨k, w', rfl, h1, h2⟩
    · rcases look hj (by simp) with ⟨rfl, h2⟩ | ⟨k, w', rfl, h1, h2⟩
      · exact (ne rfl).elim
      · cases h2
    · cases h2
end

section
variable {P : Program} {w : World} {K : PySem.W.Frag} {mg : Str → Option Value} {base : Heap} {k : Nat} {f : Addr} {fd : FuncData} {N ps : List Str} {cls : Str → Option Addr} {x qual : Str} {st : Stmt} {n j : Nat} {m : Ms}
/-- a def, by its body -/
theorem fnW (F : Fun K x qual st f fd) (S : FnScope N ps (defScope st)) (hn : ps.length = n) (hN : N.length = n + j)
    (hb : ∀ (X : Cx) (c : Ct), X.N = N → X.env.scope = defScope st → X.mg = mg → X.K = K → X.prog = P → X.w = w → X.base = base → X.fn = (fun _ => true) → PassesOwn (model X.prog X.w) X.A X.env X.xe → Here X ⟨P, w, K, cls⟩ c k → WSs X ⟨P, w, K, cls⟩ c (defBody st) m) :
    FnG P w K mg base (L2.CX P w) (k + 1) f fd ps (spW ⟨P, w, K, cls⟩ n (mBody j m)) := by
  obtain ⟨oc, od, kV, doc, pm, an, cdv, ct, osl, rfl, lk, hcd⟩ := F.ex
  refine fnG_body lk hcd S (fun h => ?_) fun A outer s H vs Q E hq hr h => ?_
  · obtain ⟨B, ws, h1, _, h3, _⟩ := h
    rw [hn, ← h1, h3.len]
  · obtain ⟨B, ws, h1, h2, h3, h4⟩ := h
    refine ⟨_, hb _ ⟨H, B, fun _ => False, E⟩ rfl rfl rfl rfl rfl rfl rfl rfl (passes_of rfl) ⟨⟨rfl, rfl, rfl⟩, hq, hr, takes_of rfl rfl rfl rfl, rfl, S.nd⟩, ws.map .sh ++ List.replicate j .un, B, start_rel hN h1 h2 h3, ?_⟩
    rw [mBody, RB_bind] at h4
    refine h4.mono fun p h => ?_
    obtain ⟨fl, e'⟩ := p
    cases fl with
    | nx => exact fun σ' H' B' R' s' => h .non H' B' s' R'.sub (fun e1 => R'.new e1) (fun e1 => R'.keep e1 (fun z => z)) rfl
    | rt r =>
      intro v σ' H' B' R' s' rv
      have h : RB _ _ (fin r e') _ := h
      cases q : fin r e' with
      | bad => rw [q] at h; exact h.elim
      | exn => exact (fin_ne q).elim
      | ok r' =>
        rw [q] at h
        refine h v H' B' s' R'.sub (fun e1 => R'.new e1) (fun e1 => R'.keep e1 (fun z => z)) ?_
        have z := fin_is R' rv q fun _ => trivial
        cases r' <;> exact z
    | bk => exact h.elim
    | ct => exact h.elim
/-- a def whose first argument is changed, by its body -/
theorem fnI (F : Fun K x qual st f fd) (S : FnScope N ps (defScope st)) (hn : ps.length = n + 1) (hN : N.length = n + 1 + j)
    (hb : ∀ (X : Cx) (c : Ct), X.N = N → X.env.scope = defScope st → X.mg = mg → X.K = K → X.prog = P → X.w = w → X.base = base → X.fn = (fun _ => true) → PassesOwn (model X.prog X.w) X.A X.env X.xe → Here X ⟨P, w, K, cls⟩ c k → WSs X ⟨P, w, K, cls⟩ c (defBody st) m) :
    FnG P w K mg base (L2.CX P w) (k + 1) f fd ps (spI ⟨P, w, K, cls⟩ n (mBodyI j m)) := by
  obtain ⟨oc, od, kV, doc, pm, an, cdv, ct, osl, rfl, lk, hcd⟩ := F.ex
  refine fnG_body lk hcd S (fun h => ?_) fun A outer s H vs Q E hq hr h => ?_
  · obtain ⟨B, f, w0, ws, vr, rfl, h1, _, _, _, h3, _⟩ := h
    rw [hn, ← h1, h3.len]; rfl
  · obtain ⟨B, f, w0, ws, vr, rfl, h1, h2, hf, ho, h3, h4⟩ := h
    refine ⟨_, hb _ ⟨H, B, fun z => z = f, E⟩ rfl rfl rfl rfl rfl rfl rfl rfl (passes_of rfl) ⟨⟨rfl, rfl, rfl⟩, hq, hr, takes_of rfl rfl rfl rfl, rfl, S.nd⟩, .ow true w0 :: ws.map .sh ++ List.replicate j .un, B, start_relI hN h1 h2 hf ho h3, ?_⟩
    rw [mBodyI, RB_bind] at h4
    refine h4.mono fun p h => ?_
    obtain ⟨fl, e'⟩ := p
    cases q0 : own0 e' with
    | none => simp only [q0] at h; exact h.elim
    | some w1 =>
          simp only [q0] at h
          have q0 : e'[0]? = some (Sl.ow true w1) := by
            unfold own0 at q0
            split at q0
            · cases q0; rfl
            · cases q0
          -- the first argument, at the end
          have at0 : ∀ {σ' : L2.St} {H' B' : Hp}, Rel ⟨P, w, K, cls⟩ ⟨H, B, fun z => z = f, E⟩ σ' e' H' B' → B' f = none ∧ Own ⟨P, w, K, cls⟩ B' H' f w1 := fun {σ' H' B'} R' => by
            obtain ⟨a, _, z2, z3, _, z5⟩ := R'.ow q0
            have : a = f := z3 rfl
            subst this
            exact ⟨z2, z5⟩
          cases fl with
          | nx =>
            intro σ' H' B' R' s'
            obtain ⟨z1, z2⟩ := at0 R'
            exact h .non H' B' s' R'.sub (fun e1 => R'.new e1) (fun e1 ne => R'.keep e1 ne) z1 z2 rfl
          | rt r =>
            intro v σ' H' B' R' s' rv
            obtain ⟨z1, z2⟩ := at0 R'
            have h : RB _ _ ((fin r e').bind fun r => .ok (r, w1)) _ := h
            rw [RB_bind] at h
            cases q : fin r e' with
            | bad => rw [q] at h; exact h.elim
            | exn => exact (fin_ne q).elim
            | ok r' =>
              rw [q] at h
              refine h v H' B' s' R'.sub (fun e1 => R'.new e1) (fun e1 ne => R'.keep e1 ne) z1 z2 ?_
              have z := fin_is R' rv q fun _ => trivial
              cases r' <;> exact z
          | bk => exact h.elim
          | ct => exact h.elim
end

/-! ### calls -/
section
variable {G : Gm} {c : Ct} {σ : L2.St} {e : En} {H B H' B' : Hp} {v : V} {r r' : Rs}
/-- behind a callee that left all as it was -/
theorem Rel.callee (R : Rel G c σ e H B) (s : Sub B B') (s' : Sub B' H') (nw : ∀ {a : Addr} {o : HO}, B' a = some o → (∃ u, B a = some u) ∨ H a = none) (kp : ∀ {a : Addr} {o : HO}, H a = some o → H' a = some o) : Rel G c σ e H' B' := by
  refine ⟨R.len, fun hi => ?_, fun hi => ?_, R.dj, s', R.old.trans s, fun e1 => ?_, fun e1 hO => kp (R.keep e1 hO), fun e1 => ?_⟩
  · obtain ⟨v, h1, h2⟩ := R.sh hi
    exact ⟨v, h1, h2.mono s⟩
  · obtain ⟨a, h1, h2, h3, h4, h5⟩ := R.ow hi
    obtain ⟨u, hu⟩ := h5.some
    refine ⟨a, h1, ?_, h3, h4, h5.to s fun _ => kp⟩
    cases q : B' a with
    | none => rfl
    | some o =>
      rcases nw q with ⟨u', hu'⟩ | z
      · rw [h2] at hu'; cases hu'
      · rw [hu] at z; cases z
  · rcases nw e1 with ⟨u, hu⟩ | z
    · exact R.new hu
    · exact .inr (R.h0 z)
  · obtain ⟨u, hu⟩ := R.dom e1
    exact ⟨u, kp hu⟩
theorem XW.up {cl : Str} {ns : List Str} {ws : List W} (R : Rel G c σ e H B) (h : XW G c cl ns ws) : XW G ⟨H, B, fun _ => False, c.E⟩ cl ns ws := fun C d H' B' fs h1 h2 h3 h4 h5 h6 h7 h8 h9 =>
  h C d H' B' fs h1 h2 h3 h4 h5 (R.old.trans h6) (fun e1 => by
    rcases h7 e1 with ⟨u, hu⟩ | z
    · exact R.new hu
    · exact .inr (R.h0 z)) (fun e1 hO => h8 (R.keep e1 hO) (fun z => z)) (R.h0 h9)
theorem RB.up {α : Type} {r : R α} {k : α → Prop} (R : Rel G c σ e H B) (h : RB G c r k) : RB G ⟨H, B, fun _ => False, c.E⟩ r k := by
  cases r with
  | ok a => exact h
  | exn => exact XW.up R h
  | bad => exact h
theorem RO.rv (R : Rel G c σ e H B) (h : RO G H B' H' v r) (kp : ∀ {a : Addr} {o : HO}, H a = some o → H' a = some o) : RV G c σ e H' B' v r := by
  cases r with
  | sh w => exact h
  | fr w =>
    obtain ⟨a, h1, h2, h3, h4⟩ := h
    exact ⟨a, h1, h2, R.h0 h3, R.nobody h3, h4⟩
  | nm i => exact h.elim
end
def mCall (g : List W → R Rs) (a : Ma) : Mx := fun e => (a e).bind fun p => (g p.1).bind fun r => .ok (r, p.2)
section
variable {X : Cx} {G : Gm} {c : Ct} {k k' : Nat} {pos p apos : Pos} {o a : Expr} {es : List Expr} {mo : Mx} {mr : Ma} {σ : L2.St} {e : En} {H B : Hp} {f C : Addr} {fd : FuncData} {ps : List Str} {x m : Str} {n : Nat} {g : List W → R Rs}
theorem passW (h : Here X G c k) : Passes (L2.CX X.prog X.w) X c.E := passes_call h.tk fun _ _ _ _ q => q
/-- the promise, from the caller's side -/
theorem spW_use {Q : VK} {ws : List W} {vs : List V} (R : Rel G c σ e H B) (hn : ws.length = n) (i : Iss G B ws vs) (h : RB G c (g ws) (Po G c σ e B Q)) : spW G n g vs H Q c.E :=
  ⟨B, ws, hn, R.sub, i, (RB.up R h).mono fun r po v H' B' s s' nw kp ro => po v H' B' (R.callee s s' nw kp) s (ro.rv R kp)⟩
/-- what a def of the text is -/
structure Def (X : Cx) (x : Str) (k : Nat) (f : Addr) (fd : FuncData) (ps : List Str) (sp : Sp) : Prop where
  F : FnG X.prog X.w X.K X.mg X.base (L2.CX X.prog X.w) k f fd ps sp
  m : X.mg x = some (.ref f)
  kp : PySem.W.keepIn X.K (.ref f) = true
  b : Binds X.K fd ps []
theorem we_call (h : Here X G c k) (D : Def X x k' f fd ps (spW G n g)) (hk : k' ≤ k) (ha : WA X G c (a :: es) mr) (hl : ∀ e r, mr e = .ok r → r.1.length = n) (hg : Gl X x := by rfl) (hdb : (x == ("__debug__" : Str)) = false := by decide)
    (he : starEach (a :: es) X.env = (false, eval a X.env) :: starEach es X.env := by rfl) (hpl : (backTo pos (starEach es X.env)).any (·.1) = false := by rfl) : WE X G c (.Call (.Name x p) (a :: es) [] pos) (mCall g mr) :=
  PE.imp (pg_call D.F h.q (h.r.mono hk) hg D.m D.kp D.b (passW h) ha hdb he hpl) fun σ H Q ⟨e, B, R, q⟩ => by
    rw [mCall, RB_bind] at q
    refine ⟨e, B, R, ?_⟩
    cases z : mr e with
    | bad => rw [z] at q; exact q.elim
    | exn => rw [z] at q; exact q
    | ok r =>
      rw [z] at q
      intro vs H1 B1 R1 s1 i1
      refine spW_use R1 (hl e r z) i1 ?_
      have q : RB G c ((g r.1).bind fun t => .ok (t, r.2)) _ := q
      rw [RB_bind] at q
      exact q.mono fun t po v H' B' R' s' => po v H' B' R' (s1.trans s')
theorem we_call0 (h : Here X G c k) (D : Def X x k' f fd ps (spW G 0 g)) (hk : k' ≤ k) (hg : Gl X x := by rfl) (hdb : (x == ("__debug__" : Str)) = false := by decide) : WE X G c (.Call (.Name x p) [] [] pos) (mCall g mNilA) :=
  PE.imp (pg_call0 D.F h.q (h.r.mono hk) hg D.m D.kp D.b (passW h) hdb) fun σ H Q ⟨e, B, R, q⟩ => by
    have q : RB G c ((g []).bind fun t => .ok (t, e)) _ := q
    rw [RB_bind] at q
    exact spW_use R rfl (show Iss G B [] [] from rfl) (q.mono fun t po v H' B' R' s' => po v H' B' R' s')
end
end WL
end F_WLS

section F_WLT
/-! WLT: statements, targets, loops. -/
namespace WL
open PySem PySem.Spec PyProof.Rows L2

def mNil : Ms := fun e => .ok (.nx, e)
def mSeq (a b : Ms) : Ms := fun e => (a e).bind fun p => match p.1 with
  | .nx => b p.2
  | f => .ok (f, p.2)
def mIf (t : Mt) (a b : Ms) : Ms := fun e => (t e).bind fun p => if p.1 then a p.2 else b p.2
def mExpr (m : Mx) : Ms := fun e => (m e).bind fun p => .ok (.nx, p.2)
def mRet (m : Mx) : Ms := fun e => (m e).bind fun p => .ok (.rt p.1, p.2)
def mRetN : Ms := fun e => .ok (.rt (.sh .non), e)
def mBrk : Ms := fun e => .ok (.bk, e)
def mCnt : Ms := fun e => .ok (.ct, e)
/-- x = e -/
def mSet (i : Nat) (m : Mx) : Ms := fun e => (m e).bind fun p => match p.1 with
  | .sh w => .ok (.nx, p.2.set i (.sh w))
  | .fr w => .ok (.nx, p.2.set i (.ow false w))
  | .nm j => (shr (.nm j) p.2).bind fun q => .ok (.nx, q.2.set i (.sh q.1))
/-- a target -/
abbrev Mg := W → En → R En
abbrev Mgs := List W → En → R En
def tName (i : Nat) : Mg := fun w e => .ok (e.set i (.sh w))
def tNil : Mgs := fun ws e => match ws with
  | [] => .ok e
  | _ => .bad
def tCons (t : Mg) (u : Mgs) : Mgs := fun ws e => match ws with
  | w :: r => (t w e).bind fun e1 => u r e1
  | [] => .bad
def tTup (n : Nat) (u : Mgs) : Mg := fun w e => match w with
  | .tup ws => iff (ws.length = n) (u ws e)
  | _ => .bad
def mAsg (m : Mx) (t : Mg) : Ms := fun e => (mSh m e).bind fun p => (t p.1 p.2).bind fun e1 => .ok (.nx, e1)
/-- a, b = x, y -/
def mPar (i j : Nat) (m : Ma) : Ms := fun e => (m e).bind fun p => match p.1 with
  | [v, w] => .ok (.nx, (p.2.set i (.sh v)).set j (.sh w))
  | _ => .bad
/-- x op= e -/
def mAug (f : W → W → R Rs) (i : Nat) (m : Mx) : Ms := fun e => match e[i]? with
  | some (.sh w) => (m1 m e).bind fun t => (f w t.1).bind fun r => (match r with
    | .sh z => .ok (.nx, t.2.set i (.sh z))
    | _ => .bad)
  | _ => .bad
def mWhile (t : Mt) (b : Ms) : Nat → Ms
  | 0, _ => .bad
  | n + 1, e => (t e).bind fun p => if p.1 then (b p.2).bind fun q => (match q.1 with
      | .nx => mWhile t b n q.2
      | .ct => mWhile t b n q.2
      | .bk => .ok (.nx, q.2)
      | .rt r => .ok (.rt r, q.2)) else .ok (.nx, p.2)
def mLoop (t : Mg) (b : Ms) : List W → Ms
  | [], e => .ok (.nx, e)
  | w :: ws, e => (t w e).bind fun e1 => (b e1).bind fun q => match q.1 with
      | .nx => mLoop t b ws q.2
      | .ct => mLoop t b ws q.2
      | .bk => .ok (.nx, q.2)
      | .rt r => .ok (.rt r, q.2)
def mFor (it : Ma) (t : Mg) (b : Ms) : Ms := fun e => (it e).bind fun p => mLoop t b p.1 p.2

section
variable {X : Cx} {G : Gm} {c : Ct} {k : Nat} {pos : Pos} {a b : Expr} {s : Stmt} {ss : List Stmt} {m ma mb : Mx} {u v : Ms} {mt : Mt} {mr : Ma} {σ : L2.St} {e : En} {H B B1 : Hp} {D : Ends} {f : Fl}

theorem FlP.mono (s : Sub B B1) (h : FlP G c D B e f) : FlP G c D B1 e f := by
  cases f with
  | nx => exact fun σ H' B' R s' => h σ H' B' R (s.trans s')
  | rt r => exact fun v σ H' B' R s' => h v σ H' B' R (s.trans s')
  | bk => exact fun σ H' B' R s' => h σ H' B' R (s.trans s')
  | ct => exact fun σ H' B' R s' => h σ H' B' R (s.trans s')
theorem PS.imp {t t' : TS} (h : PS X s t) (i : ∀ D σ H, t' D σ H → t D σ H) : PS X s t' := ⟨fun pins s σ H D I q => h.run pins s σ H D I (i D σ H q)⟩
theorem PSs.imp {t t' : TS} (h : PSs X ss t) (i : ∀ D σ H, t' D σ H → t D σ H) : PSs X ss t' := ⟨fun pins s σ H D I q => h.run pins s σ H D I (i D σ H q)⟩

theorem wss_nil : WSs X G c [] mNil := PSs.imp pss_nil fun D σ H ⟨e, B, R, h⟩ => h σ H B R (Sub.refl B)
theorem wss_one (h : WS X G c s u) : WSs X G c [s] u := pss_one h
theorem wss_cons (h1 : WS X G c s u) (h2 : WSs X G c ss v) : WSs X G c (s :: ss) (mSeq u v) := PSs.imp (pss_cons h1 h2) fun D σ H ⟨e, B, R, h⟩ => by
  rw [mSeq, RB_bind] at h
  refine ⟨e, B, R, h.mono fun p h => ?_⟩
  obtain ⟨f, e1⟩ := p
  cases f with
  | nx => exact fun σ' H' B' R' s' => ⟨e1, B', R', RB.mono (show RB G c (v e1) _ from h) fun q h => FlP.mono s' h⟩
  | rt r => exact h
  | bk => exact h
  | ct => exact h
theorem ws_pass : WS X G c (.Pass pos) mNil := PS.imp ps_pass fun D σ H ⟨e, B, R, h⟩ => h σ H B R (Sub.refl B)
theorem ws_brk : WS X G c (.Break pos) mBrk := PS.imp ps_break fun D σ H ⟨e, B, R, h⟩ => h σ H B R (Sub.refl B)
theorem ws_cnt : WS X G c (.Continue pos) mCnt := PS.imp ps_continue fun D σ H ⟨e, B, R, h⟩ => h σ H B R (Sub.refl B)
theorem ws_expr (h : WE X G c a m) (hs : swapsWith a none pos.line X.env = pure false := by rfl) : WS X G c (.Expr a pos) (mExpr m) := PS.imp (ps_expr h hs) fun D σ H ⟨e, B, R, h⟩ => by
  rw [mExpr, RB_bind] at h
  exact ⟨e, B, R, h.mono fun p h v H' B' R' s' _ => h σ H' B' R' s'⟩
theorem ws_ret (h : WE X G c a m) : WS X G c (.Return (some a) pos) (mRet m) := PS.imp (ps_ret h) fun D σ H ⟨e, B, R, h⟩ => by
  rw [mRet, RB_bind] at h
  exact ⟨e, B, R, h.mono fun p h v H' B' R' s' rv => h v σ H' B' R' s' rv⟩
theorem ws_retN : WS X G c (.Return none pos) mRetN := PS.imp ps_retN fun D σ H ⟨e, B, R, h⟩ => h .non σ H B R (Sub.refl B) rfl
theorem ws_if {sa sb : List Stmt} (ht : WT X G c a mt) (ha : WSs X G c sa u) (hb : WSs X G c sb v) : WS X G c (.If a sa sb pos) (mIf mt u v) := PS.imp (ps_if ht ha hb) fun D σ H ⟨e, B, R, h⟩ => by
  rw [mIf, RB_bind] at h
  refine ⟨e, B, R, h.mono fun p h H1 B1 R1 s1 => ?_⟩
  obtain ⟨q, e1⟩ := p
  cases q with
  | true => exact ⟨e1, B1, R1, RB.mono (show RB G c (u e1) _ from h) fun q h => FlP.mono s1 h⟩
  | false => exact ⟨e1, B1, R1, RB.mono (show RB G c (v e1) _ from h) fun q h => FlP.mono s1 h⟩
/-- a statement that is not come to -/
theorem ws_never : WS X G c s (fun _ => .bad) := PS.imp ps_never fun D σ H ⟨e, B, R, h⟩ => h
/-- a value that is stored at a slot -/
theorem set_post {i : Nat} {P : L2.St → Hp → Prop} (h : RB G c (mSet i m e) fun r => FlP G c D B r.2 r.1) : RB G c (m e) fun r => ∀ v H' B', Rel G c σ r.2 H' B' → Sub B B' → RV G c σ r.2 H' B' v r.1 → D.nx (σ.set i (some v)) H' := by
  rw [mSet, RB_bind] at h
  refine h.mono fun p h v H' B' R' s' rv => ?_
  obtain ⟨r, e1⟩ := p
  cases r with
  | sh w => exact h _ H' B' (R'.setSh i rv) s'
  | fr w => exact h _ H' B' (R'.setOw i rv) s'
  | nm j =>
    have h : RB G c ((shr (.nm j) e1).bind fun q => .ok (.nx, q.2.set i (.sh q.1))) fun r => FlP G c D B r.2 r.1 := h
    rw [RB_bind] at h
    cases q : shr (.nm j) e1 with
    | bad => rw [q] at h; exact h.elim
    | exn => exact (shr_ne q).elim
    | ok t =>
      rw [q] at h
      obtain ⟨B2, R2, s2, i2⟩ := shr_is R' rv (w := t.1) (e' := t.2) q
      exact h _ H' B2 (R2.setSh i i2) (s'.trans s2)
theorem ws_set (i : Nat) {x : Str} {pos' : Pos} (hh : Here X G c k) (h : WE X G c a m) (hi : X.N[i]? = some x := by rfl) (hx : Loc X.env.scope x := by first | exact Or.inl rfl | exact Or.inr rfl) (hs : swapsWith a (some (.Name x pos')) pos.line X.env = pure false := by rfl)
    (hf : X.fn x = true ∨ X.env.scope.names.lookup x = some .local := by first | exact .inl rfl | exact .inr rfl) : WS X G c (.Assign [.Name x pos'] a pos) (mSet i m) :=
  PS.imp (ps_set hh.nd hi hx h hs hf) fun D σ H ⟨e, B, R, h⟩ => ⟨e, B, R, set_post (P := D.nx) h⟩
abbrev WG (X : Cx) (G : Gm) (c : Ct) (t : Expr) (m : Mg) : Prop := PG X t (gW G c m)
abbrev WGs (X : Cx) (G : Gm) (c : Ct) (t : List Expr) (m : Mgs) : Prop := PGs X t (gWs G c m)
theorem PG.imp {t : Expr} {g g' : TG} (h : PG X t g) (i : ∀ v σ H Q, g' v σ H Q → g v σ H Q) : PG X t g' := ⟨fun pins s σ H v u Q I r q => h.run pins s σ H v u Q I r (i v σ H Q q)⟩
theorem PGs.imp {t : List Expr} {g g' : TGs} (h : PGs X t g) (i : ∀ v σ H Q, g' v σ H Q → g v σ H Q) : PGs X t g' := ⟨fun pins s σ H v u Q I r q => h.run pins s σ H v u Q I r (i v σ H Q q)⟩
theorem wg_name (i : Nat) {x : Str} (nd : X.N.Nodup) (hi : X.N[i]? = some x := by rfl) (hx : Loc X.env.scope x := by first | exact Or.inl rfl | exact Or.inr rfl) (hf : X.fn x = true ∨ X.env.scope.names.lookup x = some .local := by first | exact .inl rfl | exact .inr rfl) : WG X G c (.Name x pos) (tName i) :=
  PG.imp (pg_name nd hi hx hf) fun v σ H Q ⟨e, B, w, R, iw, h⟩ => h _ H B (R.setSh i iw) (Sub.refl B)
theorem wgs_nil : WGs X G c [] tNil := PGs.imp pgs_nil fun vs σ H Q ⟨e, B, ws, R, iw, h⟩ => by
  cases ws with
  | nil => exact ⟨iw, h σ H B R (Sub.refl B)⟩
  | cons => exact h.elim
theorem wgs_cons {t : Expr} {ts : List Expr} {g1 : Mg} {g2 : Mgs} (h1 : WG X G c t g1) (h2 : WGs X G c ts g2) (hs : (assignEach (t :: ts) X.env).map (·.2) = assign t X.env :: (assignEach ts X.env).map (·.2) := by rfl) : WGs X G c (t :: ts) (tCons g1 g2) :=
  PGs.imp (pgs_cons h1 h2 hs) fun vs σ H Q ⟨e, B, ws, R, iw, h⟩ => by
    cases ws with
    | nil => exact h.elim
    | cons w ws =>
      obtain ⟨x, r, rfl, i1, i2⟩ := iw
      have h : RB G c ((g1 w e).bind fun e1 => g2 ws e1) _ := h
      rw [RB_bind] at h
      exact ⟨x, r, rfl, e, B, w, R, i1, h.mono fun e1 h σ' H' B' R' s' => ⟨e1, B', ws, R', i2.mono s', h.mono fun e2 h σ2 H2 B2 R2 s2 => h σ2 H2 B2 R2 (s'.trans s2)⟩⟩
theorem wg_tup {es : List Expr} {n q : Nat} {g2 : Mgs} (g : Ties X G) (calm : X.calm = true) (h : WGs X G c es g2) (hn : (assignEach es X.env).length = n := by rfl) (hst : (assignEach es X.env).findIdx? (·.1) = none := by rfl) : WG X G c (.Tuple es q pos) (tTup n g2) :=
  PG.imp (pg_tup calm h hn hst) fun v σ H Q ⟨e, B, w, R, iw, h⟩ => by
    cases w with
    | tup ws =>
      obtain ⟨a, xs, rfl, h1, h2⟩ := iw
      obtain ⟨z, h⟩ := RB_iff (show RB G c (iff (ws.length = n) (g2 ws e)) _ from h)
      rw [g.K] at h1
      exact ⟨a, xs, rfl, sub_sqt R.sub h1, by rw [← h2.len]; exact z, e, B, ws, R, h2, h⟩
    | _ => exact h.elim
theorem ws_asg {t : Expr} {g : Mg} (h : WE X G c a m) (hg : WG X G c t g) (hs : swapsWithSole [t] a pos.line X.env = pure false := by rfl) (hw : swappedStores [t] a X.env = pure none := by rfl) (h1 : (assignEach [t] X.env).map (·.2) = [assign t X.env] := by rfl) : WS X G c (.Assign [t] a pos) (mAsg m g) :=
  PS.imp (ps_asg h hg hs hw h1) fun D σ H ⟨e, B, R, h⟩ => by
    rw [mAsg, RB_bind] at h
    refine tSh R (h.mono fun t h x H1 B1 R1 s1 i1 => ⟨t.2, B1, t.1, R1, i1, ?_⟩)
    rw [RB_bind] at h
    exact h.mono fun e1 h σ' H' B' R' s' => h σ' H' B' R' (s1.trans s')
theorem ws_par (i j : Nat) {x y : Str} {px py pt : Pos} {kt k2 pt2} (hh : Here X G c k) (ha : WA X G c [a, b] mr)
    (hw : swappedStores [.Tuple [.Name x px, .Name y py] kt pt] (.Tuple [a, b] k2 pt2) X.env = pure (some [x, y]) := by rfl) (hi : X.N[i]? = some x := by rfl) (hj : X.N[j]? = some y := by rfl) (hij : i ≠ j := by decide)
    (hx : X.env.scope.names.lookup x = some .local := by rfl) (hy : X.env.scope.names.lookup y = some .local := by rfl)
    (hs : swapsWithSole [.Tuple [.Name x px, .Name y py] kt pt] (.Tuple [a, b] k2 pt2) pos.line X.env = pure false := by rfl) : WS X G c (.Assign [.Tuple [.Name x px, .Name y py] kt pt] (.Tuple [a, b] k2 pt2) pos) (mPar i j mr) :=
  PS.imp (ps_par hh.calm hh.nd hi hj hij hx hy ha hw hs) fun D σ H ⟨e, B, R, h⟩ => by
    rw [mPar, RB_bind] at h
    refine ⟨e, B, R, h.mono fun p h vs H1 B1 R1 s1 i1 => ?_⟩
    obtain ⟨ws, e1⟩ := p
    match ws, h with
    | [v, w], h =>
      obtain ⟨x1, r1, e1, j1, x2, r2, e2, j2, z⟩ := i1
      cases (show r2 = [] from z)
      subst e2; subst e1
      exact ⟨x1, x2, rfl, h _ H1 B1 ((R1.setSh i j1).setSh j j2) s1⟩
    | [], h => exact h.elim
    | [_], h => exact h.elim
    | _ :: _ :: _ :: _, h => exact h.elim
theorem ws_aug (i : Nat) {x : Str} {op : Operator} {ff : W → W → R Rs} {pos' : Pos} (hh : Here X G c k) (ho : OpW X G c (inplaceOp op) ff) (h : WE X G c a m) (hi : X.N[i]? = some x := by rfl) (hx : Loc X.env.scope x := by first | exact Or.inl rfl | exact Or.inr rfl)
    (hf : X.fn x = true ∨ X.env.scope.names.lookup x = some .local := by first | exact .inl rfl | exact .inr rfl) : WS X G c (.AugAssign (.Name x pos') op a pos) (mAug ff i m) := by
  refine ⟨fun pins s σ H D I q => ?_⟩
  obtain ⟨e, B, R, q⟩ := q
  unfold mAug at q
  cases zi : e[i]? with
  | none => simp only [zi] at q; exact q.elim
  | some sl =>
    cases sl with
    | un => simp only [zi] at q; exact q.elim
    | ow => simp only [zi] at q; exact q.elim
    | sh w =>
      simp only [zi] at q
      obtain ⟨v, h1, h2⟩ := R.sh zi
      rw [RB_bind] at q
      have go : ∀ r0 : R2, OpR X (inplaceOp op) r0 → (RB G c (m1 m e) fun t => ∀ y H1 B1, Rel G c σ t.2 H1 B1 → Sub B B1 → Isb G H1 B1 t.1 y → r0 v y H1 fun z H2 => D.nx (σ.set i (some z)) H2) →
          wpAny (model X.prog X.w) X.A (exec (.AugAssign (.Name x pos') op a pos) X.env) (SP X pins D) X.xe s := fun r0 h0 hq =>
        (ps_aug hh.nd hi hx h (ti := r0) (fun pins s σ H x y v u Q I r1 r2 q => h0 pins s σ H x y v u Q I r1 r2 q) hf).run pins s σ H D I ⟨v, h1, tW1 R hq⟩
      cases z : m1 m e with
      | bad => rw [z] at q; exact q.elim
      | exn => exact go _ (ho .non .non).choose_spec.1 (by rw [z] at q ⊢; exact q)
      | ok t =>
        refine go _ (ho w t.1).choose_spec.1 ?_
        rw [z] at q ⊢
        intro y H1 B1 R1 s1 iy
        refine (ho w t.1).choose_spec.2 σ t.2 H1 B1 v y _ R1 (Is.b R1.sub (h2.mono s1)) iy ?_
        have q : RB G c ((ff w t.1).bind fun r => (match r with | .sh z => .ok (.nx, t.2.set i (.sh z)) | _ => .bad)) fun r => FlP G c D B r.2 r.1 := q
        rw [RB_bind] at q
        refine q.mono fun r q z H' B' R' s' rv => ?_
        cases r with
        | sh u => exact q _ H' B' (R'.setSh i rv) (s1.trans s')
        | fr u => exact q.elim
        | nm j => exact q.elim
/-- while: at most n turns -/
theorem ws_while (n : Nat) {body : List Stmt} (hp : PassesOwn (model X.prog X.w) X.A X.env X.xe) (ht : WT X G c a mt) (hb : WSs X G c body u) : WS X G c (.While a body [] pos) (mWhile mt u n) :=
  PS.imp (ps_while hp ht hb) fun D σ H ⟨e, B, R, h⟩ => by
    refine ⟨fun m σ H => ∃ e B', Rel G c σ e H B' ∧ Sub B B' ∧ RB G c (mWhile mt u m e) fun r => FlP G c D B r.2 r.1, ⟨n, e, B, R, Sub.refl B, h⟩, ?_⟩
    rintro m σ H ⟨e, B1, R, s1, h⟩
    cases m with
    | zero => exact h.elim
    | succ m =>
      rw [mWhile, RB_bind] at h
      refine ⟨e, B1, R, h.mono fun p h H2 B2 R2 s2 => ?_⟩
      obtain ⟨q, e1⟩ := p
      cases q with
      | false => exact h σ H2 B2 R2 (s1.trans s2)
      | true =>
        have h : RB G c ((u e1).bind fun q => (match q.1 with | .nx => mWhile mt u m q.2 | .ct => mWhile mt u m q.2 | .bk => .ok (.nx, q.2) | .rt r => .ok (.rt r, q.2))) fun r => FlP G c D B r.2 r.1 := h
        rw [RB_bind] at h
        refine ⟨fun σ' H' => ∃ e B', Rel G c σ' e H' B' ∧ Sub B B' ∧ RB G c (mWhile mt u m e) fun r => FlP G c D B r.2 r.1, fun σ' H' z => ⟨m, Nat.lt_succ_self m, z⟩, e1, B2, R2, h.mono fun p h => ?_⟩
        obtain ⟨f, e2⟩ := p
        cases f with
        | nx => exact fun σ' H' B' R' s' => ⟨e2, B', R', (s1.trans s2).trans s', h⟩
        | ct => exact fun σ' H' B' R' s' => ⟨e2, B', R', (s1.trans s2).trans s', h⟩
        | bk => exact fun σ' H' B' R' s' => h σ' H' B' R' ((s1.trans s2).trans s')
        | rt r => exact fun v σ' H' B' R' s' => h v σ' H' B' R' ((s1.trans s2).trans s')

/-! ### what a for walks -/
def Grow (H B H' B' : Hp) : Prop := (H' = H ∧ B' = B) ∨ ∃ p o, H p = none ∧ H' = upd H p o ∧ B' = upd B p o
theorem Rel.grow {H' B' : Hp} (R : Rel G c σ e H B) (g : Grow H B H' B') : Rel G c σ e H' B' ∧ Sub B B' := by
  rcases g with ⟨rfl, rfl⟩ | ⟨p, o, h, rfl, rfl⟩
  · exact ⟨R, Sub.refl _⟩
  · exact ⟨R.newB h, Sub.new (R.sub.non h)⟩
structure ItOk (G : Gm) (J : It) (ws : List W) (B : Hp) : Prop where
  stop : ∀ {H B1}, Sub B B1 → Sub B1 H → J.stop ws.length H
  go : ∀ {H B1 i w}, Sub B B1 → Sub B1 H → ws[i]? = some w → J.go i H
  yld : ∀ {H B1 i w x H'}, Sub B B1 → Sub B1 H → ws[i]? = some w → J.yld i H x H' → ∃ B2, Grow H B1 H' B2 ∧ Is G B2 w x
def iW (G : Gm) (c : Ct) (m : Ma) : TI := fun σ H R => ∃ e B, Rel G c σ e H B ∧ RB G c (m e) fun p => ∀ J H' B', Rel G c σ p.2 H' B' → Sub B B' → ItOk G J p.1 B' → R J H'
abbrev WI (X : Cx) (G : Gm) (c : Ct) (tg iter : Expr) (m : Ma) : Prop := PI X tg iter (iW G c m)
theorem PI.imp {tg it : Expr} {w w' : TI} (h : PI X tg it w) (i : ∀ σ H R, w' σ H R → w σ H R) : PI X tg it w' := ⟨fun pins s σ H R I q => h.run pins s σ H R I (i σ H R q)⟩
theorem ws_for {tg it : Expr} {body : List Stmt} {g1 : Mg} (hh : Here X G c k) (hp : PassesOwn (model X.prog X.w) X.A X.env X.xe) (hi : WI X G c tg it mr) (hg : WG X G c tg g1) (hb : WSs X G c body u)
    (hs : ∀ x, foldedSetIterable it X.env x = pure x := by intro _; rfl) : WS X G c (.For tg it body [] pos) (mFor mr g1 u) :=
  PS.imp (ps_for hp hh.calm hi hg hb hs) fun D σ H ⟨e, B, R, h⟩ => by
    rw [mFor, RB_bind] at h
    refine ⟨e, B, R, h.mono fun p h J H1 B1 R1 s1 J1 => ?_⟩
    refine ⟨fun i m σ H => m = p.1.length - i ∧ i ≤ p.1.length ∧ ∃ e B', Rel G c σ e H B' ∧ Sub B1 B' ∧ RB G c (mLoop g1 u (p.1.drop i) e) fun r => FlP G c D B r.2 r.1, ⟨p.1.length, by simp, Nat.zero_le _, p.2, B1, R1, Sub.refl B1, h⟩, ?_⟩
    rintro i m σ H ⟨rfl, hi, e, B2, R2, s2, h⟩
    by_cases hl : i < p.1.length
    · have ew : p.1[i]? = some p.1[i] := by simp [hl]
      rw [List.drop_eq_getElem_cons hl, mLoop, RB_bind] at h
      refine .inr ⟨J1.go s2 R2.sub ew, fun σ' H' => ∃ e B', Rel G c σ' e H' B' ∧ Sub B1 B' ∧ RB G c (mLoop g1 u (p.1.drop (i + 1)) e) fun r => FlP G c D B r.2 r.1, fun σ' H' z => ⟨p.1.length - (i + 1), by omega, rfl, hl, z⟩, fun x H' y => ?_⟩
      obtain ⟨B3, gr, ix⟩ := J1.yld s2 R2.sub ew y
      obtain ⟨R3, s3⟩ := R2.grow gr
      refine ⟨e, B3, _, R3, ix, h.mono fun e1 h σ4 H4 B4 R4 s4 => ?_⟩
      rw [RB_bind] at h
      refine ⟨e1, B4, R4, h.mono fun q h => ?_⟩
      obtain ⟨f, e2⟩ := q
      cases f with
      | nx => exact fun σ' H' B' R' s' => ⟨e2, B', R', ((s2.trans s3).trans s4).trans s', h⟩
      | ct => exact fun σ' H' B' R' s' => ⟨e2, B', R', ((s2.trans s3).trans s4).trans s', h⟩
      | bk => exact fun σ' H' B' R' s' => h σ' H' B' R' (s1.trans (((s2.trans s3).trans s4).trans s'))
      | rt r => exact fun v σ' H' B' R' s' => h v σ' H' B' R' (s1.trans (((s2.trans s3).trans s4).trans s'))
    · have e1 : i = p.1.length := by omega
      subst e1
      rw [List.drop_length, mLoop] at h
      exact .inl ⟨J1.stop s2 R2.sub, h σ H B2 R2 (s1.trans s2)⟩
/-- a list, a tuple, a text -/
def items : W → R (List W)
  | .lst ws => .ok ws
  | .tup ws => .ok ws
  | .str z => .ok (z.cps.toList.map fun n => .str ⟨#[n]⟩)
  | _ => .bad
def mIter (m : Mx) : Ma := fun e => (mSh m e).bind fun p => (items p.1).bind fun ws => .ok (ws, p.2)
theorem itok_list {ws : List W} {xs : List V} {l : Addr} (h : B l = some (.lst xs)) (i : Iss G B ws xs) (K : PySem.W.Frag) : ItOk G (Itl K l) ws B where
  stop := fun s s' => ⟨xs, .inl (.inl (s' _ _ (s _ _ h))), by rw [i.len]; exact Nat.le_refl _⟩
  go := fun s s' e => let ⟨x, h1, _⟩ := i.get e; ⟨xs, x, .inl (.inl (s' _ _ (s _ _ h))), h1⟩
  yld := fun {H B1 j w x H'} s s' e ⟨y1, y2⟩ => by
    obtain ⟨x', h1, h2⟩ := i.get e
    have := y2 xs (.inl (.inl (s' _ _ (s _ _ h))))
    rw [h1] at this; cases this
    exact ⟨B1, .inl ⟨y1, rfl⟩, h2.mono s⟩
theorem itok_tup {ws : List W} {xs : List V} {l : Addr} (g : Ties X G) (h : SqT G.K B l xs) (i : Iss G B ws xs) : ItOk G (Itt X.K l) ws B where
  stop := fun s s' => ⟨xs, by rw [← g.K]; exact sub_sqt (s.trans s') h, by rw [i.len]; exact Nat.le_refl _⟩
  go := fun s s' e => let ⟨x, h1, _⟩ := i.get e; ⟨xs, x, by rw [← g.K]; exact sub_sqt (s.trans s') h, h1⟩
  yld := fun {H B1 j w x H'} s s' e ⟨y1, y2⟩ => by
    obtain ⟨x', h1, h2⟩ := i.get e
    have := y2 xs (by rw [← g.K]; exact sub_sqt (s.trans s') h)
    rw [h1] at this; cases this
    exact ⟨B1, .inl ⟨y1, rfl⟩, h2.mono s⟩
theorem itok_str {z : Str} : ItOk G (Its z) (z.cps.toList.map fun n => .str ⟨#[n]⟩) B where
  stop := fun _ _ => by show z.cps.size ≤ _; simp
  go := fun {H B1 i w} _ _ e => by
    show i < z.cps.size
    have := (List.getElem?_eq_some_iff.mp e).1
    simpa using this
  yld := fun {H B1 j w x H'} s s' e ⟨y1, n, y2, y3⟩ => by
    refine ⟨B1, .inl ⟨y1, rfl⟩, ?_⟩
    rw [List.getElem?_map] at e
    have : z.cps.toList[j]? = some n := by simpa using y2
    rw [this] at e; cases e
    exact y3
theorem wi_seq {tg : Expr} (g : Ties X G) (h : WE X G c a m) : WI X G c tg a (mIter m) := by
  refine ⟨fun pins s σ H Q I q => ?_⟩
  obtain ⟨e, B, R, q⟩ := q
  rw [mIter, RB_bind] at q
  cases z : mSh m e with
  | bad => rw [z] at q; exact q.elim
  | exn => exact (pi_list h).run pins s σ H Q I (tSh R (by rw [z] at q ⊢; exact q))
  | ok t =>
    obtain ⟨w, e1⟩ := t
    rw [z] at q
    have q : RB G c ((items w).bind fun ws => .ok (ws, e1)) _ := q
    rw [RB_bind] at q
    cases w with
    | lst ws =>
      refine (pi_list h).run pins s σ H Q I (tSh R ?_)
      rw [z]
      intro x H1 B1 R1 s1 i1
      obtain ⟨l, xs, rfl, h1, h2⟩ := i1
      exact ⟨l, rfl, ⟨xs, .inl (.inl (R1.sub _ _ h1))⟩, q _ H1 B1 R1 s1 (itok_list h1 h2 _)⟩
    | tup ws =>
      refine (pi_tup h).run pins s σ H Q I (tSh R ?_)
      rw [z]
      intro x H1 B1 R1 s1 i1
      obtain ⟨l, xs, rfl, h1, h2⟩ := i1
      exact ⟨l, rfl, ⟨xs, by rw [← g.K]; exact sub_sqt R1.sub h1⟩, q _ H1 B1 R1 s1 (itok_tup g h1 h2)⟩
    | str u =>
      refine (pi_str h).run pins s σ H Q I (tSh R ?_)
      rw [z]
      intro x H1 B1 R1 s1 i1
      exact ⟨u, i1, q _ H1 B1 R1 s1 itok_str⟩
    | _ => exact q.elim
/-- range(n) -/
def mRange (m : Mx) : Ma := fun e => (m1 m e).bind fun t => match t.1 with
  | .int j => iff (-(2 ^ 62) ≤ j ∧ j < 2 ^ 62) (.ok ((List.range j.toNat).map fun (i : Nat) => W.int (i : Int), t.2))
  | _ => .bad
theorem itok_range {n : Nat} : ItOk G (Itr 0 n) ((List.range n).map fun (i : Nat) => W.int (i : Int)) B where
  stop := fun _ _ => by show n ≤ _; simp
  go := fun {H B1 i w} _ _ e => by
    show i < n
    have := (List.getElem?_eq_some_iff.mp e).1
    simpa using this
  yld := fun {H B1 j w x H'} s s' e ⟨y1, y2⟩ => by
    refine ⟨B1, .inl ⟨y1, rfl⟩, ?_⟩
    rw [List.getElem?_map] at e
    cases q : (List.range n)[j]? with
    | none => rw [q] at e; cases e
    | some i =>
      rw [q] at e; cases e
      obtain ⟨_, h2⟩ := List.getElem?_eq_some_iff.mp q
      simp at h2; subst h2
      show x = .int j
      rw [y2]; simp
theorem wi_range {tg : Expr} {p : Pos} (hm : X.mg "range" = none) (h : WE X G c a m) (hg : Gl X "range" := by rfl) (hs : starEach [a] X.env = [(false, eval a X.env)] := by rfl) : WI X G c tg (.Call (.Name "range" p) [a] [] pos) (mRange m) :=
  PI.imp (pi_range1 hg hm (pa_cons h pa_nil hs) hs) fun σ H Q ⟨e, B, R, q⟩ => by
    rw [mRange, RB_bind] at q
    refine tW1 R (q.mono fun t q x H1 B1 R1 s1 i1 => ?_)
    obtain ⟨w, e1⟩ := t
    cases w with
    | int j =>
      obtain ⟨z, q⟩ := RB_iff (show RB G c (iff (-(2 ^ 62) ≤ j ∧ j < 2 ^ 62) _) _ from q)
      exact ⟨j, by rw [show x = .int j from i1], z.1, z.2, q _ H1 B1 R1 s1 itok_range⟩
    | _ => exact q.elim
end
end WL
end F_WLT

section F_WLK
/-! WLK: list comprehensions. -/
namespace WL
open PySem PySem.Spec PyProof.Rows L2

def reb1 : Sl → Sl
  | .ow _ w => .ow true w
  | .sh w => .sh w
  | .un => .un
def back1 : Sl → Sl → Sl
  | .ow b _, .ow _ w => .ow b w
  | .ow _ _, .sh _ => .un
  | .ow _ _, .un => .un
  | .sh w, _ => .sh w
  | .un, _ => .un
/-- the slots within a comprehension: its own names are not yet stored; own data may be changed, not given away -/
def rebE (own : List Nat) : Nat → En → En
  | _, [] => []
  | i, s :: r => (if own.contains i then .un else reb1 s) :: rebE own (i + 1) r
/-- .. behind a turn -/
def backE (own : List Nat) : Nat → En → En → En
  | i, s2 :: r2, s :: r => (if own.contains i then s else back1 s s2) :: backE own (i + 1) r2 r
  | _, [], _ => []
  | _, _ :: _, [] => []
def noX {α : Type} : R α → R α
  | .ok a => .ok a
  | _ => .bad
def cLoop (own : List Nat) (t : Mg) (tt : Mt) (m : Mx) : List W → En → List W → R (List W × En)
  | [], e, acc => .ok (acc, e)
  | w :: ws, e, acc => (noX ((t w (rebE own 0 e)).bind fun e1 => (tt e1).bind fun p => if p.1 then (mSh m p.2).bind fun q => .ok (some q.1, q.2) else .ok (none, p.2))).bind fun q =>
      match q.1 with
      | some y => iff (acc.length < line) (cLoop own t tt m ws (backE own 0 q.2 e) (acc ++ [y]))
      | none => cLoop own t tt m ws (backE own 0 q.2 e) acc
def mYes : Mt := fun e => .ok (true, e)
/-- slots given away ahead -/
def frz : List Nat → En → En
  | [], e => e
  | i :: r, e => match e[i]? with
    | some (.ow false w) => frz r (e.set i (.sh w))
    | _ => frz r e
def mComp (fz own : List Nat) (it : Ma) (t : Mg) (tt : Mt) (m : Mx) : Mx := fun e => (it (frz fz e)).bind fun p => (cLoop own t tt m p.1 p.2 []).bind fun q => .ok (.fr (.lst q.1), q.2)

theorem rebE_get (own : List Nat) : ∀ (e : En) (k i : Nat), (rebE own k e)[i]? = e[i]?.map fun s => if own.contains (k + i) then .un else reb1 s
  | [], k, i => by simp [rebE]
  | s :: r, k, 0 => by simp only [rebE, List.getElem?_cons_zero, Option.map_some, Nat.add_zero]
  | s :: r, k, i + 1 => by
    rw [rebE, List.getElem?_cons_succ, List.getElem?_cons_succ, rebE_get own r (k + 1) i]
    have : k + 1 + i = k + (i + 1) := by omega
    rw [this]
theorem rebE_len (own : List Nat) : ∀ (e : En) (k : Nat), (rebE own k e).length = e.length
  | [], k => rfl
  | s :: r, k => by rw [rebE, List.length_cons, List.length_cons, rebE_len own r]
theorem backE_len (own : List Nat) : ∀ (e2 e : En) (k : Nat), e2.length = e.length → (backE own k e2 e).length = e.length
  | [], [], _, _ => rfl
  | _ :: _, [], _, h => by cases h
  | [], _ :: _, _, h => by cases h
  | _ :: r2, _ :: r, k, h => by rw [backE, List.length_cons, List.length_cons, backE_len own r2 r (k + 1) (by simpa using h)]
theorem backE_get (own : List Nat) : ∀ (e2 e : En) (k i : Nat) (s2 s : Sl), e2[i]? = some s2 → e[i]? = some s → (backE own k e2 e)[i]? = some (if own.contains (k + i) then s else back1 s s2)
  | [], _, _, _, _, _, h, _ => by simp at h
  | _ :: _, [], _, _, _, _, _, h => by simp at h
  | a :: r2, b :: r, k, 0, s2, s, h, h' => by
    simp only [List.getElem?_cons_zero, Option.some.injEq] at h h'
    subst h; subst h'
    simp only [backE, List.getElem?_cons_zero, Nat.add_zero]
  | a :: r2, b :: r, k, i + 1, s2, s, h, h' => by
    rw [List.getElem?_cons_succ] at h h'
    rw [backE, List.getElem?_cons_succ, backE_get own r2 r (k + 1) i s2 s h h']
    have : k + 1 + i = k + (i + 1) := by omega
    rw [this]

section
variable {G : Gm} {c : Ct} {σ σ2 : L2.St} {e e2 : En} {H B H' B' : Hp} {own : List Nat} {D : Addr} {o : HO} {α : Type}
theorem RB_noX {r : R α} {k : α → Prop} (h : RB G c (noX r) k) : ∃ a, r = .ok a ∧ k a := by
  cases r with
  | ok a => exact ⟨a, rfl, h⟩
  | exn => exact h.elim
  | bad => exact h.elim
/-- the frame of reference within a turn: what this def may change, all else stays -/
def subCt (own : List Nat) (σ : L2.St) (e : En) (H B : Hp) : Ct := ⟨H, B, fun a => ∃ i b w, own.contains i = false ∧ e[i]? = some (Sl.ow b w) ∧ σ[i]? = some (some (V.ref a)), fun _ _ _ => False⟩
theorem Rel.reb (R : Rel G c σ e H B) : Rel G (subCt own σ e H B) (wipe σ own) (rebE own 0 e) H B := by
  have look : ∀ {i : Nat} {s : Sl}, (rebE own 0 e)[i]? = some s → s ≠ .un → own.contains i = false ∧ ∃ s0, e[i]? = some s0 ∧ s = reb1 s0 := fun {i s} h ne => by
    rw [rebE_get, Nat.zero_add] at h
    cases q : e[i]? with
    | none => rw [q] at h; cases h
    | some s0 =>
      rw [q] at h
      cases z : own.contains i with
      | true => simp only [Option.map_some, z, if_true, Option.some.injEq] at h; exact (ne h.symm).elim
      | false => simp only [Option.map_some, z, Bool.false_eq_true, if_false, Option.some.injEq] at h; exact ⟨rfl, s0, rfl, h.symm⟩
  have out : ∀ {i : Nat}, own.contains i = false → (wipe σ own)[i]? = σ[i]? := fun {i} h => wipe_out (by simpa using h)
  refine ⟨by rw [wipe_length, rebE_len]; exact R.len, fun {i w} hi => ?_, fun {i b w} hi => ?_, fun {i j b b' w w' a} ne hi hj h1 h2 => ?_, R.sub, Sub.refl B, fun e1 => .inl ⟨_, e1⟩, fun e1 _ => e1, fun e1 => ⟨_, e1⟩⟩
  · obtain ⟨z, s0, h1, h2⟩ := look hi (by simp)
    cases s0 with
    | sh w' => cases h2; rw [out z]; exact R.sh h1
    | un => cases h2
    | ow => cases h2
  · obtain ⟨z, s0, h1, h2⟩ := look hi (by simp)
    cases s0 with
    | sh w' => cases h2
    | un => cases h2
    | ow b0 w0 =>
      cases h2
      obtain ⟨a, h3, h4, _, _, h5⟩ := R.ow h1
      exact ⟨a, by rw [out z]; exact h3, h4, fun _ => ⟨i, b0, w, z, h1, h3⟩, (fun q => nomatch q), h5⟩
  · obtain ⟨z, s0, h3, h4⟩ := look hi (by simp)
    obtain ⟨z', s1, h5, h6⟩ := look hj (by simp)
    rw [out z] at h1
    rw [out z'] at h2
    cases s0 with
    | sh w' => cases h4
    | un => cases h4
    | ow =>
      cases s1 with
      | sh w' => cases h6
      | un => cases h6
      | ow => exact R.dj ne h3 h5 h1 h2
theorem Rel.unreb (R : Rel G c σ e H B) (R2 : Rel G (subCt own σ e H B) σ2 e2 H' B') (hw : wipe σ2 own = wipe σ own) : Rel G c σ (backE own 0 e2 e) H' B' := by
  have s : Sub B B' := R2.old
  have l2 : e2.length = e.length := by
    have h1 := R.len
    have h2 := R2.len
    have h3 : (wipe σ2 own).length = (wipe σ own).length := by rw [hw]
    rw [wipe_length, wipe_length] at h3
    omega
  have out : ∀ {i : Nat}, own.contains i = false → σ2[i]? = σ[i]? := fun {i} h => by
    have hm : i ∉ own := by simpa using h
    rw [← wipe_out (σ := σ2) hm, hw, wipe_out hm]
  have nB : ∀ {a : Addr} {o : HO}, H a = some o → B a = none → B' a = none := fun {a o} h1 h2 => by
    cases q : B' a with
    | none => rfl
    | some u =>
      rcases R2.new q with ⟨u', hu'⟩ | z
      · rw [show (subCt own σ e H B).B0 a = B a from rfl, h2] at hu'; cases hu'
      · rw [show (subCt own σ e H B).H0 a = H a from rfl, h1] at z; cases z
  have look : ∀ {i : Nat} {s : Sl}, (backE own 0 e2 e)[i]? = some s → ∃ s2 s0, e2[i]? = some s2 ∧ e[i]? = some s0 ∧ s = (if own.contains i then s0 else back1 s0 s2) := fun {i s} h => by
    have hl := (List.getElem?_eq_some_iff.mp h).1
    rw [backE_len own e2 e 0 l2] at hl
    have e1 : e[i]? = some e[i] := by simp
    have e3 : e2[i]? = some (e2[i]'(by omega)) := by simp
    rw [backE_get own e2 e 0 i _ _ e3 e1, Nat.zero_add] at h
    exact ⟨_, _, e3, e1, (Option.some.inj h).symm⟩
  have back : ∀ {i : Nat} {b : Bool} {w : W}, (backE own 0 e2 e)[i]? = some (.ow b w) → ∃ w0, e[i]? = some (.ow b w0) ∧ ((own.contains i = true ∧ w = w0) ∨ (own.contains i = false ∧ ∃ b2, e2[i]? = some (.ow b2 w))) := fun {i b w} h => by
    obtain ⟨s2, s0, h1, h2, h3⟩ := look h
    cases z : own.contains i with
    | true => simp only [z, if_true] at h3; subst h3; exact ⟨w, h2, .inl ⟨rfl, rfl⟩⟩
    | false =>
      simp only [z, Bool.false_eq_true, if_false] at h3
      cases s0 with
      | un => cases h3
      | sh => cases h3
      | ow b0 w0 =>
        cases s2 with
        | un => cases h3
        | sh => cases h3
        | ow b2 w2 => cases h3; exact ⟨_, h2, .inr ⟨rfl, b2, h1⟩⟩
  refine ⟨by rw [backE_len own e2 e 0 l2]; exact R.len, fun {i w} hi => ?_, fun {i b w} hi => ?_, fun {i j b b' w w' a} ne hi hj h1 h2 => ?_, R2.sub, R.old.trans s, fun {a o} e1 => ?_, fun {a o} e1 hO => ?_, fun {a o} e1 => ?_⟩
  · obtain ⟨s2, s0, h1, h2, h3⟩ := look hi
    have : s0 = .sh w := by
      cases z : own.contains i with
      | true => simp only [z, if_true] at h3; exact h3.symm
      | false =>
        simp only [z, Bool.false_eq_true, if_false] at h3
        cases s0 with
        | un => cases h3
        | sh => exact h3.symm
        | ow => cases s2 <;> cases h3
    subst this
    obtain ⟨v, h4, h5⟩ := R.sh h2
    exact ⟨v, h4, h5.mono s⟩
  · obtain ⟨w0, h1, h2⟩ := back hi
    obtain ⟨a, h3, h4, h5, h6, h7⟩ := R.ow h1
    obtain ⟨u, hu⟩ := h7.some
    refine ⟨a, h3, nB hu h4, h5, h6, ?_⟩
    rcases h2 with ⟨z, rfl⟩ | ⟨z, b2, h2⟩
    · refine h7.to s fun o ho => R2.keep ho fun ⟨i', b', w', z1, z2, z3⟩ => ?_
      by_cases q : i' = i
      · subst q; rw [z] at z1; cases z1
      · exact R.dj q z2 h1 z3 h3
    · obtain ⟨a', q1, _, _, _, q5⟩ := R2.ow h2
      rw [out z, h3] at q1; cases q1
      exact q5
  · obtain ⟨w0, h3, _⟩ := back hi
    obtain ⟨w0', h4, _⟩ := back hj
    exact R.dj ne h3 h4 h1 h2
  · rcases R2.new e1 with ⟨u, hu⟩ | z
    · exact R.new hu
    · exact .inr (R.h0 z)
  · exact R2.keep (R.keep e1 hO) fun ⟨i', b', w', _, z2, z3⟩ => by
      obtain ⟨_, q2, q3, _⟩ := R.oH z2 z3
      cases b' with
      | true => exact hO (q2 rfl)
      | false => rw [q3 rfl] at e1; cases e1
  · obtain ⟨u, hu⟩ := R.dom e1
    exact R2.dom hu
/-- an object that is nobody's and not shared is stored -/
theorem Rel.put (R : Rel G c σ e H B) (hB : B D = none) (h0 : c.H0 D = none) (hn : ∀ (i : Nat) (b : Bool) (w' : W), e[i]? = some (Sl.ow b w') → σ[i]? ≠ some (some (V.ref D))) : Rel G c σ e (upd H D o) B := by
  refine ⟨R.len, R.sh, fun {i b w} hi => ?_, R.dj, R.sub.put hB, R.old, R.new, fun {a u} e1 hO => ?_, fun {a u} e1 => ?_⟩
  · obtain ⟨a, h1, h2, h3, h4, h5⟩ := R.ow hi
    have ne : a ≠ D := fun z => hn i b w hi (by rw [h1, z])
    exact ⟨a, h1, h2, h3, h4, h5.to (Sub.refl B) fun o q => by rw [upd_ne ne]; exact q⟩
  · have ne : a ≠ D := fun z => by rw [z, h0] at e1; cases e1
    rw [upd_ne ne]; exact R.keep e1 hO
  · by_cases q : a = D
    · exact ⟨o, by rw [q]; exact upd_same⟩
    · rw [upd_ne q]; exact R.dom e1
theorem Rel.frz : ∀ (l : List Nat) {e : En} {B : Hp}, Rel G c σ e H B → ∃ B', Rel G c σ (frz l e) H B' ∧ Sub B B'
  | [], e, B, R => ⟨B, R, Sub.refl B⟩
  | i :: r, e, B, R => by
    unfold WL.frz
    split
    · rename_i w q
      obtain ⟨a, h1, _⟩ := R.ow q
      obtain ⟨B1, R1, s1, _⟩ := R.freeze q h1
      obtain ⟨B2, R2, s2⟩ := Rel.frz r R1
      exact ⟨B2, R2, s1.trans s2⟩
    · exact Rel.frz r R
theorem back_nobody (hl : e2.length = e.length) (hn : ∀ (i : Nat) (b : Bool) (w' : W), e[i]? = some (Sl.ow b w') → σ[i]? ≠ some (some (V.ref D))) : ∀ (i : Nat) (b : Bool) (w' : W), (backE own 0 e2 e)[i]? = some (Sl.ow b w') → σ[i]? ≠ some (some (V.ref D)) := fun i b w' hi => by
  have hl2 := (List.getElem?_eq_some_iff.mp hi).1
  rw [backE_len own e2 e 0 hl] at hl2
  have e1 : e[i]? = some e[i] := by simp
  have e3 : e2[i]? = some (e2[i]'(by omega)) := by simp
  rw [backE_get own e2 e 0 i _ _ e3 e1, Nat.zero_add] at hi
  have hi := Option.some.inj hi
  cases z : e[i] with
  | ow b0 w0 => exact hn i b0 w0 (by rw [e1, z])
  | un => rw [z] at hi; split at hi <;> cases hi
  | sh w0 => rw [z] at hi; split at hi <;> cases hi
end

/-! ### the targets of a comprehension -/
def gWc (G : Gm) (own : List Nat) (t : Mg) : TG := fun v σ H Q => ∃ c e B w, c.E = (fun _ _ _ => False) ∧ Rel G c σ e H B ∧ Is G B w v ∧ RB G c (t w e) fun e' => ∀ σ' H' B', Rel G c σ' e' H' B' → Sub B B' → wipe σ' own = wipe σ own → Q σ' H'
def gWcs (G : Gm) (own : List Nat) (t : Mgs) : TGs := fun vs σ H Q => ∃ c e B ws, c.E = (fun _ _ _ => False) ∧ Rel G c σ e H B ∧ Iss G B ws vs ∧ RB G c (t ws e) fun e' => ∀ σ' H' B', Rel G c σ' e' H' B' → Sub B B' → wipe σ' own = wipe σ own → Q σ' H'
def tWx (G : Gm) (m : Mx) : TE := fun σ H Q => ∃ c, c.E = (fun _ _ _ => False) ∧ tW G c m σ H Q
def tWTx (G : Gm) (m : Mt) : TT := fun σ H Q => ∃ c, c.E = (fun _ _ _ => False) ∧ tWT G c m σ H Q
theorem wipe_set {x : Option V} : ∀ (own : List Nat) (σ : L2.St) (i : Nat), i ∈ own → wipe (σ.set i x) own = wipe σ own := by
  intro own
  induction own with
  | nil => intro σ i h; cases h
  | cons j r ih =>
    intro σ i h
    show (wipe (σ.set i x) r).set j none = (wipe σ r).set j none
    by_cases q : i ∈ r
    · rw [ih σ i q]
    · rcases List.mem_cons.mp h with rfl | h
      · have key : ∀ (vs : List Nat) (σ : L2.St), i ∉ vs → wipe (σ.set i x) vs = (wipe σ vs).set i x := by
          intro vs
          induction vs with
          | nil => intro σ _; rfl
          | cons k s ihs =>
            intro σ hk
            show (wipe (σ.set i x) s).set k none = ((wipe σ s).set k none).set i x
            rw [ihs σ (fun z => hk (List.mem_cons_of_mem _ z)), List.set_comm _ _ (fun z => hk (by rw [z]; exact List.mem_cons_self))]
        rw [key r σ q, List.set_set]
      · exact (q h).elim
theorem wipe_in : ∀ (vs : List Nat) (σ : L2.St) (i : Nat), i ∈ vs → i < σ.length → (wipe σ vs)[i]? = some none := by
  intro vs
  induction vs with
  | nil => intro σ i h; cases h
  | cons j r ih =>
    intro σ i h hl
    show ((wipe σ r).set j none)[i]? = some none
    by_cases q : j = i
    · subst q; exact List.getElem?_set_self (by rw [wipe_length]; exact hl)
    · rw [List.getElem?_set_ne q]
      rcases List.mem_cons.mp h with rfl | h
      · exact (q rfl).elim
      · exact ih σ i h hl
theorem wipe_idem (vs : List Nat) (σ : L2.St) : wipe (wipe σ vs) vs = wipe σ vs := by
  refine List.ext_getElem? fun i => ?_
  by_cases h : i ∈ vs
  · by_cases hl : i < σ.length
    · rw [wipe_in vs _ i h (by rw [wipe_length]; exact hl), wipe_in vs σ i h hl]
    · rw [List.getElem?_eq_none (by rw [wipe_length, wipe_length]; omega), List.getElem?_eq_none (by rw [wipe_length]; omega)]
  · rw [wipe_out h]
section
variable {X : Cx} {G : Gm} {own : List Nat} {pos : Pos}
theorem wgc_name (i : Nat) {x : Str} (nd : X.N.Nodup) (ho : i ∈ own := by decide) (hi : X.N[i]? = some x := by rfl) (hx : Loc X.env.scope x := by first | exact Or.inl rfl | exact Or.inr rfl) (hf : X.fn x = true ∨ X.env.scope.names.lookup x = some .local := by first | exact .inl rfl | exact .inr rfl) : PG X (.Name x pos) (gWc G own (tName i)) :=
  PG.imp (pg_name nd hi hx hf) fun v σ H Q ⟨c, e, B, w, _, R, iw, h⟩ => h _ H B (R.setSh i iw) (Sub.refl B) (wipe_set own σ i ho)
theorem wgcs_nil : PGs X [] (gWcs G own tNil) := PGs.imp pgs_nil fun vs σ H Q ⟨c, e, B, ws, _, R, iw, h⟩ => by
  cases ws with
  | nil => exact ⟨iw, h σ H B R (Sub.refl B) rfl⟩
  | cons => exact h.elim
theorem wgcs_cons {t : Expr} {ts : List Expr} {g1 : Mg} {g2 : Mgs} (h1 : PG X t (gWc G own g1)) (h2 : PGs X ts (gWcs G own g2)) (hs : (assignEach (t :: ts) X.env).map (·.2) = assign t X.env :: (assignEach ts X.env).map (·.2) := by rfl) : PGs X (t :: ts) (gWcs G own (tCons g1 g2)) :=
  PGs.imp (pgs_cons h1 h2 hs) fun vs σ H Q ⟨c, e, B, ws, hE, R, iw, h⟩ => by
    cases ws with
    | nil => exact h.elim
    | cons w ws =>
      obtain ⟨x, r, rfl, i1, i2⟩ := iw
      have h : RB G c ((g1 w e).bind fun e1 => g2 ws e1) _ := h
      rw [RB_bind] at h
      exact ⟨x, r, rfl, c, e, B, w, hE, R, i1, h.mono fun e1 h σ' H' B' R' s' w' => ⟨c, e1, B', ws, hE, R', i2.mono s', h.mono fun e2 h σ2 H2 B2 R2 s2 w2 => h σ2 H2 B2 R2 (s'.trans s2) (w2.trans w')⟩⟩
theorem wgc_tup {es : List Expr} {n q : Nat} {g2 : Mgs} (g : Ties X G) (calm : X.calm = true) (h : PGs X es (gWcs G own g2)) (hn : (assignEach es X.env).length = n := by rfl) (hst : (assignEach es X.env).findIdx? (·.1) = none := by rfl) : PG X (.Tuple es q pos) (gWc G own (tTup n g2)) :=
  PG.imp (pg_tup calm h hn hst) fun v σ H Q ⟨c, e, B, w, hE, R, iw, h⟩ => by
    cases w with
    | tup ws =>
      obtain ⟨a, xs, rfl, h1, h2⟩ := iw
      obtain ⟨z, h⟩ := RB_iff (show RB G c (iff (ws.length = n) (g2 ws e)) _ from h)
      rw [g.K] at h1
      exact ⟨a, xs, rfl, sub_sqt R.sub h1, by rw [← h2.len]; exact z, c, e, B, ws, hE, R, h2, h⟩
    | _ => exact h.elim
theorem pts_w {e : Expr} {m : Mt} (h : ∀ c : Ct, c.E = (fun _ _ _ => False) → WT X G c e m) : PTs X [e] (tWTx G m) := pts_one ⟨fun pins s σ H Q I ⟨c, hE, q⟩ => (h c hE).run pins s σ H Q I q⟩
theorem pts_y : PTs X [] (tWTx G mYes) := ⟨fun pins s σ H Q I ⟨c, _, e, B, R, q⟩ => pts_nil.run pins s σ H Q I (q H B R (Sub.refl B))⟩
theorem pe_w {e : Expr} {m : Mx} (h : ∀ c : Ct, c.E = (fun _ _ _ => False) → WE X G c e m) : PE X e (tWx G m) := ⟨fun pins s σ H Q I ⟨c, hE, q⟩ => (h c hE).run pins s σ H Q I q⟩
end

/-- where a comprehension's element stands -/
theorem Here.blk {X : Cx} {G : Gm} {c c' : Ct} {k : Nat} (h : Here X G c k) (hE : c'.E = (fun _ _ _ => False)) (s : Shared) (H : Hp) (sc : Scope) (env : Env) (fp : List Addr) : Here (X.blk s H sc env fp) G c' k :=
  ⟨⟨h.g.K, h.g.P, h.g.w⟩, h.q, h.r, fun u s' x => by
    obtain ⟨_, _, _, _, _, _, _, _, _, _, _, _, _, _, _, _, z⟩ := x
    rw [hE] at z
    exact z.elim, h.calm, h.nd⟩
section
variable {X : Cx} {G : Gm} {c : Ct} {k : Nat} {pos : Pos} {own : List (Str × Nat)} {fz : List Nat} {elt tg iter : Expr} {ifs : List Expr} {scope : Scope} {mi : Ma} {t : Mg} {tt : Mt} {m : Mx}
/-- the reading of a comprehension -/
theorem comp_rd {σ : L2.St} {H : Hp} {Q : VK} (h : tW G c (mComp fz (own.map (·.2)) mi t tt m) σ H Q) : tLc (iW G c mi) (gWc G (own.map (·.2)) t) (tWTx G tt) (tWx G m) (own.map (·.2)) σ H Q := by
  obtain ⟨e0, B0, R0, h⟩ := h
  obtain ⟨B, R, s0⟩ := Rel.frz fz R0
  rw [mComp, RB_bind] at h
  refine ⟨_, B, R, h.mono fun p h J H1 B1 R1 s1 J1 D hD => ?_⟩
  rw [RB_bind] at h
  have hD0 := R1.h0 hD
  refine ⟨fun i n H => n = p.1.length - i ∧ i ≤ p.1.length ∧ ∃ e B2 acc xs, Rel G c σ e H B2 ∧ Sub B1 B2 ∧ H D = some (.lst xs) ∧ Iss G B2 acc xs ∧ B2 D = none ∧ (∀ (i : Nat) (b : Bool) (w' : W), e[i]? = some (Sl.ow b w') → σ[i]? ≠ some (some (V.ref D))) ∧
      RB G c (cLoop (own.map (·.2)) t tt m (p.1.drop i) e acc) fun q => RB G c (.ok (.fr (.lst q.1), q.2)) fun r => ∀ v H' B', Rel G c σ r.2 H' B' → Sub B0 B' → RV G c σ r.2 H' B' v r.1 → Q v H',
    ⟨p.1.length, by simp, Nat.zero_le _, p.2, B1, [], [], R1.newO hD, Sub.refl B1, upd_same, rfl, R1.sub.non hD, R1.nobody hD, h⟩, ?_⟩
  rintro i n H ⟨rfl, hi, e, B2, acc, xs, R2, s2, hDH, hacc, hDB, hn, h⟩
  by_cases hl : i < p.1.length
  · have ew : p.1[i]? = some p.1[i] := by simp [hl]
    rw [List.drop_eq_getElem_cons hl, cLoop, RB_bind] at h
    refine .inr ⟨J1.go s2 R2.sub ew, _, fun H' z => ⟨p.1.length - (i + 1), by omega, rfl, hl, z⟩, fun x H' y => ?_⟩
    obtain ⟨B3, gr, ix⟩ := J1.yld s2 R2.sub ew y
    obtain ⟨R3, s3⟩ := R2.grow gr
    have hDH3 : H' D = some (.lst xs) ∧ B3 D = none := by
      rcases gr with ⟨rfl, rfl⟩ | ⟨q, o, hq, rfl, rfl⟩
      · exact ⟨hDH, hDB⟩
      · have ne : D ≠ q := fun z => by rw [z, hq] at hDH; cases hDH
        exact ⟨by rw [upd_ne ne]; exact hDH, by rw [upd_ne ne]; exact hDB⟩
    obtain ⟨q, hq, h⟩ := RB_noX h
    have Rb : Rel G (subCt (own.map (·.2)) σ e H' B3) (wipe σ (own.map (·.2))) (rebE (own.map (·.2)) 0 e) H' B3 := R3.reb
    -- what stands behind the turn
    have after : ∀ {σ2 : L2.St} {e2 : En} {H4 B4 : Hp}, Rel G (subCt (own.map (·.2)) σ e H' B3) σ2 e2 H4 B4 → wipe σ2 (own.map (·.2)) = wipe σ (own.map (·.2)) →
        Rel G c σ (backE (own.map (·.2)) 0 e2 e) H4 B4 ∧ H4 D = some (.lst xs) ∧ B4 D = none ∧ e2.length = e.length := fun {σ2 e2 H4 B4} R4 hw => by
      refine ⟨R3.unreb R4 hw, R4.keep hDH3.1 fun ⟨i', b', w', _, z2, z3⟩ => hn i' b' w' z2 z3, ?_, ?_⟩
      · cases z : B4 D with
        | none => rfl
        | some u =>
          rcases R4.new z with ⟨u', hu'⟩ | z'
          · rw [show (subCt (own.map (·.2)) σ e H' B3).B0 D = B3 D from rfl, hDH3.2] at hu'; cases hu'
          · rw [show (subCt (own.map (·.2)) σ e H' B3).H0 D = H' D from rfl, hDH3.1] at z'; cases z'
      · have h1 := R3.len
        have h2 := R4.len
        have h3 : (wipe σ2 (own.map (·.2))).length = (wipe σ (own.map (·.2))).length := by rw [hw]
        rw [wipe_length, wipe_length] at h3
        omega
    have ww : wipe (wipe σ (own.map (·.2))) (own.map (·.2)) = wipe σ (own.map (·.2)) := wipe_idem _ _
    refine ⟨_, _, B3, _, rfl, Rb, ix, ?_⟩
    cases ht : t p.1[i] (rebE (own.map (·.2)) 0 e) with
    | bad => rw [ht] at hq; cases hq
    | exn => rw [ht] at hq; cases hq
    | ok e1 =>
      rw [ht] at hq
      intro σ2 H4 B4 R4 s4 hw4
      have hw4 := hw4.trans ww
      refine ⟨hw4, _, rfl, e1, B4, R4, ?_⟩
      have hq : (tt e1).bind (fun p => if p.1 then (mSh m p.2).bind fun q => WL.R.ok (some q.1, q.2) else .ok (none, p.2)) = .ok q := hq
      cases htt : tt e1 with
      | bad => rw [htt] at hq; cases hq
      | exn => rw [htt] at hq; cases hq
      | ok p2 =>
        rw [htt] at hq
        intro H5 B5 R5 s5
        obtain ⟨b, e2⟩ := p2
        cases b with
        | false =>
          cases hq
          obtain ⟨a1, a2, a3, a4⟩ := after R5 hw4
          exact ⟨_, B5, acc, xs, a1, (s2.trans s3).trans (s4.trans s5), a2, hacc.mono (s3.trans (s4.trans s5)), a3, back_nobody a4 hn, h⟩
        | true =>
          have hq : (mSh m e2).bind (fun q => WL.R.ok (some q.1, q.2)) = .ok q := hq
          refine ⟨_, rfl, tSh R5 ?_⟩
          cases hm : mSh m e2 with
          | bad => rw [hm] at hq; cases hq
          | exn => rw [hm] at hq; cases hq
          | ok p3 =>
            rw [hm] at hq
            cases hq
            intro y H6 B6 R6 s6 iy
            obtain ⟨a1, a2, a3, a4⟩ := after R6 hw4
            obtain ⟨z, h⟩ := RB_iff (show RB G c (iff (acc.length < line) _) _ from h)
            have sx : Sub B2 B6 := s3.trans (s4.trans (s5.trans s6))
            have hx := hacc.mono sx
            refine ⟨xs, a2, by rw [← hacc.len]; exact line_lt z, _, B6, acc ++ [p3.1], xs ++ [y], a1.put a3 hD0 (back_nobody a4 hn), s2.trans sx, upd_same, hx.app (.cons iy .nil), a3, back_nobody a4 hn, h⟩
  · have e1 : i = p.1.length := by omega
    subst e1
    rw [List.drop_length, cLoop] at h
    exact .inl ⟨J1.stop s2 R2.sub, h (.ref D) H B2 R2 (s0.trans (s1.trans s2)) ⟨D, rfl, hDB, hD0, hn, xs, hDH, hacc⟩⟩
/-- [e for t in it if tt] -/
theorem we_comp (fz : List Nat) (hh : Here X G c k) (hi : WI X G c tg iter mi) (ok : BlkOk X.N X.env.scope scope own)
    (hg : ∀ (s : Shared) (H : Hp) (C : Addr) (cl : List (Str × Addr)) (fp : List Addr), PG (X.blk s H scope (compEnvC scope cl C X.env) fp) tg (gWc G (own.map (·.2)) t))
    (ht : ∀ (s : Shared) (H : Hp) (C : Addr) (cl : List (Str × Addr)) (fp : List Addr), PTs (X.blk s H scope (compEnvC scope cl C X.env) fp) ifs (tWTx G tt))
    (he : ∀ (s : Shared) (H : Hp) (C : Addr) (cl : List (Str × Addr)) (fp : List Addr), PE (X.blk s H scope (compEnvC scope cl C X.env) fp) elt (tWx G m)) (hs : ∀ x, foldedSetIterable iter X.env x = pure x := by intro _; rfl) :
    WE X G c (.ListComp elt [⟨tg, iter, ifs, 0⟩] scope pos) (mComp fz (own.map (·.2)) mi t tt m) :=
  PE.imp (pe_lc hh.calm hh.nd hi ok hg ht he hs) fun σ H Q q => comp_rd q
/-- y = [..] on one line -/
theorem ws_comp (i : Nat) (fz : List Nat) {y : Str} {py : Pos} {spos : Pos} (hh : Here X G c k) (hi : WI X G c tg iter mi) (ok : BlkOk X.N X.env.scope scope own)
    (hg : ∀ (s : Shared) (H : Hp) (C : Addr) (cl : List (Str × Addr)) (fp : List Addr), PG (X.blk s H scope (compEnvC scope cl C X.env) fp) tg (gWc G (own.map (·.2)) t))
    (ht : ∀ (s : Shared) (H : Hp) (C : Addr) (cl : List (Str × Addr)) (fp : List Addr), PTs (X.blk s H scope (compEnvC scope cl C X.env) fp) ifs (tWTx G tt))
    (he : ∀ (s : Shared) (H : Hp) (C : Addr) (cl : List (Str × Addr)) (fp : List Addr), PE (X.blk s H scope (compEnvC scope cl C X.env) fp) elt (tWx G m))
    (hy : X.N[i]? = some y := by rfl) (hyl : X.env.scope.names.lookup y = some .local := by rfl)
    (hsw : swapsWith (.ListComp elt [⟨tg, iter, ifs, 0⟩] scope pos) (some (.Name y py)) spos.line X.env = pure true := by exact sw_true rfl rfl rfl (by decide +kernel)) (hs : ∀ x, foldedSetIterable iter X.env x = pure x := by intro _; rfl) :
    WS X G c (.Assign [.Name y py] (.ListComp elt [⟨tg, iter, ifs, 0⟩] scope pos) spos) (mSet i (mComp fz (own.map (·.2)) mi t tt m)) :=
  PS.imp (ps_setLc hh.calm hh.nd hy hyl hsw hi ok hg ht he hs) fun D σ H ⟨e, B, R, h⟩ => comp_rd ⟨e, B, R, set_post (P := D.nx) h⟩
end
end WL
end F_WLK

section F_WLM
/-! WLM: built-in functions and methods by trees. -/
namespace WL
open PySem PySem.Spec PyProof.Rows L2

/-! ### one argument, read only -/
/-- a built-in of one argument, by trees -/
def Un1 (X : Cx) (G : Gm) (c : Ct) (v : Value) (f : W → R Rs) : Prop :=
  ∀ w, ∃ r, CallR X v r ∧ ∀ (σ : L2.St) (e : En) (H B : Hp) (x : V) (Q : VK), Rel G c σ e H B → Isb G H B w x → RB G c (f w) (Po G c σ e B Q) → r [x] H Q
section
variable {X : Cx} {G : Gm} {c : Ct} {k : Nat} {pos p : Pos} {a b : Expr} {m ma mb : Mx} {bid T : String} {x : Str} {f : W → R Rs}
theorem un_post {σ : L2.St} {e : En} {H B : Hp} {Q : VK} (R : Rel G c σ e H B) (h : RB G c (mUn f m e) fun r => Po G c σ r.2 B Q r.1) {K : V → Hp → Prop}
    (hK : ∀ w e2, m1 m e = .ok (w, e2) → ∀ H1 B1 x, Rel G c σ e2 H1 B1 → Isb G H1 B1 w x → RB G c (f w) (Po G c σ e2 B1 Q) → K x H1) : tW G c m σ H K := by
  rw [mUn, RB_bind] at h
  refine tW1 R ?_
  cases z : m1 m e with
  | bad => rw [z] at h; exact h.elim
  | exn => rw [z] at h; exact h
  | ok t =>
    rw [z] at h
    intro x H1 B1 R1 s1 i1
    have h : RB G c ((f t.1).bind fun r => .ok (r, t.2)) fun r => Po G c σ r.2 B Q r.1 := h
    rw [RB_bind] at h
    exact hK t.1 t.2 z H1 B1 x R1 i1 (h.mono fun r po v H' B' R' s' rv => po v H' B' R' (s1.trans s') rv)
theorem we_b1 (ho : Un1 X G c (.builtin bid) f) (ha : WE X G c a m) (hm : X.mg x = none) (hv : bootBuiltins x = some (.builtin bid)) (hg : Gl X x := by rfl) (hn : x ≠ "__name__" := by decide) (hdb : (x == ("__debug__" : Str)) = false := by decide)
    (he : starEach [a] X.env = (false, eval a X.env) :: starEach [] X.env := by rfl) : WE X G c (.Call (.Name x p) [a] [] pos) (mUn f m) := by
  refine ⟨fun pins s σ H Q I h => ?_⟩
  obtain ⟨e, B, R, h⟩ := h
  have go : ∀ w0, (∀ w e2, m1 m e = .ok (w, e2) → w = w0) → wpAny (model X.prog X.w) X.A (eval (.Call (.Name x p) [a] [] pos) X.env) (EP X pins σ Q) X.xe s := fun w0 hw =>
    (pe_callB (ho w0).choose_spec.1 hg hm hv (pa_cons ha pa_nil he) hn hdb he rfl).run pins s σ H Q I (un_post R h fun w e2 z H1 B1 y R1 i1 po => by
      have := hw w e2 z
      subst this
      exact (ho w).choose_spec.2 σ e2 H1 B1 y Q R1 i1 po)
  cases z : m1 m e with
  | bad => exact go .non fun w e2 q => by rw [z] at q; cases q
  | exn => exact go .non fun w e2 q => by rw [z] at q; cases q
  | ok t => exact go t.1 fun w e2 q => by rw [z] at q; cases q; rfl
theorem we_t1 (ho : Un1 X G c (.type T) f) (ha : WE X G c a m) (hm : X.mg x = none) (hv : bootBuiltins x = some (.type T)) (hg : Gl X x := by rfl) (hn : x ≠ "__name__" := by decide) (hdb : (x == ("__debug__" : Str)) = false := by decide)
    (he : starEach [a] X.env = (false, eval a X.env) :: starEach [] X.env := by rfl) : WE X G c (.Call (.Name x p) [a] [] pos) (mUn f m) := by
  refine ⟨fun pins s σ H Q I h => ?_⟩
  obtain ⟨e, B, R, h⟩ := h
  have go : ∀ w0, (∀ w e2, m1 m e = .ok (w, e2) → w = w0) → wpAny (model X.prog X.w) X.A (eval (.Call (.Name x p) [a] [] pos) X.env) (EP X pins σ Q) X.xe s := fun w0 hw =>
    (pe_callTy (ho w0).choose_spec.1 hg hm hv (pa_cons ha pa_nil he) hn hdb he rfl).run pins s σ H Q I (un_post R h fun w e2 z H1 B1 y R1 i1 po => by
      have := hw w e2 z
      subst this
      exact (ho w).choose_spec.2 σ e2 H1 B1 y Q R1 i1 po)
  cases z : m1 m e with
  | bad => exact go .non fun w e2 q => by rw [z] at q; cases q
  | exn => exact go .non fun w e2 q => by rw [z] at q; cases q
  | ok t => exact go t.1 fun w e2 q => by rw [z] at q; cases q; rfl

def fLen : W → R Rs
  | .str z => iff (z.length ≤ line) (.ok (.sh (.int (z.length : Nat))))
  | .lst ws => .ok (.sh (.int (ws.length : Nat)))
  | .tup ws => .ok (.sh (.int (ws.length : Nat)))
  | .scr ns => .ok (.sh (.int (ns.length : Nat)))
  | _ => .bad
theorem u_len (g : Ties X G) : Un1 X G c (.builtin "len") fLen := by
  intro w
  cases w
  case str z => exact ⟨_, call_len, fun σ e H B x Q R i h => have ⟨q, h⟩ := RB_iff h; ⟨x, z.length, rfl, by rw [show x = .str z from i]; exact ⟨line_le q, rfl⟩, Po.sh h R rfl⟩⟩
  case lst ws => exact ⟨_, call_len, fun σ e H B x Q R i h => by
    obtain ⟨l, rfl, xs, h1, h2⟩ := i
    exact ⟨_, ws.length, rfl, .inl ⟨xs, .inl (.inl h1), h2.len⟩, Po.sh h R rfl⟩⟩
  case tup ws => exact ⟨_, call_len, fun σ e H B x Q R i h => by
    obtain ⟨l, xs, rfl, h1, h2⟩ := i
    rw [g.K] at h1
    exact ⟨_, ws.length, rfl, .inr ⟨xs, sub_sqt R.sub h1, h2.len⟩, Po.sh h R rfl⟩⟩
  case scr ns => exact ⟨_, call_len, fun σ e H B x Q R i h => by
    obtain ⟨l, rfl, h1⟩ := i
    rw [g.K] at h1
    exact ⟨_, ns.length, rfl, .inl ⟨_, h1, by simp⟩, Po.sh h R rfl⟩⟩
  all_goals exact ⟨_, call_len, fun _ _ _ _ _ _ _ _ h => h.elim⟩
def fAbs : W → R Rs
  | .int i => .ok (.sh (.int (if i < 0 then -i else i)))
  | _ => .bad
theorem u_abs : Un1 X G c (.builtin "abs") fAbs := by
  intro w
  cases w
  case int i => exact ⟨_, call_abs, fun σ e H B x Q R i1 h => ⟨i, by rw [show x = .int i from i1], Po.sh h R rfl⟩⟩
  all_goals exact ⟨_, call_abs, fun _ _ _ _ _ _ _ _ h => h.elim⟩
def intsOf : List W → Option (List Int)
  | [] => some []
  | .int i :: r => (intsOf r).map (i :: ·)
  | _ => none
theorem intsOf_eq : ∀ {ws : List W} {ns : List Int}, intsOf ws = some ns → ws = ns.map W.int
  | [], _, h => by cases h; rfl
  | .int i :: r, ns, h => by
    simp only [intsOf, Option.map_eq_some_iff] at h
    obtain ⟨l, h1, rfl⟩ := h
    rw [intsOf_eq h1]; rfl
@[simp] theorem intsOf_map : ∀ (ns : List Int), intsOf (ns.map W.int) = some ns
  | [] => rfl
  | n :: ns => by simp [intsOf, intsOf_map ns]
def strsOf : List W → Option (List Str)
  | [] => some []
  | .str i :: r => (strsOf r).map (i :: ·)
  | _ => none
theorem strsOf_eq : ∀ {ws : List W} {ns : List Str}, strsOf ws = some ns → ws = ns.map W.str
  | [], _, h => by cases h; rfl
  | .str i :: r, ns, h => by
    simp only [strsOf, Option.map_eq_some_iff] at h
    obtain ⟨l, h1, rfl⟩ := h
    rw [strsOf_eq h1]; rfl
@[simp] theorem strsOf_map : ∀ (ns : List Str), strsOf (ns.map W.str) = some ns
  | [] => rfl
  | n :: ns => by simp [strsOf, strsOf_map ns]
def blsOf : List W → Option (List Bool)
  | [] => some []
  | .bl i :: r => (blsOf r).map (i :: ·)
  | _ => none
theorem blsOf_eq : ∀ {ws : List W} {ns : List Bool}, blsOf ws = some ns → ws = ns.map W.bl
  | [], _, h => by cases h; rfl
  | .bl i :: r, ns, h => by
    simp only [blsOf, Option.map_eq_some_iff] at h
    obtain ⟨l, h1, rfl⟩ := h
    rw [blsOf_eq h1]; rfl
@[simp] theorem blsOf_map : ∀ (ns : List Bool), blsOf (ns.map W.bl) = some ns
  | [] => rfl
  | n :: ns => by simp [blsOf, blsOf_map ns]
def fSum : W → R Rs
  | .lst ws => (ofO (intsOf ws)).bind fun ns => .ok (.sh (.int ns.sum))
  | _ => .bad
theorem u_sum (hc : X.calm = true) : Un1 X G c (.builtin "sum") fSum := by
  intro w
  cases w
  case lst ws => exact ⟨_, cr_sum hc, fun σ e H B x Q R i h => by
    obtain ⟨l, rfl, xs, h1, h2⟩ := i
    simp only [fSum] at h
    rw [RB_bind] at h
    obtain ⟨ns, z, h⟩ := RB_ofO h
    rw [intsOf_eq z] at h2
    exact ⟨l, ns, rfl, .inl (.inl (by rw [h1, Iss.ints.mp h2])), Po.sh h R rfl⟩⟩
  all_goals exact ⟨_, cr_sum hc, fun _ _ _ _ _ _ _ _ h => h.elim⟩
def fAll : W → R Rs
  | .lst ws => (ofO (blsOf ws)).bind fun ns => .ok (.sh (.bl (ns.all id)))
  | _ => .bad
theorem u_all (hc : X.calm = true) : Un1 X G c (.builtin "all") fAll := by
  intro w
  cases w
  case lst ws => exact ⟨_, cr_all hc, fun σ e H B x Q R i h => by
    obtain ⟨l, rfl, xs, h1, h2⟩ := i
    simp only [fAll] at h
    rw [RB_bind] at h
    obtain ⟨ns, z, h⟩ := RB_ofO h
    rw [blsOf_eq z] at h2
    exact ⟨l, ns, rfl, .inl (.inl (by rw [h1, Iss.bls.mp h2])), Po.sh h R rfl⟩⟩
  all_goals exact ⟨_, cr_all hc, fun _ _ _ _ _ _ _ _ h => h.elim⟩
def fAny : W → R Rs
  | .lst ws => (ofO (blsOf ws)).bind fun ns => .ok (.sh (.bl (ns.any id)))
  | _ => .bad
theorem u_any (hc : X.calm = true) : Un1 X G c (.builtin "any") fAny := by
  intro w
  cases w
  case lst ws => exact ⟨_, cr_any hc, fun σ e H B x Q R i h => by
    obtain ⟨l, rfl, xs, h1, h2⟩ := i
    simp only [fAny] at h
    rw [RB_bind] at h
    obtain ⟨ns, z, h⟩ := RB_ofO h
    rw [blsOf_eq z] at h2
    exact ⟨l, ns, rfl, .inl (.inl (by rw [h1, Iss.bls.mp h2])), Po.sh h R rfl⟩⟩
  all_goals exact ⟨_, cr_any hc, fun _ _ _ _ _ _ _ _ h => h.elim⟩
/-- the greatest, the least of a list that is not empty -/
def maxI : List Int → Int
  | [] => 0
  | [n] => n
  | n :: r => max n (maxI r)
def minI : List Int → Int
  | [] => 0
  | [n] => n
  | n :: r => min n (minI r)
theorem maxI_is : ∀ {ns : List Int} {m : Int}, m ∈ ns → (∀ y ∈ ns, y ≤ m) → m = maxI ns
  | [], _, h, _ => by cases h
  | [n], m, h, _ => by simp at h; rw [h]; rfl
  | n :: k :: r, m, h, hle => by
    show m = max n (maxI (k :: r))
    rcases List.mem_cons.mp h with rfl | h
    · have : ∀ (l : List Int) (b : Int), l ≠ [] → (∀ y ∈ l, y ≤ b) → maxI l ≤ b := by
        intro l
        induction l with
        | nil => intro b h; exact (h rfl).elim
        | cons a t ih =>
          intro b _ hb
          cases t with
          | nil => exact hb a (by simp)
          | cons a' t' =>
            show max a (maxI (a' :: t')) ≤ b
            have h1 := hb a (by simp)
            have h2 := ih b (by simp) fun y hy => hb y (List.mem_cons_of_mem _ hy)
            omega
      have := this (k :: r) m (by simp) fun y hy => hle y (List.mem_cons_of_mem _ hy)
      omega
    · have ih := maxI_is h fun y hy => hle y (List.mem_cons_of_mem _ hy)
      have := hle n (by simp)
      omega
theorem minI_is : ∀ {ns : List Int} {m : Int}, m ∈ ns → (∀ y ∈ ns, m ≤ y) → m = minI ns
  | [], _, h, _ => by cases h
  | [n], m, h, _ => by simp at h; rw [h]; rfl
  | n :: k :: r, m, h, hle => by
    show m = min n (minI (k :: r))
    rcases List.mem_cons.mp h with rfl | h
    · have : ∀ (l : List Int) (b : Int), l ≠ [] → (∀ y ∈ l, b ≤ y) → b ≤ minI l := by
        intro l
        induction l with
        | nil => intro b h; exact (h rfl).elim
        | cons a t ih =>
          intro b _ hb
          cases t with
          | nil => exact hb a (by simp)
          | cons a' t' =>
            show b ≤ min a (minI (a' :: t'))
            have h1 := hb a (by simp)
            have h2 := ih b (by simp) fun y hy => hb y (List.mem_cons_of_mem _ hy)
            omega
      have := this (k :: r) m (by simp) fun y hy => hle y (List.mem_cons_of_mem _ hy)
      omega
    · have ih := minI_is h fun y hy => hle y (List.mem_cons_of_mem _ hy)
      have := hle n (by simp)
      omega
def fMax : W → R Rs
  | .lst ws => (ofO (intsOf ws)).bind fun ns => iff (0 < ns.length) (.ok (.sh (.int (maxI ns))))
  | _ => .bad
theorem u_max (hc : X.calm = true) : Un1 X G c (.builtin "max") fMax := by
  intro w
  cases w
  case lst ws => exact ⟨_, cr_max hc, fun σ e H B x Q R i h => by
    obtain ⟨l, rfl, xs, h1, h2⟩ := i
    simp only [fMax] at h
    rw [RB_bind] at h
    obtain ⟨ns, z, h⟩ := RB_ofO h
    obtain ⟨z1, h⟩ := RB_iff h
    rw [intsOf_eq z] at h2
    exact ⟨l, ns, rfl, .inl (.inl (by rw [h1, Iss.ints.mp h2])), z1, fun m hm hle => Po.sh h R (show V.int m = .int (maxI ns) by rw [maxI_is hm hle])⟩⟩
  all_goals exact ⟨_, cr_max hc, fun _ _ _ _ _ _ _ _ h => h.elim⟩
def fMin : W → R Rs
  | .lst ws => (ofO (intsOf ws)).bind fun ns => iff (0 < ns.length) (.ok (.sh (.int (minI ns))))
  | _ => .bad
theorem u_min (hc : X.calm = true) : Un1 X G c (.builtin "min") fMin := by
  intro w
  cases w
  case lst ws => exact ⟨_, cr_min hc, fun σ e H B x Q R i h => by
    obtain ⟨l, rfl, xs, h1, h2⟩ := i
    simp only [fMin] at h
    rw [RB_bind] at h
    obtain ⟨ns, z, h⟩ := RB_ofO h
    obtain ⟨z1, h⟩ := RB_iff h
    rw [intsOf_eq z] at h2
    exact ⟨l, ns, rfl, .inl (.inl (by rw [h1, Iss.ints.mp h2])), z1, fun m hm hle => Po.sh h R (show V.int m = .int (minI ns) by rw [minI_is hm hle])⟩⟩
  all_goals exact ⟨_, cr_min hc, fun _ _ _ _ _ _ _ _ h => h.elim⟩
def fList : W → R Rs
  | .lst ws => .ok (.fr (.lst ws))
  | .tup ws => .ok (.fr (.lst ws))
  | _ => .bad
theorem u_list (g : Ties X G) : Un1 X G c (.type "list") fList := by
  intro w
  cases w
  case lst ws => exact ⟨_, call_list_of, fun σ e H B x Q R i h => by
    obtain ⟨l, rfl, xs, h1, h2⟩ := i
    exact ⟨l, xs, rfl, .inl (.inl (.inl h1)), fun q hq => Po.lst h R hq h2⟩⟩
  case tup ws => exact ⟨_, call_list_of, fun σ e H B x Q R i h => by
    obtain ⟨l, xs, rfl, h1, h2⟩ := i
    rw [g.K] at h1
    exact ⟨l, xs, rfl, .inr (sub_sqt R.sub h1), fun q hq => Po.lst h R hq h2⟩⟩
  all_goals exact ⟨_, call_list_of, fun _ _ _ _ _ _ _ _ h => h.elim⟩
def fTuple : W → R Rs
  | .lst ws => .ok (.sh (.tup ws))
  | .tup ws => .ok (.sh (.tup ws))
  | _ => .bad
theorem u_tuple (g : Ties X G) : Un1 X G c (.type "tuple") fTuple := by
  intro w
  cases w
  case lst ws => exact ⟨_, call_tuple_of, fun σ e H B x Q R i h => by
    obtain ⟨l, rfl, xs, h1, h2⟩ := i
    exact ⟨l, xs, rfl, .inl ⟨.inl (.inl h1), fun q hq => Po.tup h R hq h2⟩⟩⟩
  case tup ws => exact ⟨_, call_tuple_of, fun σ e H B x Q R i h => by
    obtain ⟨l, xs, rfl, h1, h2⟩ := i
    rw [g.K] at h1
    exact ⟨l, xs, rfl, .inr ⟨sub_sqt R.sub h1, Po.sh h R ⟨l, xs, rfl, by rw [g.K]; exact h1, h2⟩⟩⟩⟩
  all_goals exact ⟨_, call_tuple_of, fun _ _ _ _ _ _ _ _ h => h.elim⟩
def fInt : W → R Rs
  | .int i => .ok (.sh (.int i))
  | .bl b => .ok (.sh (.int (if b then 1 else 0)))
  | .str z => iff (z.length ≤ 640) ((ofO (PySem.intText? z)).bind fun n => .ok (.sh (.int n)))
  | _ => .bad
theorem u_int : Un1 X G c (.type "int") fInt := by
  intro w
  cases w
  case int i => exact ⟨_, call_int1, fun σ e H B x Q R i1 h => .inl ⟨i, by rw [show x = .int i from i1], Po.sh h R rfl⟩⟩
  case bl b => exact ⟨_, call_int1, fun σ e H B x Q R i1 h => .inr ⟨b, by rw [show x = .bl b from i1], Po.sh h R rfl⟩⟩
  case str z => exact ⟨_, call_int_str, fun σ e H B x Q R i1 h => by
    simp only [fInt] at h
    obtain ⟨q, h⟩ := RB_iff h
    rw [RB_bind] at h
    obtain ⟨n, z1, h⟩ := RB_ofO h
    exact ⟨z, n, by rw [show x = .str z from i1], z1, q, Po.sh h R rfl⟩⟩
  all_goals exact ⟨_, call_int1, fun _ _ _ _ _ _ _ _ h => h.elim⟩
def fStr : W → R Rs
  | .int i => iff (i.natAbs.log2 < 1920) (.ok (.sh (.str (toString i))))
  | _ => .bad
theorem u_str : Un1 X G c (.type "str") fStr := by
  intro w
  cases w
  case int i => exact ⟨_, call_str_int, fun σ e H B x Q R i1 h => have ⟨q, h⟩ := RB_iff h; ⟨i, by rw [show x = .int i from i1], q, Po.sh h R rfl⟩⟩
  all_goals exact ⟨_, call_str_int, fun _ _ _ _ _ _ _ _ h => h.elim⟩
/-- sorted(xs) of ints -/
def insI (x : Int) : List Int → List Int
  | [] => [x]
  | y :: ys => if x ≤ y then x :: y :: ys else y :: insI x ys
def sortI : List Int → List Int
  | [] => []
  | x :: xs => insI x (sortI xs)
theorem insI_perm (x : Int) : ∀ ys : List Int, (insI x ys).Perm (x :: ys)
  | [] => .refl _
  | y :: ys => by
    unfold insI
    split
    · exact .refl _
    · exact ((insI_perm x ys).cons y).trans (.swap x y ys)
theorem insI_sorted (x : Int) : ∀ {ys : List Int}, ys.Pairwise (· ≤ ·) → (insI x ys).Pairwise (· ≤ ·)
  | [], _ => by simp [insI]
  | y :: ys, h => by
    obtain ⟨h1, h2⟩ := List.pairwise_cons.mp h
    unfold insI
    split
    · rename_i q
      refine List.pairwise_cons.mpr ⟨fun z hz => ?_, h⟩
      rcases List.mem_cons.mp hz with rfl | hz
      · exact q
      · have := h1 z hz; omega
    · rename_i q
      refine List.pairwise_cons.mpr ⟨fun z hz => ?_, insI_sorted x h2⟩
      rcases List.mem_cons.mp ((insI_perm x ys).mem_iff.mp hz) with rfl | hz
      · omega
      · exact h1 z hz
theorem sortI_perm : ∀ ns : List Int, (sortI ns).Perm ns
  | [] => .refl _
  | x :: xs => (insI_perm x _).trans ((sortI_perm xs).cons x)
theorem sortI_sorted : ∀ ns : List Int, (sortI ns).Pairwise (· ≤ ·)
  | [] => .nil
  | x :: xs => insI_sorted x (sortI_sorted xs)
theorem sortI_is {ns ms : List Int} (h : ms.Perm ns) (p : ms.Pairwise (· ≤ ·)) : ms = sortI ns :=
  List.Perm.eq_of_pairwise (le := (· ≤ ·)) (fun a b _ _ h1 h2 => by omega) p (sortI_sorted ns) (h.trans (sortI_perm ns).symm)
def fSorted : W → R Rs
  | .lst ws => (ofO (intsOf ws)).bind fun ns => .ok (.fr (.lst ((sortI ns).map W.int)))
  | _ => .bad
theorem u_sorted : Un1 X G c (.builtin "sorted") fSorted := by
  intro w
  cases w
  case lst ws => exact ⟨_, cr_sortedI, fun σ e H B x Q R i h => by
    obtain ⟨l, rfl, xs, h1, h2⟩ := i
    simp only [fSorted] at h
    rw [RB_bind] at h
    obtain ⟨ns, z, h⟩ := RB_ofO h
    rw [intsOf_eq z] at h2
    exact ⟨l, ns, rfl, .inl (.inl (by rw [h1, Iss.ints.mp h2])), fun ns' q hp hs hq => by
      rw [sortI_is hp hs]
      exact Po.lst h R hq (Iss.ints.mpr rfl)⟩⟩
  all_goals exact ⟨_, cr_sortedI, fun _ _ _ _ _ _ _ _ h => h.elim⟩

/-! ### two arguments -/
def fMax2 : W → W → R Rs
  | .int i, .int j => .ok (.sh (.int (if j > i then j else i)))
  | _, _ => .bad
def fMin2 : W → W → R Rs
  | .int i, .int j => .ok (.sh (.int (if j < i then j else i)))
  | _, _ => .bad
theorem bin_post {f : W → W → R Rs} {σ : L2.St} {e : En} {H B : Hp} {Q : VK} (R : Rel G c σ e H B) (h : RB G c (mBin f ma mb e) fun r => Po G c σ r.2 B Q r.1) {K : V → V → Hp → Prop}
    (hK : ∀ w1 w2 e2, m2 ma mb e = .ok (w1, w2, e2) → ∀ H1 B1 x y, Rel G c σ e2 H1 B1 → Isb G H1 B1 w1 x → Isb G H1 B1 w2 y → RB G c (f w1 w2) (Po G c σ e2 B1 Q) → K x y H1) : tW G c ma σ H fun x H1 => tW G c mb σ H1 fun y H2 => K x y H2 := by
  rw [mBin, RB_bind] at h
  refine tW2 R ?_
  cases z : m2 ma mb e with
  | bad => rw [z] at h; exact h.elim
  | exn => rw [z] at h; exact h
  | ok t =>
    rw [z] at h
    intro x y H2 B2 R2 s2 i1 i2
    have h : RB G c ((f t.1 t.2.1).bind fun r => .ok (r, t.2.2)) fun r => Po G c σ r.2 B Q r.1 := h
    rw [RB_bind] at h
    exact hK t.1 t.2.1 t.2.2 z H2 B2 x y R2 i1 i2 (h.mono fun r po v H' B' R' s' rv => po v H' B' R' (s2.trans s') rv)
theorem we_max2 (hc : X.calm = true) (ha : WE X G c a ma) (hb : WE X G c b mb) (hm : X.mg "max" = none) (hg : Gl X "max" := by rfl) (he : starEach [a, b] X.env = (false, eval a X.env) :: starEach [b] X.env := by rfl) (hpl : (backTo pos (starEach [b] X.env)).any (·.1) = false := by rfl)
    (he2 : starEach [b] X.env = (false, eval b X.env) :: starEach [] X.env := by rfl) : WE X G c (.Call (.Name "max" p) [a, b] [] pos) (mBin fMax2 ma mb) :=
  PE.imp (pe_callB (call_max2 hc) hg hm (by decide +kernel) (pa_cons ha (pa_cons hb pa_nil he2) he) (by decide) (by decide) he hpl) fun σ H Q ⟨e, B, R, h⟩ => bin_post R h fun w1 w2 e2 _ H1 B1 x y R1 i1 i2 h => by
    cases w1 <;> cases w2 <;> first | exact False.elim h | skip
    rename_i i j _
    exact ⟨i, j, by rw [show x = .int i from i1, show y = .int j from i2], Po.sh h R1 rfl⟩
theorem we_min2 (hc : X.calm = true) (ha : WE X G c a ma) (hb : WE X G c b mb) (hm : X.mg "min" = none) (hg : Gl X "min" := by rfl) (he : starEach [a, b] X.env = (false, eval a X.env) :: starEach [b] X.env := by rfl) (hpl : (backTo pos (starEach [b] X.env)).any (·.1) = false := by rfl)
    (he2 : starEach [b] X.env = (false, eval b X.env) :: starEach [] X.env := by rfl) : WE X G c (.Call (.Name "min" p) [a, b] [] pos) (mBin fMin2 ma mb) :=
  PE.imp (pe_callB (call_min2 hc) hg hm (by decide +kernel) (pa_cons ha (pa_cons hb pa_nil he2) he) (by decide) (by decide) he hpl) fun σ H Q ⟨e, B, R, h⟩ => bin_post R h fun w1 w2 e2 _ H1 B1 x y R1 i1 i2 h => by
    cases w1 <;> cases w2 <;> first | exact False.elim h | skip
    rename_i i j _
    exact ⟨i, j, by rw [show x = .int i from i1, show y = .int j from i2], Po.sh h R1 rfl⟩

/-! ### methods of texts -/
/-- a text's method of one argument: the text is looked at first -/
def mM1 (f : Str → W → R Rs) (a b : Mx) : Mx := fun e => (m1 a e).bind fun t => match t.1 with
  | .str z => (m1 b t.2).bind fun u => (f z u.1).bind fun r => .ok (r, u.2)
  | _ => .bad
theorem tm1 {r : V → List V → Hp → VK → Prop} {f : Str → W → R Rs} {σ : L2.St} {H : Hp} {Q : VK} (h : tW G c (mM1 f ma mb) σ H Q)
    (hr : ∀ z w (e : En) (H B : Hp) (y : V), Rel G c σ e H B → Isb G H B w y → RB G c (f z w) (Po G c σ e B Q) → r (.str z) [y] H Q) : tM1 r (tW G c ma) (tW G c mb) σ H Q := by
  obtain ⟨e, B, R, h⟩ := h
  rw [mM1, RB_bind] at h
  refine tW1 R (h.mono fun t h x H1 B1 R1 s1 i1 => ?_)
  obtain ⟨w, e1⟩ := t
  cases w with
  | str z =>
    have h : RB G c ((m1 mb e1).bind fun u => (f z u.1).bind fun r => .ok (r, u.2)) _ := h
    rw [RB_bind] at h
    refine ⟨⟨z, i1⟩, tW1 R1 (h.mono fun u h y H2 B2 R2 s2 i2 => ?_)⟩
    rw [RB_bind] at h
    rw [show x = .str z from i1]
    exact hr z u.1 u.2 H2 B2 y R2 i2 (h.mono fun r po v H' B' R' s' rv => po v H' B' R' ((s1.trans s2).trans s') rv)
  | _ => exact h.elim
def fSplit (z : Str) : W → R Rs
  | .str s => iff (0 < s.length ∧ z.length + 2 ≤ line) (.ok (.fr (.lst ((Txt.split z s).map W.str))))
  | _ => .bad
variable {o : Expr} {mo : Mx} {apos : Pos}
theorem we_split (ho : WE X G c o mo) (ha : WE X G c a ma) (hs : starEach [a] X.env = [(false, eval a X.env)] := by rfl) (hb : attributeBase o "split" X.env (eval o X.env) = eval o X.env := by rfl) (hl : (apos.endLine == pos.line) = true := by rfl) : WE X G c (.Call (.Attribute o "split" apos) [a] [] pos) (mM1 fSplit mo ma) :=
  PE.imp (pe_split ho ha hs hb hl) fun σ H Q h => tm1 h fun z w e H B y R i h => by
    cases w <;> first | exact False.elim h | skip
    rename_i s
    obtain ⟨⟨q1, q2⟩, h⟩ := RB_iff (show RB G c (iff _ _) _ from h)
    exact ⟨z, s, rfl, by rw [show y = .str s from i], by simp; omega, line_le q2, fun p hp => Po.lst h R hp (Iss.strs.mpr rfl)⟩
def fJoin (z : Str) (w : W) : R Rs := match w with
  | .lst ws => (ofO (strsOf ws)).bind fun ys => iff ((ys.map (·.length)).sum + ys.length * z.length ≤ line) (.ok (.sh (.str (Txt.join z ys))))
  | _ => .bad
theorem we_join (ho : WE X G c o mo) (ha : WE X G c a ma) (hs : starEach [a] X.env = [(false, eval a X.env)] := by rfl) (hb : attributeBase o "join" X.env (eval o X.env) = eval o X.env := by rfl) (hl : (apos.endLine == pos.line) = true := by rfl) : WE X G c (.Call (.Attribute o "join" apos) [a] [] pos) (mM1 fJoin mo ma) :=
  PE.imp (pe_join ho ha hs hb hl) fun σ H Q h => tm1 h fun z w e H B y R i h => by
    cases w <;> first | exact False.elim h | skip
    rename_i ws
    simp only [fJoin] at h
    rw [RB_bind] at h
    obtain ⟨ys, q, h⟩ := RB_ofO h
    obtain ⟨q1, h⟩ := RB_iff h
    obtain ⟨l, rfl, xs, h1, h2⟩ := i
    rw [strsOf_eq q] at h2
    exact ⟨z, l, ys, rfl, rfl, .inl (.inl (.inl (by rw [h1, Iss.strs.mp h2]))), q1, Po.sh h R rfl⟩
def fPart (z : Str) : W → R Rs
  | .str s => iff (0 < s.length ∧ z.length ≤ line) (.ok (.sh (.tup [.str (Txt.partition z s).1, .str (Txt.partition z s).2.1, .str (Txt.partition z s).2.2])))
  | _ => .bad
theorem we_part (ho : WE X G c o mo) (ha : WE X G c a ma) (hs : starEach [a] X.env = [(false, eval a X.env)] := by rfl) (hb : attributeBase o "partition" X.env (eval o X.env) = eval o X.env := by rfl) (hl : (apos.endLine == pos.line) = true := by rfl) : WE X G c (.Call (.Attribute o "partition" apos) [a] [] pos) (mM1 fPart mo ma) :=
  PE.imp (pe_partition ho ha hs hb hl) fun σ H Q h => tm1 h fun z w e H B y R i h => by
    cases w <;> first | exact False.elim h | skip
    rename_i s
    obtain ⟨⟨q1, q2⟩, h⟩ := RB_iff (show RB G c (iff _ _) _ from h)
    exact ⟨z, s, rfl, by rw [show y = .str s from i], by simp; omega, line_le q2, fun p hp => Po.tup h R hp ⟨_, _, rfl, rfl, _, _, rfl, rfl, _, _, rfl, rfl, rfl⟩⟩
def fIndex (z : Str) : W → R Rs
  | .str s => (match Builtin.Str.occurrences z s 0 z.length 1 with
    | i :: _ => .ok (.sh (.int (i : Nat)))
    | [] => .bad)
  | _ => .bad
theorem we_sindex (ho : WE X G c o mo) (ha : WE X G c a ma) (hs : starEach [a] X.env = [(false, eval a X.env)] := by rfl) (hb : attributeBase o "index" X.env (eval o X.env) = eval o X.env := by rfl) (hl : (apos.endLine == pos.line) = true := by rfl)
    : WE X G c (.Call (.Attribute o "index" apos) [a] [] pos) (mM1 fIndex mo ma) :=
  PE.imp (pe_m1 PySem.F.slot_str_index PySem.F.type_str_index mt_sindex ho ha hs hb hl) fun σ H Q h => tm1 h fun z w e H B y R i h => by
    cases w <;> first | exact False.elim h | skip
    rename_i s
    simp only [fIndex] at h
    split at h
    · rename_i j rest q
      exact ⟨z, s, j, rest, rfl, by rw [show y = .str s from i], q, Po.sh h R rfl⟩
    · exact h.elim

/-! ### methods that change a list of one's own -/
def mMut (f : List W → List W → Option (W × List W)) (i : Nat) (a : Ma) : Mx := fun e => match e[i]? with
  | some (.ow _ (.lst _)) => (a e).bind fun p => (match p.2[i]? with
    | some (.ow b (.lst ws)) => (ofO (f ws p.1)).bind fun q => .ok (.sh q.1, p.2.set i (.ow b (.lst q.2)))
    | _ => .bad)
  | _ => .bad
theorem mut_post {f : List W → List W → Option (W × List W)} {i : Nat} {mr : Ma} {ta : TA} {σ : L2.St} {e : En} {H B : Hp} {Q : VK} {r : V → List V → Hp → VK → Prop} (R : Rel G c σ e H B)
    (h : RB G c (mMut f i mr e) fun r => ∀ v H' B', Rel G c σ r.2 H' B' → Sub B B' → RV G c σ r.2 H' B' v r.1 → Q v H') (ht : ta = tWA G c mr)
    (hr : ∀ l ws us xs vs (H B : Hp) w' ws', f ws us = some (w', ws') → H l = some (.lst xs) → Iss G B ws xs → Iss G B us vs → (∀ z xs', Is G B w' z → Iss G B ws' xs' → Q z (upd H l (.lst xs'))) → r (.ref l) vs H Q) :
    tBM X.K "list" r (tVar i) ta σ H Q := by
  subst ht
  unfold mMut at h
  cases q : e[i]? with
  | none => simp only [q] at h; exact h.elim
  | some sl =>
    cases sl with
    | un => simp only [q] at h; exact h.elim
    | sh w => simp only [q] at h; exact h.elim
    | ow b w =>
      cases w with
      | lst ws0 =>
        simp only [q] at h
        obtain ⟨l, h1, h2, _, _, xs0, h5, h6⟩ := R.ow q
        rw [RB_bind] at h
        refine ⟨.ref l, h1, .inl ⟨rfl, xs0, .inl (.inl h5)⟩, e, B, R, h.mono fun p h vs H1 B1 R1 s1 i1 => ?_⟩
        cases q2 : p.2[i]? with
        | none => simp only [q2] at h; exact h.elim
        | some sl =>
          cases sl with
          | un => simp only [q2] at h; exact h.elim
          | sh w => simp only [q2] at h; exact h.elim
          | ow b2 w2 =>
            cases w2 with
            | lst ws =>
              simp only [q2] at h
              obtain ⟨hB, _, _, xs, h7, h8⟩ := R1.oH q2 h1
              rw [RB_bind] at h
              obtain ⟨t, q3, h⟩ := RB_ofO h
              refine hr l ws p.1 xs vs H1 B1 t.1 t.2 q3 h7 h8 i1 fun z xs' iz ix => ?_
              exact h z _ B1 (R1.mut q2 h1 ⟨xs', upd_same, ix⟩) s1 iz
            | _ => simp only [q2] at h; exact h.elim
      | _ => simp only [q] at h; exact h.elim
/-- x.append(a) -/
def fAppend (ws us : List W) : Option (W × List W) := match us with
  | [u] => if ws.length < line then some (.non, ws ++ [u]) else none
  | _ => none
theorem slotPE (i : Nat) {y : Str} (hN : X.N[i]? = some y := by rfl) (hv : Vis X.env.scope y := by first | exact Or.inl rfl | exact Or.inr (Or.inl rfl) | exact Or.inr (Or.inr rfl)) (hd : (y == ("__debug__" : Str)) = false := by decide) (hcd : (y == ("__classdict__" : Str)) = false := by decide) {q : Pos} : PE X (.Name y q) (tVar i) := pe_var hN hv hd hcd
variable {y : Str} {ypos : Pos} {es : List Expr} {mr : Ma}
theorem we_append (i : Nat) (hy : PE X (.Name y ypos) (tVar i)) (ha : WA X G c [a] mr) (hbase : attributeBase (.Name y ypos) "append" X.env (eval (.Name y ypos) X.env) = eval (.Name y ypos) X.env := by rfl)
    (hfew : ((backTo pos (starEach [a] X.env)).all (fun x => !x.1) && (backToKw pos (keywordEach [] X.env)).all (fun x => x.1.isSome) && decide ([a].length + ([] : List Keyword).length + (if ([] : List Keyword).isEmpty then 0 else 1) < 30)) = true := by rfl)
    (hline : (apos.endLine == pos.line) = true := by rfl) (hs : starEach [a] X.env = (false, eval a X.env) :: starEach [] X.env := by rfl) (hplain : (backTo pos (starEach [] X.env)).any (·.1) = false := by rfl) :
    WE X G c (.Call (.Attribute (.Name y ypos) "append" apos) [a] [] pos) (mMut fAppend i mr) :=
  PE.imp (pe_bm PySem.F.plainAttrs_list PySem.F.slot_list_append PySem.F.type_list_append mt_append hy ha hbase hfew hline hs hplain) fun σ H Q ⟨e, B, R, h⟩ => mut_post R h rfl fun l ws us xs vs H B w' ws' hf hl iw iu k => by
    unfold fAppend at hf
    split at hf
    · rename_i u
      split at hf
      · rename_i q
        cases hf
        obtain ⟨z, r, rfl, i1, i2⟩ := iu
        cases (show r = [] from i2)
        exact ⟨l, xs, z, rfl, rfl, hl, by rw [← iw.len]; exact line_lt q, k .non _ rfl (iw.app (.cons i1 .nil))⟩
      · cases hf
    · cases hf
/-- x.pop(a) -/
def fPopAt (ws us : List W) : Option (W × List W) := match us with
  | [.int i] => if -(2 ^ 63) ≤ i ∧ i < 2 ^ 63 then (seqIndex? i ws.length).bind fun k => ws[k]?.map fun w => (w, ws.eraseIdx k) else none
  | _ => none
theorem iss_erase {G : Gm} {B : Hp} : ∀ {ws : List W} {xs : List V} (k : Nat), Iss G B ws xs → Iss G B (ws.eraseIdx k) (xs.eraseIdx k)
  | [], _, k, h => by cases (show _ = [] from h); exact rfl
  | _ :: _, _, 0, ⟨x, r, h1, h2, h3⟩ => by subst h1; exact h3
  | _ :: _, _, k + 1, ⟨x, r, h1, h2, h3⟩ => by subst h1; exact ⟨x, _, rfl, h2, iss_erase k h3⟩
theorem we_popAt (i : Nat) (hy : PE X (.Name y ypos) (tVar i)) (ha : WA X G c [a] mr) (hbase : attributeBase (.Name y ypos) "pop" X.env (eval (.Name y ypos) X.env) = eval (.Name y ypos) X.env := by rfl)
    (hfew : ((backTo pos (starEach [a] X.env)).all (fun x => !x.1) && (backToKw pos (keywordEach [] X.env)).all (fun x => x.1.isSome) && decide ([a].length + ([] : List Keyword).length + (if ([] : List Keyword).isEmpty then 0 else 1) < 30)) = true := by rfl)
    (hline : (apos.endLine == pos.line) = true := by rfl) (hs : starEach [a] X.env = (false, eval a X.env) :: starEach [] X.env := by rfl) (hplain : (backTo pos (starEach [] X.env)).any (·.1) = false := by rfl) :
    WE X G c (.Call (.Attribute (.Name y ypos) "pop" apos) [a] [] pos) (mMut fPopAt i mr) :=
  PE.imp (pe_bm PySem.F.plainAttrs_list PySem.F.slot_list_pop PySem.F.type_list_pop mt_popAt hy ha hbase hfew hline hs hplain) fun σ H Q ⟨e, B, R, h⟩ => mut_post R h rfl fun l ws us xs vs H B w' ws' hf hl iw iu k => by
    unfold fPopAt at hf
    split at hf
    · rename_i j
      split at hf
      · rename_i q
        cases q1 : seqIndex? j ws.length with
        | none => rw [q1] at hf; cases hf
        | some n =>
          rw [q1] at hf
          cases q2 : ws[n]? with
          | none => simp only [q2, Option.bind_some, Option.map_none] at hf; cases hf
          | some w =>
            simp only [q2, Option.bind_some, Option.map_some, Option.some.injEq, Prod.mk.injEq] at hf
            obtain ⟨rfl, rfl⟩ := hf
            obtain ⟨z, r, rfl, i1, i2⟩ := iu
            cases (show r = [] from i2)
            cases (show z = .int j from i1)
            obtain ⟨x0, h1, h2⟩ := iw.get q2
            exact ⟨l, xs, j, n, x0, rfl, rfl, hl, q.1, q.2, by rw [← iw.len]; exact q1, h1, k x0 _ h2 (iss_erase n iw)⟩
      · cases hf
    · cases hf
end
end WL
end F_WLM

section F_WLD
/-! WLD: dicts: d[k], k in d, d[k] = v, displays. -/
namespace WL
open PySem PySem.Spec PyProof.Rows L2

section
variable {X : Cx} {G : Gm} {c : Ct} {k : Nat} {pins : List (Addr × Obj)} {σ : L2.St} {e : En} {H B : Hp} {s : Shared}
mutual
theorem Is.nest (g : Ties X G) (I : Inv X pins σ H s) (sb : Sub B H) : ∀ {w : W} {v : V} {u : Value} {q : NestedKey}, Is G B w v → nk w = some q → RelV v u → NestedIs s.heap q u
  | .non, v, u, q, h, hq, r => by cases (show v = .non from h); cases hq; cases r; exact .none
  | .int i, v, u, q, h, hq, r => by cases (show v = .int i from h); cases hq; obtain ⟨t, rfl⟩ := r; exact .int i t
  | .str x, v, u, q, h, hq, r => by cases (show v = .str x from h); cases hq; obtain ⟨t, rfl⟩ := r; exact .text x t
  | .tup ws, v, u, q, ⟨a, xs, h1, h2, h3⟩, hq, r => by
    subst h1
    simp only [nk] at hq
    cases z : nks ws with
    | none => rw [z] at hq; cases hq
    | some l =>
      rw [z] at hq; cases hq
      cases r
      rw [g.K] at h2
      obtain ⟨its, rv, ⟨o, ho, hc, n, hd⟩, _⟩ := I.tuple (sub_sqt sb h2)
      exact .tup ho hc hd (Iss.nest g I sb h3 z rv)
  | .bl _, _, _, _, _, hq, _ => by cases hq
  | .lst _, _, _, _, _, hq, _ => by cases hq
  | .dic _ _, _, _, _, _, hq, _ => by cases hq
  | .tdc _ _, _, _, _, _, hq, _ => by cases hq
  | .obj _ _ _, _, _, _, _, hq, _ => by cases hq
  | .scr _, _, _, _, _, hq, _ => by cases hq
  | .cl _, _, _, _, _, hq, _ => by cases hq
theorem Iss.nest (g : Ties X G) (I : Inv X pins σ H s) (sb : Sub B H) : ∀ {ws : List W} {xs : List V} {us : List Value} {qs : List NestedKey}, Iss G B ws xs → nks ws = some qs → Vals xs us → NestedAll s.heap qs us
  | [], xs, us, qs, h, hq, r => by cases (show xs = [] from h); cases hq; cases r; exact .nil
  | w :: ws, xs, us, qs, ⟨x, l, h1, h2, h3⟩, hq, r => by
    subst h1
    simp only [nks] at hq
    cases z : nk w with
    | none => rw [z] at hq; cases hq
    | some q =>
      cases z2 : nks ws with
      | none => rw [z, z2] at hq; cases hq
      | some l2 =>
        rw [z, z2] at hq; cases hq
        cases r with
        | cons r1 r2 => exact .cons (Is.nest g I sb h2 z r1) (Iss.nest g I sb h3 z2 r2)
end
theorem kT_nk {w : W} {q : NestedKey} (h : kT w = some q) : nk w = some q ∧ q.depth ≤ 8 ∧ ∃ ws, w = .tup ws := by
  cases w with
  | tup ws =>
    simp only [kT] at h
    cases z : nks ws with
    | none => rw [z] at h; cases h
    | some l =>
      rw [z] at h
      simp only [Option.bind_some] at h
      split at h
      · rename_i d
        cases h
        exact ⟨by simp only [nk, z]; rfl, d, ws, rfl⟩
      · cases h
  | _ => cases h
theorem key_at (g : Ties X G) (I : Inv X pins σ H s) (sb : Sub B H) {w : W} {v : V} {u : Value} {q : NestedKey} (i : Is G B w v) (hq : kT w = some q) (r : RelV v u) :
    ∃ b, v = .ref b ∧ u = .ref b ∧ (nestedKind X.prog X.w).is s.heap q b := by
  obtain ⟨h1, h2, ws, rfl⟩ := kT_nk hq
  obtain ⟨a, xs, e1, _, _⟩ := id i
  have n := i.nest g I sb h1 r
  subst e1
  cases r
  exact ⟨a, rfl, rfl, n, h2⟩
abbrev TRel (p : NestedKey × Addr × V) (q : NestedKey × Addr × Value) : Prop := p.1 = q.1 ∧ p.2.1 = q.2.1 ∧ RelV p.2.2 q.2.2
theorem keys_are (g : Ties X G) (I : Inv X pins σ H s) (sb : Sub B H) : ∀ {ks : List W} {xs : List (NestedKey × Addr × V)} {us : List (NestedKey × Addr × Value)}, ks.map kT = xs.map (fun p => some p.1) →
    Iss G B ks (xs.map fun p => V.ref p.2.1) → Paired TRel xs us → ∀ y ∈ us, (nestedKind X.prog X.w).is s.heap y.1 y.2.1
  | _, [], _, _, _, r => by cases r; intro y hy; cases hy
  | [], _ :: _, _, h, _, _ => by cases h
  | w :: ks, p :: xs, us, h, ⟨x, l, h1, h2, h3⟩, r => by
    cases r with
    | @cons _ q _ us r1 r2 =>
      rw [List.map_cons] at h1
      injection h1 with e1 e2
      subst e1
      rw [List.map_cons, List.map_cons] at h
      injection h with e3 e4
      intro y hy
      rcases List.mem_cons.mp hy with rfl | hy
      · obtain ⟨b, e5, e6, e7⟩ := key_at (u := .ref p.2.1) g I sb h2 e3 rfl
        cases e6
        rw [← r1.1, ← r1.2.1]; exact e7
      · exact keys_are g I sb e4 (by rw [e2]; exact h3) r2 y hy
theorem td_at (g : Ties X G) (I : Inv X pins σ H s) (sb : Sub B H) {a : Addr} {ks : List W} {xs : List (NestedKey × Addr × V)} (h : H a = some (tdO G a xs)) (hk : ks.map kT = xs.map (fun p => some p.1)) (ik : Iss G B ks (xs.map fun p => V.ref p.2.1)) :
    (a == sysModules) = false ∧ xs.length ≤ sizeLine ∧ ∃ us, Paired TRel xs us ∧ s.heap.DictOfH (nestedKind X.prog X.w) a us := by
  obtain ⟨⟨h1, h2, us, rel, o, es, ep, ho, hx, hd, he, hn⟩, _, _⟩ := I.hok a _ h
  refine ⟨h1, h2, us, rel, o, es, ep, ho, hx, hd, ?_, fun y hy => keys_are g I sb hk ik rel y hy, hn⟩
  rw [← g.P, ← g.w]; exact he

/-! ### finding -/
def vKey : List (NestedKey × Addr × V) → NestedKey → Option V
  | [], _ => none
  | p :: r, q => if p.1 = q then some p.2.2 else vKey r q
theorem tGet_at {B : Hp} : ∀ {ks vs : List W} {xs : List (NestedKey × Addr × V)} (q : NestedKey), ks.map kT = xs.map (fun p => some p.1) → Iss G B vs (xs.map (·.2.2)) →
    (tGet ks vs q = none ∧ vKey xs q = none) ∨ ∃ w x, tGet ks vs q = some w ∧ vKey xs q = some x ∧ Is G B w x
  | [], vs, [], q, _, iv => .inl ⟨by cases vs <;> rfl, rfl⟩
  | [], _, _ :: _, _, h, _ => by cases h
  | _ :: _, _, [], _, h, _ => by cases h
  | w :: ks, [], p :: xs, q, h, iv => by cases iv
  | w :: ks, v :: vs, p :: xs, q, h, ⟨x, l, h1, h2, h3⟩ => by
    rw [List.map_cons] at h1
    injection h1 with e1 e2
    rw [List.map_cons, List.map_cons] at h
    injection h with e3 e4
    have ih := tGet_at q e4 (by rw [e2]; exact h3)
    simp only [tGet, vKey]
    by_cases z : p.1 = q
    · exact .inr ⟨v, x, by rw [if_pos (by rw [e3, z])], by rw [if_pos z, e1], h2⟩
    · rw [if_neg (by rw [e3]; exact fun y => z (Option.some.inj y)), if_neg z]
      exact ih
theorem vKey_at {xs : List (NestedKey × Addr × V)} {us : List (NestedKey × Addr × Value)} (q : NestedKey) (r : Paired TRel xs us) : (vKey xs q = none ∧ atKey us q = none) ∨ ∃ x p, vKey xs q = some x ∧ atKey us q = some p ∧ RelV x p.2 := by
  induction r with
  | nil => exact .inl ⟨rfl, rfl⟩
  | @cons p u xs us r1 r2 ih =>
    simp only [vKey]
    by_cases z : p.1 = q
    · have : u.1 = q := r1.1.symm.trans z
      exact .inr ⟨p.2.2, u.2, if_pos z, by simp [atKey, List.find?_cons, this], r1.2.2⟩
    · have : ¬ u.1 = q := fun y => z (r1.1.trans y)
      have e5 : atKey (u :: us) q = atKey us q := by simp [atKey, List.find?_cons, this]
      rw [if_neg z, e5]; exact ih
theorem dGet_at {B : Hp} : ∀ {ks : List Key} {vs : List W} {kvs : List (Key × V)} (q : Key), kvs.map (·.1) = ks → Iss G B vs (kvs.map (·.2)) →
    (dGet ks vs q = none ∧ valV kvs q = none) ∨ ∃ w x, dGet ks vs q = some w ∧ valV kvs q = some x ∧ Is G B w x
  | _, vs, [], q, h, iv => by subst h; exact .inl ⟨by cases vs <;> rfl, rfl⟩
  | _, [], _ :: _, q, h, iv => by cases iv
  | _, v :: vs, p :: kvs, q, h, ⟨x, l, h1, h2, h3⟩ => by
    subst h
    rw [List.map_cons] at h1
    injection h1 with e1 e2
    have ih := dGet_at q (kvs := kvs) rfl (by rw [e2]; exact h3)
    simp only [List.map_cons, dGet]
    by_cases z : p.1 = q
    · exact .inr ⟨v, x, if_pos z, by rw [valV_pos z, e1], h2⟩
    · rw [if_neg z, valV_neg z]; exact ih
theorem kK_is {w : W} {q : Key} {v : V} (h : kK w = some q) (i : Is G B w v) : v = kV q := by
  cases w with
  | int j => cases h; exact i
  | str x => cases h; exact i
  | _ => cases h
theorem kK_isb {w : W} {q : Key} {v : V} (h : kK w = some q) (i : Isb G H B w v) : v = kV q := by
  cases w with
  | int j => cases h; exact i
  | str x => cases h; exact i
  | _ => cases h

/-! ### k in d -/
def hasK (w1 w2 : W) : Option Bool := match w2 with
  | .dic ks vs => (kK w1).map fun q => (dGet ks vs q).isSome
  | .tdc ks vs => (kT w1).map fun q => (tGet ks vs q).isSome
  | _ => none
def fInA (w1 w2 : W) : R Rs := match w2 with
  | .dic _ _ => (ofO (hasK w1 w2)).bind fun b => .ok (.sh (.bl b))
  | .tdc _ _ => (ofO (hasK w1 w2)).bind fun b => .ok (.sh (.bl b))
  | _ => fIn w1 w2
def fNotInA (w1 w2 : W) : R Rs := match w2 with
  | .dic _ _ => (ofO (hasK w1 w2)).bind fun b => .ok (.sh (.bl (!b)))
  | .tdc _ _ => (ofO (hasK w1 w2)).bind fun b => .ok (.sh (.bl (!b)))
  | _ => fNotIn w1 w2
/-- a key and a dict, by trees -/
def KD (G : Gm) (B H : Hp) (x y : V) (b : Bool) : Prop := ∃ a, y = .ref a ∧ Sub B H ∧
  ((∃ kvs q, H a = some (.dK kvs) ∧ x = kV q ∧ b = (valV kvs q).isSome) ∨
   ∃ ks vs w q xs, H a = some (tdO G a xs) ∧ ks.map kT = xs.map (fun p => some p.1) ∧ Iss G B ks (xs.map fun p => V.ref p.2.1) ∧ Iss G B vs (xs.map (·.2.2)) ∧ Is G B w x ∧ kT w = some q ∧ b = (tGet ks vs q).isSome)
theorem isb_keyT {w : W} {q : NestedKey} {x : V} (h : kT w = some q) (i : Isb G H B w x) : Is G B w x := by
  obtain ⟨_, _, ws, rfl⟩ := kT_nk h
  exact i
theorem hasK_at {w1 w2 : W} {x y : V} {b : Bool} (sb : Sub B H) (h : hasK w1 w2 = some b) (i1 : Isb G H B w1 x) (i2 : Isb G H B w2 y) : KD G B H x y b := by
  cases w2 with
  | dic ks vs =>
    obtain ⟨a, rfl, kvs, h1, h2, h3⟩ := i2
    simp only [hasK] at h
    cases z : kK w1 with
    | none => rw [z] at h; cases h
    | some q =>
      rw [z] at h; cases h
      refine ⟨a, rfl, sb, .inl ⟨kvs, q, h1, kK_isb z i1, ?_⟩⟩
      show (dGet ks vs q).isSome = _
      rcases dGet_at (G := G) (B := B) q h2 h3 with ⟨e1, e2⟩ | ⟨_, _, e1, e2, _⟩ <;> rw [e1, e2] <;> rfl
  | tdc ks vs =>
    obtain ⟨a, rfl, xs, h1, h2, h3, h4⟩ := i2
    simp only [hasK] at h
    cases z : kT w1 with
    | none => rw [z] at h; cases h
    | some q =>
      rw [z] at h; cases h
      exact ⟨a, rfl, sb, .inr ⟨ks, vs, w1, q, xs, h1, h2, h3, h4, isb_keyT z i1, z, rfl⟩⟩
  | _ => cases h
variable {A : Around}
theorem kd_in (g : Ties X G) (hu : X.A.units + 16 < cLine) : OpR X (compareOp .In) (fun x y H Q => ∃ B b, KD G B H x y b ∧ Q (.bl b) H) := by
  intro pins s σ H x y v u Q I rx ry ⟨B, b, ⟨a, ey, sb, hc⟩, hq⟩
  subst ey
  cases ry
  rcases hc with ⟨kvs, q, h1, rfl, rfl⟩ | ⟨ks, vs, w, q, xs, h1, h2, h3, h4, iw, hw, rfl⟩
  · exact d_in (by omega) I (DGet.k h1) rx fun s' I' => ⟨.bl _, H, I', rfl, hq⟩
  · obtain ⟨e1, e2, us, rel, dd⟩ := td_at g I sb h1 h2 h3
    obtain ⟨p, rfl, rfl, hkey⟩ := key_at g I sb iw hw rx
    refine wpAny_in_heap (by show _ + 1 + 8 < cLine; omega) hkey e1 dd ?_
    refine ⟨.bl (tGet ks vs q).isSome, H, I.tok _, ?_, hq⟩
    rcases tGet_at q h2 h4 with ⟨z1, z2⟩ | ⟨_, _, z1, z2, _⟩ <;> rcases vKey_at q rel with ⟨z3, z4⟩ | ⟨_, _, z3, z4, _⟩ <;> first | (rw [z2] at z3; cases z3; done) | (rw [z1, z4]; rfl)
theorem kd_notIn (g : Ties X G) (hu : X.A.units + 16 < cLine) : OpR X (compareOp .NotIn) (fun x y H Q => ∃ B b, KD G B H x y b ∧ Q (.bl (!b)) H) := by
  intro pins s σ H x y v u Q I rx ry ⟨B, b, ⟨a, ey, sb, hc⟩, hq⟩
  subst ey
  cases ry
  rcases hc with ⟨kvs, q, h1, rfl, rfl⟩ | ⟨ks, vs, w, q, xs, h1, h2, h3, h4, iw, hw, rfl⟩
  · exact d_notIn (by omega) I (DGet.k h1) rx fun s' I' => ⟨.bl _, H, I', rfl, hq⟩
  · obtain ⟨e1, e2, us, rel, dd⟩ := td_at g I sb h1 h2 h3
    obtain ⟨p, rfl, rfl, hkey⟩ := key_at g I sb iw hw rx
    refine wpAny_notIn_heap (by show _ + 1 + 8 < cLine; omega) hkey e1 dd ?_
    refine ⟨.bl (!(tGet ks vs q).isSome), H, I.tok _, ?_, hq⟩
    rcases tGet_at q h2 h4 with ⟨z1, z2⟩ | ⟨_, _, z1, z2, _⟩ <;> rcases vKey_at q rel with ⟨z3, z4⟩ | ⟨_, _, z3, z4, _⟩ <;> first | (rw [z2] at z3; cases z3; done) | (rw [z1, z4]; rfl)
theorem Here.un (h : Here X G c k) : X.A.units + 64 < cLine := h.r.units
theorem owA_in (hh : Here X G c k) : OpW X G c (compareOp .In) fInA := by
  intro w1 w2
  have hu := hh.un
  cases w2
  case dic ks vs => exact ⟨_, kd_in hh.g (by omega), fun σ e H B x y Q R i1 i2 h => by
    rw [show fInA w1 (.dic ks vs) = (ofO (hasK w1 (.dic ks vs))).bind fun b => .ok (.sh (.bl b)) from rfl, RB_bind] at h
    obtain ⟨b, z, h⟩ := RB_ofO h
    exact ⟨B, b, hasK_at R.sub z i1 i2, Po.sh h R rfl⟩⟩
  case tdc ks vs => exact ⟨_, kd_in hh.g (by omega), fun σ e H B x y Q R i1 i2 h => by
    rw [show fInA w1 (.tdc ks vs) = (ofO (hasK w1 (.tdc ks vs))).bind fun b => .ok (.sh (.bl b)) from rfl, RB_bind] at h
    obtain ⟨b, z, h⟩ := RB_ofO h
    exact ⟨B, b, hasK_at R.sub z i1 i2, Po.sh h R rfl⟩⟩
  all_goals exact ow_in hh.g w1 _
theorem owA_notIn (hh : Here X G c k) : OpW X G c (compareOp .NotIn) fNotInA := by
  intro w1 w2
  have hu := hh.un
  cases w2
  case dic ks vs => exact ⟨_, kd_notIn hh.g (by omega), fun σ e H B x y Q R i1 i2 h => by
    rw [show fNotInA w1 (.dic ks vs) = (ofO (hasK w1 (.dic ks vs))).bind fun b => .ok (.sh (.bl (!b))) from rfl, RB_bind] at h
    obtain ⟨b, z, h⟩ := RB_ofO h
    exact ⟨B, b, hasK_at R.sub z i1 i2, Po.sh h R rfl⟩⟩
  case tdc ks vs => exact ⟨_, kd_notIn hh.g (by omega), fun σ e H B x y Q R i1 i2 h => by
    rw [show fNotInA w1 (.tdc ks vs) = (ofO (hasK w1 (.tdc ks vs))).bind fun b => .ok (.sh (.bl (!b))) from rfl, RB_bind] at h
    obtain ⟨b, z, h⟩ := RB_ofO h
    exact ⟨B, b, hasK_at R.sub z i1 i2, Po.sh h R rfl⟩⟩
  all_goals exact ow_notIn hh.g w1 _

/-! ### d[k] -/
def getK (w1 w2 : W) : Option W := match w1 with
  | .dic ks vs => (kK w2).bind fun q => dGet ks vs q
  | .tdc ks vs => (kT w2).bind fun q => tGet ks vs q
  | _ => none
def fIxA (w1 w2 : W) : R Rs := match w1 with
  | .dic _ _ => (ofO (getK w1 w2)).bind fun w => .ok (.sh w)
  | .tdc _ _ => (ofO (getK w1 w2)).bind fun w => .ok (.sh w)
  | _ => fIx w1 w2
/-- what stands at a key -/
def KG (X : Cx) (G : Gm) (B H : Hp) (d y x : V) : Prop := ∃ a, d = .ref a ∧ (∀ (pins : List (Addr × Obj)) (σ : L2.St) (s : Shared), Inv X pins σ H s → s.TypeIs (.ref a) "dict") ∧
  ∀ (pins : List (Addr × Obj)) (σ : L2.St) (s : Shared) (u : Value) (Q : Value → Shared → Prop) (E : Value → Shared → Prop), Inv X pins σ H s → RelV y u → (∀ u' s', Inv X pins σ H s' → RelV x u' → Q u' s') → wpAny (model X.prog X.w) X.A (getItem (.ref a) u) Q E s
theorem getK_at (g : Ties X G) (hu : X.A.units + 16 < cLine) {w1 w2 w : W} {d y : V} (sb : Sub B H) (h : getK w1 w2 = some w) (i1 : Isb G H B w1 d) (i2 : Isb G H B w2 y) : ∃ x, KG X G B H d y x ∧ Is G B w x := by
  cases w1 with
  | dic ks vs =>
    obtain ⟨a, rfl, kvs, h1, h2, h3⟩ := i1
    simp only [getK] at h
    cases z : kK w2 with
    | none => rw [z] at h; cases h
    | some q =>
      rw [z] at h
      have h : dGet ks vs q = some w := h
      rcases dGet_at (G := G) (B := B) q h2 h3 with ⟨e1, e2⟩ | ⟨w', x, e1, e2, ix⟩
      · rw [h] at e1; cases e1
      · rw [h] at e1; cases e1
        have e3 := kK_isb z i2
        subst e3
        have hg : DGet H a (kV q) (some x) := e2 ▸ DGet.k h1
        exact ⟨x, ⟨a, rfl, fun pins σ s I => dict_typeIs I hg, fun pins σ s u Q E I r h => d_getItem (by omega) I hg r h⟩, ix⟩
  | tdc ks vs =>
    obtain ⟨a, rfl, xs, h1, h2, h3, h4⟩ := i1
    simp only [getK] at h
    cases z : kT w2 with
    | none => rw [z] at h; cases h
    | some q =>
      rw [z] at h
      have h : tGet ks vs q = some w := h
      have i2 := isb_keyT z i2
      rcases tGet_at q h2 h4 with ⟨e1, e2⟩ | ⟨w', x, e1, e2, ix⟩
      · rw [h] at e1; cases e1
      · rw [h] at e1; cases e1
        refine ⟨x, ⟨a, rfl, fun pins σ s I => ?_, fun pins σ s u Q E I r hq => ?_⟩, ix⟩
        · obtain ⟨_, _, us, rel, dd⟩ := td_at g I sb h1 h2 h3
          exact dd.typeIs
        · obtain ⟨_, _, us, rel, dd⟩ := td_at g I sb h1 h2 h3
          obtain ⟨p, rfl, rfl, hkey⟩ := key_at g I sb i2 z r
          rcases vKey_at q rel with ⟨z3, z4⟩ | ⟨_, v, z3, z4, rv⟩
          · rw [e2] at z3; cases z3
          · rw [e2] at z3; cases z3
            exact wpAny_getItem_heap (by show _ + 1 + 8 < cLine; omega) hkey dd z4 (hq _ _ (I.tok _) rv)
  | _ => cases h
theorem ixr_K (G : Gm) : IxR X (fun d y H Q => ∃ B x, KG X G B H d y x ∧ Q x H) := by
  intro value slice pins s σ H d y v u Q I rd ry ⟨B, x, ⟨a, ed, ht, hg⟩, hq⟩ hs
  subst ed
  cases rd
  have T := ht pins σ s I
  unfold subscriptTail
  apply wpAny_bind
  rw [getitemInPython_of_ne T.not_modules]
  apply wpAny_bind
  apply wpAny_specialOf T PySem.F.slot_dict_getitem.lookup
  have go : wpAny (model X.prog X.w) X.A (subscripted slice false (.ref a) u) (fun r s' => wpAny (model X.prog X.w) X.A (letTemporaryGo value (.ref a) r >>= fun _ => pure r) (EP X pins σ Q) X.xe s') X.xe s := by
    rw [hs]
    exact wpAny_operating (hg pins σ s u _ _ I ry fun u' s' I' r' => wpAny_bind (wpAny_letTemporaryGo (wpAny_pure ⟨x, H, I', r', hq⟩)))
  first | exact wpAny_pure (wpAny_bind go) | exact wpAny_bind (wpAny_pure (wpAny_bind go)) | exact wpAny_bind go
theorem ixA_all (hh : Here X G c k) : IxW X G c fIxA := by
  intro w1 w2
  have hu := hh.un
  cases w1
  case dic ks vs => exact ⟨_, ixr_K G, fun σ e H B x y Q R i1 i2 h => by
    rw [show fIxA (.dic ks vs) w2 = (ofO (getK (.dic ks vs) w2)).bind fun w => .ok (.sh w) from rfl, RB_bind] at h
    obtain ⟨w, z, h⟩ := RB_ofO h
    obtain ⟨v, kg, iv⟩ := getK_at hh.g (by omega) R.sub z i1 i2
    exact ⟨B, v, kg, Po.sh h R iv⟩⟩
  case tdc ks vs => exact ⟨_, ixr_K G, fun σ e H B x y Q R i1 i2 h => by
    rw [show fIxA (.tdc ks vs) w2 = (ofO (getK (.tdc ks vs) w2)).bind fun w => .ok (.sh w) from rfl, RB_bind] at h
    obtain ⟨w, z, h⟩ := RB_ofO h
    obtain ⟨v, kg, iv⟩ := getK_at hh.g (by omega) R.sub z i1 i2
    exact ⟨B, v, kg, Po.sh h R iv⟩⟩
  all_goals exact ixw_all hh.g _ w2
end
end WL
end F_WLD

section F_WLE
/-! WLE: x[i] = v, dict displays. -/
namespace WL
open PySem PySem.Spec PyProof.Rows L2

def dRep : List Key → List W → Key → W → List W
  | k :: ks, x :: vs, q, v => (if k = q then v else x) :: dRep ks vs q v
  | _, _, _, _ => []
def dPut (ks : List Key) (vs : List W) (q : Key) (v : W) : List Key × List W := if (dGet ks vs q).isSome then (ks, dRep ks vs q v) else (ks ++ [q], vs ++ [v])
def tRep : List W → List W → NestedKey → W → List W
  | k :: ks, x :: vs, q, v => (if kT k = some q then v else x) :: tRep ks vs q v
  | _, _, _, _ => []
def tPut (ks vs : List W) (kw : W) (q : NestedKey) (v : W) : List W × List W := if (tGet ks vs q).isSome then (ks, tRep ks vs q v) else (ks ++ [kw], vs ++ [v])
def putX (xs : List (NestedKey × Addr × V)) (q : NestedKey) (b : Addr) (v : V) : List (NestedKey × Addr × V) :=
  if (vKey xs q).isSome then xs.map (fun p => if p.1 = q then (p.1, p.2.1, v) else p) else xs ++ [(q, b, v)]
section
variable {X : Cx} {G : Gm} {c : Ct} {k : Nat} {pins : List (Addr × Obj)} {σ : L2.St} {e : En} {H B : Hp} {s : Shared}
theorem iss_snoc {ws : List W} {xs : List V} {w : W} {x : V} (h : Iss G B ws xs) (i : Is G B w x) : Iss G B (ws ++ [w]) (xs ++ [x]) := h.app (.cons i .nil)
theorem dRep_is {q : Key} {v : W} {x : V} (iv : Is G B v x) : ∀ {ks : List Key} {vs : List W} {kvs : List (Key × V)}, kvs.map (·.1) = ks → Iss G B vs (kvs.map (·.2)) →
    (kvs.map fun kv => if kv.1 = q then (kv.1, x) else kv).map (·.1) = ks ∧ Iss G B (dRep ks vs q v) ((kvs.map fun kv => if kv.1 = q then (kv.1, x) else kv).map (·.2))
  | _, vs, [], h, i => by subst h; exact ⟨rfl, by cases vs <;> exact rfl⟩
  | _, [], _ :: _, h, i => by cases i
  | _, u :: vs, p :: kvs, h, ⟨y, l, h1, h2, h3⟩ => by
    subst h
    rw [List.map_cons] at h1
    injection h1 with e1 e2
    obtain ⟨a1, a2⟩ := dRep_is (q := q) iv (kvs := kvs) rfl (by rw [e2]; exact h3)
    simp only [List.map_cons, dRep]
    by_cases z : p.1 = q
    · simp only [if_pos z]
      exact ⟨by rw [a1], .cons iv a2⟩
    · simp only [if_neg z]
      exact ⟨by rw [a1], .cons (by rw [e1]; exact h2) a2⟩
theorem dPut_is {q : Key} {v : W} {x : V} (iv : Is G B v x) {ks : List Key} {vs : List W} {kvs : List (Key × V)} (h1 : kvs.map (·.1) = ks) (h2 : Iss G B vs (kvs.map (·.2))) :
    (putK kvs q x).map (·.1) = (dPut ks vs q v).1 ∧ Iss G B (dPut ks vs q v).2 ((putK kvs q x).map (·.2)) := by
  unfold putK dPut
  rw [valV_any]
  rcases dGet_at (G := G) q h1 h2 with ⟨e1, e2⟩ | ⟨_, _, e1, e2, _⟩
  · rw [e1, e2, if_neg (by decide), if_neg (by decide)]
    subst h1
    exact ⟨by simp, by rw [List.map_append]; exact iss_snoc h2 iv⟩
  · simp only [e1, e2, Option.isSome_some, if_true]
    exact dRep_is iv h1 h2
theorem tRep_is {q : NestedKey} {v : W} {x : V} (iv : Is G B v x) : ∀ {ks vs : List W} {xs : List (NestedKey × Addr × V)}, ks.map kT = xs.map (fun p => some p.1) → Iss G B vs (xs.map (·.2.2)) →
    (xs.map fun p => if p.1 = q then (p.1, p.2.1, x) else p).map (fun p => some p.1) = xs.map (fun p => some p.1) ∧ (xs.map fun p => if p.1 = q then (p.1, p.2.1, x) else p).map (fun p => V.ref p.2.1) = xs.map (fun p => V.ref p.2.1) ∧
      Iss G B (tRep ks vs q v) ((xs.map fun p => if p.1 = q then (p.1, p.2.1, x) else p).map (·.2.2))
  | [], vs, [], _, i => ⟨rfl, rfl, by cases vs <;> exact rfl⟩
  | [], _, _ :: _, h, _ => by cases h
  | _ :: _, _, [], h, _ => by cases h
  | _ :: _, [], _ :: _, h, i => by cases i
  | w :: ks, u :: vs, p :: xs, h, ⟨y, l, h1, h2, h3⟩ => by
    rw [List.map_cons] at h1
    injection h1 with e1 e2
    rw [List.map_cons, List.map_cons] at h
    injection h with e3 e4
    obtain ⟨a1, a2, a3⟩ := tRep_is (q := q) iv e4 (by rw [e2]; exact h3)
    simp only [List.map_cons, tRep]
    by_cases z : p.1 = q
    · have z2 : kT w = some q := by rw [e3, z]
      simp only [if_pos z, if_pos z2]
      exact ⟨by rw [a1], by rw [a2], .cons iv a3⟩
    · have z2 : ¬ kT w = some q := by rw [e3]; exact fun y => z (Option.some.inj y)
      simp only [if_neg z, if_neg z2]
      exact ⟨by rw [a1], by rw [a2], .cons (by rw [e1]; exact h2) a3⟩
theorem tPut_is {q : NestedKey} {v kw : W} {x : V} {b : Addr} (hq : kT kw = some q) (ik : Is G B kw (.ref b)) (iv : Is G B v x) {ks vs : List W} {xs : List (NestedKey × Addr × V)} (h1 : ks.map kT = xs.map (fun p => some p.1)) (h2 : Iss G B ks (xs.map fun p => V.ref p.2.1)) (h3 : Iss G B vs (xs.map (·.2.2))) :
    (tPut ks vs kw q v).1.map kT = (putX xs q b x).map (fun p => some p.1) ∧ Iss G B (tPut ks vs kw q v).1 ((putX xs q b x).map fun p => V.ref p.2.1) ∧ Iss G B (tPut ks vs kw q v).2 ((putX xs q b x).map (·.2.2)) := by
  unfold putX tPut
  rcases tGet_at q h1 h3 with ⟨e1, e2⟩ | ⟨_, _, e1, e2, _⟩
  · rw [e1, e2, if_neg (by decide), if_neg (by decide)]
    refine ⟨?_, ?_, ?_⟩
    · simp [h1, hq]
    · rw [List.map_append]; exact iss_snoc h2 ik
    · rw [List.map_append]; exact iss_snoc h3 iv
  · simp only [e1, e2, Option.isSome_some, if_true]
    obtain ⟨a1, a2, a3⟩ := tRep_is (q := q) iv h1 h3
    exact ⟨by rw [a1]; exact h1, by rw [a2]; exact h2, a3⟩
theorem putX_rel {q : NestedKey} {b : Addr} {x : V} {u : Value} (r : RelV x u) {xs : List (NestedKey × Addr × V)} {us : List (NestedKey × Addr × Value)} (rel : Paired TRel xs us) : Paired TRel (putX xs q b x) (storedH us q b u) := by
  unfold putX storedH
  have key : Paired TRel (xs.map fun p => if p.1 = q then (p.1, p.2.1, x) else p) (us.map (putAt q u)) := by
    induction rel with
    | nil => exact .nil
    | @cons p w xs us r1 r2 ih =>
      refine .cons ?_ ih
      unfold putAt
      by_cases z : p.1 = q
      · simp only [if_pos z, if_pos (r1.1.symm.trans z)]; exact ⟨r1.1, r1.2.1, r⟩
      · simp only [if_neg z, if_neg (fun y => z (r1.1.trans y))]; exact r1
  rcases vKey_at q rel with ⟨z3, z4⟩ | ⟨_, _, z3, z4, _⟩
  · rw [z3, z4, if_neg (by decide), if_neg (by decide)]
    clear key z3 z4
    induction rel with
    | nil => exact .cons ⟨rfl, rfl, r⟩ .nil
    | cons r1 r2 ih => exact .cons r1 ih
  · simp only [z3, z4, Option.isSome_some, if_true]; exact key
theorem putX_len (xs : List (NestedKey × Addr × V)) (q : NestedKey) (b : Addr) (v : V) : (putX xs q b v).length ≤ xs.length + 1 := by
  unfold putX; split <;> simp
/-- the dict at a, written anew -/
theorem td_new (g : Ties X G) {a : Addr} {H' : Hp} {h' : Heap} {xs : List (NestedKey × Addr × V)} {us : List (NestedKey × Addr × Value)} (hd : (a == sysModules) = false) (hz : xs.length ≤ sizeLine) (rel : Paired TRel xs us) (dd : h'.DictOfH (nestedKind X.prog X.w) a us) :
    ObjOk X.prog X.w H' h' a (tdO G a xs) := by
  obtain ⟨o, es, ep, ho, hx, hdt, he, _, hn⟩ := dd
  have he : es.toList = us.map (entryOfKey (nestedKind G.P G.w)) := by rw [g.P, g.w]; exact he
  refine ⟨⟨hd, hz, us, rel, o, es, ep, ho, hx, hdt, he, hn⟩, ⟨o, ho⟩, fun h1 h2 p k => ?_⟩
  obtain ⟨p1, p2, us', p3, o', es', ep', q1, q2, q3, q4, q5⟩ := p
  exact ⟨p1, p2, us', p3, o', es', ep', k _ q1, q2, q3, q4, q5⟩
theorem td_setItem (g : Ties X G) (hu : X.A.units + 16 < cLine) {a : Addr} {ks vs : List W} {xs : List (NestedKey × Addr × V)} {kw : W} {q : NestedKey} {y z : V} {u r : Value} {Q : Unit → Shared → Prop} {E : Value → Shared → Prop} (I : Inv X pins σ H s) (sb : Sub B H)
    (h1 : H a = some (tdO G a xs)) (h2 : ks.map kT = xs.map (fun p => some p.1)) (h3 : Iss G B ks (xs.map fun p => V.ref p.2.1)) (hl : xs.length < sizeLine) (hq : kT kw = some q) (iy : Is G B kw y) (ry : RelV y u) (rz : RelV z r)
    (h : ∀ b s', y = .ref b → Inv X pins σ (upd H a (tdO G a (putX xs q b z))) s' → Q () s') : wpAny (model X.prog X.w) X.A (setItem (.ref a) u r) Q E s := by
  obtain ⟨e1, e2, us, rel, dd⟩ := td_at g I sb h1 h2 h3
  obtain ⟨b, rfl, rfl, hkey⟩ := key_at g I sb iy hq ry
  have hz : us.length ≤ sizeLine := by rw [← Paired.length rel]; exact e2
  refine wpAny_setItem_heap (hsz := hz) (by show _ + 1 + 8 < cLine; omega) hkey dd fun h' dd' hs => h b _ rfl ?_
  have he : ∃ o, h'.get? a = some o := let ⟨o, _, _, ho, _⟩ := dd'; ⟨o, ho⟩
  exact d_write I (by rw [h1]; exact trivial) hs he (td_new g e1 (by have := putX_len xs q b z; omega) (putX_rel rz rel) dd')

/-! ### x[i] = v, x a slot of own data -/
def fPut : W → W → W → R W
  | .lst ws, .int j, v => (ofO (ixN ws.length j)).bind fun n => .ok (.lst (ws.set n v))
  | .dic ks vs, y, v => (ofO (kK y)).bind fun q => iff (ks.length < line) (.ok (.dic (dPut ks vs q v).1 (dPut ks vs q v).2))
  | .tdc ks vs, y, v => (ofO (kT y)).bind fun q => iff (ks.length < line) (.ok (.tdc (tPut ks vs y q v).1 (tPut ks vs y q v).2))
  | _, _, _ => .bad
theorem fPut_ne {w y v : W} {cl : Str} {ns : List Str} {ws : List W} (h : fPut w y v = .exn cl ns ws) : False := by
  unfold fPut at h
  split at h
  · rename_i us j
    cases z : ixN us.length j <;> rw [z] at h <;> cases h
  · rename_i ks vs
    cases z : kK y with
    | none => rw [z] at h; cases h
    | some q =>
      rw [z] at h
      simp only [ofO, WL.R.bind_ok] at h
      unfold iff at h
      split at h <;> cases h
  · rename_i ks vs
    cases z : kT y with
    | none => rw [z] at h; cases h
    | some q =>
      rw [z] at h
      simp only [ofO, WL.R.bind_ok] at h
      unfold iff at h
      split at h <;> cases h
  · cases h
/-- a store by trees -/
def rPut (X : Cx) (G : Gm) : TSet := fun o i v H Q => ∃ a B w y x w', o = .ref a ∧ Sub B H ∧ B a = none ∧ Own G B H a w ∧ Is G B y i ∧ Is G B x v ∧ fPut w y x = .ok w' ∧ ∀ ob, Own G B (upd H a ob) a w' → Q (upd H a ob)
theorem set_put (hh : Here X G c k) : PSet X (rPut X G) := by
  intro pins s σ H o i v ov iv u Q I ro ri rv ⟨a, B, w, y, x, w', eo, sb, hB, ho, iy, ix, hf, h⟩
  have hu := hh.un
  cases w with
  | lst ws =>
    cases y with
    | int j =>
      obtain ⟨xs, h1, h2⟩ := ho
      cases z : ixN ws.length j with
      | none => simp [fPut, z, ofO] at hf
      | some n =>
        simp only [fPut, z, ofO, WL.R.bind_ok, WL.R.ok.injEq] at hf
        subst hf
        refine set_list pins s σ H o i v ov iv u Q I ro ri rv ⟨a, xs, j, n, eo, iy, h1, by rw [← h2.len]; exact z, ?_⟩
        exact h _ ⟨_, upd_same, h2.set n ix⟩
    | _ => cases hf
  | dic ks vs =>
    obtain ⟨kvs, h1, h2, h3⟩ := ho
    simp only [fPut] at hf
    cases z : kK y with
    | none => simp [z, ofO] at hf
    | some q =>
      simp only [z, ofO, WL.R.bind_ok] at hf
      unfold iff at hf
      split at hf
      · rename_i hl
        cases hf
        have hl : kvs.length < sizeLine := line_lt (by rw [← h2, List.length_map] at hl; exact hl)
        have e1 := kK_is z iy
        subst e1 eo
        obtain ⟨a1, a2⟩ := dPut_is (q := q) ix h2 h3
        exact set_dict (by omega) pins s σ H (.ref a) (kV q) v ov iv u Q I ro ri rv ⟨a, _, rfl, DPut.k h1 hl, h _ ⟨_, upd_same, a1, a2⟩⟩
      · cases hf
  | tdc ks vs =>
    obtain ⟨xs, h1, h2, h3, h4⟩ := ho
    simp only [fPut] at hf
    cases z : kT y with
    | none => simp [z, ofO] at hf
    | some q =>
      simp only [z, ofO, WL.R.bind_ok] at hf
      unfold iff at hf
      split at hf
      · rename_i hl
        cases hf
        have lx : ks.length = xs.length := by simpa using congrArg List.length h2
        have hl : xs.length < sizeLine := line_lt (by rw [← lx]; exact hl)
        subst eo
        cases ro
        exact td_setItem (vs := vs) hh.g (by omega) I sb h1 h2 h3 hl z iy ri rv fun b s' e1 I' => by
          subst e1
          obtain ⟨a1, a2, a3⟩ := tPut_is z iy ix h2 h3 h4
          exact ⟨_, I', h _ ⟨_, upd_same, a1, a2, a3⟩⟩
      · cases hf
  | _ => cases hf
def mPut (i : Nat) (mk mv : Mx) : Ms := fun e => (mSh mv e).bind fun p => match p.2[i]? with
  | some (.ow _ _) => (mSh mk p.2).bind fun q => (match q.2[i]? with
    | some (.ow b w) => (fPut w q.1 p.1).bind fun w' => .ok (.nx, q.2.set i (.ow b w'))
    | _ => .bad)
  | _ => .bad
theorem ws_put (i : Nat) {y : Str} {ypos tpos pos : Pos} {a b : Expr} {ma mb : Mx} (hh : Here X G c k) (hy : PE X (.Name y ypos) (tVar i)) (hk : WE X G c a ma) (hv : WE X G c b mb)
    (hs : swapsWithSole [.Subscript (.Name y ypos) a tpos] b pos.line X.env = pure false := by rfl) (hw : swappedStores [.Subscript (.Name y ypos) a tpos] b X.env = pure none := by rfl)
    (h1 : (assignEach [.Subscript (.Name y ypos) a tpos] X.env).map (·.2) = [assign (.Subscript (.Name y ypos) a tpos) X.env] := by rfl)
    (hst : ∀ v, assign (.Subscript (.Name y ypos) a tpos) X.env v = (do
      let ov ← holding [v] (eval (.Name y ypos) X.env)
      let iv ← holding [v, ov] (eval a X.env)
      standAt tpos
      holding [v, ov, iv] (setItem ov iv v)
      release [v, ov, iv] []) := by intro _; rfl) : WS X G c (.Assign [.Subscript (.Name y ypos) a tpos] b pos) (mPut i ma mb) :=
  PS.imp (ps_asg hv (pg_sub hy hk (set_put hh) hst) hs hw h1) fun D σ H ⟨e, B, R, h⟩ => by
    rw [mPut, RB_bind] at h
    refine tSh R (h.mono fun p h v H1 B1 R1 s1 i1 => ?_)
    cases q1 : p.2[i]? with
    | none => simp only [q1] at h; exact h.elim
    | some sl =>
      cases sl with
      | un => simp only [q1] at h; exact h.elim
      | sh w => simp only [q1] at h; exact h.elim
      | ow io w =>
        simp only [q1] at h
        obtain ⟨f, hf, _⟩ := R1.ow q1
        refine ⟨_, hf, ?_⟩
        rw [RB_bind] at h
        refine tSh R1 (h.mono fun t h y H2 B2 R2 s2 i2 => ?_)
        cases q2 : t.2[i]? with
        | none => simp only [q2] at h; exact h.elim
        | some sl =>
          cases sl with
          | un => simp only [q2] at h; exact h.elim
          | sh w => simp only [q2] at h; exact h.elim
          | ow io2 w2 =>
            simp only [q2] at h
            obtain ⟨hB, _, _, ho⟩ := R2.oH q2 hf
            cases q3 : fPut w2 t.1 p.1 with
            | bad => rw [q3] at h; exact h.elim
            | exn => exact (fPut_ne q3).elim
            | ok w' =>
              rw [q3] at h
              exact ⟨f, B2, w2, t.1, p.1, w', rfl, R2.sub, hB, ho, i2, i1.mono s2, q3, fun ob ho' => h σ _ B2 (R2.mut q2 hf ho') (s1.trans s2)⟩
/-- {} -/
theorem we_newK {pos : Pos} : WE X G c (.Dict [] [] pos) (fun e => .ok (.fr (.dic [] []), e)) := PE.imp pe_dnewK fun σ H Q ⟨e, B, R, h⟩ p hp => h _ _ B (R.newO hp) (Sub.refl B) (R.fresh hp ⟨[], upd_same, rfl, rfl⟩)
theorem td_empty (g : Ties X G) {H : Hp} (h : Heap) (hb : sysModules < h.objs.size) : ObjOk X.prog X.w H (h.push { cls := .type "dict", data := .dict #[] }) h.objs.size (tdO G h.objs.size []) :=
  td_new g (beq_eq_false_iff_ne.mpr (Ne.symm (Nat.ne_of_lt hb))) (Nat.zero_le _) .nil (Heap.DictOfH.new h)
theorem we_newT {pos : Pos} (g : Ties X G) : WE X G c (.Dict [] [] pos) (fun e => .ok (.fr (.tdc [] []), e)) := ⟨fun pins s σ H Q I ⟨e, B, R, h⟩ => by
  have hp := I.hok.fresh (Nat.le_refl s.heap.objs.size)
  have J := I.laid (a := s.heap.objs.size) (o := tdO G s.heap.objs.size []) (h' := s.heap.push { cls := .type "dict", data := .dict #[] }) (t' := s.toks) (fun _ _ q => Heap.get?_push_of_some _ q) (Nat.le_refl _) (td_empty g s.heap I.big)
  exact wpAny_Dict_empty ⟨.ref s.heap.objs.size, _, J, rfl, h _ _ B (R.newO hp) (Sub.refl B) (R.fresh hp ⟨[], upd_same, rfl, rfl, rfl⟩)⟩⟩
end
end WL
end F_WLE

section F_WLF
/-! WLF: dict displays, dict(d), d.get(k), {k: v for ..}. -/
namespace WL
open PySem PySem.Spec PyProof.Rows L2

/-- the frame of reference while the object p stands unheld -/
def Ct.at (c : Ct) (p : Addr) (o : HO) : Ct := { c with H0 := upd c.H0 p o, O := fun a => c.O a ∧ a ≠ p }
section
variable {X : Cx} {G : Gm} {c : Ct} {k : Nat} {pins : List (Addr × Obj)} {σ : L2.St} {e : En} {H B : Hp} {s : Shared} {p : Addr} {o o' : HO} {r : Rs} {v : V}
theorem Here.at (h : Here X G c k) (p : Addr) (o : HO) : Here X G (c.at p o) k := ⟨h.g, h.q, h.r, h.tk, h.calm, h.nd⟩
theorem Rel.park (R : Rel G c σ e H B) (h : H p = none) : Rel G (c.at p o) σ e (upd H p o) B := by
  have R' := R.newO (o := o) h
  have h0 := R.h0 h
  refine ⟨R.len, R.sh, fun {i b w} hi => ?_, R.dj, R'.sub, R.old, fun {a u} e1 => ?_, fun {a u} e1 hO => ?_, fun {a u} e1 => ?_⟩
  · obtain ⟨a, h1, h2, h3, h4, h5⟩ := R.ow hi
    obtain ⟨u, hu⟩ := h5.some
    have ne : a ≠ p := fun z => by rw [z, h] at hu; cases hu
    exact ⟨a, h1, h2, fun z => ⟨h3 z, ne⟩, fun z => by show upd c.H0 p o a = none; rw [upd_ne ne]; exact h4 z, h5.to (Sub.refl B) fun o q => by rw [upd_ne ne]; exact q⟩
  · rcases R.new e1 with q | q
    · exact .inl q
    · by_cases z : a = p
      · subst z; rw [R.sub.non h] at e1; cases e1
      · exact .inr (by show upd c.H0 p o a = none; rw [upd_ne z]; exact q)
  · by_cases z : a = p
    · subst z
      have e1 : upd c.H0 a o a = some u := e1
      rw [upd_same] at e1 ⊢; exact e1
    · have e1 : upd c.H0 p o a = some u := e1
      rw [upd_ne z] at e1 ⊢
      exact R.keep e1 fun q => hO ⟨q, z⟩
  · by_cases z : a = p
    · subst z; exact ⟨o, upd_same⟩
    · have e1 : upd c.H0 p o a = some u := e1
      rw [upd_ne z] at e1 ⊢
      exact R.dom e1
theorem XW.park {cl : Str} {ns : List Str} {ws : List W} (h0 : c.H0 p = none) (h : XW G c cl ns ws) : XW G (c.at p o) cl ns ws := fun C d H' B' fs h1 h2 h3 h4 h5 h6 h7 h8 h9 => by
  have back : ∀ {a : Addr}, (c.at p o).H0 a = none → c.H0 a = none := fun {a} q => by
    have q : upd c.H0 p o a = none := q
    by_cases z : a = p
    · rw [z, upd_same] at q; cases q
    · rw [upd_ne z] at q; exact q
  refine h C d H' B' fs h1 h2 h3 h4 h5 h6 (fun e1 => ?_) (fun {a u} e1 hO => ?_) (back h9)
  · rcases h7 e1 with q | q
    · exact .inl q
    · exact .inr (back q)
  · have z : a ≠ p := fun z => by rw [z, h0] at e1; cases e1
    exact h8 (by show upd c.H0 p o a = some u; rw [upd_ne z]; exact e1) fun q => hO q.1
theorem RB.park {α : Type} {r : R α} {q : α → Prop} (h0 : c.H0 p = none) (h : RB G c r q) : RB G (c.at p o) r q := by
  cases r with
  | ok a => exact h
  | exn => exact XW.park h0 h
  | bad => exact h
theorem at_none {a : Addr} (q : (c.at p o).H0 a = none) : a ≠ p ∧ c.H0 a = none := by
  have q : upd c.H0 p o a = none := q
  by_cases z : a = p
  · rw [z, upd_same] at q; cases q
  · rw [upd_ne z] at q; exact ⟨z, q⟩
/-- p is still nobody's, and as it was -/
theorem Rel.parked (R : Rel G (c.at p o) σ e H B) (hb : c.B0 p = none) : H p = some o ∧ B p = none ∧ (∀ (i : Nat) (b : Bool) (w' : W), e[i]? = some (Sl.ow b w') → σ[i]? ≠ some (some (V.ref p))) := by
  refine ⟨R.keep (show upd c.H0 p o p = some o from upd_same) fun q => q.2 rfl, ?_, fun i b w' hi hs => ?_⟩
  · cases q : B p with
    | none => rfl
    | some u =>
      rcases R.new q with ⟨u', hu'⟩ | z
      · rw [show (c.at p o).B0 p = c.B0 p from rfl, hb] at hu'; cases hu'
      · exact ((at_none z).1 rfl).elim
  · obtain ⟨_, h3, h4, _⟩ := R.oH hi hs
    cases b with
    | true => exact (h3 rfl).2 rfl
    | false => exact (at_none (h4 rfl)).1 rfl
theorem Rel.unpark (R : Rel G (c.at p o) σ e H B) (h0 : c.H0 p = none) : Rel G c σ e H B := by
  refine ⟨R.len, R.sh, fun {i b w} hi => ?_, R.dj, R.sub, R.old, fun {a u} e1 => ?_, fun {a u} e1 hO => ?_, fun {a u} e1 => ?_⟩
  · obtain ⟨a, h1, h2, h3, h4, h5⟩ := R.ow hi
    exact ⟨a, h1, h2, fun z => (h3 z).1, fun z => (at_none (h4 z)).2, h5⟩
  · rcases R.new e1 with q | q
    · exact .inl q
    · exact .inr (at_none q).2
  · have z : a ≠ p := fun z => by rw [z, h0] at e1; cases e1
    exact R.keep (by show upd c.H0 p o a = some u; rw [upd_ne z]; exact e1) fun q => hO q.1
  · have z : a ≠ p := fun z => by rw [z, h0] at e1; cases e1
    exact R.dom (o := u) (by show upd c.H0 p o a = some u; rw [upd_ne z]; exact e1)
theorem RV.unpark (h : RV G (c.at p o) σ e H B v r) : RV G c σ e H B v r := by
  cases r with
  | sh w => exact h
  | nm i => exact h
  | fr w =>
    obtain ⟨a, h1, h2, h3, h4, h5⟩ := h
    exact ⟨a, h1, h2, (at_none h3).2, h4, h5⟩
/-- .. and is turned to another thing -/
theorem Rel.repark (R : Rel G (c.at p o) σ e H B) (h0 : c.H0 p = none) (hb : c.B0 p = none) : Rel G (c.at p o') σ e (upd H p o') B := by
  obtain ⟨h1, h2, h3⟩ := R.parked hb
  have R0 := R.unpark h0
  refine ⟨R.len, R.sh, fun {i b w} hi => ?_, R.dj, R.sub.put h2, R.old, fun {a u} e1 => ?_, fun {a u} e1 hO => ?_, fun {a u} e1 => ?_⟩
  · obtain ⟨a, k1, k2, k3, k4, k5⟩ := R0.ow hi
    have ne : a ≠ p := fun z => h3 i b w hi (by rw [k1, z])
    exact ⟨a, k1, k2, fun z => ⟨k3 z, ne⟩, fun z => by show upd c.H0 p o' a = none; rw [upd_ne ne]; exact k4 z, k5.to (Sub.refl B) fun o q => by rw [upd_ne ne]; exact q⟩
  · rcases R0.new e1 with q | q
    · exact .inl q
    · by_cases z : a = p
      · subst z; rw [h2] at e1; cases e1
      · exact .inr (by show upd c.H0 p o' a = none; rw [upd_ne z]; exact q)
  · by_cases z : a = p
    · subst z
      have e1 : upd c.H0 a o' a = some u := e1
      rw [upd_same] at e1 ⊢; exact e1
    · have e1 : upd c.H0 p o' a = some u := e1
      rw [upd_ne z] at e1 ⊢
      exact R0.keep e1 fun q => hO ⟨q, z⟩
  · by_cases z : a = p
    · subst z; exact ⟨o', upd_same⟩
    · have e1 : upd c.H0 p o' a = some u := e1
      rw [upd_ne z] at e1 ⊢
      exact R0.dom e1

/-! ### the pairs of a display -/
abbrev Mp := En → R (List (W × W) × En)
def mNilP : Mp := fun e => .ok ([], e)
def mConsP (a b : Mx) (r : Mp) : Mp := fun e => (mSh a e).bind fun p => (mSh b p.2).bind fun q => (r q.2).bind fun t => .ok ((p.1, q.1) :: t.1, t.2)
def IsP (G : Gm) (B : Hp) : List (W × W) → List (V × V) → Prop
  | [], ps => ps = []
  | p :: r, ps => ∃ x y l, ps = (x, y) :: l ∧ Is G B p.1 x ∧ Is G B p.2 y ∧ IsP G B r l
theorem IsP.mono {B' : Hp} (sb : Sub B B') : ∀ {ws : List (W × W)} {ps : List (V × V)}, IsP G B ws ps → IsP G B' ws ps
  | [], _, h => h
  | _ :: _, _, ⟨x, y, l, h1, h2, h3, h4⟩ => ⟨x, y, l, h1, h2.mono sb, h3.mono sb, IsP.mono sb h4⟩
def WPr (X : Cx) (G : Gm) (c : Ct) (pos : Pos) (keys : List (Option Expr)) (values : List Expr) (m : Mp) : Prop :=
  ∃ trs, PPs X pos keys values trs ∧ ∀ σ H Q, (∃ e B, Rel G c σ e H B ∧ RB G c (m e) fun t => ∀ ps H' B', Rel G c σ t.2 H' B' → Sub B B' → IsP G B' t.1 ps → Q ps H') → tPairs trs σ H Q
variable {pos : Pos} {a b : Expr} {ma mb : Mx} {keys : List (Option Expr)} {values : List Expr} {mp : Mp}
theorem wpr_nil : WPr X G c pos [] [] mNilP := ⟨[], pps_nil, fun σ H Q ⟨e, B, R, h⟩ => h [] H B R (Sub.refl B) rfl⟩
theorem wpr_cons (ha : WE X G c a ma) (hb : WE X G c b mb) (hr : WPr X G c pos keys values mp) : WPr X G c pos (some a :: keys) (b :: values) (mConsP ma mb mp) := by
  obtain ⟨trs, h1, h2⟩ := hr
  refine ⟨(tW G c ma, tW G c mb) :: trs, pps_cons ha hb h1, fun σ H Q ⟨e, B, R, h⟩ => ?_⟩
  rw [mConsP, RB_bind] at h
  refine tSh R (h.mono fun p h x H1 B1 R1 s1 i1 => ?_)
  rw [RB_bind] at h
  refine tSh R1 (h.mono fun q h y H2 B2 R2 s2 i2 => ?_)
  rw [RB_bind] at h
  exact h2 σ H2 _ ⟨q.2, B2, R2, h.mono fun t h ps H3 B3 R3 s3 i3 => h _ H3 B3 R3 (s1.trans (s2.trans s3)) ⟨x, y, ps, rfl, i1.mono (s2.trans s3), i2.mono s3, i3⟩⟩
def dispK : List (W × W) → Option (List Key × List W) → Option (List Key × List W)
  | [], acc => acc
  | p :: r, acc => match acc, kK p.1 with
    | some (ks, vs), some q => dispK r (some (dPut ks vs q p.2))
    | _, _ => none
def dispT : List (W × W) → Option (List W × List W) → Option (List W × List W)
  | [], acc => acc
  | p :: r, acc => match acc, kT p.1 with
    | some (ks, vs), some q => dispT r (some (tPut ks vs p.1 q p.2))
    | _, _ => none
def isK : List (W × W) → Bool
  | p :: _ => (kK p.1).isSome
  | [] => true
def fDisp (ps : List (W × W)) : R W := iff (ps.length ≤ 15) (if isK ps then (ofO (dispK ps (some ([], [])))).bind fun q => .ok (.dic q.1 q.2) else (ofO (dispT ps (some ([], [])))).bind fun q => .ok (.tdc q.1 q.2))
def mDisp (mp : Mp) : Mx := fun e => (mp e).bind fun t => (fDisp t.1).bind fun w => .ok (.fr w, t.2)
theorem dispK_is : ∀ {ws : List (W × W)} {ps : List (V × V)} {ks : List Key} {vs : List W} {q : List Key × List W} {kvs : List (Key × V)}, IsP G B ws ps → dispK ws (some (ks, vs)) = some q → kvs.map (·.1) = ks → Iss G B vs (kvs.map (·.2)) →
    ∃ more, ps = more.map (fun kv => (kV kv.1, kv.2)) ∧ (mergeK kvs more).map (·.1) = q.1 ∧ Iss G B q.2 ((mergeK kvs more).map (·.2))
  | [], ps, ks, vs, q, kvs, i, h, h1, h2 => by cases h; cases (show ps = [] from i); exact ⟨[], rfl, h1, h2⟩
  | p :: r, ps, ks, vs, q, kvs, ⟨x, y, l, e1, i1, i2, i3⟩, h, h1, h2 => by
    simp only [dispK] at h
    cases z : kK p.1 with
    | none => rw [z] at h; cases h
    | some qk =>
      simp only [z] at h
      obtain ⟨a1, a2⟩ := dPut_is (q := qk) i2 h1 h2
      obtain ⟨more, b1, b2, b3⟩ := dispK_is (ks := (dPut ks vs qk p.2).1) (vs := (dPut ks vs qk p.2).2) i3 h a1 a2
      have e2 := kK_is z i1
      exact ⟨(qk, y) :: more, by rw [e1, b1, e2]; rfl, b2, b3⟩
theorem disp_ne {ps : List (W × W)} {cl : Str} {ns : List Str} {ws : List W} (h : fDisp ps = .exn cl ns ws) : False := by
  unfold fDisp iff at h
  split at h
  case isFalse => cases h
  split at h
  · cases z : dispK ps (some ([], [])) <;> rw [z] at h <;> cases h
  · cases z : dispT ps (some ([], [])) <;> rw [z] at h <;> cases h
theorem dispT_is (g : Ties X G) (I : Inv X pins σ H s) (sb : Sub B H) : ∀ {ws : List (W × W)} {ps : List (V × V)} {us : List (Value × Value)} {ks vs : List W} {q : List W × List W} {xs : List (NestedKey × Addr × V)} {as : List (NestedKey × Addr × Value)}, IsP G B ws ps → VV ps us → dispT ws (some (ks, vs)) = some q →
    ks.map kT = xs.map (fun p => some p.1) → Iss G B ks (xs.map fun p => V.ref p.2.1) → Iss G B vs (xs.map (·.2.2)) → Paired TRel xs as →
    ∃ more xs', CarriesH (nestedKind X.prog X.w) s.heap us more ∧ Paired TRel xs' (storedAllH as more) ∧ q.1.map kT = xs'.map (fun p => some p.1) ∧ Iss G B q.1 (xs'.map fun p => V.ref p.2.1) ∧ Iss G B q.2 (xs'.map (·.2.2)) ∧ xs'.length ≤ xs.length + ws.length
  | [], ps, us, ks, vs, q, xs, as, i, r, h, h1, h2, h3, rel => by
    cases h; cases (show ps = [] from i); cases r
    exact ⟨[], xs, trivial, rel, h1, h2, h3, by simp⟩
  | p :: r, ps, us, ks, vs, q, xs, as, ⟨x, y, l, e1, i1, i2, i3⟩, rr, h, h1, h2, h3, rel => by
    subst e1
    cases rr with
    | @cons _ u _ us r1 r2 =>
      simp only [dispT] at h
      cases z : kT p.1 with
      | none => rw [z] at h; cases h
      | some qk =>
        simp only [z] at h
        obtain ⟨b, e2, e3, hkey⟩ := key_at g I sb i1 z r1.1
        have e2 : x = .ref b := e2
        subst e2
        obtain ⟨a1, a2, a3⟩ := tPut_is z i1 i2 h1 h2 h3
        obtain ⟨more, xs', b1, b2, b3, b4, b5, b6⟩ := dispT_is g I sb (ks := (tPut ks vs p.1 qk p.2).1) (vs := (tPut ks vs p.1 qk p.2).2) i3 r2 h a1 a2 a3 (putX_rel (b := b) r1.2 rel)
        refine ⟨(qk, b, u.2) :: more, xs', ?_, b2, b3, b4, b5, ?_⟩
        · obtain ⟨u1, u2⟩ := u
          exact ⟨e3, rfl, hkey, b1⟩
        · have := putX_len xs qk b y
          simp only [List.length_cons]; omega
theorem isP_len : ∀ {ws : List (W × W)} {ps : List (V × V)}, IsP G B ws ps → ws.length = ps.length
  | [], _, i => by cases (show _ = [] from i); rfl
  | _ :: _, _, ⟨_, _, l, e1, _, _, i3⟩ => by subst e1; simp [isP_len i3]
theorem disp_heapH {keys : List (Option Expr)} {values : List Expr} {Q : Value → Shared → Prop} (hu : X.A.units + 8 < cLine) (hall : keys.all (·.isSome) = true) (hl : keys.length = values.length) (h0 : keys ≠ []) (h15 : keys.length ≤ 15)
    (h : wpAny (model X.prog X.w) X.A (evalPairs (pairTrees keys values X.env pos)) (fun us s1 => ∃ ps, CarriesH (nestedKind X.prog X.w) s1.heap us ps ∧ s1.heap.DictOfH (nestedKind X.prog X.w) s.heap.objs.size [] ∧
      ∀ h' tk, h'.DictOfH (nestedKind X.prog X.w) s.heap.objs.size (storedAllH [] ps) → Heap.SameBut s.heap.objs.size s1.heap h' → Q (.ref s.heap.objs.size) { s1 with heap := h', toks := tk }) X.xe { s with heap := s.heap.push { cls := .type "dict", data := .dict #[] } }) :
    wpAny (model X.prog X.w) X.A (eval (.Dict keys values pos) X.env) Q X.xe s := by
  have hn := pairTrees_length keys values X.env pos hall hl
  have hne : pairTrees keys values X.env pos ≠ [] := fun z => by rw [z] at hn; exact h0 (List.length_eq_zero_iff.mp hn.symm)
  rw [arm_eval_Dict, zip_pairTrees keys values X.env pos hall hl, dictDisplay_pairs _ hne (by omega)]
  apply wpAny_bind
  apply wpAny_standAt
  apply wpAny_bind
  refine wpAny_subDictH (knd := nestedKind X.prog X.w) (Q := fun d s' => wpAny (model X.prog X.w) X.A (pure (Value.ref d)) Q X.xe s') hu (by omega) (wpAny_mono h (fun us s1 q => ?_) fun _ _ z => z)
  obtain ⟨ps, c1, c2, c3⟩ := q
  exact ⟨ps, c1, c2, fun h' tk d1 d2 => wpAny_pure (c3 h' tk d1 d2)⟩
/-- {k: v, ..} -/
theorem we_disp (hh : Here X G c k) (hp : ∀ p o, Here X G (c.at p o) k → WPr X G (c.at p o) pos keys values mp) (hall : keys.all (·.isSome) = true := by rfl) (hl : keys.length = values.length := by rfl) (h0 : keys ≠ [] := by simp) (h15 : keys.length ≤ 15 := by decide) :
    WE X G c (.Dict keys values pos) (mDisp mp) := by
  refine ⟨fun pins s σ H Q I h => ?_⟩
  obtain ⟨e, B, R, h⟩ := h
  have hu := hh.un
  rw [mDisp, RB_bind] at h
  have hpn := I.hok.fresh (Nat.le_refl s.heap.objs.size)
  have h00 := R.h0 hpn
  have hb0 : c.B0 s.heap.objs.size = none := by
    cases q : c.B0 s.heap.objs.size with
    | none => rfl
    | some u => rw [R.sub _ _ (R.old _ _ q)] at hpn; cases hpn
  have tp : ∀ o, ∃ trs, PPs X pos keys values trs ∧ tPairs trs σ (upd H s.heap.objs.size o) fun ps H2 => ∃ t B2, mp e = .ok t ∧ Rel G (c.at s.heap.objs.size o) σ t.2 H2 B2 ∧ Sub B B2 ∧ IsP G B2 t.1 ps ∧
      RB G c ((fDisp t.1).bind fun w => .ok (.fr w, t.2)) fun r => ∀ v H' B', Rel G c σ r.2 H' B' → Sub B B' → RV G c σ r.2 H' B' v r.1 → Q v H' := fun o => by
    obtain ⟨trs, P, hP⟩ := hp s.heap.objs.size o (hh.at _ _)
    refine ⟨trs, P, hP σ _ _ ⟨e, B, R.park hpn, ?_⟩⟩
    have h := RB.park (o := o) h00 h
    cases z : mp e with
    | bad => rw [z] at h; exact h
    | exn => rw [z] at h; exact h
    | ok t => rw [z] at h; exact fun ps H' B' R' s' i => ⟨t, B', rfl, R', s', i, h⟩
  by_cases hk : ∀ t, mp e = .ok t → isK t.1 = true
  · obtain ⟨trs, P, hP⟩ := tp (.dK [])
    have J := I.laid (a := s.heap.objs.size) (o := .dK []) (h' := s.heap.push { cls := .type "dict", data := .dict #[] }) (t' := s.toks) (fun _ _ q => Heap.get?_push_of_some _ q) (Nat.le_refl _) (dk_empty s.heap I.big)
    refine wpAny_Dict_walk (knd := mixKind X.prog X.w) hall hl h0 h15 (thn (P.run pins _ σ _ _ J hP) fun us s2 ⟨ps, H2, I2, rel, t, B2, hm, R2, s2', ip, hf⟩ => ?_)
    obtain ⟨e1, e2, e3⟩ := R2.parked hb0
    rw [RB_bind] at hf
    have hkt := hk t hm
    cases z : fDisp t.1 with
    | bad => rw [z] at hf; exact hf.elim
    | exn => exact (disp_ne z).elim
    | ok w =>
      rw [z] at hf
      unfold fDisp iff at z
      split at z
      case isFalse => cases z
      rename_i h15'
      cases z2 : dispK t.1 (some ([], [])) with
      | none => rw [z2] at z; cases z
      | some q =>
        rw [z2] at z; cases z
        obtain ⟨more, rfl, b2, b3⟩ := dispK_is (kvs := []) ip z2 rfl rfl
        have hl2 := isP_len ip
        obtain ⟨rs, cc, rk⟩ := carries_of (P := X.prog) (w := X.w) rel
        obtain ⟨_, hd, vs0, r0, dd⟩ := dk_of I2.hok e1
        cases r0
        refine ⟨rs, cc, dd, fun h' dd' hs => ?_⟩
        have hz : (mergeK [] more).length ≤ sizeLine := by
          have h1 := length_mergeK more []
          rw [List.length_map] at hl2
          rw [List.length_nil] at h1
          rw [sizeLine_eq]; omega
        have he : ∃ o, h'.get? s.heap.objs.size = some o := let ⟨o, _, _, ho, _⟩ := dd'; ⟨o, ho⟩
        refine ⟨.ref s.heap.objs.size, _, d_write I2 (by rw [e1]; exact trivial) hs he (dk_new hz hd (rk.merge .nil) dd'), rfl, ?_⟩
        exact hf _ _ B2 ((R2.repark h00 hb0).unpark h00) s2' ⟨_, rfl, e2, h00, e3, _, upd_same, b2, b3⟩
  · obtain ⟨trs, P, hP⟩ := tp (tdO G s.heap.objs.size [])
    have J := I.laid (a := s.heap.objs.size) (o := tdO G s.heap.objs.size []) (h' := s.heap.push { cls := .type "dict", data := .dict #[] }) (t' := s.toks) (fun _ _ q => Heap.get?_push_of_some _ q) (Nat.le_refl _) (td_empty hh.g s.heap I.big)
    refine disp_heapH (by omega) hall hl h0 h15 (thn (P.run pins _ σ _ _ J hP) fun us s2 ⟨ps, H2, I2, rel, t, B2, hm, R2, s2', ip, hf⟩ => ?_)
    obtain ⟨e1, e2, e3⟩ := R2.parked hb0
    rw [RB_bind] at hf
    have hkt : ¬ isK t.1 = true := fun z => hk fun t' ht' => by rw [hm] at ht'; cases ht'; exact z
    cases z : fDisp t.1 with
    | bad => rw [z] at hf; exact hf.elim
    | exn => exact (disp_ne z).elim
    | ok w =>
      rw [z] at hf
      unfold fDisp iff at z
      split at z
      case isFalse => cases z
      rename_i h15'
      cases z2 : dispT t.1 (some ([], [])) with
      | none => rw [z2] at z; cases z
      | some q =>
        rw [z2] at z; cases z
        obtain ⟨d1, d2, us0, rel0, dd⟩ := td_at (ks := []) hh.g I2 R2.sub e1 rfl rfl
        cases rel0
        obtain ⟨more, xs', b1, b2, b3, b4, b5, b6⟩ := dispT_is hh.g I2 R2.sub ip rel z2 (xs := []) (as := []) rfl rfl rfl .nil
        refine ⟨more, b1, dd, fun h' tk dd' hs => ?_⟩
        have he : ∃ o, h'.get? s.heap.objs.size = some o := let ⟨o, _, _, ho, _⟩ := dd'; ⟨o, ho⟩
        refine ⟨.ref s.heap.objs.size, _, d_write (t' := tk) I2 (by rw [e1]; exact trivial) hs he (td_new hh.g d1 (by simp only [List.length_nil] at b6; rw [sizeLine_eq]; omega) b2 dd'), rfl, ?_⟩
        exact hf _ _ B2 ((R2.repark h00 hb0).unpark h00) s2' ⟨_, rfl, e2, h00, e3, xs', upd_same, b3, b4, b5⟩
end
end WL
end F_WLF

section F_WLI
/-! WLI: enumerate, zip. -/
namespace WL
open PySem PySem.Spec PyProof.Rows L2

section
variable {X : Cx} {G : Gm} {c : Ct} {k : Nat} {B : Hp}
/-- new tuples, one after another -/
def Itr2 (G : Gm) (B : Hp) (rows : List (List W)) : It :=
  ⟨fun i H => i < rows.length ∧ Sub B H, fun i H v H' => ∃ T row xs, v = .ref T ∧ H T = none ∧ H' = upd H T (.tup xs) ∧ rows[i]? = some row ∧ Iss G B row xs, fun i H => i = rows.length ∧ Sub B H⟩
theorem itok_rows {rows : List (List W)} : ItOk G (Itr2 G B rows) (rows.map W.tup) B where
  stop := fun s s' => ⟨by simp, s.trans s'⟩
  go := fun s s' e => ⟨by have := (List.getElem?_eq_some_iff.mp e).1; simpa using this, s.trans s'⟩
  yld := fun {H B1 i w x H'} s s' e ⟨T, row, xs, h1, h2, h3, h4, h5⟩ => by
    rw [List.getElem?_map, h4] at e
    cases e
    subst h1; subst h3
    have hB := s'.non h2
    exact ⟨upd B1 T (.tup xs), .inr ⟨T, _, h2, rfl, rfl⟩, T, xs, rfl, .inl (.inl upd_same), h5.mono (s.trans (Sub.new hB))⟩
/-- a walk of tuples, by the kit's walks -/
theorem turn_rows {P : Program} {w : World} {K : PySem.W.Frag} {elts : List Expr} {kk : Nat} {tpos : Pos} {z : Addr} {fp : List Addr} {rows : List (List W)} {tn : Nat → Heap → Prop} (mem : z ∈ fp) (h2 : ∀ r ∈ rows, r.length ≤ 1000)
    (obj : ∀ i h, tn i h → ∀ b ∈ fp, ∃ o, h.get? b = some o ∧ ∀ v, o.data ≠ .cell v) (keep : ∀ i h h', tn i h → (∀ b ∈ fp, ∀ o, h.get? b = some o → h'.get? b = some o) → tn i h')
    (wk : ∀ (X : Cx), X.prog = P → X.w = w → X.K = K → X.calm = true → ∀ (pins : List (Addr × Obj)) (s : Shared) (σ : L2.St) (H : Hp), Inv X pins σ H s → Sub B H → ∃ fx wr Pt St Mid, WalksT X.prog X.w X.A z fx wr rows.length Pt St Mid ∧ (∀ b ∈ wr, b ∈ fp) ∧
      (∀ i, i ≤ rows.length → tn i s.heap → St i s.heap) ∧ (∀ i h', St i h' → tn i h') ∧ ∀ i vals, Pt i vals → ∃ row xs, rows[i]? = some row ∧ Vals xs vals.toList ∧ Iss G B row xs)
    (self : ∀ (A : Around) (i : Nat) (s : Shared) (Q : Value → Shared → Prop) (E : Value → Shared → Prop), tn i s.heap → Q (.ref z) s → wpAny (model P w) A (pyIter (.ref z)) Q E s) :
    Turn P w K (.Tuple elts kk tpos) (Itr2 G B rows) fp z tn where
  mem := mem
  obj := obj
  keep := keep
  item := by
    intro X hP hw hK hc i pins s σ H E I hf st ⟨hi, sb⟩
    obtain ⟨fx, wr, Pt, St, Mid, D, dw, a1, a2, a3⟩ := wk X hP hw hK hc pins s σ H I sb
    subst hP hw hK
    refine D.item i s _ _ hi (a1 i (Nat.le_of_lt hi) st) fun T vals h' tk hp hT ht hm hk => ⟨_, rfl, D.go elts kk tpos i T _ _ _ hm fun h'' st'' hk'' => ?_⟩
    obtain ⟨row, xs, e1, rv, iss⟩ := a3 i vals hp
    obtain ⟨oT, hoT, cT, nT, dT⟩ := ht
    have hT2 : h''.get? T = some oT := hk'' T _ (D.apart i T h' hm) hoT
    have hl : xs.length ≤ sizeLine := by
      rw [← iss.len]
      have := h2 row (List.mem_of_getElem? e1)
      rw [sizeLine_eq]; omega
    have new : ObjOk X.prog X.w (upd H T (.tup xs)) h'' T (.tup xs) := ⟨hl, vals.toList, rv, ⟨oT, hT2, cT, nT, by simpa using dT⟩⟩
    have I1 : Inv X pins σ (upd H T (.tup xs)) { s with heap := h'', toks := tk } := I.turnedNew (ch := fp) (fun b o hb q => hk'' b o (fun z => hb (dw b z)) (hk b o (fun z => hb (dw b z)) q)) hf hT new
    refine ⟨.ref T, _, I1, rfl, ⟨T, row, xs, rfl, I.hok.fresh hT, rfl, e1, iss⟩, a2 _ _ st'', fun b hb => ?_⟩
    obtain ⟨ob, hob, _⟩ := obj i s.heap st b hb
    rw [upd_ne (Nat.ne_of_lt (Nat.lt_of_lt_of_le (Heap.lt_size hob) hT))]
    exact (hf b hb).1
  done := by
    intro X hP hw hK hc i pins s σ H E I hf st ⟨hi, sb⟩
    obtain ⟨fx, wr, Pt, St, Mid, D, dw, a1, a2, a3⟩ := wk X hP hw hK hc pins s σ H I sb
    subst hP hw hK hi
    exact D.done s _ _ (a1 _ (Nat.le_refl _) st) fun h' tk hk => ⟨rfl, I.turnedL (ch := fp) (fun b o hb q => hk b o (fun z => hb (dw b z)) q) hf⟩
  self := self

/-- what an iterator draws -/
structure Src (G : Gm) (B : Hp) (ws : List W) (it : Addr) (fx : List Addr) (sat : Nat → Heap → Prop) : Prop where
  obj : ∀ i h, sat i h → ∃ o, h.get? it = some o ∧ ∀ v, o.data ≠ .cell v
  keep : ∀ i h h', sat i h → (∀ o, h.get? it = some o → h'.get? it = some o) → sat i h'
  drw : ∀ (X : Cx), X.prog = G.P → X.w = G.w → X.K = G.K → X.calm = true → ∀ (pins : List (Addr × Obj)) (s : Shared) (σ : L2.St) (H : Hp), Inv X pins σ H s → Sub B H → ∃ Pd St, Draws X.prog X.w X.A.in1 it (it :: fx) ws.length Pd St ∧
    (∀ i, sat i s.heap → St i s.heap) ∧ (∀ i h, St i h → sat i h) ∧ ∀ i v, Pd i v → ∃ w x, ws[i]? = some w ∧ RelV x v ∧ Is G B w x
theorem src_list {ws : List W} {xs : List V} {l it : Addr} (h : B l = some (.lst xs)) (i : Iss G B ws xs) (ne : l ≠ it) : Src G B ws it [l] (fun n h => h.IsListIter it l n) where
  obj := fun i h ⟨o, e, _, d⟩ => ⟨o, e, fun v z => by rw [d] at z; cases z⟩
  keep := fun i h h' st k => st.at fun o e => k o e
  drw := fun X hP hw hK hc pins s σ H I sb => by
    obtain ⟨its, rv, p, _⟩ := I.list (xs := xs) (.inl (.inl (sb _ _ h)))
    have hh : X.A.in1.handled = none := I.ok.hd hc
    have D := Draws.list (prog := X.prog) (w := X.w) hh it l ne its.toArray
    have hl : its.toArray.size = ws.length := by rw [i.len, rv.length]; simp
    rw [hl] at D
    refine ⟨_, _, D, fun n st => ⟨st, p.isList⟩, fun n h st => st.1, fun n v hv => ?_⟩
    have hv : its[n]? = some v := by simpa using hv
    have hn : n < xs.length := by rw [rv.length]; exact (List.getElem?_eq_some_iff.mp hv).1
    have e1 : xs[n]? = some xs[n] := by simp [hn]
    obtain ⟨u, hu, r⟩ := rv.get e1
    rw [hv] at hu; cases hu
    obtain ⟨w, e2, iw⟩ := i.getV e1
    exact ⟨w, _, e2, r, iw⟩
theorem src_tup {ws : List W} {xs : List V} {l it : Addr} (h : SqT G.K B l xs) (i : Iss G B ws xs) (ne : l ≠ it) : Src G B ws it [l] (fun n h => h.IsTupleIter it l n) where
  obj := fun i h ⟨o, e, _, d⟩ => ⟨o, e, fun v z => by rw [d] at z; cases z⟩
  keep := fun i h h' st k => st.at fun o e => k o e
  drw := fun X hP hw hK hc pins s σ H I sb => by
    obtain ⟨its, rv, p, _⟩ := I.tuple (xs := xs) (by rw [hK]; exact sub_sqt sb h)
    have hh : X.A.in1.handled = none := I.ok.hd hc
    have D := Draws.tuple (prog := X.prog) (w := X.w) hh it l ne its.toArray
    have hl : its.toArray.size = ws.length := by rw [i.len, rv.length]; simp
    rw [hl] at D
    refine ⟨_, _, D, fun n st => ⟨st, p⟩, fun n h st => st.1, fun n v hv => ?_⟩
    have hv : its[n]? = some v := by simpa using hv
    have hn : n < xs.length := by rw [rv.length]; exact (List.getElem?_eq_some_iff.mp hv).1
    have e1 : xs[n]? = some xs[n] := by simp [hn]
    obtain ⟨u, hu, r⟩ := rv.get e1
    rw [hv] at hu; cases hu
    obtain ⟨w, e2, iw⟩ := i.getV e1
    exact ⟨w, _, e2, r, iw⟩
theorem src_str {x : Str} {t : Tok} {it : Addr} : Src G B (x.cps.toList.map fun n => .str ⟨#[n]⟩) it [] (fun n h => h.IsStrIter it (strIterType x) x t n) where
  obj := fun i h ⟨o, e, _, d⟩ => ⟨o, e, fun v z => by rw [d] at z; cases z⟩
  keep := fun i h h' ⟨o, e, r⟩ k => ⟨o, k o e, r⟩
  drw := fun X hP hw hK hc pins s σ H I sb => by
    have hh : X.A.in1.handled = none := I.ok.hd hc
    have D := Draws.text (prog := X.prog) (w := X.w) hh it x t
    have hl : x.cps.size = (x.cps.toList.map fun n => W.str ⟨#[n]⟩).length := by simp
    rw [hl] at D
    refine ⟨_, _, D, fun n st => st, fun n h st => st, fun n v ⟨cc, u, hc, hv⟩ => ?_⟩
    subst hv
    have : x.cps.toList[n]? = some cc := by simpa using hc
    exact ⟨.str ⟨#[cc]⟩, .str ⟨#[cc]⟩, by rw [List.getElem?_map, this]; rfl, ⟨u, rfl⟩, rfl⟩

/-! ### enumerate -/
def enumF : Nat → List W → List (List W)
  | _, [] => []
  | i, w :: ws => [.int (i : Int), w] :: enumF (i + 1) ws
theorem enumF_get : ∀ (ws : List W) (k i : Nat), (enumF k ws)[i]? = ws[i]?.map fun w => [.int ((k + i : Nat) : Int), w]
  | [], k, i => by simp [enumF]
  | w :: ws, k, 0 => by simp [enumF]
  | w :: ws, k, i + 1 => by
    rw [enumF, List.getElem?_cons_succ, List.getElem?_cons_succ, enumF_get ws (k + 1) i]
    have : k + 1 + i = k + (i + 1) := by omega
    rw [this]
theorem enumF_len : ∀ (ws : List W) (k : Nat), (enumF k ws).length = ws.length
  | [], k => rfl
  | w :: ws, k => by rw [enumF, List.length_cons, List.length_cons, enumF_len ws]
def mEnum (m : Mx) : Ma := fun e => (mSh m e).bind fun p => (match p.1 with
  | .lst ws => .ok ((enumF 0 ws).map W.tup, p.2)
  | .str z => .ok ((enumF 0 (z.cps.toList.map fun n => .str ⟨#[n]⟩)).map W.tup, p.2)
  | _ => .bad)
theorem turn_enumS {elts : List Expr} {kk : Nat} {tpos : Pos} {ws : List W} {e it : Addr} {fx : List Addr} {sat : Nat → Heap → Prop} (S : Src G B ws it fx sat) (ne : e ≠ it) (nf : e ∉ fx) :
    Turn G.P G.w G.K (.Tuple elts kk tpos) (Itr2 G B (enumF 0 ws)) [e, it] e (fun i h => (∃ old, IsEnum h e it (0 + (i : Int)) old) ∧ sat i h) := by
  refine turn_rows (by simp) (fun r hr => ?_) (fun i h st b hb => ?_) (fun i h h' st k => ?_) (fun X hP hw hK hc pins s σ H I sb => ?_) (fun A i s Q E st h => ?_)
  · obtain ⟨i, hi⟩ := List.mem_iff_getElem?.mp hr
    rw [enumF_get] at hi
    cases q : ws[i]? with
    | none => rw [q] at hi; cases hi
    | some w => rw [q] at hi; cases hi; simp
  · obtain ⟨⟨old, he⟩, ha⟩ := st
    have e' : b = e ∨ b = it := by simpa using hb
    rcases e' with z | z
    · rw [z]; exact ⟨_, he, fun v q => nomatch q⟩
    · rw [z]; exact S.obj _ _ ha
  · obtain ⟨⟨old, he⟩, ha⟩ := st
    exact ⟨⟨old, k e (by simp) _ he⟩, S.keep _ _ _ ha fun o q => k it (by simp) o q⟩
  · obtain ⟨Pd, St, D, a1, a2, a3⟩ := S.drw X hP hw hK hc pins s σ H I sb
    have Wk := WalksT.enumFrom 0 D e ne (fun z => by rcases List.mem_cons.mp z with q | q; exact ne q; exact nf q) (by simp)
    rw [← enumF_len ws 0] at Wk
    refine ⟨_, _, _, _, _, Wk, fun b hb => hb, fun i _ st => ⟨st.1, a1 i st.2⟩, fun i h' st => ⟨st.1, a2 i h' st.2⟩, fun i vals ⟨t, x, hp, hv⟩ => ?_⟩
    obtain ⟨w, y, e1, r, iw⟩ := a3 i x hp
    refine ⟨[.int (i : Int), w], [.int (i : Int), y], by rw [enumF_get, e1]; simp, ?_, .cons rfl (.cons iw .nil)⟩
    rw [hv]
    exact .cons ⟨t, by simp⟩ (.cons r .nil)
  · obtain ⟨⟨old, he⟩, _⟩ := st
    exact wpAny_pyIter_enum he h
theorem itok_enumL {ws : List W} {xs : List V} {l : Addr} (h : B l = some (.lst xs)) (i : Iss G B ws xs) (K : PySem.W.Frag) : ItOk G (Ite K l) ((enumF 0 ws).map W.tup) B where
  stop := fun s s' => ⟨xs, .inl (.inl (s' _ _ (s _ _ h))), by simp [enumF_len, i.len]⟩
  go := fun {H B1 j w} s s' e => by
    rw [List.getElem?_map, enumF_get] at e
    cases q : ws[j]? with
    | none => rw [q] at e; cases e
    | some u =>
      obtain ⟨x, h1, _⟩ := i.get q
      exact ⟨xs, x, .inl (.inl (s' _ _ (s _ _ h))), h1⟩
  yld := fun {H B1 j w x H'} s s' e ⟨T, y, h1, h2, h3, h4⟩ => by
    rw [List.getElem?_map, enumF_get] at e
    cases q : ws[j]? with
    | none => rw [q] at e; cases e
    | some u =>
      rw [q] at e
      simp only [Option.map_some, Option.some.injEq, Nat.zero_add] at e
      subst e; subst h1; subst h3
      obtain ⟨x', h5, h6⟩ := i.get q
      have := h4 xs (.inl (.inl (s' _ _ (s _ _ h))))
      rw [h5] at this; cases this
      have hB := s'.non h2
      exact ⟨upd B1 T _, .inr ⟨T, _, h2, rfl, rfl⟩, T, _, rfl, .inl (.inl upd_same), .cons rfl (.cons (h6.mono (s.trans (Sub.new hB))) .nil)⟩
theorem wi_enum {a : Expr} {m : Mx} {p pos tpos : Pos} {elts : List Expr} {kk : Nat} (g : Ties X G) (hm : X.mg "enumerate" = none) (h : WE X G c a m) (hg : Gl X "enumerate" := by rfl) (hs : starEach [a] X.env = [(false, eval a X.env)] := by rfl) :
    WI X G c (.Tuple elts kk tpos) (.Call (.Name "enumerate" p) [a] [] pos) (mEnum m) := by
  refine ⟨fun pins s σ H R I q => ?_⟩
  obtain ⟨e, B, R1, q⟩ := q
  rw [mEnum, RB_bind] at q
  by_cases hz : ∃ z e2, mSh m e = .ok (.str z, e2)
  · obtain ⟨z, e2, hz⟩ := hz
    rw [hz] at q
    refine Call_ (ld_blt I hg hm boot_enumerate (PyProof.Rows.callWith_type1 (thn ((pa_cons h pa_nil hs).run pos pins s σ H (fun vs H1 => ∃ B1, Rel G c σ e2 H1 B1 ∧ Sub B B1 ∧ vs = [.str z]) I ?_) fun us s1 ⟨vs, H1, I1, r1, B1, R2, s2, ev⟩ => ?_) hs rfl))
    · refine tSh R1 ?_
      rw [hz]
      exact fun x H1 B1 R2 s1 i1 => ⟨B1, R2, s1, by rw [show x = .str z from i1]⟩
    · subst ev
      cases r1 with
      | cons r rr =>
        cases rr
        obtain ⟨t, rfl⟩ := r
        refine call_enumerate_str fun h' he hit hsz hk => wpAny_pyIter_enum he ?_
        have I2 : Inv X pins σ H1 { s1 with heap := h' } := I1.kept (t' := s1.toks) hk
        have T := turn_enumS (G := G) (B := B1) (elts := elts) (kk := kk) (tpos := tpos) (src_str (G := G) (B := B1) (x := z) (t := t) (it := s1.heap.objs.size)) (e := s1.heap.objs.size + 1) (Nat.succ_ne_self _) (by simp)
        rw [g.P, g.w, g.K] at T
        refine ⟨s1.heap.objs.size + 1, [s1.heap.objs.size + 1, s1.heap.objs.size], _, _, H1, rfl, I2, T, ⟨⟨.none, by simpa using he⟩, hit⟩, fun b hb => ?_, ?_⟩
        · have e' : b = s1.heap.objs.size + 1 ∨ b = s1.heap.objs.size := by simpa using hb
          have hle : s1.heap.objs.size ≤ b := by
            rcases e' with z | z
            · rw [z]; exact Nat.le_add_right _ _
            · rw [z]; exact Nat.le_refl _
          exact I1.fpOk hle (I1.hok.fresh hle)
        · exact (show ∀ J H' B', Rel G c σ e2 H' B' → Sub B B' → ItOk G J ((enumF 0 (z.cps.toList.map fun n => W.str ⟨#[n]⟩)).map W.tup) B' → R J H' from q) _ H1 B1 R2 s2 itok_rows
  · refine (pi_enum hg hm (pa_cons h pa_nil hs) hs).run pins s σ H R I (tSh R1 ?_)
    cases z : mSh m e with
    | bad => rw [z] at q; exact q.elim
    | exn => rw [z] at q; exact q
    | ok t =>
      obtain ⟨w, e2⟩ := t
      rw [z] at q
      cases w with
      | lst ws =>
        intro x H1 B1 R2 s1 i1
        obtain ⟨l, xs, rfl, h1, h2⟩ := i1
        exact ⟨l, xs, rfl, .inl (.inl (R2.sub _ _ h1)), q _ H1 B1 R2 s1 (itok_enumL h1 h2 _)⟩
      | str y => exact (hz ⟨y, e2, z⟩).elim
      | _ => exact q.elim

/-! ### zip -/
def zipF : List W → List W → List (List W)
  | a :: as, b :: bs => [a, b] :: zipF as bs
  | _, _ => []
theorem zipF_get : ∀ (as bs : List W) (i : Nat), (zipF as bs)[i]? = as[i]?.bind fun a => bs[i]?.map fun b => [a, b]
  | [], bs, i => by simp [zipF]
  | a :: as, [], i => by simp [zipF]
  | a :: as, b :: bs, 0 => by simp [zipF]
  | a :: as, b :: bs, i + 1 => by rw [zipF, List.getElem?_cons_succ, List.getElem?_cons_succ, List.getElem?_cons_succ, zipF_get as bs i]
theorem zipF_len : ∀ (as bs : List W), (zipF as bs).length = min as.length bs.length
  | [], bs => by simp [zipF]
  | a :: as, [] => by simp [zipF]
  | a :: as, b :: bs => by rw [zipF, List.length_cons, List.length_cons, List.length_cons, zipF_len as bs]; omega
theorem turn_zipS {elts : List Expr} {kk : Nat} {tpos : Pos} {as bs : List W} {z TI TO i1 i2 : Addr} {f1 f2 : List Addr} {a1 a2 : Nat → Heap → Prop} (S1 : Src G B as i1 f1 a1) (S2 : Src G B bs i2 f2 a2) (Z : ZipSep2 z TI TO i1 i2 (i1 :: f1) (i2 :: f2)) :
    Turn G.P G.w G.K (.Tuple elts kk tpos) (Itr2 G B (zipF as bs)) [z, TI, TO, i1, i2] z (fun i h => IsZip h z TI TO .none ∧ IsTupOf2 h TI (.ref i1) (.ref i2) ∧ (∃ u1 u2, IsTupOf2 h TO u1 u2) ∧ a1 i h ∧ a2 i h) := by
  refine turn_rows (by simp) (fun r hr => ?_) (fun i h st b hb => ?_) (fun i h h' st k => ?_) (fun X hP hw hK hc pins s σ H I sb => ?_) (fun A i s Q E st h => ?_)
  · obtain ⟨i, hi⟩ := List.mem_iff_getElem?.mp hr
    rw [zipF_get] at hi
    cases q : as[i]? with
    | none => rw [q] at hi; cases hi
    | some u =>
      cases q2 : bs[i]? with
      | none => rw [q, q2] at hi; cases hi
      | some w => rw [q, q2] at hi; cases hi; simp
  · obtain ⟨h1, h2, ⟨u1, u2, h3⟩, h4, h5⟩ := st
    have e' : b = z ∨ b = TI ∨ b = TO ∨ b = i1 ∨ b = i2 := by simpa using hb
    rcases e' with q | q | q | q | q
    · rw [q]; exact ⟨_, h1, fun v q => nomatch q⟩
    · rw [q]; exact ⟨_, h2, fun v q => nomatch q⟩
    · rw [q]; exact ⟨_, h3, fun v q => nomatch q⟩
    · rw [q]; exact S1.obj _ _ h4
    · rw [q]; exact S2.obj _ _ h5
  · obtain ⟨h1, h2, ⟨u1, u2, h3⟩, h4, h5⟩ := st
    exact ⟨k z (by simp) _ h1, k TI (by simp) _ h2, ⟨u1, u2, k TO (by simp) _ h3⟩, S1.keep _ _ _ h4 fun o q => k i1 (by simp) o q, S2.keep _ _ _ h5 fun o q => k i2 (by simp) o q⟩
  · obtain ⟨Pd, St, D, d1, d2, d3⟩ := S1.drw X hP hw hK hc pins s σ H I sb
    obtain ⟨Pd', St', D', d1', d2', d3'⟩ := S2.drw X hP hw hK hc pins s σ H I sb
    have Wk := WalksT.zipD2 Z D D'
    rw [← zipF_len as bs] at Wk
    refine ⟨_, _, _, _, _, Wk, fun b hb => ?_, fun i _ st => ⟨st.1, st.2.1, st.2.2.1, d1 i st.2.2.2.1, d1' i st.2.2.2.2⟩, fun i h' st => ⟨st.1, st.2.1, st.2.2.1, d2 i h' st.2.2.2.1, d2' i h' st.2.2.2.2⟩, fun i vals ⟨x, y, hp, hp', hv⟩ => ?_⟩
    · have e' : b = z ∨ b = TO ∨ b = i1 ∨ b = i2 := by simpa using hb
      rcases e' with q | q | q | q <;> rw [q] <;> simp
    · obtain ⟨w, x', e1, r, iw⟩ := d3 i x hp
      obtain ⟨w', y', e1', r', iw'⟩ := d3' i y hp'
      refine ⟨[w, w'], [x', y'], by rw [zipF_get, e1, e1']; rfl, ?_, .cons iw (.cons iw' .nil)⟩
      rw [hv]
      exact .cons r (.cons r' .nil)
  · exact wpAny_pyIter_zip st.1 h
/-- where a walk of a list or a tuple begins -/
theorem src_begin {pins : List (Addr × Obj)} {s : Shared} {σ : L2.St} {H : Hp} {w : W} {ws : List W} {v : V} {u : Value} (g : Ties X G) (I : Inv X pins σ H s) (sb : Sub B H) (i : Is G B w v) (r : RelV v u) (hw : items w = .ok ws) (hs : ∀ z, w ≠ .str z) :
    ∃ (o : Obj) (Hb : Heap → Prop) (l : Addr) (a0 : Addr → Nat → Heap → Prop), Begins u o Hb ∧ Hb s.heap ∧ l < s.heap.objs.size ∧ ∀ it, l ≠ it → Src G B ws it [l] (a0 it) ∧ ∀ h : Heap, h.get? it = some o → a0 it 0 h := by
  cases w with
  | lst ws' =>
    cases hw
    obtain ⟨l, xs, rfl, h1, h2⟩ := i
    cases r
    obtain ⟨its, rv, p, _⟩ := I.list (xs := xs) (.inl (.inl (sb _ _ h1)))
    refine ⟨_, _, l, fun it n h => h.IsListIter it l n, begins_list l its.toArray, p.isList, ?_, fun it ne => ⟨src_list h1 h2 ne, fun h e => ⟨_, e, rfl, rfl⟩⟩⟩
    obtain ⟨o, ho, _⟩ := p.isList
    exact Heap.lt_size ho
  | tup ws' =>
    cases hw
    obtain ⟨l, xs, rfl, h1, h2⟩ := i
    cases r
    obtain ⟨its, rv, p, _⟩ := I.tuple (xs := xs) (by rw [← g.K]; exact sub_sqt sb h1)
    refine ⟨_, _, l, fun it n h => h.IsTupleIter it l n, begins_tuple l its.toArray, p, ?_, fun it ne => ⟨src_tup h1 h2 ne, fun h e => ⟨_, e, rfl, rfl⟩⟩⟩
    obtain ⟨o, ho, _⟩ := p
    exact Heap.lt_size ho
  | str z => exact (hs z rfl).elim
  | _ => cases hw
def itemsLT : W → R (List W)
  | .lst ws => .ok ws
  | .tup ws => .ok ws
  | _ => .bad
def mZip (a b : Mx) : Ma := fun e => (mSh a e).bind fun p => (mSh b p.2).bind fun q => (itemsLT p.1).bind fun as => (itemsLT q.1).bind fun bs => .ok ((zipF as bs).map W.tup, q.2)
theorem wi_zip {a b : Expr} {ma mb : Mx} {p pos tpos : Pos} {elts : List Expr} {kk : Nat} (g : Ties X G) (hm : X.mg "zip" = none) (ha : WE X G c a ma) (hb : WE X G c b mb) (hg : Gl X "zip" := by rfl)
    (hs : starEach [a, b] X.env = (false, eval a X.env) :: starEach [b] X.env := by rfl) (hpl : (backTo pos (starEach [b] X.env)).any (·.1) = false := by rfl) (hs2 : starEach [b] X.env = [(false, eval b X.env)] := by rfl) :
    WI X G c (.Tuple elts kk tpos) (.Call (.Name "zip" p) [a, b] [] pos) (mZip ma mb) := by
  refine ⟨fun pins s σ H R I q => ?_⟩
  obtain ⟨e, B, R1, q⟩ := q
  rw [mZip, RB_bind] at q
  refine Call_ (ld_blt I hg hm PyProof.Rows.boot_zip (PyProof.Rows.callWith_type1 (thn ((pa_cons ha (pa_cons hb pa_nil hs2) hs).run pos pins s σ H (fun vs H1 => ∃ x y w w' e2 B1, vs = [x, y] ∧ Rel G c σ e2 H1 B1 ∧ Sub B B1 ∧ Is G B1 w x ∧ Is G B1 w' y ∧
    RB G c ((itemsLT w).bind fun as => (itemsLT w').bind fun bs => .ok ((zipF as bs).map W.tup, e2)) fun p => ∀ J H' B', Rel G c σ p.2 H' B' → Sub B B' → ItOk G J p.1 B' → R J H') I ?_) fun us s1 ⟨vs, H1, I1, r1, x, y, w, w', e2, B1, ev, R2, s2, iw, iw', q2⟩ => ?_) hs hpl))
  · refine tSh R1 (q.mono fun t q x H1 B1 R2 s1 i1 => ?_)
    rw [RB_bind] at q
    refine tSh R2 (q.mono fun t2 q y H2 B2 R3 s2 i2 => ?_)
    exact ⟨x, y, t.1, t2.1, t2.2, B2, rfl, R3, s1.trans s2, i1.mono s2, i2, q⟩
  · subst ev
    cases r1 with
    | cons rx rr =>
      cases rr with
      | cons ry rr =>
        cases rr
        rw [RB_bind] at q2
        have fin : ∀ {w : W} {as : List W}, itemsLT w = .ok as → items w = .ok as ∧ ∀ z, w ≠ .str z := fun {w as} h => by
          cases w <;> first | (cases h; done) | (cases h; exact ⟨rfl, fun z q => nomatch q⟩)
        have ne : ∀ {w : W} {cl : Str} {ns : List Str} {ws : List W}, itemsLT w = .exn cl ns ws → False := fun {w cl ns ws} h => by cases w <;> cases h
        cases z1 : itemsLT w with
        | bad => rw [z1] at q2; exact q2.elim
        | exn => exact (ne z1).elim
        | ok as =>
          rw [z1] at q2
          have q2 : RB G c ((itemsLT w').bind fun bs => .ok ((zipF as bs).map W.tup, e2)) _ := q2
          rw [RB_bind] at q2
          cases z2 : itemsLT w' with
          | bad => rw [z2] at q2; exact q2.elim
          | exn => exact (ne z2).elim
          | ok bs =>
            rw [z2] at q2
            obtain ⟨o1, Hb1, l1, a1, bg1, hb1, lt1, sr1⟩ := src_begin g I1 R2.sub iw rx (fin z1).1 (fin z1).2
            obtain ⟨o2, Hb2, l2, a2, bg2, hb2, lt2, sr2⟩ := src_begin g I1 R2.sub iw' ry (fin z2).1 (fin z2).2
            refine zip_begins2 bg1 bg2 hb1 hb2 fun h' hz hTI hTO h1 h2 hsz hk => wpAny_pyIter_zip hz ?_
            have I2 : Inv X pins σ H1 { s1 with heap := h' } := I1.kept (t' := s1.toks) hk
            obtain ⟨S1, b1⟩ := sr1 s1.heap.objs.size (Nat.ne_of_lt lt1)
            obtain ⟨S2, b2⟩ := sr2 (s1.heap.objs.size + 1) (Nat.ne_of_lt (Nat.lt_succ_of_lt lt2))
            have T := turn_zipS (elts := elts) (kk := kk) (tpos := tpos) S1 S2 (zip_sep2 (N := s1.heap.objs.size) (fp1 := [l1]) (fp2 := [l2]) (fun b hb => by rw [List.mem_singleton.mp hb]; exact lt1) (fun b hb => by rw [List.mem_singleton.mp hb]; exact lt2))
            rw [g.P, g.w, g.K] at T
            refine ⟨s1.heap.objs.size + 4, [s1.heap.objs.size + 4, s1.heap.objs.size + 2, s1.heap.objs.size + 3, s1.heap.objs.size, s1.heap.objs.size + 1], _, _, H1, rfl, I2, T, ⟨hz, hTI, ⟨_, _, hTO⟩, b1 _ h1, b2 _ h2⟩, fun b hb => ?_, ?_⟩
            · have hle : s1.heap.objs.size ≤ b := by
                have e' : b = s1.heap.objs.size + 4 ∨ b = s1.heap.objs.size + 2 ∨ b = s1.heap.objs.size + 3 ∨ b = s1.heap.objs.size ∨ b = s1.heap.objs.size + 1 := by simpa using hb
                rcases e' with z | z | z | z | z <;> rw [z] <;> first | exact Nat.le_refl _ | exact Nat.le_add_right _ _
              exact I1.fpOk hle (I1.hok.fresh hle)
            · exact q2 _ H1 B1 R2 s2 itok_rows
end
end WL
end F_WLI

section F_WLP
/-! WLP: a, b = x, y with new data; a op b op c. -/
namespace WL
open PySem PySem.Spec PyProof.Rows L2

section
variable {X : Cx} {G : Gm} {c : Ct} {k : Nat} {σ : L2.St} {e : En} {H B H' B' : Hp} {p : Addr} {o : HO} {v : V} {w : W}
/-- an object that is nobody's is held apart -/
theorem Rel.parkO (R : Rel G c σ e H B) (h : H p = some o) (hB : B p = none) (h0 : c.H0 p = none) (hn : ∀ (i : Nat) (b : Bool) (w' : W), e[i]? = some (Sl.ow b w') → σ[i]? ≠ some (some (V.ref p))) : Rel G (c.at p o) σ e H B := by
  refine ⟨R.len, R.sh, fun {i b w} hi => ?_, R.dj, R.sub, R.old, fun {a u} e1 => ?_, fun {a u} e1 hO => ?_, fun {a u} e1 => ?_⟩
  · obtain ⟨a, h1, h2, h3, h4, h5⟩ := R.ow hi
    have ne : a ≠ p := fun z => hn i b w hi (by rw [h1, z])
    exact ⟨a, h1, h2, fun z => ⟨h3 z, ne⟩, fun z => by show upd c.H0 p o a = none; rw [upd_ne ne]; exact h4 z, h5⟩
  · rcases R.new e1 with q | q
    · exact .inl q
    · by_cases z : a = p
      · subst z; rw [hB] at e1; cases e1
      · exact .inr (by show upd c.H0 p o a = none; rw [upd_ne z]; exact q)
  · by_cases z : a = p
    · subst z
      have e1 : upd c.H0 a o a = some u := e1
      rw [upd_same] at e1; cases e1; exact h
    · have e1 : upd c.H0 p o a = some u := e1
      rw [upd_ne z] at e1
      exact R.keep e1 fun q => hO ⟨q, z⟩
  · by_cases z : a = p
    · subst z; exact ⟨o, h⟩
    · have e1 : upd c.H0 p o a = some u := e1
      rw [upd_ne z] at e1
      exact R.dom e1

/-! ### values, shared or new -/
abbrev Mo := En → R (List Rs × En)
def mOwn (m : Mx) : Mx := fun e => (m e).bind fun p => match p.1 with
  | .nm j => (shr (.nm j) p.2).bind fun q => .ok (.sh q.1, q.2)
  | r => .ok (r, p.2)
def mNilO : Mo := fun e => .ok ([], e)
def mConsO (a : Mx) (r : Mo) : Mo := fun e => (mOwn a e).bind fun p => (r p.2).bind fun q => .ok (p.1 :: q.1, q.2)
def RVs (G : Gm) (c : Ct) (σ : L2.St) (e : En) (H B : Hp) : List V → List Rs → Prop
  | v :: vs, r :: rs => RV G c σ e H B v r ∧ (∀ i, r ≠ .nm i) ∧ (∀ w, r = .fr w → ∀ (j : Nat) w', rs[j]? = some (.fr w') → vs[j]? ≠ some v) ∧ RVs G c σ e H B vs rs
  | [], [] => True
  | _, _ => False
abbrev WO (X : Cx) (G : Gm) (c : Ct) (es : List Expr) (m : Mo) : Prop := PA X es (fun σ H Q => ∃ e B, Rel G c σ e H B ∧ RB G c (m e) fun r => ∀ vs H' B', Rel G c σ r.2 H' B' → Sub B B' → RVs G c σ r.2 H' B' vs r.1 → Q vs H')
variable {a b : Expr} {es : List Expr} {ma mb : Mx} {mr : Mo} {pos : Pos}
theorem tOwn {K : V → Hp → Prop} (R : Rel G c σ e H B) (h : RB G c (mOwn ma e) fun t => ∀ x H1 B1, Rel G c σ t.2 H1 B1 → Sub B B1 → RV G c σ t.2 H1 B1 x t.1 → (∀ i, t.1 ≠ .nm i) → K x H1) : tW G c ma σ H K := by
  refine ⟨e, B, R, ?_⟩
  rw [mOwn, RB_bind] at h
  refine h.mono fun p h => fun v H' B' R' s rv => ?_
  obtain ⟨r, e1⟩ := p
  cases r with
  | sh w => exact h v H' B' R' s rv (fun i q => nomatch q)
  | fr w => exact h v H' B' R' s rv (fun i q => nomatch q)
  | nm j =>
    have h : RB G c ((shr (.nm j) e1).bind fun q => .ok (Rs.sh q.1, q.2)) (fun t => ∀ x H1 B1, Rel G c σ t.2 H1 B1 → Sub B B1 → RV G c σ t.2 H1 B1 x t.1 → (∀ i, t.1 ≠ .nm i) → K x H1) := h
    rw [RB_bind] at h
    cases q : shr (.nm j) e1 with
    | ok t =>
      rw [q] at h
      obtain ⟨B2, R2, s2, i2⟩ := shr_is R' rv (w := t.1) (e' := t.2) q
      exact h v H' B2 R2 (s.trans s2) i2 (fun i q => nomatch q)
    | exn => exact (shr_ne q).elim
    | bad => rw [q] at h; exact h.elim
theorem wo_nil : WO X G c [] mNilO := ⟨fun pos pins s σ H Q I h => pa_nil.run pos pins s σ H Q I (by
  obtain ⟨e, B, R, h⟩ := h
  exact h [] H B R (Sub.refl B) trivial)⟩
theorem RVs.unpark : ∀ {vs : List V} {rs : List Rs}, RVs G (c.at p o) σ e H B vs rs → RVs G c σ e H B vs rs
  | [], [], _ => trivial
  | v :: vs, r :: rs, ⟨h1, h2, h3, h4⟩ => ⟨h1.unpark, h2, h3, RVs.unpark h4⟩
  | [], _ :: _, h => h.elim
  | _ :: _, [], h => h.elim
theorem RVs.apart : ∀ {vs : List V} {rs : List Rs}, RVs G (c.at p o) σ e H B vs rs → ∀ (j : Nat) w', rs[j]? = some (.fr w') → vs[j]? ≠ some (.ref p)
  | [], [], _, j, w', h => by simp at h
  | v :: vs, r :: rs, ⟨h1, h2, h3, h4⟩, 0, w', h => by
    simp only [List.getElem?_cons_zero, Option.some.injEq] at h ⊢
    subst h
    obtain ⟨a, e1, _, h0, _⟩ := h1
    rw [e1]
    intro z
    cases z
    exact (at_none h0).1 rfl
  | v :: vs, r :: rs, ⟨h1, h2, h3, h4⟩, j + 1, w', h => by
    rw [List.getElem?_cons_succ] at h ⊢
    exact RVs.apart h4 j w' h
  | [], _ :: _, h, _, _, _ => h.elim
  | _ :: _, [], h, _, _, _ => h.elim
theorem wo_cons (hh : Here X G c k) (ha : WE X G c a ma) (hr : ∀ c', Here X G c' k → WO X G c' es mr) (hs : starEach (a :: es) X.env = (false, eval a X.env) :: starEach es X.env := by rfl) : WO X G c (a :: es) (mConsO ma mr) := by
  refine ⟨fun pos pins s σ H Q I h => ?_⟩
  -- what stands behind the first value decides the frame of the rest
  have split : ∀ (tr : TA), PA X es tr → (tW G c ma σ H fun x H1 => tr σ H1 fun vs H2 => Q (x :: vs) H2) → wpAny (model X.prog X.w) X.A (spliced (backTo pos (starEach (a :: es) X.env))) (AP X pins σ Q) X.xe s := fun tr ht q => (pa_cons ha ht hs).run pos pins s σ H Q I q
  obtain ⟨e, B, R, h⟩ := h
  rw [mConsO, RB_bind] at h
  let tr : TA := fun σ H Q => ∃ c', Here X G c' k ∧ ∃ e B, Rel G c' σ e H B ∧ RB G c' (mr e) fun r => ∀ vs H' B', Rel G c' σ r.2 H' B' → Sub B B' → RVs G c' σ r.2 H' B' vs r.1 → Q vs H'
  have ht : PA X es tr := ⟨fun pos pins s σ H Q I ⟨c', h', q⟩ => (hr c' h').run pos pins s σ H Q I q⟩
  refine split tr ht (tOwn R (h.mono fun t h x H1 B1 R1 s1 rv nn => ?_))
  rw [RB_bind] at h
  obtain ⟨r, e1⟩ := t
  cases r with
  | nm i => exact (nn i rfl).elim
  | sh w =>
    refine ⟨c, hh, e1, B1, R1, h.mono fun q h vs H2 B2 R2 s2 rvs => ?_⟩
    exact h (x :: vs) H2 B2 R2 (s1.trans s2) ⟨Is.mono s2 (show Is G B1 w x from rv), (fun i q => nomatch q), (fun w q => nomatch q), rvs⟩
  | fr w =>
    obtain ⟨p, rfl, hB, h0, hn, ho⟩ := rv
    obtain ⟨o, hp⟩ := ho.some
    refine ⟨c.at p o, hh.at p o, e1, B1, R1.parkO hp hB h0 hn, RB.park h0 (h.mono fun q h vs H2 B2 R2 s2 rvs => ?_)⟩
    have hb0 : c.B0 p = none := by
      cases q : c.B0 p with
      | none => rfl
      | some u => rw [R1.old _ _ q] at hB; cases hB
    obtain ⟨k1, k2, k3⟩ := R2.parked hb0
    exact h (.ref p :: vs) H2 B2 (R2.unpark h0) (s1.trans s2) ⟨⟨p, rfl, k2, h0, k3, ho.to s2 fun u q => by rw [hp] at q; cases q; exact k1⟩, (fun i q => nomatch q), fun w' _ j w'' hj => rvs.apart j w'' hj, rvs.unpark⟩
def slO : Rs → Sl
  | .sh w => .sh w
  | .fr w => .ow false w
  | .nm _ => .un
def mPar2 (i j : Nat) (m : Mo) : Ms := fun e => (m e).bind fun p => match p.1 with
  | [r, s] => .ok (.nx, (p.2.set i (slO r)).set j (slO s))
  | _ => .bad
def mPar3 (i j l : Nat) (m : Mo) : Ms := fun e => (m e).bind fun p => match p.1 with
  | [r, s, t] => .ok (.nx, ((p.2.set i (slO r)).set j (slO s)).set l (slO t))
  | _ => .bad
theorem Rel.setR (R : Rel G c σ e H B) (i : Nat) {r : Rs} (h : RV G c σ e H B v r) (hn : ∀ i, r ≠ .nm i) : Rel G c (σ.set i (some v)) (e.set i (slO r)) H B := by
  cases r with
  | sh w => exact R.setSh i h
  | fr w => exact R.setOw i h
  | nm j => exact (hn j rfl).elim
/-- the others stay, one being stored -/
theorem RVs.set {x : V} {r : Rs} (i : Nat) (hx : RV G c σ e H B x r) : ∀ {vs : List V} {rs : List Rs}, RVs G c σ e H B vs rs → (∀ w, r = .fr w → ∀ (j : Nat) w', rs[j]? = some (.fr w') → vs[j]? ≠ some x) → RVs G c (σ.set i (some x)) (e.set i (slO r)) H B vs rs
  | [], [], _, _ => trivial
  | v :: vs, s :: rs, ⟨h1, h2, h3, h4⟩, hd => by
    refine ⟨?_, h2, h3, RVs.set i hx h4 fun w q j w' hj => ?_⟩
    · cases s with
      | sh w => exact h1
      | nm j => exact (h2 j rfl).elim
      | fr w =>
        obtain ⟨a, e1, k1, k2, k3, k4⟩ := h1
        refine ⟨a, e1, k1, k2, fun i' b w' hi hs => ?_, k4⟩
        by_cases z : i = i'
        · subst z
          have hil := (List.getElem?_eq_some_iff.mp hi).1
          rw [List.length_set] at hil
          rw [List.getElem?_set_self hil] at hi
          cases r with
          | sh w2 => cases hi
          | nm w2 => cases hi
          | fr w2 =>
            have hsl := (List.getElem?_eq_some_iff.mp hs).1
            rw [List.length_set] at hsl
            rw [List.getElem?_set_self hsl] at hs
            have := hd w2 rfl 0 w (by simp)
            simp only [List.getElem?_cons_zero, ne_eq, Option.some.injEq] at this
            exact this (e1.trans (Option.some.inj (Option.some.inj hs)).symm)
        · rw [List.getElem?_set_ne z] at hi hs
          exact k3 i' b w' hi hs
    · have := hd w q (j + 1) w' (by rw [List.getElem?_cons_succ]; exact hj)
      rw [List.getElem?_cons_succ] at this; exact this
  | [], _ :: _, h, _ => h.elim
  | _ :: _, [], h, _ => h.elim
theorem ws_par2 (i j : Nat) {x y : Str} {px py pt : Pos} {kt k2 pt2} (hh : Here X G c k) (ha : WO X G c [a, b] mr)
    (hw : swappedStores [.Tuple [.Name x px, .Name y py] kt pt] (.Tuple [a, b] k2 pt2) X.env = pure (some [x, y]) := by rfl) (hi : X.N[i]? = some x := by rfl) (hj : X.N[j]? = some y := by rfl) (hij : i ≠ j := by decide)
    (hx : X.env.scope.names.lookup x = some .local := by rfl) (hy : X.env.scope.names.lookup y = some .local := by rfl)
    (hs : swapsWithSole [.Tuple [.Name x px, .Name y py] kt pt] (.Tuple [a, b] k2 pt2) pos.line X.env = pure false := by rfl) : WS X G c (.Assign [.Tuple [.Name x px, .Name y py] kt pt] (.Tuple [a, b] k2 pt2) pos) (mPar2 i j mr) :=
  PS.imp (ps_par hh.calm hh.nd hi hj hij hx hy ha hw hs) fun D σ H ⟨e, B, R, h⟩ => by
    rw [mPar2, RB_bind] at h
    refine ⟨e, B, R, h.mono fun p h vs H1 B1 R1 s1 rvs => ?_⟩
    obtain ⟨rs, e1⟩ := p
    match rs, vs, h, rvs with
    | [r, s], [v1, v2], h, rvs =>
      have q := RVs.set i rvs.1 rvs.2.2.2 rvs.2.2.1
      exact ⟨v1, v2, rfl, h _ H1 B1 ((R1.setR i rvs.1 rvs.2.1).setR j q.1 q.2.1) s1⟩
    | [r, s], [], h, rvs => exact rvs.elim
    | [r, s], [_], h, rvs => exact rvs.2.2.2.elim
    | [r, s], _ :: _ :: _ :: _, h, rvs => exact rvs.2.2.2.2.2.2.elim
    | [], _, h, rvs => exact h.elim
    | [_], _, h, rvs => exact h.elim
    | _ :: _ :: _ :: _, _, h, rvs => exact h.elim
theorem ws_par3 (i j l : Nat) {c1 : Expr} {x y z : Str} {px py pz pt : Pos} {kt k2 pt2} (hh : Here X G c k) (ha : WO X G c [a, b, c1] mr)
    (hw : swappedStores [.Tuple [.Name x px, .Name y py, .Name z pz] kt pt] (.Tuple [a, b, c1] k2 pt2) X.env = pure (some [x, y, z]) := by rfl) (hi : X.N[i]? = some x := by rfl) (hj : X.N[j]? = some y := by rfl) (hl : X.N[l]? = some z := by rfl) (hij : i ≠ j := by decide) (hil : i ≠ l := by decide) (hjl : j ≠ l := by decide)
    (hx : X.env.scope.names.lookup x = some .local := by rfl) (hy : X.env.scope.names.lookup y = some .local := by rfl) (hz : X.env.scope.names.lookup z = some .local := by rfl)
    (hs : swapsWithSole [.Tuple [.Name x px, .Name y py, .Name z pz] kt pt] (.Tuple [a, b, c1] k2 pt2) pos.line X.env = pure false := by rfl) : WS X G c (.Assign [.Tuple [.Name x px, .Name y py, .Name z pz] kt pt] (.Tuple [a, b, c1] k2 pt2) pos) (mPar3 i j l mr) :=
  PS.imp (ps_par3 hh.calm hh.nd hi hj hl hij hil hjl hx hy hz ha hw hs) fun D σ H ⟨e, B, R, h⟩ => by
    rw [mPar3, RB_bind] at h
    refine ⟨e, B, R, h.mono fun p h vs H1 B1 R1 s1 rvs => ?_⟩
    obtain ⟨rs, e1⟩ := p
    match rs, vs, h, rvs with
    | [r, s, t], [v1, v2, v3], h, rvs =>
      have q := RVs.set i rvs.1 rvs.2.2.2 rvs.2.2.1
      have q2 := RVs.set j q.1 q.2.2.2 q.2.2.1
      exact ⟨v1, v2, v3, rfl, h _ H1 B1 (((R1.setR i rvs.1 rvs.2.1).setR j q.1 q.2.1).setR l q2.1 q2.2.1) s1⟩
    | [r, s, t], [], h, rvs => exact rvs.elim
    | [r, s, t], [_], h, rvs => exact rvs.2.2.2.elim
    | [r, s, t], [_, _], h, rvs => exact rvs.2.2.2.2.2.2.elim
    | [r, s, t], _ :: _ :: _ :: _ :: _, h, rvs => exact rvs.2.2.2.2.2.2.2.2.2.elim
    | [], _, h, rvs => exact h.elim
    | [_], _, h, rvs => exact h.elim
    | [_, _], _, h, rvs => exact h.elim
    | _ :: _ :: _ :: _ :: _, _, h, rvs => exact h.elim

/-! ### a op b op c -/
def mChain (f f' : W → W → R Rs) (a b d : Mx) : Mx := fun e => (m2 a b e).bind fun t => (f t.1 t.2.1).bind fun r => match r with
  | .sh (.bl true) => (m1 d t.2.2).bind fun u => (if stays t.2.1 then f' t.2.1 u.1 else .bad).bind fun r => .ok (r, u.2)
  | .sh (.bl false) => .ok (.sh (.bl false), t.2.2)
  | _ => .bad
where
  /-- a middle operand that stands for itself -/
  stays : W → Bool
    | .int _ => true
    | .str _ => true
    | .bl _ => true
    | .non => true
    | _ => false
theorem stays_isb {w : W} {y : V} (h : mChain.stays w = true) (i : Isb G H B w y) : ∀ H' B', Isb G H' B' w y := fun H' B' => by cases w <;> first | exact i | cases h
theorem chain_rd {f f' : W → W → R Rs} {md : Mx} {op op' : CmpOp} (ho : OpW X G c (compareOp op) f) (ho' : OpW X G c (compareOp op') f') {P : Prop} {Q : VK} (R : Rel G c σ e H B) (h : RB G c (mChain f f' ma mb md e) fun r => Po G c σ r.2 B Q r.1)
    (go : ∀ r r' : R2, OpR X (compareOp op) r → OpR X (compareOp op') r' → tChain r r' (tW G c ma) (tW G c mb) (tW G c md) σ H Q → P) : P := by
  rw [mChain, RB_bind] at h
  -- the middle value, told ahead
  have key : ∀ w1 w2, (∀ t, m2 ma mb e = .ok t → t.1 = w1 ∧ t.2.1 = w2) → ∀ w3, (∀ t u, m2 ma mb e = .ok t → m1 md t.2.2 = .ok u → u.1 = w3) → P := fun w1 w2 h12 w3 h3 => by
    refine go _ _ (ho w1 w2).choose_spec.1 (ho' w2 w3).choose_spec.1 (tW2 R ?_)
    cases z : m2 ma mb e with
    | bad => rw [z] at h; exact h.elim
    | exn => rw [z] at h; exact h
    | ok t =>
      obtain ⟨e1, e2⟩ := h12 t z
      rw [z] at h
      intro x y H2 B2 R2 s2 i1 i2
      have h : RB G c ((f t.1 t.2.1).bind fun r => (match r with
        | .sh (.bl true) => (m1 md t.2.2).bind fun u => (if mChain.stays t.2.1 then f' t.2.1 u.1 else .bad).bind fun r => .ok (r, u.2)
        | .sh (.bl false) => .ok (.sh (.bl false), t.2.2)
        | _ => .bad)) fun r => Po G c σ r.2 B Q r.1 := h
      rw [RB_bind, e1, e2] at h
      rw [e1] at i1
      rw [e2] at i2
      refine (ho w1 w2).choose_spec.2 σ t.2.2 H2 B2 x y _ R2 i1 i2 (h.mono fun r h zv H3 B3 R3 s3 rv => ?_)
      cases r with
      | nm i => exact h.elim
      | fr w => exact h.elim
      | sh w =>
        cases w with
        | bl kk =>
          cases kk with
          | false => exact ⟨false, rv, h _ H3 B3 R3 (s2.trans s3) rfl⟩
          | true =>
            refine ⟨true, rv, ?_⟩
            have h : RB G c ((m1 md t.2.2).bind fun u => (if mChain.stays w2 then f' w2 u.1 else .bad).bind fun r => .ok (r, u.2)) fun r => Po G c σ r.2 B Q r.1 := h
            rw [RB_bind] at h
            refine tW1 R3 ?_
            cases zu : m1 md t.2.2 with
            | bad => rw [zu] at h; exact h.elim
            | exn => rw [zu] at h; exact h
            | ok u =>
              rw [zu] at h
              intro w' H4 B4 R4 s4 i4
              have h : RB G c ((if mChain.stays w2 then f' w2 u.1 else .bad).bind fun r => .ok (r, u.2)) fun r => Po G c σ r.2 B Q r.1 := h
              rw [RB_bind] at h
              by_cases st : mChain.stays w2 = true
              · rw [if_pos st] at h
                have e3 := h3 t u z zu
                rw [e3] at h i4
                exact (ho' w2 w3).choose_spec.2 σ u.2 H4 B4 y w' _ R4 (stays_isb st i2 H4 B4) i4 (h.mono fun r po v H' B' R' s' rv => po v H' B' R' (s2.trans (s3.trans (s4.trans s'))) rv)
              · rw [if_neg st] at h; exact h.elim
        | _ => exact h.elim
  cases z : m2 ma mb e with
  | bad => exact key .non .non (fun t q => by rw [z] at q; cases q) .non fun t u q => by rw [z] at q; cases q
  | exn => exact key .non .non (fun t q => by rw [z] at q; cases q) .non fun t u q => by rw [z] at q; cases q
  | ok t =>
    cases zu : m1 md t.2.2 with
    | bad => exact key t.1 t.2.1 (fun t' q => by rw [z] at q; cases q; exact ⟨rfl, rfl⟩) .non fun t' u q q2 => by rw [z] at q; cases q; rw [zu] at q2; cases q2
    | exn => exact key t.1 t.2.1 (fun t' q => by rw [z] at q; cases q; exact ⟨rfl, rfl⟩) .non fun t' u q q2 => by rw [z] at q; cases q; rw [zu] at q2; cases q2
    | ok u => exact key t.1 t.2.1 (fun t' q => by rw [z] at q; cases q; exact ⟨rfl, rfl⟩) u.1 fun t' u' q q2 => by rw [z] at q; cases q; rw [zu] at q2; cases q2; rfl
theorem we_chain {d : Expr} {md : Mx} {op op' : CmpOp} {f f' : W → W → R Rs} (ho : OpW X G c (compareOp op) f) (ho' : OpW X G c (compareOp op') f') (ha : WE X G c a ma) (hb : WE X G c b mb) (hd : WE X G c d md) (hm : lastMarks [op, op'] [b, d] = false := by with_unfolding_all rfl) :
    WE X G c (.Compare a [op, op'] [b, d] pos) (mChain f f' ma mb md) := ⟨fun pins s σ H Q I ⟨e, B, R, h⟩ => chain_rd ho ho' R h fun r r' h1 h2 q => (pe_chain h1 h2 ha hb hd hm).run pins s σ H Q I q⟩
theorem wt_chain {d : Expr} {md : Mx} {op op' : CmpOp} {f f' : W → W → R Rs} (ho : OpW X G c (compareOp op) f) (ho' : OpW X G c (compareOp op') f') (ha : WE X G c a ma) (hb : WE X G c b mb) (hd : WE X G c d md) (hm : lastMarks [op, op'] [b, d] = false := by with_unfolding_all rfl) :
    WT X G c (.Compare a [op, op'] [b, d] pos) (mTc (mChain f f' ma mb md)) := ⟨fun pins s σ H Q I ⟨e, B, R, h⟩ => by
  have h' : RB G c (mChain f f' ma mb md e) fun r => Po G c σ r.2 B (fun x H1 => ∃ k, x = .bl k ∧ Q k H1) r.1 := by
    rw [mTc, m1, RB_bind, RB_bind] at h
    refine h.mono fun p h v H' B' R' s' rv => ?_
    rw [RB_bind] at h
    cases q : rd p.1 p.2 with
    | bad => rw [q] at h; exact h.elim
    | exn => exact (rd_ne q).elim
    | ok w =>
      rw [q] at h
      have i := rd_is R' rv q
      cases w <;> first | exact False.elim h | skip
      exact ⟨_, i, h H' B' R' s'⟩
  exact chain_rd ho ho' R h' fun r r' h1 h2 q => (pt_chain h1 h2 ha hb hd hm).run pins s σ H Q I q⟩
end
end WL
end F_WLP

section F_WLN
/-! WLN: methods, classes, attributes that are stored, defs that change their first argument. -/
namespace WL
open PySem PySem.Spec PyProof.Rows L2

section
variable {X : Cx} {G : Gm} {c : Ct} {k k' : Nat} {σ : L2.St} {e : En} {H B H' B' : Hp} {v : V} {w w0 w1 : W} {f C : Addr} {fd : FuncData} {ps : List Str} {n i : Nat}
/-! ### defs that change their first argument -/
theorem XW.upI {b : Bool} {cl : Str} {ns : List Str} {ws : List W} (R : Rel G c σ e H B) (hi : e[i]? = some (.ow b w)) (hs : σ[i]? = some (some (.ref f))) (h : XW G c cl ns ws) : XW G ⟨H, B, fun z => z = f, c.E⟩ cl ns ws := fun C d H' B' fs h1 h2 h3 h4 h5 h6 h7 h8 h9 =>
  h C d H' B' fs h1 h2 h3 h4 h5 (R.old.trans h6) (fun e1 => by
    rcases h7 e1 with ⟨u, hu⟩ | z
    · exact R.new hu
    · exact .inr (R.h0 z)) (fun {a o} e1 hO => h8 (R.keep e1 hO) (fun z => by
      have z : a = f := z
      obtain ⟨_, q1, q2, _⟩ := R.oH hi hs
      cases b with
      | true => exact hO (z ▸ q1 rfl)
      | false => rw [z, q2 rfl] at e1; cases e1)) (R.h0 h9)
theorem RB.upI {α : Type} {r : R α} {q : α → Prop} {b : Bool} (R : Rel G c σ e H B) (hi : e[i]? = some (.ow b w)) (hs : σ[i]? = some (some (.ref f))) (h : RB G c r q) : RB G ⟨H, B, fun z => z = f, c.E⟩ r q := by
  cases r with
  | ok a => exact h
  | exn => exact XW.upI R hi hs h
  | bad => exact h
/-- behind a callee that changed the data of the slot i -/
theorem Rel.calleeI {b : Bool} (R : Rel G c σ e H B) (hi : e[i]? = some (.ow b w)) (hs : σ[i]? = some (some (.ref f))) (s : Sub B B') (s' : Sub B' H') (nw : ∀ {a : Addr} {o : HO}, B' a = some o → (∃ u, B a = some u) ∨ H a = none)
    (kp : ∀ {a : Addr} {o : HO}, H a = some o → a ≠ f → H' a = some o) (hB : B' f = none) (ho : Own G B' H' f w1) : Rel G c σ (e.set i (.ow b w1)) H' B' := by
  obtain ⟨_, hb1, hb0, ho0⟩ := R.oH hi hs
  have hil : i < e.length := (List.getElem?_eq_some_iff.mp hi).1
  obtain ⟨u1, hu1⟩ := ho.some
  refine ⟨by simpa using R.len, fun {j w'} hj => ?_, fun {j b' w'} hj => ?_, fun {j l b' b'' w' w'' x} ne hj hk h1 h2 => ?_, s', R.old.trans s, fun e1 => ?_, fun {a o} e1 hO => ?_, fun {a o} e1 => ?_⟩
  · by_cases z : i = j
    · subst z; rw [List.getElem?_set_self hil] at hj; cases hj
    · rw [List.getElem?_set_ne z] at hj
      obtain ⟨v, h1, h2⟩ := R.sh hj
      exact ⟨v, h1, h2.mono s⟩
  · by_cases z : i = j
    · subst z
      rw [List.getElem?_set_self hil] at hj; cases hj
      exact ⟨f, hs, hB, hb1, hb0, ho⟩
    · rw [List.getElem?_set_ne z] at hj
      obtain ⟨a, h1, h2, h3, h4, h5⟩ := R.ow hj
      have ne : a ≠ f := fun q => R.dj z hi hj hs (q ▸ h1)
      obtain ⟨u, hu⟩ := h5.some
      refine ⟨a, h1, ?_, h3, h4, h5.to s fun o q => kp q ne⟩
      cases q : B' a with
      | none => rfl
      | some o =>
        rcases nw q with ⟨u', hu'⟩ | z
        · rw [h2] at hu'; cases hu'
        · rw [hu] at z; cases z
  · have back : ∀ {j : Nat} {y : Sl} {b' : Bool} {w'' : W}, (e.set i (Sl.ow b w1))[j]? = some (.ow b' w'') → ∃ b3 w3, e[j]? = some (.ow b3 w3) := fun {j y b' w''} hj => by
      by_cases z : i = j
      · subst z; exact ⟨_, _, hi⟩
      · rw [List.getElem?_set_ne z] at hj; exact ⟨_, _, hj⟩
    obtain ⟨_, _, hj2⟩ := back (y := .un) hj
    obtain ⟨_, _, hk2⟩ := back (y := .un) hk
    exact R.dj ne hj2 hk2 h1 h2
  · rcases nw e1 with ⟨u, hu⟩ | z
    · exact R.new hu
    · exact .inr (R.h0 z)
  · refine kp (R.keep e1 hO) fun z => ?_
    cases b with
    | true => exact hO (z ▸ hb1 rfl)
    | false => rw [z, hb0 rfl] at e1; cases e1
  · obtain ⟨u, hu⟩ := R.dom e1
    by_cases z : a = f
    · exact ⟨u1, z ▸ hu1⟩
    · exact ⟨u, kp hu z⟩
theorem RO.rvI {r : Rs} {b : Bool} (R : Rel G c σ e H B) (hi : e[i]? = some (.ow b w)) (hs : σ[i]? = some (some (.ref f))) (hf : ∃ u, H f = some u) (h : RO G H B' H' v r) : RV G c σ (e.set i (.ow b w1)) H' B' v r := by
  cases r with
  | sh w => exact h
  | fr w =>
    obtain ⟨a, h1, h2, h3, h4⟩ := h
    refine ⟨a, h1, h2, R.h0 h3, fun j b' w' hj hs' => ?_, h4⟩
    by_cases z : i = j
    · subst z
      rw [hs] at hs'
      obtain ⟨u, hu⟩ := hf
      cases hs'
      rw [h3] at hu; cases hu
    · rw [List.getElem?_set_ne z] at hj
      exact R.nobody h3 j b' w' hj hs'
  | nm i => exact h.elim
theorem spI_use {Q : VK} {g : W → List W → R (Rs × W)} {ws : List W} {vs : List V} {b : Bool} (R : Rel G c σ e H B) (hi : e[i]? = some (.ow b w)) (hs : σ[i]? = some (some (.ref f))) (hn : ws.length = n) (is : Iss G B ws vs)
    (h : RB G c (g w ws) fun r => Po G c σ (e.set i (.ow b r.2)) B Q r.1) : spI G n g (.ref f :: vs) H Q c.E := by
  obtain ⟨hB, _, _, ho⟩ := R.oH hi hs
  exact ⟨B, f, w, ws, vs, rfl, hn, R.sub, hB, ho, is, (RB.upI R hi hs h).mono fun r po v H' B' s s' nw kp hB' ho' ro => po v H' B' (R.calleeI hi hs s s' nw kp hB' ho') s (ro.rvI R hi hs ho.some)⟩
/-- f(x, e, ..), x a slot of own data -/
def mCallI (i : Nat) (g : W → List W → R (Rs × W)) (mr : Ma) : Mx := fun e => match e[i]? with
  | some (.ow _ _) => (mr e).bind fun p => (match p.2[i]? with
    | some (.ow b w) => (g w p.1).bind fun r => .ok (r.1, p.2.set i (.ow b r.2))
    | _ => .bad)
  | _ => .bad
variable {pos p apos ypos : Pos} {a b o : Expr} {es : List Expr} {mr : Ma} {mo : Mx} {g : List W → R Rs} {gi : W → List W → R (Rs × W)} {x y m : Str}
theorem callI_rd {Q : VK} {sp : Sp} (R : Rel G c σ e H B) (hsp : sp = spI G n gi) (hl : ∀ e r, mr e = .ok r → r.1.length = n) (h : RB G c (mCallI i gi mr e) fun r => Po G c σ r.2 B Q r.1) :
    ∃ f, σ[i]? = some (some (.ref f)) ∧ Own G B H f (match e[i]? with | some (.ow _ w) => w | _ => .non) ∧ tWA G c mr σ H fun vs H1 => sp (.ref f :: vs) H1 Q c.E := by
  subst hsp
  unfold mCallI at h
  cases q : e[i]? with
  | none => simp only [q] at h; exact h.elim
  | some sl =>
    cases sl with
    | un => simp only [q] at h; exact h.elim
    | sh w => simp only [q] at h; exact h.elim
    | ow b w =>
      simp only [q] at h
      obtain ⟨f, hf, _, _, _, ho⟩ := R.ow q
      rw [RB_bind] at h
      refine ⟨f, hf, ho, e, B, R, ?_⟩
      cases z : mr e with
      | bad => rw [z] at h; exact h.elim
      | exn => rw [z] at h; exact h
      | ok r =>
        rw [z] at h
        intro vs H1 B1 R1 s1 i1
        have h : RB G c (match r.2[i]? with | some (.ow b w) => (gi w r.1).bind fun t => .ok (t.1, r.2.set i (.ow b t.2)) | _ => .bad) fun r => Po G c σ r.2 B Q r.1 := h
        cases q2 : r.2[i]? with
        | none => simp only [q2] at h; exact h.elim
        | some sl =>
          cases sl with
          | un => simp only [q2] at h; exact h.elim
          | sh w => simp only [q2] at h; exact h.elim
          | ow b2 w2 =>
            simp only [q2] at h
            rw [RB_bind] at h
            exact spI_use R1 q2 hf (hl e r z) i1 (h.mono fun t po v H' B' R' s' => po v H' B' R' (s1.trans s'))
theorem we_callI (i : Nat) (h : Here X G c k) (D : Def X x k' f fd ps (spI G n gi)) (hk : k' ≤ k) (hy : PE X (.Name y ypos) (tVar i)) (ha : WA X G c es mr) (hl : ∀ e r, mr e = .ok r → r.1.length = n) (hg : Gl X x := by rfl) (hdb : (x == ("__debug__" : Str)) = false := by decide)
    (he : starEach (.Name y ypos :: es) X.env = (false, eval (.Name y ypos) X.env) :: starEach es X.env := by rfl) (hpl : (backTo pos (starEach es X.env)).any (·.1) = false := by rfl) : WE X G c (.Call (.Name x p) (.Name y ypos :: es) [] pos) (mCallI i gi mr) :=
  PE.imp (pg_call D.F h.q (h.r.mono hk) hg D.m D.kp D.b (passW h) (pa_cons hy ha he) hdb he hpl) fun σ H Q ⟨e, B, R, q⟩ => by
    obtain ⟨f, hf, _, z⟩ := callI_rd (n := n) R rfl hl q
    exact ⟨_, hf, z⟩

/-! ### methods -/
/-- what the text tells of a class and its method -/
structure MDef (X : Cx) (G : Gm) (cn m : Str) (k : Nat) (sp : Sp) : Prop where
  ex : ∃ C f fd ps, G.cls cn = some C ∧ Cls X.K C ∧ Meth X.K C m f ∧ Binds X.K fd ps [] ∧ FnG X.prog X.w X.K X.mg X.base (L2.CX X.prog X.w) k f fd ps sp
def mMeth (cn m : Str) (g : List W → R Rs) (mo : Mx) (mr : Ma) : Mx := fun e => (mSh mo e).bind fun p => match p.1 with
  | .obj c ns vs => iff (c = cn ∧ ns.contains m = false) ((mr p.2).bind fun q => (g (.obj c ns vs :: q.1)).bind fun r => .ok (r, q.2))
  | _ => .bad
theorem look_none {m : Str} : ∀ {fs : List (Str × V)}, (fs.map (·.1)).contains m = false → fs.lookup m = none
  | [], _ => rfl
  | (f, x) :: r, h => by
    rw [List.map_cons, List.contains_cons, Bool.or_eq_false_iff] at h
    rw [List.lookup, h.1]
    exact look_none h.2
theorem meth_rd {Q : VK} {cn m : Str} (R : Rel G c σ e H B) (hC : G.cls cn = some C) (hl : ∀ e r, mr e = .ok r → r.1.length = n) (h : RB G c (mMeth cn m g mo mr e) fun r => Po G c σ r.2 B Q r.1) :
    tW G c mo σ H fun x H1 => ∃ a dx fs, x = .ref a ∧ H1 a = some (.ins C dx fs) ∧ fs.lookup m = none ∧ tWA G c mr σ H1 fun vs H2 => spW G (n + 1) g (x :: vs) H2 Q c.E := by
  rw [mMeth, RB_bind] at h
  refine tSh R (h.mono fun t h x H1 B1 R1 s1 i1 => ?_)
  obtain ⟨w, e1⟩ := t
  cases w <;> first | exact False.elim h | skip
  rename_i cc ns vs
  obtain ⟨⟨ec, hm⟩, hq⟩ := RB_iff (show RB G c (iff (cc = cn ∧ ns.contains m = false) _) _ from h)
  subst ec
  obtain ⟨a, C', dx, fs, h1, h2, h3, h4, h5⟩ := id i1
  rw [hC] at h2; cases h2
  subst h1
  refine ⟨a, dx, fs, rfl, R1.sub _ _ h3, look_none (by rw [h4]; exact hm), e1, B1, R1, ?_⟩
  rw [RB_bind] at hq
  cases z : mr e1 with
  | bad => rw [z] at hq; exact hq.elim
  | exn => rw [z] at hq; exact hq
  | ok r =>
    rw [z] at hq
    intro us H2 B2 R2 s2 i2
    have h : RB G c ((g (.obj cc ns vs :: r.1)).bind fun t => .ok (t, r.2)) fun r => Po G c σ r.2 B Q r.1 := hq
    rw [RB_bind] at h
    exact spW_use R2 (by simp [hl e1 r z]) (.cons (i1.mono s2) i2) (h.mono fun t po v H' B' R' s' => po v H' B' R' ((s1.trans s2).trans s'))
theorem we_meth {cn : Str} {pl : Sem Bool} (h : Here X G c k) (D : MDef X G cn m k' (spW G (n + 1) g)) (hk : k' ≤ k) (ho : WE X G c o mo) (ha : WA X G c (a :: es) mr) (hl : ∀ e r, mr e = .ok r → r.1.length = n)
    (hst : starEach (a :: es) X.env = (false, eval a X.env) :: starEach es X.env := by rfl) (hpl : (backTo pos (starEach es X.env)).any (·.1) = false := by rfl)
    (ht : eval (.Call (.Attribute o m apos) (a :: es) [] pos) X.env = (eval o X.env >>= fun ov => standAt apos.atName >>= fun _ => holding [ov] (getMethod ov m pl) >>= fun q => callWith pos q.1 q.2 (backTo pos (starEach (a :: es) X.env)) (backToKw pos (keywordEach [] X.env))) := by rfl) :
    WE X G c (.Call (.Attribute o m apos) (a :: es) [] pos) (mMeth cn m g mo mr) := by
  obtain ⟨C, f, fd, ps, hC, c1, c2, b, F⟩ := D.ex
  exact PE.imp (pg_meth ho c1 c2 F h.q (h.r.mono hk) b (passW h) ha hst hpl ht) fun σ H Q ⟨e, B, R, q⟩ => meth_rd R hC hl q
theorem tW_mono {K K' : VK} (h : tW G c mo σ H K) (i : ∀ x H1, K x H1 → K' x H1) : tW G c mo σ H K' := by
  obtain ⟨e, B, R, q⟩ := h
  exact ⟨e, B, R, q.mono fun r z v H' B' R' s' rv => i v H' (z v H' B' R' s' rv)⟩
theorem we_meth0 {cn : Str} {pl : Sem Bool} (h : Here X G c k) (D : MDef X G cn m k' (spW G 1 g)) (hk : k' ≤ k) (ho : WE X G c o mo)
    (ht : eval (.Call (.Attribute o m apos) [] [] pos) X.env = (eval o X.env >>= fun ov => standAt apos.atName >>= fun _ => holding [ov] (getMethod ov m pl) >>= fun q => callWith pos q.1 q.2 (backTo pos (starEach [] X.env)) (backToKw pos (keywordEach [] X.env))) := by rfl) :
    WE X G c (.Call (.Attribute o m apos) [] [] pos) (mMeth cn m g mo mNilA) := by
  obtain ⟨C, f, fd, ps, hC, c1, c2, b, F⟩ := D.ex
  refine PE.imp (pg_meth0 ho c1 c2 F h.q (h.r.mono hk) b (passW h) ht) fun σ H Q ⟨e, B, R, q⟩ => ?_
  have q := meth_rd (n := 0) R hC (fun e r z => by cases z; rfl) q
  refine tW_mono q fun x H1 ⟨a, dx, fs, h1, h2, h3, e', B', R', h4⟩ => ⟨a, dx, fs, h1, h2, h3, ?_⟩
  exact h4 [] H1 B' R' (Sub.refl _) rfl
/-- x.m(e, ..), x a slot whose own object the method changes -/
def mMethI (cn m : Str) (i : Nat) (g : W → List W → R (Rs × W)) (mr : Ma) : Mx := fun e => match e[i]? with
  | some (.ow _ (.obj c ns _)) => iff (c = cn ∧ ns.contains m = false) (mCallI i g mr e)
  | _ => .bad
theorem methI_rd {Q : VK} {cn m : Str} (R : Rel G c σ e H B) (hC : G.cls cn = some C) (hl : ∀ e r, mr e = .ok r → r.1.length = n) (h : RB G c (mMethI cn m i gi mr e) fun r => Po G c σ r.2 B Q r.1) :
    tVar i σ H fun x H1 => ∃ a dx fs, x = .ref a ∧ H1 a = some (.ins C dx fs) ∧ fs.lookup m = none ∧ tWA G c mr σ H1 fun vs H2 => spI G n gi (x :: vs) H2 Q c.E := by
  unfold mMethI at h
  cases q : e[i]? with
  | none => simp only [q] at h; exact h.elim
  | some sl =>
    cases sl with
    | un => simp only [q] at h; exact h.elim
    | sh w => simp only [q] at h; exact h.elim
    | ow b w =>
      cases w <;> simp only [q] at h <;> first | exact False.elim h | skip
      rename_i cc ns vs
      obtain ⟨⟨ec, hm⟩, hq⟩ := RB_iff h
      subst ec
      obtain ⟨f, hf, ho, z⟩ := callI_rd (n := n) R rfl hl hq
      rw [q] at ho
      obtain ⟨C', dx, fs, h2, h3, h4, h5⟩ := ho
      rw [hC] at h2; cases h2
      exact ⟨.ref f, hf, f, dx, fs, rfl, h3, look_none (by rw [h4]; exact hm), z⟩
theorem we_methI {cn : Str} (i : Nat) {pl : Sem Bool} (h : Here X G c k) (D : MDef X G cn m k' (spI G n gi)) (hk : k' ≤ k) (hy : PE X (.Name y ypos) (tVar i)) (ha : WA X G c (a :: es) mr) (hl : ∀ e r, mr e = .ok r → r.1.length = n)
    (hst : starEach (a :: es) X.env = (false, eval a X.env) :: starEach es X.env := by rfl) (hpl : (backTo pos (starEach es X.env)).any (·.1) = false := by rfl)
    (ht : eval (.Call (.Attribute (.Name y ypos) m apos) (a :: es) [] pos) X.env = (eval (.Name y ypos) X.env >>= fun ov => standAt apos.atName >>= fun _ => holding [ov] (getMethod ov m pl) >>= fun q => callWith pos q.1 q.2 (backTo pos (starEach (a :: es) X.env)) (backToKw pos (keywordEach [] X.env))) := by rfl) :
    WE X G c (.Call (.Attribute (.Name y ypos) m apos) (a :: es) [] pos) (mMethI cn m i gi mr) := by
  obtain ⟨C, f, fd, ps, hC, c1, c2, b, F⟩ := D.ex
  exact PE.imp (pg_meth hy c1 c2 F h.q (h.r.mono hk) b (passW h) ha hst hpl ht) fun σ H Q ⟨e, B, R, q⟩ => methI_rd R hC hl q

/-! ### a class is called -/
structure KDef (X : Cx) (G : Gm) (cn : Str) (k : Nat) (sp : Sp) : Prop where
  ex : ∃ C f fd ps, G.cls cn = some C ∧ X.mg cn = some (.ref C) ∧ Mk X.K C f ∧ Binds X.K fd ps [] ∧ FnG X.prog X.w X.K X.mg X.base (L2.CX X.prog X.w) k f fd ps sp
def mMake (cn : Str) (g : W → List W → R (Rs × W)) (mr : Ma) : Mx := fun e => (mr e).bind fun p => (g (.obj cn [] []) p.1).bind fun r => match r.1 with
  | .sh .non => .ok (.fr r.2, p.2)
  | _ => .bad
theorem XW.upN {cl : Str} {ns : List Str} {ws : List W} {x dx : Addr} (R : Rel G c σ e H B) (hx : H x = none) (hd : H dx = none) {H1 : Hp} (h1 : ∀ a, a ≠ x → a ≠ dx → H1 a = H a) (h : XW G c cl ns ws) : XW G ⟨H1, B, fun z => z = x, c.E⟩ cl ns ws := fun C d H' B' fs q1 q2 q3 q4 q5 q6 q7 q8 q9 => by
  have up : ∀ {a : Addr}, c.H0 a ≠ none → a ≠ x ∧ a ≠ dx := fun {a} z => ⟨fun y => z (by rw [y]; exact R.h0 hx), fun y => z (by rw [y]; exact R.h0 hd)⟩
  refine h C d H' B' fs q1 q2 q3 q4 q5 (R.old.trans q6) (fun {a o} e1 => ?_) (fun {a o} e1 hO => ?_) ?_
  · rcases q7 e1 with ⟨u, hu⟩ | z
    · exact R.new hu
    · cases y : c.H0 a with
      | none => exact .inr rfl
      | some u =>
        obtain ⟨n1, n2⟩ := up (a := a) (by rw [y]; simp)
        obtain ⟨u', hu'⟩ := R.dom y
        have z : H1 a = none := z
        rw [h1 a n1 n2, hu'] at z; cases z
  · obtain ⟨n1, n2⟩ := up (a := a) (by rw [e1]; simp)
    exact q8 (show H1 a = some o by rw [h1 a n1 n2]; exact R.keep e1 hO) fun z => n1 z
  · cases y : c.H0 d with
    | none => rfl
    | some u =>
      obtain ⟨n1, n2⟩ := up (a := d) (by rw [y]; simp)
      obtain ⟨u', hu'⟩ := R.dom y
      have z : H1 d = none := q9
      rw [h1 d n1 n2, hu'] at z; cases z
theorem make_use {Q : VK} {cn : Str} {g : W → List W → R (Rs × W)} {ws : List W} {vs : List V} (R : Rel G c σ e H B) (hC : G.cls cn = some C) (hn : ws.length = n) (is : Iss G B ws vs)
    (h : RB G c ((g (.obj cn [] []) ws).bind fun r => match r.1 with | .sh .non => .ok (.fr r.2, e) | _ => .bad) fun r => Po G c σ r.2 B Q r.1) :
    ∀ x dx, H x = none → H dx = none → dx ≠ x → spI G n g (.ref x :: vs) (upd (upd H dx (.own x)) x (.ins C dx [])) (fun v H2 => v = .non ∧ Q (.ref x) H2) c.E := fun x dx hx hd ne => by
  rw [RB_bind] at h
  have h1 : ∀ a, a ≠ x → a ≠ dx → upd (upd H dx (.own x)) x (.ins C dx []) a = H a := fun a n1 n2 => by rw [upd_ne n1, upd_ne n2]
  have hBx := R.sub.non hx
  have hBd := R.sub.non hd
  refine ⟨B, x, .obj cn [] [], ws, vs, rfl, hn, ?_, hBx, ⟨C, dx, [], hC, upd_same, rfl, rfl⟩, is, ?_⟩
  · exact fun a o e1 => by rw [h1 a (ne_of_none e1 hBx) (ne_of_none e1 hBd)]; exact R.sub a o e1
  have up : RB G ⟨upd (upd H dx (.own x)) x (.ins C dx []), B, fun z => z = x, c.E⟩ (g (.obj cn [] []) ws) fun r => RB G c (match r.1 with | .sh .non => .ok (.fr r.2, e) | _ => .bad) fun r => Po G c σ r.2 B Q r.1 := by
    cases q : g (.obj cn [] []) ws with
    | ok r => rw [q] at h; exact h
    | bad => rw [q] at h; exact h
    | exn => rw [q] at h; exact XW.upN R hx hd h1 h
  refine up.mono fun r po v H' B' s s' nw kp hB' ho' ro => ?_
  obtain ⟨r, w1⟩ := r
  cases r with
  | fr w => exact po.elim
  | nm i => exact po.elim
  | sh w =>
    cases w with
    | non =>
      refine ⟨ro, ?_⟩
      have kp2 : ∀ {a : Addr} {o : HO}, H a = some o → H' a = some o := fun {a o} e1 => kp (by rw [h1 a (ne_of_none e1 hx) (ne_of_none e1 hd)]; exact e1) (ne_of_none e1 hx)
      have nw2 : ∀ {a : Addr} {o : HO}, B' a = some o → (∃ u, B a = some u) ∨ H a = none := fun {a o} e1 => by
        rcases nw e1 with q | q
        · exact .inl q
        · by_cases z : a = x
          · exact .inr (z ▸ hx)
          · by_cases z2 : a = dx
            · exact .inr (z2 ▸ hd)
            · rw [h1 a z z2] at q; exact .inr q
      exact po (.ref x) H' B' (R.callee s s' nw2 kp2) s ⟨x, rfl, hB', R.h0 hx, R.nobody hx, ho'⟩
    | _ => exact po.elim
theorem we_make {cn : Str} {j : Nat} (h : Here X G c k) (D : KDef X G cn k' (spI G n gi)) (hk : k' + 1 ≤ k) (ha : WA X G c (a :: es) mr) (hl : ∀ e r, mr e = .ok r → r.1.length = n) (hg : Gl X cn := by rfl) (hdb : (cn == ("__debug__" : Str)) = false := by decide)
    (he : starEach (a :: es) X.env = (false, eval a X.env) :: starEach es X.env := by rfl) (hpl : (backTo pos (starEach es X.env)).any (·.1) = false := by rfl) : WE X G c (.Call (.Name cn p) (a :: es) [] pos) (mMake cn gi mr) := by
  obtain ⟨C, f, fd, ps, hC, hm, M, b, F⟩ := D.ex
  refine ⟨fun pins s σ H Q I ⟨e, B, R, q⟩ => ?_⟩
  refine wpAny_Call_Name_kw (ld_glob I hg hm ?_ hdb)
  refine PySem.W.callWith_K (h₀ := X.base) I.ok.mod.kin M.kp (thn (ha.run pos pins s σ H (fun vs H1 => ∀ x dx, H1 x = none → H1 dx = none → dx ≠ x → spI G n gi (.ref x :: vs) (upd (upd H1 dx (.own x)) x (.ins C dx [])) (fun v H2 => v = .non ∧ Q (.ref x) H2) c.E) I ?_) fun us s1 ⟨vs, H1, I1, r, q⟩ => ⟨I1.kIn, runG_make M F h.q (h.r.mono hk) b (passW h) I1 r q⟩) he hpl
  rw [mMake, RB_bind] at q
  refine ⟨e, B, R, ?_⟩
  cases z : mr e with
  | bad => rw [z] at q; exact q.elim
  | exn => rw [z] at q; exact q
  | ok r =>
    rw [z] at q
    intro vs H1 B1 R1 s1 i1
    have q : RB G c ((gi (.obj cn [] []) r.1).bind fun t => match t.1 with | .sh .non => WL.R.ok (Rs.fr t.2, r.2) | _ => .bad) (fun r => Po G c σ r.2 B Q r.1) := q
    exact make_use R1 hC (hl e r z) i1 (q.mono fun t po v H' B' R' s' => po v H' B' R' (s1.trans s'))
/-- cls(e, ..), cls a slot that holds the class -/
def mMakeL (j : Nat) (cn : Str) (g : W → List W → R (Rs × W)) (mr : Ma) : Mx := fun e => match e[j]? with
  | some (.sh (.cl c)) => iff (c = cn) (mMake cn g mr e)
  | _ => .bad
theorem we_makeL {cn : Str} (j : Nat) (h : Here X G c k) (D : KDef X G cn k' (spI G n gi)) (hk : k' + 1 ≤ k) (hy : PE X (.Name y ypos) (tVar j)) (ha : WA X G c (a :: es) mr) (hl : ∀ e r, mr e = .ok r → r.1.length = n)
    (he : starEach (a :: es) X.env = (false, eval a X.env) :: starEach es X.env := by rfl) (hpl : (backTo pos (starEach es X.env)).any (·.1) = false := by rfl) : WE X G c (.Call (.Name y ypos) (a :: es) [] pos) (mMakeL j cn gi mr) := by
  obtain ⟨C, f, fd, ps, hC, hm, M, b, F⟩ := D.ex
  refine ⟨fun pins s σ H Q I ⟨e, B, R, q⟩ => ?_⟩
  unfold mMakeL at q
  cases z0 : e[j]? with
  | none => simp only [z0] at q; exact q.elim
  | some sl =>
    cases sl with
    | un => simp only [z0] at q; exact q.elim
    | ow => simp only [z0] at q; exact q.elim
    | sh w =>
      cases w <;> simp only [z0] at q <;> first | exact False.elim q | skip
      rename_i cc
      obtain ⟨rfl, q⟩ := RB_iff q
      obtain ⟨v0, hv0, ⟨C', rfl, hC'⟩⟩ := R.sh z0
      rw [hC] at hC'; cases hC'
      refine wpAny_Call_Name_kw (thn (hy.run pins s σ H (fun v H1 => v = .ref C ∧ H1 = H) I ⟨.ref C, hv0, rfl, rfl⟩) fun u s1 ⟨v, H1, I1, r1, e1, e2⟩ => ?_)
      subst e1; subst e2
      cases r1
      refine PySem.W.callWith_K (h₀ := X.base) I.ok.mod.kin M.kp (thn (ha.run pos pins s1 σ H1 (fun vs H1 => ∀ x dx, H1 x = none → H1 dx = none → dx ≠ x → spI G n gi (.ref x :: vs) (upd (upd H1 dx (.own x)) x (.ins C dx [])) (fun v H2 => v = .non ∧ Q (.ref x) H2) c.E) I1 ?_) fun us s2 ⟨vs, H2, I2, r, q⟩ => ⟨I2.kIn, runG_make M F h.q (h.r.mono hk) b (passW h) I2 r q⟩) he hpl
      rw [mMake, RB_bind] at q
      refine ⟨e, B, R, ?_⟩
      cases z : mr e with
      | bad => rw [z] at q; exact q.elim
      | exn => rw [z] at q; exact q
      | ok r =>
        rw [z] at q
        intro vs H1 B1 R1 s1 i1
        have q : RB G c ((gi (.obj cc [] []) r.1).bind fun t => match t.1 with | .sh .non => WL.R.ok (Rs.fr t.2, r.2) | _ => .bad) (fun r => Po G c σ r.2 B Q r.1) := q
        exact make_use R1 hC (hl e r z) i1 (q.mono fun t po v H' B' R' s' => po v H' B' R' (s1.trans s'))

/-! ### attributes that are stored -/
def putW (f : Str) (w : W) : List Str → List W → List Str × List W
  | g :: ns, v :: vs => if g = f then (g :: ns, w :: vs) else (g :: (putW f w ns vs).1, v :: (putW f w ns vs).2)
  | _, _ => ([f], [w])
theorem putW_is {f : Str} {w : W} {x : V} (ix : Is G B w x) : ∀ {fs : List (Str × V)} {vs : List W}, Iss G B vs (fs.map (·.2)) → (putF f x fs).map (·.1) = (putW f w (fs.map (·.1)) vs).1 ∧ Iss G B (putW f w (fs.map (·.1)) vs).2 ((putF f x fs).map (·.2))
  | [], vs, h => by
    cases vs with
    | nil => exact ⟨rfl, .cons ix .nil⟩
    | cons v vs => obtain ⟨_, _, h1, _⟩ := h; cases h1
  | (g, y) :: r, [], h => by cases (show (g, y).2 :: r.map (·.2) = [] from h)
  | (g, y) :: r, v :: vs, ⟨z, l, h1, h2, h3⟩ => by
    injection h1 with e1 e2
    simp only [putF, List.map_cons, putW]
    by_cases q : g = f
    · simp only [if_pos q]
      exact ⟨rfl, .cons ix (by rw [e2]; exact h3)⟩
    · simp only [if_neg q]
      obtain ⟨a1, a2⟩ := putW_is (f := f) ix (fs := r) (by rw [e2]; exact h3)
      exact ⟨by rw [List.map_cons, a1], .cons (by rw [show y = z from e1]; exact h2) a2⟩
/-- x.f = e, x a slot of an own object -/
def mFst (cn f : Str) (i : Nat) (m : Mx) : Ms := fun e => (mSh m e).bind fun p => match p.2[i]? with
  | some (.ow b (.obj c ns vs)) => iff (c = cn ∧ ns.length < 1000) (.ok (.nx, p.2.set i (.ow b (.obj c (putW f p.1 ns vs).1 (putW f p.1 ns vs).2))))
  | _ => .bad
theorem ws_fst {cn ff : Str} (i : Nat) {pos' : Pos} {value : Expr} {m : Mx} (hf : FldOk X G cn ff) (hy : PE X (.Name y ypos) (tVar i)) (hv : WE X G c value m) (hs : swapsWith value (some (.Attribute (.Name y ypos) ff pos')) pos.line X.env = pure false := by rfl) :
    WS X G c (.Assign [.Attribute (.Name y ypos) ff pos'] value pos) (mFst cn ff i m) :=
  PS.imp (ps_fld hy hv hs) fun D σ H ⟨e, B, R, h⟩ => by
    rw [mFst, RB_bind] at h
    refine tSh R (h.mono fun p h v H1 B1 R1 s1 i1 => ?_)
    cases q : p.2[i]? with
    | none => simp only [q] at h; exact h.elim
    | some sl =>
      cases sl with
      | un => simp only [q] at h; exact h.elim
      | sh w => simp only [q] at h; exact h.elim
      | ow b w =>
        cases w <;> simp only [q] at h <;> first | exact False.elim h | skip
        rename_i cc ns vs
        obtain ⟨⟨ec, hl⟩, hq⟩ := RB_iff h
        subst ec
        obtain ⟨a, ha, hB, _, _, C, dx, fs, h2, h3, h4, h5⟩ := R1.ow q
        obtain ⟨c1, c2⟩ := hf C h2
        refine ⟨_, ha, a, C, dx, fs, rfl, h3, c1, c2, by rw [← h4, List.length_map] at hl; exact hl, ?_⟩
        obtain ⟨a1, a2⟩ := putW_is (f := ff) i1 h5
        rw [h4] at a1 a2
        exact hq σ _ B1 (R1.mut q ha ⟨C, dx, _, h2, upd_same, a1, a2⟩) s1
/-! ### an own object is handed in to be read only -/
def mLend (i : Nat) (g : List W → R Rs) : Mx := fun e => match e[i]? with
  | some (.ow _ w) => (g [w]).bind fun r => match r with
    | .sh u => iff (apartL [u] = true) (.ok (.sh u, e))
    | .fr (.lst us) => iff (apartL us = true) (.ok (.fr (.lst us), e))
    | _ => .bad
  | _ => .bad
where
  /-- scalars and tuples -/
  apart : W → Bool
    | .non => true
    | .bl _ => true
    | .int _ => true
    | .str _ => true
    | .tup ws => apartL ws
    | _ => false
  apartL : List W → Bool
    | [] => true
    | w :: ws => apart w && apartL ws
/-- the shared part without one object that is no tuple -/
def less (B : Hp) (p : Addr) : Hp := fun a => if a = p then none else B a
theorem less_ne {p a : Addr} (h : a ≠ p) : less B p a = B a := if_neg h
theorem less_same {p : Addr} : less B p p = none := if_pos rfl
mutual
theorem Is.less {p : Addr} (hp : ∀ o xs, B p ≠ some (.tup xs) ∧ B p ≠ some (.frz o (.tup xs))) : ∀ {w : W} {v : V}, mLend.apart w = true → Is G B w v → Is G (less B p) w v
  | .non, _, _, h => h
  | .bl _, _, _, h => h
  | .int _, _, _, h => h
  | .str _, _, _, h => h
  | .tup ws, _, k, ⟨a, xs, h1, h2, h3⟩ => by
    refine ⟨a, xs, h1, ?_, Iss.less hp k h3⟩
    rcases h2 with (h2 | ⟨o, h2⟩) | h2
    · refine .inl (.inl ?_)
      rw [less_ne fun z => (hp default xs).1 (by rw [← z]; exact h2)]; exact h2
    · refine .inl (.inr ⟨o, ?_⟩)
      rw [less_ne fun z => (hp o xs).2 (by rw [← z]; exact h2)]; exact h2
    · exact .inr h2
  | .lst _, _, k, _ => by cases k
  | .dic _ _, _, k, _ => by cases k
  | .tdc _ _, _, k, _ => by cases k
  | .obj _ _ _, _, k, _ => by cases k
  | .scr _, _, k, _ => by cases k
  | .cl _, _, k, _ => by cases k
theorem Iss.less {p : Addr} (hp : ∀ o xs, B p ≠ some (.tup xs) ∧ B p ≠ some (.frz o (.tup xs))) : ∀ {ws : List W} {xs : List V}, mLend.apartL ws = true → Iss G B ws xs → Iss G (less B p) ws xs
  | [], _, _, h => h
  | w :: ws, _, k, ⟨x, l, h1, h2, h3⟩ => by
    have k : (mLend.apart w && mLend.apartL ws) = true := k
    rw [Bool.and_eq_true] at k
    exact ⟨x, l, h1, Is.less hp k.1 h2, Iss.less hp k.2 h3⟩
end
end
end WL
end F_WLN

section F_WLQ
/-! WLQ: an own object lent, classmethods, dict(d), sorted(set(t)), the law's end. -/
namespace WL
open PySem PySem.Spec PyProof.Rows L2

section
variable {X : Cx} {G : Gm} {c : Ct} {k k' : Nat} {σ : L2.St} {e : En} {H B H' B' : Hp} {v : V} {w : W} {f C : Addr} {fd : FuncData} {ps : List Str} {n i : Nat} {pos p apos ypos : Pos} {a b o : Expr} {es : List Expr} {mr : Ma} {mo ma : Mx} {g : List W → R Rs} {x y m : Str}
/-! ### f(x), x a slot of an own object that f only reads; what comes back is made of scalars and tuples -/
def mLendO (i : Nat) (g : List W → R Rs) : Mx := fun e => match e[i]? with
  | some (.ow _ (.obj c ns vs)) => (match g [.obj c ns vs] with
    | .ok (.sh u) => iff (mLend.apartL [u] = true) (.ok (.sh u, e))
    | .ok (.fr (.lst us)) => iff (mLend.apartL us = true) (.ok (.fr (.lst us), e))
    | .exn cl ns ws => if mLend.apartL ws = true then .exn cl ns ws else .bad
    | _ => .bad)
  | _ => .bad
theorem lend_use {Q : VK} (R : Rel G c σ e H B) (h : RB G c (mLendO i g e) fun r => Po G c σ r.2 B Q r.1) : ∃ f, σ[i]? = some (some (.ref f)) ∧ spW G 1 g [.ref f] H Q c.E := by
  unfold mLendO at h
  cases q : e[i]? with
  | none => simp only [q] at h; exact h.elim
  | some sl =>
    cases sl with
    | un => simp only [q] at h; exact h.elim
    | sh w => simp only [q] at h; exact h.elim
    | ow b w =>
      cases w <;> simp only [q] at h <;> first | exact False.elim h | skip
      rename_i cc ns vs
      obtain ⟨f, hf, hB, _, _, ho⟩ := R.ow q
      obtain ⟨C, dx, fs, h2, h3, h4, h5⟩ := id ho
      refine ⟨f, hf, upd B f (.ins C dx fs), [.obj cc ns vs], rfl, fun a o e1 => ?_, .cons ⟨f, C, dx, fs, rfl, h2, upd_same, h4, h5.mono (Sub.new hB)⟩ .nil, ?_⟩
      · by_cases z : a = f
        · subst z; rw [upd_same] at e1; cases e1; exact h3
        · rw [upd_ne z] at e1; exact R.sub a o e1
      -- what the callee leaves, without the lent object
      have low : ∀ {H' B' : Hp}, Sub (upd B f (.ins C dx fs)) B' → Sub B' H' → (∀ {a : Addr} {o : HO}, B' a = some o → (∃ u, upd B f (.ins C dx fs) a = some u) ∨ H a = none) →
          (∀ o xs, B' f ≠ some (.tup xs) ∧ B' f ≠ some (.frz o (.tup xs))) ∧ Sub B (less B' f) ∧ Sub (less B' f) H' ∧ ∀ {a : Addr} {o : HO}, less B' f a = some o → (∃ u, B a = some u) ∨ H a = none := fun {H' B'} s s' nw => by
        have hf' : B' f = some (.ins C dx fs) := s _ _ upd_same
        refine ⟨fun o xs => ⟨by rw [hf']; simp, by rw [hf']; simp⟩, fun a o e1 => ?_, fun a o e1 => ?_, fun {a o} e1 => ?_⟩
        · have ne : a ≠ f := fun z => by rw [z, hB] at e1; cases e1
          rw [less_ne ne]; exact s a o (by rw [upd_ne ne]; exact e1)
        · have ne : a ≠ f := fun z => by rw [z, less_same] at e1; cases e1
          rw [less_ne ne] at e1; exact s' a o e1
        · have ne : a ≠ f := fun z => by rw [z, less_same] at e1; cases e1
          rw [less_ne ne] at e1
          rcases nw e1 with ⟨u, hu⟩ | z
          · rw [upd_ne ne] at hu; exact .inl ⟨u, hu⟩
          · exact .inr z
      cases z : g [.obj cc ns vs] with
      | bad => rw [z] at h; exact h.elim
      | exn cl ns2 ws =>
        rw [z] at h
        simp only at h
        by_cases ap : mLend.apartL ws = true
        · rw [if_pos ap] at h
          intro C' d H' B' fs' q1 q2 q3 q4 q5 q6 q7 q8 q9
          obtain ⟨l1, l2, l3, l4⟩ := low q6 q5 q7
          exact h C' d H' (less B' f) fs' q1 q2 q3 (Iss.less l1 ap q4) l3 (R.old.trans l2) (fun e1 => by
            rcases l4 e1 with ⟨u, hu⟩ | y
            · exact R.new hu
            · exact .inr (R.h0 y)) (fun e1 hO => q8 (R.keep e1 hO) fun y => y) (R.h0 q9)
        · rw [if_neg ap] at h; exact h.elim
      | ok r =>
        rw [z] at h
        intro v H' B' s s' nw kp ro
        obtain ⟨l1, l2, l3, l4⟩ := low s s' nw
        have R' := R.callee l2 l3 l4 kp
        cases r with
        | nm j => exact h.elim
        | sh u =>
          obtain ⟨ap, h⟩ := RB_iff (show RB G c (iff (mLend.apartL [u] = true) (WL.R.ok (Rs.sh u, e))) (fun r => Po G c σ r.2 B Q r.1) from h)
          have ap : mLend.apart u = true := by
            have ap : (mLend.apart u && mLend.apartL []) = true := ap
            rw [Bool.and_eq_true] at ap; exact ap.1
          exact h v H' _ R' l2 (Is.less l1 ap ro)
        | fr u =>
          cases u with
          | lst us =>
            obtain ⟨ap, h⟩ := RB_iff (show RB G c (iff (mLend.apartL us = true) (WL.R.ok (Rs.fr (.lst us), e))) (fun r => Po G c σ r.2 B Q r.1) from h)
            obtain ⟨a, e1, e2, e3, xs, e4, e5⟩ := ro
            have ne : a ≠ f := fun y => by rw [y, h3] at e3; cases e3
            exact h v H' _ R' l2 ⟨a, e1, by rw [less_ne ne]; exact e2, R.h0 e3, R.nobody e3, xs, e4, Iss.less l1 ap e5⟩
          | _ => exact h.elim
theorem we_lend (i : Nat) (h : Here X G c k) (D : Def X x k' f fd ps (spW G 1 g)) (hk : k' ≤ k) (hy : PE X (.Name y ypos) (tVar i)) (hg : Gl X x := by rfl) (hdb : (x == ("__debug__" : Str)) = false := by decide)
    (he : starEach [.Name y ypos] X.env = (false, eval (.Name y ypos) X.env) :: starEach [] X.env := by rfl) (hpl : (backTo pos (starEach [] X.env)).any (·.1) = false := by rfl) : WE X G c (.Call (.Name x p) [.Name y ypos] [] pos) (mLendO i g) :=
  PE.imp (pg_call D.F h.q (h.r.mono hk) hg D.m D.kp D.b (passW h) (pa_cons hy pa_nil he) hdb he hpl) fun σ H Q ⟨e, B, R, q⟩ => by
    obtain ⟨f, hf, z⟩ := lend_use R q
    exact ⟨_, hf, z⟩

/-! ### classmethods -/
structure CDef (X : Cx) (G : Gm) (cn m : Str) (k : Nat) (sp : Sp) : Prop where
  ex : ∃ C mc p f fd ps, G.cls cn = some C ∧ X.mg cn = some (.ref C) ∧ ClX.CRead X.K C mc ∧ ClX.CMet X.K C mc m p f ∧ Binds X.K fd ps [] ∧ FnG X.prog X.w X.K X.mg X.base (L2.CX X.prog X.w) k f fd ps sp
def mCls (cn : Str) (g : List W → R Rs) (mr : Ma) : Mx := fun e => (mr e).bind fun q => (g (.cl cn :: q.1)).bind fun r => .ok (r, q.2)
theorem we_cls {cn : Str} {pl : Sem Bool} (h : Here X G c k) (D : CDef X G cn m k' (spW G (n + 1) g)) (hk : k' ≤ k) (ha : WA X G c (a :: es) mr) (hl : ∀ e r, mr e = .ok r → r.1.length = n) (hg : Gl X cn := by rfl) (hdb : (cn == ("__debug__" : Str)) = false := by decide)
    (hst : starEach (a :: es) X.env = (false, eval a X.env) :: starEach es X.env := by rfl) (hpl : (backTo pos (starEach es X.env)).any (·.1) = false := by rfl)
    (ht : eval (.Call (.Attribute (.Name cn ypos) m apos) (a :: es) [] pos) X.env = (eval (.Name cn ypos) X.env >>= fun ov => standAt apos.atName >>= fun _ => holding [ov] (getMethod ov m pl) >>= fun q => callWith pos q.1 q.2 (backTo pos (starEach (a :: es) X.env)) (backToKw pos (keywordEach [] X.env))) := by rfl) :
    WE X G c (.Call (.Attribute (.Name cn ypos) m apos) (a :: es) [] pos) (mCls cn g mr) := by
  obtain ⟨C, mc, p, f, fd, ps, hC, hm, rd, cm, b, F⟩ := D.ex
  refine ⟨fun pins s σ H Q I ⟨e, B, R, q⟩ => ?_⟩
  refine PySem.W.methodCall_KW (pl := pl) (thn ((pe_glob (pos := ypos) hg hm (v := .ref C) rfl hdb).run pins s σ H (fun v H1 => v = .ref C ∧ H1 = H) I ⟨rfl, rfl⟩) fun u s1 ⟨v, H1, I1, r1, e1, e2⟩ => ?_) ht
  subst e1; subst e2
  cases r1
  refine ClX.getmethcm_ok I1 rd cm fun s2 I2 => ?_
  refine ClX.callwith_cm I2 (ClX.base_none I1 (Nat.le_refl _)) cm.fi (thn (ha.run pos _ s2 σ H1 (fun vs H2 => spW G (n + 1) g (.ref C :: vs) H2 Q c.E) I2 ?_) fun us s3 ⟨vs, H2, I3, rv, q2⟩ => ⟨⟨ClX.pin_at I3, I3.kIn⟩, ?_⟩) hst hpl
  · rw [mCls, RB_bind] at q
    refine ⟨e, B, R, ?_⟩
    cases z : mr e with
    | bad => rw [z] at q; exact q.elim
    | exn => rw [z] at q; exact q
    | ok r =>
      rw [z] at q
      intro vs H2 B2 R2 s2 i2
      have q : RB G c ((g (.cl cn :: r.1)).bind fun t => .ok (t, r.2)) (fun r => ∀ v H' B', Rel G c σ r.2 H' B' → Sub B B' → RV G c σ r.2 H' B' v r.1 → Q v H') := q
      rw [RB_bind] at q
      exact spW_use R2 (by simp [hl e r z]) (.cons (show Is G B2 (.cl cn) (.ref C) from ⟨C, rfl, hC⟩) i2) (q.mono fun t po v H' B' R' s' => po v H' B' R' (s2.trans s'))
  · have rv2 : Vals (V.ref C :: vs) (Value.ref C :: us) := .cons (show RelV (V.ref C) (Value.ref C) from rfl) rv
    have b2 := b s3 (.ref C :: us) I3.kIn (by rw [List.append_nil, ← rv2.length]; exact F.ln q2)
    rw [List.append_nil] at b2
    have go : wpAny (model X.prog X.w) X.A (call (.ref s1.heap.objs.size) us) (EP X ((s1.heap.objs.size, PySem.W.methodObj (.ref f) (.ref C)) :: pins) σ Q) X.xe s3 := by
      refine wpAny_call (PySem.W.method_call (ClX.pin_at I3) (codeAny_mono (F.go h.q (h.r.mono hk) I3.env0 b2 rv2 q2) fun rr s' hq => ?_))
      match rr, hq with
      | .error e, hq => exact passW h _ σ H2 s3 e s' I3 hq
      | .ok (.ret u), hq => exact I3.after hq
      | .ok .next, hq => exact False.elim hq
      | .ok .brk, hq => exact False.elim hq
      | .ok .cont, hq => exact False.elim hq
    exact thn go fun _ _ z => ClX.unpinE z

/-! ### dict(d) -/
def fDict : W → R Rs
  | .dic ks vs => .ok (.fr (.dic ks vs))
  | _ => .bad
theorem u_dict : Un1 X G c (.type "dict") fDict := by
  intro w
  cases w
  case dic ks vs => exact ⟨_, call_dictD, fun σ e H B x Q R i h => by
    obtain ⟨a, rfl, kvs, h1, h2, h3⟩ := i
    exact ⟨a, kvs, rfl, .inl h1, fun p hp => Po.fr h R hp ⟨kvs, upd_same, h2, h3⟩⟩⟩
  all_goals exact ⟨_, call_dictD, fun _ _ _ _ _ _ _ _ h => h.elim⟩

/-! ### sorted(set(t)), t a tuple of ints -/
def dedupI : List Int → List Int
  | [] => []
  | x :: xs => if xs.contains x then dedupI xs else x :: dedupI xs
theorem mem_dedupI {k : Int} : ∀ {ns : List Int}, k ∈ dedupI ns ↔ k ∈ ns
  | [] => Iff.rfl
  | x :: xs => by
    have ih := mem_dedupI (k := k) (ns := xs)
    unfold dedupI
    split
    · rename_i h
      rw [ih, List.mem_cons]
      exact ⟨.inr, fun z => z.elim (fun q => by rw [q]; simpa using h) id⟩
    · rw [List.mem_cons, List.mem_cons, ih]
theorem nodup_dedupI : ∀ {ns : List Int}, (dedupI ns).Nodup
  | [] => .nil
  | x :: xs => by
    unfold dedupI
    split
    · exact nodup_dedupI
    · rename_i h
      exact List.nodup_cons.mpr ⟨fun z => h (by simpa using mem_dedupI.mp z), nodup_dedupI⟩
def usort (ns : List Int) : List Int := sortI (dedupI ns)
theorem usort_is {ns out : List Int} (hp : out.Pairwise (· < ·)) (hm : ∀ k, k ∈ out ↔ k ∈ ns) : out = usort ns :=
  sortI_is ((List.perm_ext_iff_of_nodup (hp.imp fun h => by omega) nodup_dedupI).mpr fun k => by rw [hm, mem_dedupI]) (hp.imp fun h => by omega)
theorem call_setT : CallR X (.type "set") (fun xs H Q => X.calm = true ∧ ∃ (l : Addr) (ns : List Int), xs = [.ref l] ∧ SqT X.K H l (ns.map V.int) ∧ ns.length ≤ 1000 ∧ ∀ p c, H p = none → c ≤ ns.length → Q (.ref p) (upd H p (SetO X.w p (fun j => decide (j ∈ ns)) c))) := by
  intro pins s σ H xs us Q I r ⟨hc, l, ns, ex, hq, hl, q⟩
  subst ex
  obtain rfl := Vals.ref1 r
  obtain ⟨its, rv, pt, hz⟩ := I.tuple hq
  refine call_set_tupI ns (I.ok.hd hc) (show s.heap.IsTuple l its.toArray from pt) (ints_of_vals rv) (by unfold scanBound; omega) fun h' tk cc R1 hcn kk => ?_
  exact ⟨.ref s.heap.objs.size, _, I.laid (t' := tk) kk (Nat.le_refl _) (setO_new R1), rfl, q _ cc (I.hok.fresh (Nat.le_refl _)) hcn⟩
def fSortS : W → R Rs
  | .tup ws => (ofO (intsOf ws)).bind fun ns => iff (ns.length < 64) (.ok (.fr (.lst ((usort ns).map W.int))))
  | _ => .bad
theorem we_sortS {p2 q2 : Pos} (hh : Here X G c k) (ha : WE X G c a ma) (hm : X.mg "sorted" = none) (hm2 : X.mg "set" = none) (hg : Gl X "sorted" := by rfl) (hg2 : Gl X "set" := by rfl)
    (he : starEach [a] X.env = (false, eval a X.env) :: starEach [] X.env := by rfl) (he2 : starEach [.Call (.Name "set" p2) [a] [] q2] X.env = (false, eval (.Call (.Name "set" p2) [a] [] q2) X.env) :: starEach [] X.env := by rfl) :
    WE X G c (.Call (.Name "sorted" p) [.Call (.Name "set" p2) [a] [] q2] [] pos) (mUn fSortS ma) :=
  PE.imp (pe_callB (cr_sortedSet hh.calm) hg hm (by decide +kernel) (pa_cons (pe_callTy call_setT hg2 hm2 PyProof.Rows.boot_set (pa_cons ha pa_nil he) (by decide) (by decide) he rfl) pa_nil he2) (by decide) (by decide) he2 rfl) fun σ H Q ⟨e, B, R, h⟩ => un_post R h fun w e2 z H1 B1 x R1 i1 po => by
    cases w <;> first | exact False.elim po | skip
    rename_i ws
    simp only [fSortS] at po
    rw [RB_bind] at po
    obtain ⟨ns, z2, po⟩ := RB_ofO po
    obtain ⟨hl, po⟩ := RB_iff po
    rw [intsOf_eq z2] at i1
    obtain ⟨l, xs, rfl, h1, h2⟩ := i1
    rw [hh.g.K] at h1
    rw [Iss.ints.mp h2] at h1
    refine ⟨hh.calm, l, ns, rfl, sub_sqt R1.sub h1, by omega, fun p cc hp hc => ⟨p, fun j => decide (j ∈ ns), cc, rfl, upd_same, by omega, fun out q pw hm hl2 hq => ?_⟩⟩
    rw [usort_is pw (ns := ns) fun kk => by rw [hm]; simp]
    exact po _ _ _ ((R1.newO hp).newO hq) (Sub.refl _) ((R1.newO hp).fresh hq ⟨_, upd_same, Iss.ints.mpr rfl⟩)
end
end WL
end F_WLQ

section F_WLZ
/-! WLZ: the law's end, from its def's promise. -/
namespace WL
open PySem PySem.Spec PyProof.Rows L2

/-- the script as the only thing that is known of the heap -/
def HS (K : PySem.W.Frag) (a : Addr) (vs : List Value) (ns : List Int) : Hp := fun b => if b = a ∧ K.lookup a = none then some (.frz { cls := .type "list", data := .seq vs.toArray } (.lst (ns.map V.int))) else none
section
variable {P : Program} {w : World} {K : PySem.W.Frag} {mg mb : Str → Option Value} {a : Addr} {vs : List Value} {ns : List Int} {s1 : Shared}
theorem hs_some {b : Addr} {u : HO} (h : HS K a vs ns b = some u) : b = a ∧ K.lookup a = none ∧ u = .frz { cls := .type "list", data := .seq vs.toArray } (.lst (ns.map V.int)) := by
  unfold HS at h
  split at h
  · rename_i q; cases h; exact ⟨q.1, q.2, rfl⟩
  · cases h
theorem hs_env (hk : K.In s1.heap) (hns : s1.heap.Ns mainGlobals mg) (hb : s1.heap.Ns builtinsNs mb) (hbb : ∀ x : Str, x ≠ "__name__" → mb x = bootBuiltins x) (hlim : s1.heap.NoLimit) (hg : s1.gens = #[])
    (ha : s1.heap.get? a = some { cls := .type "list", data := .seq vs.toArray }) (hi : IntsAre vs ns) (hl : ns.length ≤ sizeLine) :
    SqL K (HS K a vs ns) a (ns.map V.int) ∧ ∃ base : Heap, K.In base ∧ base.Ns mainGlobals mg ∧ Env0 P w K mg base callerA [] s1 (HS K a vs ns) := by
  have at_ : ∀ {b : Addr} {o : Obj}, s1.heap.get? b = some o → HS K a vs ns b = none → (hidT s1.heap (HS K a vs ns)).get? b = some o := hidT_get
  have dn : ∀ {b : Addr} {o : Obj} {es : Array DictEntry} {ep : Nat}, s1.heap.get? b = some o → o.data = .dict es ep → HS K a vs ns b = none := fun {b o es ep} h1 h2 => by
    cases hq : HS K a vs ns b with
    | none => rfl
    | some u =>
      obtain ⟨rfl, _, _⟩ := hs_some hq
      rw [ha] at h1
      cases h1
      cases (show Data.seq vs.toArray _ = Data.dict es ep from h2)
  have nsb : ∀ {b : Addr} {m : Str → Option Value}, s1.heap.Ns b m → (hidT s1.heap (HS K a vs ns)).Ns b m := fun ⟨o, es, ep, h1, h2, h3⟩ => ⟨o, es, ep, at_ h1 (dn h1 h2), h2, h3⟩
  have kb : K.In (hidT s1.heap (HS K a vs ns)) := fun b o h1 => at_ (hk b o h1) (by
    cases hq : HS K a vs ns b with
    | none => rfl
    | some u =>
      obtain ⟨rfl, h2, _⟩ := hs_some hq
      rw [h2] at h1; cases h1)
  have ok : HOk P w (HS K a vs ns) s1.heap := fun b u hq => by
    obtain ⟨rfl, _, rfl⟩ := hs_some hq
    exact ⟨ha, by rw [List.length_map]; exact hl, vs, _, vals_ints hi, ha⟩
  have lim : (hidT s1.heap (HS K a vs ns)).NoLimit := by
    obtain ⟨mc, h1, h2⟩ := hlim
    exact ⟨mc, nsb h1, h2⟩
  have e0 : Env0 P w K mg (hidT s1.heap (HS K a vs ns)) callerA [] s1 (HS K a vs ns) := { frames := rfl, mod := ⟨kb, nsb hns, ⟨mb, nsb hb, hbb⟩, lim⟩, bs := fun b o => of_hidT, bsz := Nat.le_of_eq (hidT_size _ _), funs := trivial, frf := fun b hb => absurd hb (by show ¬ b ∈ ([] : List Addr); simp), hok := ok, bare := .of_eq hg }
  refine ⟨?_, _, kb, nsb hns, e0⟩
  cases hq : K.lookup a with
  | none => exact .inl (.inr ⟨_, if_pos ⟨rfl, hq⟩⟩)
  | some o =>
    have h1 := hk a o hq
    rw [ha] at h1
    cases h1
    have lv := hi.length
    exact .inr ⟨_, vs.toArray, _, hq, rfl, rfl, rfl, by rw [List.size_toArray, lv]; exact hl, by simpa using vals_ints hi⟩
theorem end_call {k : Nat} {fa : Addr} {fd : FuncData} {x : Str} {sp : Sp} (hk : K.In s1.heap) (hns : s1.heap.Ns mainGlobals mg) (hb : s1.heap.Ns builtinsNs mb) (hbb : ∀ x : Str, x ≠ "__name__" → mb x = bootBuiltins x) (hlim : s1.heap.NoLimit) (hg : s1.gens = #[])
    (ha : s1.heap.get? a = some { cls := .type "list", data := .seq vs.toArray }) (hi : IntsAre vs ns) (hl : ns.length ≤ sizeLine) (hr : Room k callerA) (hq : Quiet callerA)
    (F : ∀ base : Heap, K.In base → base.Ns mainGlobals mg → FnG P w K mg base (L2.CX P w) k fa fd [x] sp) (hbind : ∀ (s : Shared) (u : Value), BindsTo s fd ⟨[u], []⟩ [(x, u)])
    (hsp : ∀ H : Hp, SqL K H a (ns.map V.int) → sp [.ref a] H (fun v _ => v = .bl true) fun _ _ _ => False) :
    codeAny (model P w) callerA (.call (.ref fa) ⟨[.ref a], []⟩) (fun r s' => r = .ok (.ret (.bool true)) ∧ OldK s1.heap s'.heap ∧ s'.os = s1.os ∧ AllBare s'.gens) s1 := by
  obtain ⟨hS, base, b1, b2, e0⟩ := hs_env (P := P) (w := w) hk hns hb hbb hlim hg ha hi hl
  have vr : Vals [V.ref a] [Value.ref a] := .cons (show RelV (V.ref a) (Value.ref a) from rfl) .nil
  refine codeAny_mono ((F base b1 b2).go (us := [.ref a]) hq hr e0 (hbind s1 (.ref a)) vr (hsp _ hS)) fun r s' h => ?_
  have hok0 : HOk P w (HS K a vs ns) s1.heap := fun b u hq => by
    obtain ⟨rfl, _, rfl⟩ := hs_some hq
    exact ⟨ha, by rw [List.length_map]; exact hl, vs, _, vals_ints hi, ha⟩
  match r, h with
  | .error e, h => obtain ⟨_, _, _, _, _, _, _, _, _, _, _, _, hE⟩ := h; exact hE.elim
  | .ok .next, h => exact False.elim h
  | .ok .brk, h => exact False.elim h
  | .ok .cont, h => exact False.elim h
  | .ok (.ret u), ⟨v, H', os, bare, un, ok2, rv, hv⟩ =>
    have hv : v = .bl true := hv
    subst hv
    cases (show u = Value.bool true from rv)
    refine ⟨rfl, OldK.of_keep fun b o h1 => ?_, os, bare⟩
    cases q : HS K a vs ns b with
    | none => exact un.keep b o h1 q (fun z => absurd (show b ∈ ([] : List Addr) from z) (by simp)) (by simp)
    | some ob =>
      obtain ⟨rfl, _, rfl⟩ := hs_some q
      have h2 := (ok2 _ _ (un.frzs _ _ _ q)).1
      rw [ha] at h1
      cases h1
      exact h2
theorem walkG {l : PySem.W.OpenLaw} {n k : Nat} {q : Program} {loose : List Str} {XP : (Str → Option Value) → Heap → Prop} {YP : World → Heap → Prop} {d : DefRec} {K : Params → PySem.W.Frag} {sp : World → Sp} {x : Str}
    (hn : l.most = some n) (hn2 : n ≤ sizeLine) (hdf : d.params.defaults = []) (hr : Room k callerA) (hq : Quiet callerA) (hY : ∀ (w : World) (h : Heap), YP w h → (K w.params).In h)
    (F : ∀ (w : World) (mg : Str → Option Value) (fa : Addr) (h : Heap), (K w.params).In h → h.Ns mainGlobals mg → mg d.name = some (.ref fa) →
      ∃ fd : FuncData, (∀ (s : Shared) (u : Value), BindsTo s fd ⟨[u], []⟩ [(x, u)]) ∧ ∀ base : Heap, (K w.params).In base → base.Ns mainGlobals mg → FnG l.prog w (K w.params) mg base (L2.CX l.prog w) k fa fd [x] (sp w))
    (hsp : ∀ (w : World) (H : Hp) (a : Addr) (ns : List Int), ns.length ≤ n → SqL (K w.params) H a (ns.map V.int) → sp w [.ref a] H (fun v _ => v = .bl true) fun _ _ _ => False) :
    PySem.W.WalkO q loose XP YP l.row.toRowW d [] (fun f vs => PySem.call f vs) :=
  Att.attach_call hn hdf fun w s0 s1 mg mb fa o pm cd doc a vs ns Gr Y ho hd hcd hmg hobj hints hlen hg => by
    obtain ⟨fd, hb, hF⟩ := F w mg fa _ (hY w _ Y) Gr.T.g hmg
    exact end_call (hY w _ Y) Gr.T.g Gr.T.b Gr.T.builtins Gr.T.nolimit hg hobj hints (Nat.le_trans hlen hn2) hr hq hF hb fun H hS => hsp w H a ns hlen hS
/-- the law's promise by trees: the script is read only, the answer is True -/
theorem law_sp {G : Gm} {g : List W → R Rs} {H : Hp} {a : Addr} {ns : List Int} (hS : SqL G.K H a (ns.map V.int)) (hg : g [.scr ns] = .ok (.sh (.bl true))) : spW G 1 g [.ref a] H (fun v _ => v = .bl true) fun _ _ _ => False := by
  refine ⟨H, [.scr ns], rfl, Sub.refl H, .cons ⟨a, rfl, hS⟩ .nil, ?_⟩
  rw [hg]
  exact fun v H' B' _ _ _ _ ro => ro
end
end WL
end F_WLZ

section F_WLY
/-! WLY: what the printed texts use: defs by their bodies, calls of defs by what the text tells of them. -/
namespace WL
open PySem PySem.Spec PyProof.Rows L2

section
variable {P : Program} {w : World} {K : PySem.W.Frag} {mg : Str → Option Value} {base : Heap} {k : Nat} {f : Addr} {fd : FuncData} {N ps : List Str} {cls : Str → Option Addr} {x qual : Str} {st : Stmt} {n j : Nat} {m : Ms}
theorem fnC (F : Fun K x qual st f fd) (S : FnScope N ps (defScope st)) (hn : ps.length = n) (hN : N.length = n + j)
    (hb : ∀ (cdv : Value) (A : Around) (outer : List Env) (s : Shared) (H : Hp) (E : XK) (c : Ct), (∀ X, X = cxOf (L2.CX P w) P w K mg base N qual (defScope st) f cdv A outer s H E → PassesOwn (model X.prog X.w) X.A X.env X.xe) →
      Here (cxOf (L2.CX P w) P w K mg base N qual (defScope st) f cdv A outer s H E) ⟨P, w, K, cls⟩ c k → WSs (cxOf (L2.CX P w) P w K mg base N qual (defScope st) f cdv A outer s H E) ⟨P, w, K, cls⟩ c (defBody st) m) :
    FnG P w K mg base (L2.CX P w) (k + 1) f fd ps (spW ⟨P, w, K, cls⟩ n (mBody j m)) := by
  obtain ⟨oc, od, kV, doc, pm, an, cdv, ct, osl, rfl, lk, hcd⟩ := F.ex
  refine fnG_body lk hcd S (fun h => ?_) fun A outer s H vs Q E hq hr h => ?_
  · obtain ⟨B, ws, h1, _, h3, _⟩ := h
    rw [hn, ← h1, h3.len]
  · obtain ⟨B, ws, h1, h2, h3, h4⟩ := h
    refine ⟨_, hb cdv A outer s H E ⟨H, B, fun _ => False, E⟩ (fun X hX => by subst hX; exact passes_of rfl) ⟨⟨rfl, rfl, rfl⟩, hq, hr, takes_of rfl rfl rfl rfl, rfl, S.nd⟩, ws.map .sh ++ List.replicate j .un, B, start_rel hN h1 h2 h3, ?_⟩
    rw [mBody, RB_bind] at h4
    refine h4.mono fun p h => ?_
    obtain ⟨fl, e'⟩ := p
    cases fl with
    | nx => exact fun σ' H' B' R' s' => h .non H' B' s' R'.sub (fun e1 => R'.new e1) (fun e1 => R'.keep e1 (fun z => z)) rfl
    | rt r =>
      intro v σ' H' B' R' s' rv
      have h : RB _ _ (fin r e') _ := h
      cases q : fin r e' with
      | bad => rw [q] at h; exact h.elim
      | exn => exact (fin_ne q).elim
      | ok r' =>
        rw [q] at h
        refine h v H' B' s' R'.sub (fun e1 => R'.new e1) (fun e1 => R'.keep e1 (fun z => z)) ?_
        have z := fin_is R' rv q fun _ => trivial
        cases r' <;> exact z
    | bk => exact h.elim
    | ct => exact h.elim
theorem fnCI (F : Fun K x qual st f fd) (S : FnScope N ps (defScope st)) (hn : ps.length = n + 1) (hN : N.length = n + 1 + j)
    (hb : ∀ (cdv : Value) (A : Around) (outer : List Env) (s : Shared) (H : Hp) (E : XK) (c : Ct), (∀ X, X = cxOf (L2.CX P w) P w K mg base N qual (defScope st) f cdv A outer s H E → PassesOwn (model X.prog X.w) X.A X.env X.xe) →
      Here (cxOf (L2.CX P w) P w K mg base N qual (defScope st) f cdv A outer s H E) ⟨P, w, K, cls⟩ c k → WSs (cxOf (L2.CX P w) P w K mg base N qual (defScope st) f cdv A outer s H E) ⟨P, w, K, cls⟩ c (defBody st) m) :
    FnG P w K mg base (L2.CX P w) (k + 1) f fd ps (spI ⟨P, w, K, cls⟩ n (mBodyI j m)) := by
  obtain ⟨oc, od, kV, doc, pm, an, cdv, ct, osl, rfl, lk, hcd⟩ := F.ex
  refine fnG_body lk hcd S (fun h => ?_) fun A outer s H vs Q E hq hr h => ?_
  · obtain ⟨B, f, w0, ws, vr, rfl, h1, _, _, _, h3, _⟩ := h
    rw [hn, ← h1, h3.len]; rfl
  · obtain ⟨B, f, w0, ws, vr, rfl, h1, h2, hf, ho, h3, h4⟩ := h
    refine ⟨_, hb cdv A outer s H E ⟨H, B, fun z => z = f, E⟩ (fun X hX => by subst hX; exact passes_of rfl) ⟨⟨rfl, rfl, rfl⟩, hq, hr, takes_of rfl rfl rfl rfl, rfl, S.nd⟩, .ow true w0 :: ws.map .sh ++ List.replicate j .un, B, start_relI hN h1 h2 hf ho h3, ?_⟩
    rw [mBodyI, RB_bind] at h4
    refine h4.mono fun p h => ?_
    obtain ⟨fl, e'⟩ := p
    cases q0 : own0 e' with
    | none => simp only [q0] at h; exact h.elim
    | some w1 =>
      simp only [q0] at h
      have q0 : e'[0]? = some (Sl.ow true w1) := by
        unfold own0 at q0
        split at q0
        · cases q0; rfl
        · cases q0
      have at0 : ∀ {σ' : L2.St} {H' B' : Hp}, Rel ⟨P, w, K, cls⟩ ⟨H, B, fun z => z = f, E⟩ σ' e' H' B' → B' f = none ∧ Own ⟨P, w, K, cls⟩ B' H' f w1 := fun {σ' H' B'} R' => by
        obtain ⟨a, _, z2, z3, _, z5⟩ := R'.ow q0
        have : a = f := z3 rfl
        subst this
        exact ⟨z2, z5⟩
      cases fl with
      | nx =>
        intro σ' H' B' R' s'
        obtain ⟨z1, z2⟩ := at0 R'
        exact h .non H' B' s' R'.sub (fun e1 => R'.new e1) (fun e1 ne => R'.keep e1 ne) z1 z2 rfl
      | rt r =>
        intro v σ' H' B' R' s' rv
        obtain ⟨z1, z2⟩ := at0 R'
        have h : RB _ _ ((fin r e').bind fun r => .ok (r, w1)) _ := h
        rw [RB_bind] at h
        cases q : fin r e' with
        | bad => rw [q] at h; exact h.elim
        | exn => exact (fin_ne q).elim
        | ok r' =>
          rw [q] at h
          refine h v H' B' s' R'.sub (fun e1 => R'.new e1) (fun e1 ne => R'.keep e1 ne) z1 z2 ?_
          have z := fin_is R' rv q fun _ => trivial
          cases r' <;> exact z
      | bk => exact h.elim
      | ct => exact h.elim
end

/-! ### what the text tells -/
/-- a def of the text, by its name -/
structure DE (P : Program) (w : World) (K : PySem.W.Frag) (mg : Str → Option Value) (base : Heap) (x : Str) (k : Nat) (sp : Sp) : Prop where
  ex : ∃ f fd ps, FnG P w K mg base (L2.CX P w) k f fd ps sp ∧ mg x = some (.ref f) ∧ PySem.W.keepIn K (.ref f) = true ∧ Binds K fd ps []
/-- a method of an own class -/
structure ME (P : Program) (w : World) (K : PySem.W.Frag) (mg : Str → Option Value) (base : Heap) (cls : Str → Option Addr) (cn m : Str) (k : Nat) (sp : Sp) : Prop where
  ex : ∃ C f fd ps, cls cn = some C ∧ Cls K C ∧ Meth K C m f ∧ Binds K fd ps [] ∧ FnG P w K mg base (L2.CX P w) k f fd ps sp
/-- an own class that is called -/
structure KE' (P : Program) (w : World) (K : PySem.W.Frag) (mg : Str → Option Value) (base : Heap) (cls : Str → Option Addr) (cn : Str) (k : Nat) (sp : Sp) : Prop where
  ex : ∃ C f fd ps, cls cn = some C ∧ mg cn = some (.ref C) ∧ Mk K C f ∧ Binds K fd ps [] ∧ FnG P w K mg base (L2.CX P w) k f fd ps sp
structure CE' (P : Program) (w : World) (K : PySem.W.Frag) (mg : Str → Option Value) (base : Heap) (cls : Str → Option Addr) (cn m : Str) (k : Nat) (sp : Sp) : Prop where
  ex : ∃ C mc p f fd ps, cls cn = some C ∧ mg cn = some (.ref C) ∧ ClX.CRead K C mc ∧ ClX.CMet K C mc m p f ∧ Binds K fd ps [] ∧ FnG P w K mg base (L2.CX P w) k f fd ps sp
def FE (K : PySem.W.Frag) (cls : Str → Option Addr) (cn f : Str) : Prop := ∀ C, cls cn = some C → Cls K C ∧ NoAttr K C f
/-- a constant of the text -/
structure GE (K : PySem.W.Frag) (G : Gm) (mg : Str → Option Value) (x : Str) (wc : W) : Prop where
  ex : ∃ (v : V) (u : Value), mg x = some u ∧ RelV v u ∧ ∀ B, Is G B wc v
section
variable {X : Cx} {G : Gm} {c : Ct} {k k' : Nat} {pos p apos ypos : Pos} {o a : Expr} {es : List Expr} {mo : Mx} {mr : Ma} {x y m cn : Str} {n : Nat} {g : List W → R Rs} {gi : W → List W → R (Rs × W)}
theorem wy_glob {wc : W} (D : GE X.K G X.mg x wc) (hg : Gl X x := by rfl) (hd : (x == ("__debug__" : Str)) = false := by decide) : WE X G c (.Name x pos) (mC wc) := by
  obtain ⟨v, u, h1, h2, h3⟩ := D.ex
  exact we_glob hg h1 h2 h3 hd
theorem wy_call (h : Here X G c k) (D : DE X.prog X.w X.K X.mg X.base x k' (spW G n g)) (hk : k' ≤ k) (ha : WA X G c (a :: es) mr) (hl : ∀ e r, mr e = .ok r → r.1.length = n) (hg : Gl X x := by rfl) (hdb : (x == ("__debug__" : Str)) = false := by decide)
    (he : starEach (a :: es) X.env = (false, eval a X.env) :: starEach es X.env := by rfl) (hpl : (backTo pos (starEach es X.env)).any (·.1) = false := by rfl) : WE X G c (.Call (.Name x p) (a :: es) [] pos) (mCall g mr) := by
  obtain ⟨f, fd, ps, h1, h2, h3, h4⟩ := D.ex
  exact we_call h ⟨h1, h2, h3, h4⟩ hk ha hl hg hdb he hpl
theorem wy_call0 (h : Here X G c k) (D : DE X.prog X.w X.K X.mg X.base x k' (spW G 0 g)) (hk : k' ≤ k) (hg : Gl X x := by rfl) (hdb : (x == ("__debug__" : Str)) = false := by decide) : WE X G c (.Call (.Name x p) [] [] pos) (mCall g mNilA) := by
  obtain ⟨f, fd, ps, h1, h2, h3, h4⟩ := D.ex
  exact we_call0 h ⟨h1, h2, h3, h4⟩ hk hg hdb
theorem wy_callI (i : Nat) (h : Here X G c k) (D : DE X.prog X.w X.K X.mg X.base x k' (spI G n gi)) (hk : k' ≤ k) (hy : PE X (.Name y ypos) (tVar i)) (ha : WA X G c es mr) (hl : ∀ e r, mr e = .ok r → r.1.length = n) (hg : Gl X x := by rfl) (hdb : (x == ("__debug__" : Str)) = false := by decide)
    (he : starEach (.Name y ypos :: es) X.env = (false, eval (.Name y ypos) X.env) :: starEach es X.env := by rfl) (hpl : (backTo pos (starEach es X.env)).any (·.1) = false := by rfl) : WE X G c (.Call (.Name x p) (.Name y ypos :: es) [] pos) (mCallI i gi mr) := by
  obtain ⟨f, fd, ps, h1, h2, h3, h4⟩ := D.ex
  exact we_callI i h ⟨h1, h2, h3, h4⟩ hk hy ha hl hg hdb he hpl
theorem wy_lend (i : Nat) (h : Here X G c k) (D : DE X.prog X.w X.K X.mg X.base x k' (spW G 1 g)) (hk : k' ≤ k) (hy : PE X (.Name y ypos) (tVar i)) (hg : Gl X x := by rfl) (hdb : (x == ("__debug__" : Str)) = false := by decide)
    (he : starEach [.Name y ypos] X.env = (false, eval (.Name y ypos) X.env) :: starEach [] X.env := by rfl) (hpl : (backTo pos (starEach [] X.env)).any (·.1) = false := by rfl) : WE X G c (.Call (.Name x p) [.Name y ypos] [] pos) (mLendO i g) := by
  obtain ⟨f, fd, ps, h1, h2, h3, h4⟩ := D.ex
  exact we_lend i h ⟨h1, h2, h3, h4⟩ hk hy hg hdb he hpl
theorem wy_meth {pl : Sem Bool} (h : Here X G c k) (D : ME X.prog X.w X.K X.mg X.base G.cls cn m k' (spW G (n + 1) g)) (hk : k' ≤ k) (ho : WE X G c o mo) (ha : WA X G c (a :: es) mr) (hl : ∀ e r, mr e = .ok r → r.1.length = n)
    (hst : starEach (a :: es) X.env = (false, eval a X.env) :: starEach es X.env := by rfl) (hpl : (backTo pos (starEach es X.env)).any (·.1) = false := by rfl)
    (ht : eval (.Call (.Attribute o m apos) (a :: es) [] pos) X.env = (eval o X.env >>= fun ov => standAt apos.atName >>= fun _ => holding [ov] (getMethod ov m pl) >>= fun q => callWith pos q.1 q.2 (backTo pos (starEach (a :: es) X.env)) (backToKw pos (keywordEach [] X.env))) := by rfl) :
    WE X G c (.Call (.Attribute o m apos) (a :: es) [] pos) (mMeth cn m g mo mr) := we_meth h ⟨D.ex⟩ hk ho ha hl hst hpl ht
theorem wy_meth0 {pl : Sem Bool} (h : Here X G c k) (D : ME X.prog X.w X.K X.mg X.base G.cls cn m k' (spW G 1 g)) (hk : k' ≤ k) (ho : WE X G c o mo)
    (ht : eval (.Call (.Attribute o m apos) [] [] pos) X.env = (eval o X.env >>= fun ov => standAt apos.atName >>= fun _ => holding [ov] (getMethod ov m pl) >>= fun q => callWith pos q.1 q.2 (backTo pos (starEach [] X.env)) (backToKw pos (keywordEach [] X.env))) := by rfl) :
    WE X G c (.Call (.Attribute o m apos) [] [] pos) (mMeth cn m g mo mNilA) := we_meth0 h ⟨D.ex⟩ hk ho ht
theorem wy_methI (i : Nat) {pl : Sem Bool} (h : Here X G c k) (D : ME X.prog X.w X.K X.mg X.base G.cls cn m k' (spI G n gi)) (hk : k' ≤ k) (hy : PE X (.Name y ypos) (tVar i)) (ha : WA X G c (a :: es) mr) (hl : ∀ e r, mr e = .ok r → r.1.length = n)
    (hst : starEach (a :: es) X.env = (false, eval a X.env) :: starEach es X.env := by rfl) (hpl : (backTo pos (starEach es X.env)).any (·.1) = false := by rfl)
    (ht : eval (.Call (.Attribute (.Name y ypos) m apos) (a :: es) [] pos) X.env = (eval (.Name y ypos) X.env >>= fun ov => standAt apos.atName >>= fun _ => holding [ov] (getMethod ov m pl) >>= fun q => callWith pos q.1 q.2 (backTo pos (starEach (a :: es) X.env)) (backToKw pos (keywordEach [] X.env))) := by rfl) :
    WE X G c (.Call (.Attribute (.Name y ypos) m apos) (a :: es) [] pos) (mMethI cn m i gi mr) := we_methI i h ⟨D.ex⟩ hk hy ha hl hst hpl ht
theorem wy_make (h : Here X G c k) (D : KE' X.prog X.w X.K X.mg X.base G.cls cn k' (spI G n gi)) (hk : k' + 1 ≤ k) (ha : WA X G c (a :: es) mr) (hl : ∀ e r, mr e = .ok r → r.1.length = n) (hg : Gl X cn := by rfl) (hdb : (cn == ("__debug__" : Str)) = false := by decide)
    (he : starEach (a :: es) X.env = (false, eval a X.env) :: starEach es X.env := by rfl) (hpl : (backTo pos (starEach es X.env)).any (·.1) = false := by rfl) : WE X G c (.Call (.Name cn p) (a :: es) [] pos) (mMake cn gi mr) := we_make (j := 0) h ⟨D.ex⟩ hk ha hl hg hdb he hpl
theorem wy_makeL (j : Nat) (h : Here X G c k) (D : KE' X.prog X.w X.K X.mg X.base G.cls cn k' (spI G n gi)) (hk : k' + 1 ≤ k) (hy : PE X (.Name y ypos) (tVar j)) (ha : WA X G c (a :: es) mr) (hl : ∀ e r, mr e = .ok r → r.1.length = n)
    (he : starEach (a :: es) X.env = (false, eval a X.env) :: starEach es X.env := by rfl) (hpl : (backTo pos (starEach es X.env)).any (·.1) = false := by rfl) : WE X G c (.Call (.Name y ypos) (a :: es) [] pos) (mMakeL j cn gi mr) := we_makeL j h ⟨D.ex⟩ hk hy ha hl he hpl
theorem wy_cls {pl : Sem Bool} (h : Here X G c k) (D : CE' X.prog X.w X.K X.mg X.base G.cls cn m k' (spW G (n + 1) g)) (hk : k' ≤ k) (ha : WA X G c (a :: es) mr) (hl : ∀ e r, mr e = .ok r → r.1.length = n) (hg : Gl X cn := by rfl) (hdb : (cn == ("__debug__" : Str)) = false := by decide)
    (hst : starEach (a :: es) X.env = (false, eval a X.env) :: starEach es X.env := by rfl) (hpl : (backTo pos (starEach es X.env)).any (·.1) = false := by rfl)
    (ht : eval (.Call (.Attribute (.Name cn ypos) m apos) (a :: es) [] pos) X.env = (eval (.Name cn ypos) X.env >>= fun ov => standAt apos.atName >>= fun _ => holding [ov] (getMethod ov m pl) >>= fun q => callWith pos q.1 q.2 (backTo pos (starEach (a :: es) X.env)) (backToKw pos (keywordEach [] X.env))) := by rfl) :
    WE X G c (.Call (.Attribute (.Name cn ypos) m apos) (a :: es) [] pos) (mCls cn g mr) := we_cls h ⟨D.ex⟩ hk ha hl hg hdb hst hpl ht
theorem wy_fld {f : Str} (hf : FE X.K G.cls cn f) (ha : WE X G c a mo) (hb : attributeBase a f X.env (eval a X.env) = eval a X.env := by rfl) : WE X G c (.Attribute a f pos) (mUn (fFld cn f) mo) := we_fld cn hf ha hb
theorem wy_fst {ff : Str} (i : Nat) {pos' : Pos} {value : Expr} {mv : Mx} (hf : FE X.K G.cls cn ff) (hy : PE X (.Name y ypos) (tVar i)) (hv : WE X G c value mv) (hs : swapsWith value (some (.Attribute (.Name y ypos) ff pos')) pos.line X.env = pure false := by rfl) :
    WS X G c (.Assign [.Attribute (.Name y ypos) ff pos'] value pos) (mFst cn ff i mv) := ws_fst i hf hy hv hs
theorem cons_len {ma : Mx} {mr : Ma} {n : Nat} (h : ∀ e r, mr e = .ok r → r.1.length = n) : ∀ e r, mConsA ma mr e = .ok r → r.1.length = n + 1 := fun e r q => by
  unfold mConsA at q
  cases z : mSh ma e with
  | bad => rw [z] at q; cases q
  | exn => rw [z] at q; cases q
  | ok p =>
    rw [z] at q
    have q : (mr p.2).bind (fun q => WL.R.ok (p.1 :: q.1, q.2)) = .ok r := q
    cases z2 : mr p.2 with
    | bad => rw [z2] at q; cases q
    | exn => rw [z2] at q; cases q
    | ok t => rw [z2] at q; cases q; simp [h _ _ z2]
theorem nil_len : ∀ e r, mNilA e = .ok r → r.1.length = 0 := fun e r q => by cases q; rfl
end
end WL
namespace WL
open PySem PySem.Spec PyProof.Rows L2
def fIAdd : W → W → R Rs
  | .int i, .int j => .ok (.sh (.int (i + j)))
  | .str a, .str b => iff (a.length + b.length ≤ line) (.ok (.sh (.str (a ++ b))))
  | _, _ => .bad
def fISub : W → W → R Rs
  | .int i, .int j => .ok (.sh (.int (i - j)))
  | _, _ => .bad
section
variable {X : Cx} {G : Gm} {c : Ct}
theorem ow_iadd : OpW X G c (inplaceOp .Add) fIAdd := by
  intro w1 w2
  cases w1 <;> cases w2
  case int.int i j => exact ⟨_, iop_add, fun σ e H B x y Q R i1 i2 h => ⟨i, j, i1, i2, Po.sh h R rfl⟩⟩
  case str.str i j => exact ⟨_, iop_add_str, fun σ e H B x y Q R i1 i2 h => have ⟨z, h⟩ := RB_iff h; ⟨i, j, i1, i2, line_le z, Po.sh h R rfl⟩⟩
  all_goals exact ⟨_, iop_add, fun _ _ _ _ _ _ _ _ _ _ h => False.elim h⟩
theorem ow_isub : OpW X G c (inplaceOp .Sub) fISub := by
  intro w1 w2
  cases w1 <;> cases w2
  case int.int i j => exact ⟨_, iop_sub, fun σ e H B x y Q R i1 i2 h => ⟨i, j, i1, i2, Po.sh h R rfl⟩⟩
  all_goals exact ⟨_, iop_sub, fun _ _ _ _ _ _ _ _ _ _ h => False.elim h⟩
end
end WL

namespace WL
open PySem PySem.Spec PyProof.Rows L2
def fNeg (w : W) : R Rs := match w with | .int i => .ok (.sh (.int (-i))) | _ => .bad
def c0 : Ct := ⟨fun _ => none, fun _ => none, fun _ => False, fun _ _ _ => False⟩
def blkB (N : List Str) (sc scope : Scope) (own : List (Str × Nat)) : Bool :=
  decide (scope.kind = .function) && scope.names.all (fun y => decide (scope.names.lookup y.1 = some y.2)) && own.all (fun p => decide (N[p.2]? = some p.1)) &&
    scope.names.all (fun y => !decide (y.2 = .free) || decide (sc.names.lookup y.1 = some .cell) || decide (sc.names.lookup y.1 = some .free)) &&
    scope.names.all (fun y => !(decide (y.2 = .local) || decide (y.2 = .cell)) || (own.map (·.1)).contains y.1 || !N.contains y.1)
theorem blk_of {N : List Str} {sc scope : Scope} {own : List (Str × Nat)} (h : blkB N sc scope own = true) : BlkOk N sc scope own := by
  unfold blkB at h
  simp only [Bool.and_eq_true, List.all_eq_true, decide_eq_true_eq, Bool.or_eq_true, Bool.not_eq_true', decide_eq_false_iff_not, Bool.or_eq_false_iff, List.contains_iff_mem] at h
  obtain ⟨⟨⟨⟨h1, h2⟩, h3⟩, h4⟩, h5⟩ := h
  refine ⟨h1, h2, h3, fun y hy e => ?_, fun y hy e => ?_⟩
  · rcases h4 y hy with (q | q) | q
    · exact (q e).elim
    · exact .inl q
    · exact .inr q
  · rcases h5 y hy with (q | q) | q
    · exact (e.elim q.1 q.2).elim
    · exact .inl q
    · exact .inr fun z => by simp [z] at q
end WL
namespace WL
open PySem PySem.Spec PyProof.Rows L2
section
variable {X : Cx} {G : Gm} {c : Ct} {k : Nat} {pos : Pos} {own : List (Str × Nat)} {elt tg iter a : Expr} {scope : Scope} {mi : Ma} {t : Mg} {tt : Mt} {m : Mx}
theorem wy_comp (fz : List Nat) (hh : Here X G c k) (hi : WI X G c tg iter mi) (ok : BlkOk X.N X.env.scope scope own)
    (hg : ∀ (s : Shared) (H : Hp) (C : Addr) (cl : List (Str × Addr)) (fp : List Addr), Here (X.blk s H scope (compEnvC scope cl C X.env) fp) G c0 k → PG (X.blk s H scope (compEnvC scope cl C X.env) fp) tg (gWc G (own.map (·.2)) t))
    (he : ∀ (s : Shared) (H : Hp) (C : Addr) (cl : List (Str × Addr)) (fp : List Addr) (c : Ct), Here (X.blk s H scope (compEnvC scope cl C X.env) fp) G c k → WE (X.blk s H scope (compEnvC scope cl C X.env) fp) G c elt m) (hs : ∀ x, foldedSetIterable iter X.env x = pure x := by intro _; rfl) :
    WE X G c (.ListComp elt [⟨tg, iter, [], 0⟩] scope pos) (mComp fz (own.map (·.2)) mi t mYes m) :=
  we_comp fz hh hi ok (fun s H C cl fp => hg s H C cl fp (hh.blk rfl s H _ _ fp)) (fun s H C cl fp => pts_y) (fun s H C cl fp => pe_w fun c hE => he s H C cl fp c (hh.blk hE s H _ _ fp)) hs
theorem wy_compIf (fz : List Nat) (hh : Here X G c k) (hi : WI X G c tg iter mi) (ok : BlkOk X.N X.env.scope scope own)
    (hg : ∀ (s : Shared) (H : Hp) (C : Addr) (cl : List (Str × Addr)) (fp : List Addr), Here (X.blk s H scope (compEnvC scope cl C X.env) fp) G c0 k → PG (X.blk s H scope (compEnvC scope cl C X.env) fp) tg (gWc G (own.map (·.2)) t))
    (ht : ∀ (s : Shared) (H : Hp) (C : Addr) (cl : List (Str × Addr)) (fp : List Addr) (c : Ct), Here (X.blk s H scope (compEnvC scope cl C X.env) fp) G c k → WT (X.blk s H scope (compEnvC scope cl C X.env) fp) G c a tt)
    (he : ∀ (s : Shared) (H : Hp) (C : Addr) (cl : List (Str × Addr)) (fp : List Addr) (c : Ct), Here (X.blk s H scope (compEnvC scope cl C X.env) fp) G c k → WE (X.blk s H scope (compEnvC scope cl C X.env) fp) G c elt m) (hs : ∀ x, foldedSetIterable iter X.env x = pure x := by intro _; rfl) :
    WE X G c (.ListComp elt [⟨tg, iter, [a], 0⟩] scope pos) (mComp fz (own.map (·.2)) mi t tt m) :=
  we_comp fz hh hi ok (fun s H C cl fp => hg s H C cl fp (hh.blk rfl s H _ _ fp)) (fun s H C cl fp => pts_w fun c hE => ht s H C cl fp c (hh.blk hE s H _ _ fp)) (fun s H C cl fp => pe_w fun c hE => he s H C cl fp c (hh.blk hE s H _ _ fp)) hs
theorem sy_comp (i : Nat) (fz : List Nat) {y : Str} {py : Pos} {spos : Pos} (hh : Here X G c k) (hi : WI X G c tg iter mi) (ok : BlkOk X.N X.env.scope scope own)
    (hg : ∀ (s : Shared) (H : Hp) (C : Addr) (cl : List (Str × Addr)) (fp : List Addr), Here (X.blk s H scope (compEnvC scope cl C X.env) fp) G c0 k → PG (X.blk s H scope (compEnvC scope cl C X.env) fp) tg (gWc G (own.map (·.2)) t))
    (he : ∀ (s : Shared) (H : Hp) (C : Addr) (cl : List (Str × Addr)) (fp : List Addr) (c : Ct), Here (X.blk s H scope (compEnvC scope cl C X.env) fp) G c k → WE (X.blk s H scope (compEnvC scope cl C X.env) fp) G c elt m)
    (hy : X.N[i]? = some y := by rfl) (hyl : X.env.scope.names.lookup y = some .local := by rfl)
    (hsw : swapsWith (.ListComp elt [⟨tg, iter, [], 0⟩] scope pos) (some (.Name y py)) spos.line X.env = pure true := by exact sw_true rfl rfl rfl (by decide +kernel)) (hs : ∀ x, foldedSetIterable iter X.env x = pure x := by intro _; rfl) :
    WS X G c (.Assign [.Name y py] (.ListComp elt [⟨tg, iter, [], 0⟩] scope pos) spos) (mSet i (mComp fz (own.map (·.2)) mi t mYes m)) :=
  ws_comp i fz hh hi ok (fun s H C cl fp => hg s H C cl fp (hh.blk rfl s H _ _ fp)) (fun s H C cl fp => pts_y) (fun s H C cl fp => pe_w fun c hE => he s H C cl fp c (hh.blk hE s H _ _ fp)) hy hyl hsw hs
theorem sy_compIf (i : Nat) (fz : List Nat) {y : Str} {py : Pos} {spos : Pos} (hh : Here X G c k) (hi : WI X G c tg iter mi) (ok : BlkOk X.N X.env.scope scope own)
    (hg : ∀ (s : Shared) (H : Hp) (C : Addr) (cl : List (Str × Addr)) (fp : List Addr), Here (X.blk s H scope (compEnvC scope cl C X.env) fp) G c0 k → PG (X.blk s H scope (compEnvC scope cl C X.env) fp) tg (gWc G (own.map (·.2)) t))
    (ht : ∀ (s : Shared) (H : Hp) (C : Addr) (cl : List (Str × Addr)) (fp : List Addr) (c : Ct), Here (X.blk s H scope (compEnvC scope cl C X.env) fp) G c k → WT (X.blk s H scope (compEnvC scope cl C X.env) fp) G c a tt)
    (he : ∀ (s : Shared) (H : Hp) (C : Addr) (cl : List (Str × Addr)) (fp : List Addr) (c : Ct), Here (X.blk s H scope (compEnvC scope cl C X.env) fp) G c k → WE (X.blk s H scope (compEnvC scope cl C X.env) fp) G c elt m)
    (hy : X.N[i]? = some y := by rfl) (hyl : X.env.scope.names.lookup y = some .local := by rfl)
    (hsw : swapsWith (.ListComp elt [⟨tg, iter, [a], 0⟩] scope pos) (some (.Name y py)) spos.line X.env = pure true := by exact sw_true rfl rfl rfl (by decide +kernel)) (hs : ∀ x, foldedSetIterable iter X.env x = pure x := by intro _; rfl) :
    WS X G c (.Assign [.Name y py] (.ListComp elt [⟨tg, iter, [a], 0⟩] scope pos) spos) (mSet i (mComp fz (own.map (·.2)) mi t tt m)) :=
  ws_comp i fz hh hi ok (fun s H C cl fp => hg s H C cl fp (hh.blk rfl s H _ _ fp)) (fun s H C cl fp => pts_w fun c hE => ht s H C cl fp c (hh.blk hE s H _ _ fp)) (fun s H C cl fp => pe_w fun c hE => he s H C cl fp c (hh.blk hE s H _ _ fp)) hy hyl hsw hs
end
end WL
end F_WLY

section F_WLL
/-! WLL: calls to which own data is lent. -/
namespace WL
open PySem PySem.Spec PyProof.Rows L2

/-- arguments: kept, or a slot's as it stands -/
def mConsL (i : Nat) (r : Mo) : Mo := fun e => match e[i]? with
  | some (.sh _) => (r e).bind fun q => .ok (.nm i :: q.1, q.2)
  | some (.ow _ _) => (r e).bind fun q => .ok (.nm i :: q.1, q.2)
  | _ => .bad
def mConsK (a : Mx) (r : Mo) : Mo := fun e => (mSh a e).bind fun p => (r p.2).bind fun q => .ok (.sh p.1 :: q.1, q.2)
def RNs (G : Gm) (σ : L2.St) (B : Hp) : List V → List Rs → Prop
  | v :: vs, .sh w :: rs => Is G B w v ∧ RNs G σ B vs rs
  | v :: vs, .nm i :: rs => σ[i]? = some (some v) ∧ RNs G σ B vs rs
  | [], [] => True
  | _, _ => False
abbrev WLn (X : Cx) (G : Gm) (c : Ct) (es : List Expr) (m : Mo) : Prop := PA X es (fun σ H Q => ∃ e B, Rel G c σ e H B ∧ RB G c (m e) fun r => ∀ vs H' B', Rel G c σ r.2 H' B' → Sub B B' → RNs G σ B' vs r.1 → Q vs H')
section
variable {X : Cx} {G : Gm} {c : Ct} {k k' : Nat} {σ : L2.St} {e : En} {H B H' B' : Hp} {v : V} {w : W} {pos p apos ypos : Pos} {a b o : Expr} {es : List Expr} {ma : Mx} {mr : Mo} {g : List W → R Rs} {x y m : Str} {n i : Nat}
theorem RNs.mono (s : Sub B B') : ∀ {vs : List V} {rs : List Rs}, RNs G σ B vs rs → RNs G σ B' vs rs
  | [], [], _ => trivial
  | _ :: _, .sh _ :: _, ⟨h1, h2⟩ => ⟨h1.mono s, RNs.mono s h2⟩
  | _ :: _, .nm _ :: _, ⟨h1, h2⟩ => ⟨h1, RNs.mono s h2⟩
  | _ :: _, .fr _ :: _, h => h.elim
  | [], _ :: _, h => h.elim
  | _ :: _, [], h => h.elim
theorem wl_nil : WLn X G c [] mNilO := ⟨fun pos pins s σ H Q I h => pa_nil.run pos pins s σ H Q I (by
  obtain ⟨e, B, R, h⟩ := h
  exact h [] H B R (Sub.refl B) trivial)⟩
theorem wl_kept (ha : WE X G c a ma) (hr : WLn X G c es mr) (hs : starEach (a :: es) X.env = (false, eval a X.env) :: starEach es X.env := by rfl) : WLn X G c (a :: es) (mConsK ma mr) :=
  ⟨fun pos pins s σ H Q I h => (pa_cons ha hr hs).run pos pins s σ H Q I (by
    obtain ⟨e, B, R, h⟩ := h
    rw [mConsK, RB_bind] at h
    refine tSh R (h.mono fun t h x H1 B1 R1 s1 i1 => ⟨t.2, B1, R1, ?_⟩)
    rw [RB_bind] at h
    exact h.mono fun q h vs H2 B2 R2 s2 i2 => h (x :: vs) H2 B2 R2 (s1.trans s2) ⟨i1.mono s2, i2⟩)⟩
theorem wl_lent (i : Nat) (hy : PE X (.Name y ypos) (tVar i)) (hr : WLn X G c es mr) (hs : starEach (.Name y ypos :: es) X.env = (false, eval (.Name y ypos) X.env) :: starEach es X.env := by rfl) : WLn X G c (.Name y ypos :: es) (mConsL i mr) :=
  ⟨fun pos pins s σ H Q I h => (pa_cons hy hr hs).run pos pins s σ H Q I (by
    obtain ⟨e, B, R, h⟩ := h
    unfold mConsL at h
    cases q : e[i]? with
    | none => simp only [q] at h; exact h.elim
    | some sl =>
      cases sl with
      | un => simp only [q] at h; exact h.elim
      | sh w =>
        simp only [q] at h
        obtain ⟨v, h1, _⟩ := R.sh q
        rw [RB_bind] at h
        exact ⟨v, h1, e, B, R, h.mono fun q h vs H2 B2 R2 s2 i2 => h (v :: vs) H2 B2 R2 s2 ⟨h1, i2⟩⟩
      | ow b w =>
        simp only [q] at h
        obtain ⟨f, h1, _⟩ := R.ow q
        rw [RB_bind] at h
        exact ⟨_, h1, e, B, R, h.mono fun q h vs H2 B2 R2 s2 i2 => h (_ :: vs) H2 B2 R2 s2 ⟨h1, i2⟩⟩)⟩
/-- the trees of the arguments, and whether own data is among them -/
def resL : List Rs → En → Option (List W × Bool)
  | [], _ => some ([], false)
  | .sh w :: rs, e => (resL rs e).map fun q => (w :: q.1, q.2)
  | .nm i :: rs, e => match e[i]? with
    | some (.sh w) => (resL rs e).map fun q => (w :: q.1, q.2)
    | some (.ow _ w) => (resL rs e).map fun q => (w :: q.1, true)
    | _ => none
  | .fr _ :: _, _ => none
/-- what may come back -/
def backL : R Rs → R Rs
  | .ok (.sh u) => iff (mLend.apart u = true) (.ok (.sh u))
  | .ok (.fr (.lst us)) => iff (mLend.apartL us = true) (.ok (.fr (.lst us)))
  | .ok (.fr (.dic ks us)) => iff (mLend.apartL us = true) (.ok (.fr (.dic ks us)))
  | .exn cl ns ws => if mLend.apartL ws = true then .exn cl ns ws else .bad
  | _ => .bad
def mCallL (g : List W → R Rs) (mr : Mo) : Mx := fun e => (mr e).bind fun p => (ofO (resL p.1 p.2)).bind fun q => (if q.2 then backL (g q.1) else g q.1).bind fun r => .ok (r, p.2)
/-- the objects of own slots, shared for a while -/
def own1 (e : En) (σ : L2.St) (a : Addr) : Prop := ∃ (i : Nat) (b : Bool) (w : W), e[i]? = some (Sl.ow b w) ∧ σ[i]? = some (some (V.ref a))
open Classical in
noncomputable def plusB (e : En) (σ : L2.St) (H B : Hp) : Hp := fun a => if own1 e σ a then H a else B a
open Classical in
noncomputable def lessB (e : En) (σ : L2.St) (B : Hp) : Hp := fun a => if own1 e σ a then none else B a
theorem plus_own {a : Addr} (h : own1 e σ a) : plusB e σ H B a = H a := if_pos h
theorem plus_not {a : Addr} (h : ¬ own1 e σ a) : plusB e σ H B a = B a := if_neg h
theorem lessB_own {a : Addr} (h : own1 e σ a) : lessB e σ B a = none := if_pos h
theorem lessB_not {a : Addr} (h : ¬ own1 e σ a) : lessB e σ B a = B a := if_neg h
theorem own_none (R : Rel G c σ e H B) {a : Addr} (h : own1 e σ a) : B a = none ∧ ∃ u, H a = some u := by
  obtain ⟨i, b, w, h1, h2⟩ := h
  obtain ⟨h3, _, _, h4⟩ := R.oH h1 h2
  exact ⟨h3, h4.some⟩
theorem plus_sub (R : Rel G c σ e H B) : Sub B (plusB e σ H B) ∧ Sub (plusB e σ H B) H := by
  refine ⟨fun a o h => ?_, fun a o h => ?_⟩
  · have : ¬ own1 e σ a := fun z => by rw [(own_none R z).1] at h; cases h
    rw [plus_not this]; exact h
  · by_cases z : own1 e σ a
    · rw [plus_own z] at h; exact h
    · rw [plus_not z] at h; exact R.sub a o h
/-- own objects are no tuples -/
theorem own_notup (R : Rel G c σ e H B) (s : Sub (plusB e σ H B) B') {a : Addr} (h : own1 e σ a) : ∀ o xs, B' a ≠ some (.tup xs) ∧ B' a ≠ some (.frz o (.tup xs)) := by
  obtain ⟨i, b, w, h1, h2⟩ := id h
  obtain ⟨h3, _, _, h4⟩ := R.oH h1 h2
  have key : ∀ u, H a = some u → (∀ xs, u ≠ .tup xs) → (∀ o xs, u ≠ .frz o (.tup xs)) → ∀ o xs, B' a ≠ some (.tup xs) ∧ B' a ≠ some (.frz o (.tup xs)) := fun u hu n1 n2 o xs => by
    have : B' a = some u := s a u (by rw [plus_own h]; exact hu)
    rw [this]
    exact ⟨fun z => n1 xs (Option.some.inj z), fun z => n2 o xs (Option.some.inj z)⟩
  cases w with
  | lst ws => obtain ⟨xs, q, _⟩ := h4; exact key _ q (fun _ z => nomatch z) (fun _ _ z => nomatch z)
  | dic ks vs => obtain ⟨xs, q, _⟩ := h4; exact key _ q (fun _ z => nomatch z) (fun _ _ z => nomatch z)
  | tdc ks vs => obtain ⟨xs, q, _⟩ := h4; exact key _ q (fun _ z => nomatch z) (fun _ _ z => nomatch z)
  | obj c ns vs => obtain ⟨_, _, xs, _, q, _⟩ := h4; exact key _ q (fun _ z => nomatch z) (fun _ _ z => nomatch z)
  | _ => exact h4.elim
mutual
theorem Is.lessB (hp : ∀ a, own1 e σ a → ∀ o xs, B a ≠ some (.tup xs) ∧ B a ≠ some (.frz o (.tup xs))) : ∀ {w : W} {v : V}, mLend.apart w = true → Is G B w v → Is G (WL.lessB e σ B) w v
  | .non, _, _, h => h
  | .bl _, _, _, h => h
  | .int _, _, _, h => h
  | .str _, _, _, h => h
  | .tup ws, _, k, ⟨a, xs, h1, h2, h3⟩ => by
    refine ⟨a, xs, h1, ?_, Iss.lessB hp k h3⟩
    rcases h2 with (h2 | ⟨o, h2⟩) | h2
    · exact .inl (.inl (by rw [lessB_not fun z => (hp a z default xs).1 h2]; exact h2))
    · exact .inl (.inr ⟨o, by rw [lessB_not fun z => (hp a z o xs).2 h2]; exact h2⟩)
    · exact .inr h2
  | .lst _, _, k, _ => by cases k
  | .dic _ _, _, k, _ => by cases k
  | .tdc _ _, _, k, _ => by cases k
  | .obj _ _ _, _, k, _ => by cases k
  | .scr _, _, k, _ => by cases k
  | .cl _, _, k, _ => by cases k
theorem Iss.lessB (hp : ∀ a, own1 e σ a → ∀ o xs, B a ≠ some (.tup xs) ∧ B a ≠ some (.frz o (.tup xs))) : ∀ {ws : List W} {xs : List V}, mLend.apartL ws = true → Iss G B ws xs → Iss G (WL.lessB e σ B) ws xs
  | [], _, _, h => h
  | w :: ws, _, k, ⟨x, l, h1, h2, h3⟩ => by
    have k : (mLend.apart w && mLend.apartL ws) = true := k
    rw [Bool.and_eq_true] at k
    exact ⟨x, l, h1, Is.lessB hp k.1 h2, Iss.lessB hp k.2 h3⟩
end
theorem res_is (R : Rel G c σ e H B) : ∀ {vs : List V} {rs : List Rs} {ws : List W} {f : Bool}, RNs G σ B vs rs → resL rs e = some (ws, f) → Iss G (plusB e σ H B) ws vs ∧ (f = false → Iss G B ws vs)
  | [], [], ws, f, _, h => by cases h; exact ⟨rfl, fun _ => rfl⟩
  | v :: vs, .sh w :: rs, ws, f, ⟨h1, h2⟩, h => by
    simp only [resL] at h
    cases q : resL rs e with
    | none => rw [q] at h; cases h
    | some t =>
      rw [q] at h; cases h
      obtain ⟨r1, r2⟩ := res_is R h2 q
      exact ⟨.cons (h1.mono (plus_sub R).1) r1, fun z => .cons h1 (r2 z)⟩
  | v :: vs, .nm i :: rs, ws, f, ⟨h1, h2⟩, h => by
    simp only [resL] at h
    cases z : e[i]? with
    | none => simp only [z] at h; cases h
    | some sl =>
      cases sl with
      | un => simp only [z] at h; cases h
      | sh w =>
        simp only [z] at h
        cases q : resL rs e with
        | none => rw [q] at h; cases h
        | some t =>
          rw [q] at h; cases h
          obtain ⟨r1, r2⟩ := res_is R h2 q
          obtain ⟨v', h3, h4⟩ := R.sh z
          rw [h1] at h3; cases h3
          exact ⟨.cons (h4.mono (plus_sub R).1) r1, fun z => .cons h4 (r2 z)⟩
      | ow b w =>
        simp only [z] at h
        cases q : resL rs e with
        | none => rw [q] at h; cases h
        | some t =>
          rw [q] at h; cases h
          obtain ⟨r1, r2⟩ := res_is R h2 q
          obtain ⟨f, h3, _, _, _, h4⟩ := R.ow z
          rw [h1] at h3; cases h3
          have hw : own1 e σ f := ⟨i, b, w, z, h1⟩
          have : Own G (plusB e σ H B) (plusB e σ H B) f w := h4.to (plus_sub R).1 fun o q => by rw [plus_own hw]; exact q
          exact ⟨.cons this.is r1, fun z => nomatch z⟩
  | _ :: _, .fr _ :: _, _, _, h, _ => h.elim
  | [], _ :: _, _, _, h, _ => h.elim
  | _ :: _, [], _, _, h, _ => h.elim
theorem backL_ok {r : R Rs} {u : Rs} (h : backL r = .ok u) : r = .ok u := by
  unfold backL iff at h
  split at h
  · split at h <;> cases h; rfl
  · split at h <;> cases h; rfl
  · split at h <;> cases h; rfl
  · split at h <;> cases h
  · cases h
theorem callL_use {Q : VK} {ws : List W} {f : Bool} {rs : List Rs} {vs : List V} (R : Rel G c σ e H B) (hn : ws.length = n) (hr : RNs G σ B vs rs) (hq : resL rs e = some (ws, f))
    (h : RB G c (if f then backL (g ws) else g ws) (Po G c σ e B Q)) : spW G n g vs H Q c.E := by
  obtain ⟨i1, i2⟩ := res_is R hr hq
  cases f with
  | false => exact spW_use R hn (i2 rfl) (by simpa using h)
  | true =>
    have h : RB G c (backL (g ws)) (Po G c σ e B Q) := by simpa using h
    obtain ⟨p1, p2⟩ := plus_sub R
    refine ⟨plusB e σ H B, ws, hn, p2, i1, ?_⟩
    have low : ∀ {H' B' : Hp}, Sub (plusB e σ H B) B' → Sub B' H' → (∀ {a : Addr} {o : HO}, B' a = some o → (∃ u, plusB e σ H B a = some u) ∨ H a = none) →
        (∀ a, own1 e σ a → ∀ o xs, B' a ≠ some (.tup xs) ∧ B' a ≠ some (.frz o (.tup xs))) ∧ Sub B (WL.lessB e σ B') ∧ Sub (WL.lessB e σ B') H' ∧ ∀ {a : Addr} {o : HO}, WL.lessB e σ B' a = some o → (∃ u, B a = some u) ∨ H a = none := fun {H' B'} s s' nw => by
      refine ⟨fun a ha => own_notup R s ha, fun a o e1 => ?_, fun a o e1 => ?_, fun {a o} e1 => ?_⟩
      · have z : ¬ own1 e σ a := fun z => by rw [(own_none R z).1] at e1; cases e1
        rw [lessB_not z]; exact s a o (p1 a o e1)
      · have z : ¬ own1 e σ a := fun z => by rw [lessB_own z] at e1; cases e1
        rw [lessB_not z] at e1; exact s' a o e1
      · have z : ¬ own1 e σ a := fun z => by rw [lessB_own z] at e1; cases e1
        rw [lessB_not z] at e1
        rcases nw e1 with ⟨u, hu⟩ | y
        · rw [plus_not z] at hu; exact .inl ⟨u, hu⟩
        · exact .inr y
    cases z : g ws with
    | bad => rw [z] at h; exact h.elim
    | exn cl ns2 ws2 =>
      rw [z] at h
      simp only [backL] at h
      by_cases ap : mLend.apartL ws2 = true
      · rw [if_pos ap] at h
        intro C' d H' B' fs' q1 q2 q3 q4 q5 q6 q7 q8 q9
        obtain ⟨l1, l2, l3, l4⟩ := low q6 q5 q7
        exact h C' d H' (WL.lessB e σ B') fs' q1 q2 q3 (Iss.lessB l1 ap q4) l3 (R.old.trans l2) (fun e1 => by
          rcases l4 e1 with ⟨u, hu⟩ | y
          · exact R.new hu
          · exact .inr (R.h0 y)) (fun e1 hO => q8 (R.keep e1 hO) fun y => y) (R.h0 q9)
      · rw [if_neg ap] at h; exact h.elim
    | ok r =>
      rw [z] at h
      intro v H' B' s s' nw kp ro
      obtain ⟨l1, l2, l3, l4⟩ := low s s' nw
      have R' := R.callee l2 l3 l4 kp
      have fre : ∀ {a : Addr}, H a = none → ¬ own1 e σ a := fun {a} h1 h2 => by
        obtain ⟨_, u, hu⟩ := own_none R h2
        rw [h1] at hu; cases hu
      cases r with
      | nm j => exact h.elim
      | sh u =>
        obtain ⟨ap, h⟩ := RB_iff (show RB G c (iff (mLend.apart u = true) (WL.R.ok (Rs.sh u))) (Po G c σ e B Q) from h)
        exact h v H' _ R' l2 (Is.lessB l1 ap ro)
      | fr u =>
        cases u with
        | lst us =>
          obtain ⟨ap, h⟩ := RB_iff (show RB G c (iff (mLend.apartL us = true) (WL.R.ok (Rs.fr (.lst us)))) (Po G c σ e B Q) from h)
          obtain ⟨a, e1, e2, e3, xs, e4, e5⟩ := ro
          exact h v H' _ R' l2 ⟨a, e1, by rw [lessB_not (fre e3)]; exact e2, R.h0 e3, R.nobody e3, xs, e4, Iss.lessB l1 ap e5⟩
        | dic ks us =>
          obtain ⟨ap, h⟩ := RB_iff (show RB G c (iff (mLend.apartL us = true) (WL.R.ok (Rs.fr (.dic ks us)))) (Po G c σ e B Q) from h)
          obtain ⟨a, e1, e2, e3, xs, e4, e6, e5⟩ := ro
          exact h v H' _ R' l2 ⟨a, e1, by rw [lessB_not (fre e3)]; exact e2, R.h0 e3, R.nobody e3, xs, e4, e6, Iss.lessB l1 ap e5⟩
        | _ => exact h.elim
theorem resL_len : ∀ {rs : List Rs} {q : List W × Bool}, resL rs e = some q → q.1.length = rs.length
  | [], q, h => by cases h; rfl
  | .sh w :: rs, q, h => by
    simp only [resL] at h
    cases z : resL rs e with
    | none => rw [z] at h; cases h
    | some t => rw [z] at h; cases h; simp [resL_len z]
  | .nm i :: rs, q, h => by
    simp only [resL] at h
    split at h
    · cases z : resL rs e with
      | none => rw [z] at h; cases h
      | some t => rw [z] at h; cases h; simp [resL_len z]
    · cases z : resL rs e with
      | none => rw [z] at h; cases h
      | some t => rw [z] at h; cases h; simp [resL_len z]
    · cases h
  | .fr _ :: _, q, h => by cases h
theorem wy_callL (h : Here X G c k) (D : DE X.prog X.w X.K X.mg X.base x k' (spW G n g)) (hk : k' ≤ k) (ha : WLn X G c (a :: es) mr) (hl : ∀ e r, mr e = .ok r → r.1.length = n) (hg : Gl X x := by rfl) (hdb : (x == ("__debug__" : Str)) = false := by decide)
    (he : starEach (a :: es) X.env = (false, eval a X.env) :: starEach es X.env := by rfl) (hpl : (backTo pos (starEach es X.env)).any (·.1) = false := by rfl) : WE X G c (.Call (.Name x p) (a :: es) [] pos) (mCallL g mr) := by
  obtain ⟨f, fd, ps, h1, h2, h3, h4⟩ := D.ex
  refine PE.imp (pg_call h1 h.q (h.r.mono hk) hg h2 h3 h4 (passW h) ha hdb he hpl) fun σ H Q ⟨e, B, R, q⟩ => ?_
  rw [mCallL, RB_bind] at q
  refine ⟨e, B, R, ?_⟩
  cases z : mr e with
  | bad => rw [z] at q; exact q.elim
  | exn => rw [z] at q; exact q
  | ok r =>
    rw [z] at q
    intro vs H1 B1 R1 s1 i1
    have q : RB G c ((ofO (resL r.1 r.2)).bind fun q => (if q.2 then backL (g q.1) else g q.1).bind fun t => .ok (t, r.2)) (fun r => ∀ v H' B', Rel G c σ r.2 H' B' → Sub B B' → RV G c σ r.2 H' B' v r.1 → Q v H') := q
    rw [RB_bind] at q
    obtain ⟨t, ht, q⟩ := RB_ofO q
    rw [RB_bind] at q
    exact callL_use R1 (by rw [resL_len ht]; exact hl e r z) i1 ht (q.mono fun t po v H' B' R' s' => po v H' B' R' (s1.trans s'))
theorem consL_len {n : Nat} (h : ∀ e r, mr e = .ok r → r.1.length = n) : ∀ e r, mConsL i mr e = .ok r → r.1.length = n + 1 := fun e r q => by
  unfold mConsL at q
  split at q
  · cases z : mr e with
    | bad => rw [z] at q; cases q
    | exn => rw [z] at q; cases q
    | ok t => rw [z] at q; cases q; simp [h _ _ z]
  · cases z : mr e with
    | bad => rw [z] at q; cases q
    | exn => rw [z] at q; cases q
    | ok t => rw [z] at q; cases q; simp [h _ _ z]
  · cases q
theorem consK_len {n : Nat} (h : ∀ e r, mr e = .ok r → r.1.length = n) : ∀ e r, mConsK ma mr e = .ok r → r.1.length = n + 1 := fun e r q => by
  unfold mConsK at q
  cases z : mSh ma e with
  | bad => rw [z] at q; cases q
  | exn => rw [z] at q; cases q
  | ok p =>
    rw [z] at q
    have q : (mr p.2).bind (fun q => WL.R.ok (Rs.sh p.1 :: q.1, q.2)) = .ok r := q
    cases z2 : mr p.2 with
    | bad => rw [z2] at q; cases q
    | exn => rw [z2] at q; cases q
    | ok t => rw [z2] at q; cases q; simp [h _ _ z2]
theorem nilO_len : ∀ e r, mNilO e = .ok r → r.1.length = 0 := fun e r q => by cases q; rfl
end
end WL
namespace WL
open PySem PySem.Spec PyProof.Rows L2
/-- a value of the written part bears a tree -/
def ValIs (G : Gm) (wc : W) (u : Value) : Prop := ∃ v, RelV v u ∧ ∀ B, Is G B wc v
def ValIss (G : Gm) (ws : List W) (us : List Value) : Prop := ∃ vs, Vals vs us ∧ ∀ B, Iss G B ws vs
section
variable {G : Gm}
theorem vis_int {i : Int} (t : Tok) : ValIs G (.int i) (.int i t) := ⟨.int i, ⟨t, rfl⟩, fun _ => rfl⟩
theorem vis_str {x : Str} (t : Tok) : ValIs G (.str x) (.str x t) := ⟨.str x, ⟨t, rfl⟩, fun _ => rfl⟩
theorem viss_nil : ValIss G [] [] := ⟨[], .nil, fun _ => rfl⟩
theorem viss_cons {w : W} {ws : List W} {u : Value} {us : List Value} (h : ValIs G w u) (k : ValIss G ws us) : ValIss G (w :: ws) (u :: us) := by
  obtain ⟨v, h1, h2⟩ := h
  obtain ⟨vs, k1, k2⟩ := k
  exact ⟨v :: vs, .cons h1 k1, fun B => .cons (h2 B) (k2 B)⟩
theorem vis_tup {a : Addr} {od : Option Addr} {us : List Value} {n : Nat} {sl : Array (Option Value)} {ws : List W} (l : G.K.lookup a = some ⟨.type "tuple", od, .seq us.toArray n, sl⟩) (hl : us.length ≤ 1000) (k : ValIss G ws us) : ValIs G (.tup ws) (.ref a) := by
  obtain ⟨vs, k1, k2⟩ := k
  exact ⟨.ref a, rfl, fun B => ⟨a, vs, rfl, .inr ⟨_, us.toArray, n, l, rfl, rfl, by rw [List.size_toArray, sizeLine_eq]; omega, by simpa using k1⟩, k2 B⟩⟩
theorem fe_of {K : PySem.W.Frag} {cls : Str → Option Addr} {cn f : Str} {C : Addr} (hc : cls cn = some C) (c : Cls K C) (n : NoAttr K C f) : FE K cls cn f := fun C' h => by
  rw [hc] at h; cases h; exact ⟨c, n⟩
end
theorem walkE {l : PySem.W.OpenLaw} {n k : Nat} {q : Program} {loose : List Str} {XP : (Str → Option Value) → Heap → Prop} {YP : World → Heap → Prop} {d : DefRec} {K : Params → PySem.W.Frag} {g : List W → R Rs}
    (hn : l.most = some n) (hn2 : n ≤ sizeLine) (hdf : d.params.defaults = []) (hr : Room k callerA) (hq : Quiet callerA) (hY : ∀ (w : World) (h : Heap), YP w h → (K w.params).In h)
    (F : ∀ (w : World) (mg : Str → Option Value) (fa : Addr) (h : Heap), (K w.params).In h → h.Ns mainGlobals mg → mg d.name = some (.ref fa) →
      ∃ (cls : Str → Option Addr) (fd : FuncData), (∀ (s : Shared) (u : Value), BindsTo s fd ⟨[u], []⟩ [("script", u)]) ∧ ∀ base : Heap, (K w.params).In base → base.Ns mainGlobals mg → FnG l.prog w (K w.params) mg base (L2.CX l.prog w) k fa fd ["script"] (spW ⟨l.prog, w, K w.params, cls⟩ 1 g))
    (hg : ∀ ns : List Int, ns.length ≤ n → g [.scr ns] = .ok (.sh (.bl true))) :
    PySem.W.WalkO q loose XP YP l.row.toRowW d [] (fun f vs => PySem.call f vs) :=
  Att.attach_call hn hdf fun w s0 s1 mg mb fa o pm cd doc a vs ns Gr Y ho hd hcd hmg hobj hints hlen hg0 => by
    obtain ⟨cls, fd, hb, hF⟩ := F w mg fa _ (hY w _ Y) Gr.T.g hmg
    exact end_call (hY w _ Y) Gr.T.g Gr.T.b Gr.T.builtins Gr.T.nolimit hg0 hobj hints (Nat.le_trans hlen hn2) hr hq hF hb fun H hS => law_sp (G := ⟨l.prog, w, K w.params, cls⟩) hS (hg ns hlen)
end WL
end F_WLL

section F_MIR
namespace WL
open PySem PySem.Spec PyProof.Rows L2
def c_DIGITS : W := .str "0123456789"
def c_LETTERS : W := .str "abcdefghijklmnopqrstuvwxyz"
def c_MAX_KINDS : W := .int 3
def c_MAX_PRICE : W := .int 20
def c_MAX_SLOTS : W := .int 8
def c_MAX_STATES : W := .int 100
def c_NEW : W := .tup [.int 0, .int 0, .int 0, .int 0]
def c_PRICES : W := .tup [.int 0, c_MAX_PRICE]
def c_MAX_TIME : W := .int 4
def c_MIN_BONUS : W := .int 2
def c_MAX_BONUS : W := .int 4
def c_RULES : W := .tup [.tup [.str "transfer", .tup [.tup [.int 0, c_MAX_TIME], c_PRICES]], .tup [.str "cap", .tup [c_PRICES]], .tup [.str "bonus", .tup [.tup [c_MIN_BONUS, c_MAX_BONUS]]]]
/-- _law_rows(): 0 rows -/
def m_u_law_rows : Ms := (mSeq (mSet 0 (mLst (mConsA (mTup (mConsA (mC (.str "slots 4|peak 1 2|ride a 4 6|ride b 2 2|transfer 1 1|bonus 3")) (mConsA (mC (.str "a.b..ab")) (mConsA (mC (.str "4 0 1 0 0 4 1")) mNilA)))) mNilA))) (mSeq (mExpr (mMut fAppend 0 (mConsA (mTup (mConsA (mC (.str "slots 2|ride a 5 5|transfer 0 3")) (mConsA (mC (.str "aa.aa")) (mConsA (mC (.str "5 3 0 5 3")) mNilA)))) mNilA))) (mSeq (mExpr (mMut fAppend 0 (mConsA (mTup (mConsA (mC (.str "slots 2|ride a 5 5")) (mConsA (mC (.str "aa.a")) (mConsA (mC (.str "5 5 0 5")) mNilA)))) mNilA))) (mSeq (mSet 0 (mBin fAdd (mName 0) (mLst (mConsA (mTup (mConsA (mC (.str "slots 2|ride a 5 5|transfer 2 3")) (mConsA (mC (.str "a.a.a.a")) (mConsA (mC (.str "5 0 3 0 3 0 5")) mNilA)))) mNilA)))) (mSeq (mSet 0 (mBin fAdd (mName 0) (mLst (mConsA (mTup (mConsA (mC (.str "slots 2|ride a 5 5|ride b 2 2|transfer 1 3")) (mConsA (mC (.str "ab.b.b")) (mConsA (mC (.str "5 2 0 2 0 2")) mNilA)))) mNilA)))) (mSeq (mSet 0 (mBin fAdd (mName 0) (mLst (mConsA (mTup (mConsA (mC (.str "slots 1|ride a 4 4|ride b 2 2|bonus 3")) (mConsA (mC (.str "aabaab")) (mConsA (mC (.str "4 4 0 4 4 0")) mNilA)))) mNilA)))) (mSeq (mSet 0 (mBin fAdd (mName 0) (mLst (mConsA (mTup (mConsA (mC (.str "slots 1|ride a 4 4|ride b 2 2|bonus 3")) (mConsA (mC (.str "bba.bba")) (mConsA (mC (.str "2 2 0 0 2 2 0")) mNilA)))) mNilA)))) (mSeq (mSet 0 (mBin fAdd (mName 0) (mLst (mConsA (mTup (mConsA (mC (.str "slots 2|ride a 4 4|transfer 0 1|bonus 2")) (mConsA (mC (.str "aa.aa.aa")) (mConsA (mC (.str "4 1 0 0 1 0 4 1")) mNilA)))) mNilA)))) (mSeq (mSet 0 (mBin fAdd (mName 0) (mLst (mConsA (mTup (mConsA (mC (.str "slots 2|ride a 4 4|cap 9")) (mConsA (mC (.str "aaa.a.aaa")) (mConsA (mC (.str "4 4 1 0 0 0 4 4 1")) mNilA)))) mNilA)))) (mSeq (mExpr (mMut fAppend 0 (mConsA (mTup (mConsA (mC (.str "slots 1|ride a 4 4|cap 9")) (mConsA (mC (.str "aaa.aaaa")) (mConsA (mC (.str "4 4 1 0 4 4 1 0")) mNilA)))) mNilA))) (mSeq (mExpr (mMut fAppend 0 (mConsA (mTup (mConsA (mC (.str "slots 8|ride a 4 4|cap 9")) (mConsA (mC (.str "aaa.......a.a")) (mConsA (mC (.str "4 4 1 0 0 0 0 0 0 0 0 0 4")) mNilA)))) mNilA))) (mSeq (mExpr (mMut fAppend 0 (mConsA (mTup (mConsA (mC (.str "slots 8|ride a 4 4|bonus 3")) (mConsA (mC (.str "aa.......a.a")) (mConsA (mC (.str "4 4 0 0 0 0 0 0 0 0 0 4")) mNilA)))) mNilA))) (mSeq (mExpr (mMut fAppend 0 (mConsA (mTup (mConsA (mC (.str "slots 8|ride a 4 4|transfer 4 1")) (mConsA (mC (.str "a....a.a")) (mConsA (mC (.str "4 0 0 0 0 1 0 4")) mNilA)))) mNilA))) (mSeq (mExpr (mMut fAppend 0 (mConsA (mTup (mConsA (mC (.str "slots 3|ride a 4 4|cap 0")) (mConsA (mC (.str "aa.a")) (mConsA (mC (.str "0 0 0 0")) mNilA)))) mNilA))) (mSeq (mSet 0 (mBin fAdd (mName 0) (mLst (mConsA (mTup (mConsA (mC (.str "slots 1|ride a 4 4|cap 6|bonus 3")) (mConsA (mC (.str "aaa.aaa")) (mConsA (mC (.str "4 2 0 0 4 2 0")) mNilA)))) mNilA)))) (mSeq (mSet 0 (mBin fAdd (mName 0) (mLst (mConsA (mTup (mConsA (mC (.str "slots 1|ride a 4 4|cap 6|bonus 4")) (mConsA (mC (.str "aaaa.aaa.a")) (mConsA (mC (.str "4 2 0 0 0 4 2 0 0 0")) mNilA)))) mNilA)))) (mSeq (mSet 0 (mBin fAdd (mName 0) (mLst (mConsA (mTup (mConsA (mC (.str "slots 2|ride a 4 4|transfer 1 3|cap 6")) (mConsA (mC (.str "aa.aa.a")) (mConsA (mC (.str "4 2 0 0 0 0 4")) mNilA)))) mNilA)))) (mSeq (mExpr (mMut fAppend 0 (mConsA (mTup (mConsA (mC (.str "slots 3|peak 0|ride a 4 1")) (mConsA (mC (.str "a.a.a.a")) (mConsA (mC (.str "1 0 4 0 4 0 1")) mNilA)))) mNilA))) (mSeq (mExpr (mMut fAppend 0 (mConsA (mTup (mConsA (mC (.str "slots 1|peak 0|ride a 4 1")) (mConsA (mC (.str "a.a")) (mConsA (mC (.str "1 0 1")) mNilA)))) mNilA))) (mSeq (mSet 0 (mBin fAdd (mName 0) (mLst (mConsA (mTup (mConsA (mC (.str "slots 2|peak 1|ride a 2 7|transfer 1 5")) (mConsA (mC (.str "a.a.a.a")) (mConsA (mC (.str "2 0 5 0 2 0 5")) mNilA)))) mNilA)))) (mRet (mBin fAdd (mName 0) (mLst (mConsA (mTup (mConsA (mC (.str "slots 1|ride a 0 0|ride b 5 5|transfer 4 1")) (mConsA (mC (.str "ab....b.b")) (mConsA (mC (.str "0 1 0 0 0 0 1 0 5")) mNilA)))) mNilA))))))))))))))))))))))))
def g_u_law_rows : List W → R Rs := mBody 1 m_u_law_rows
/-- System.base_price(self, slot, letter): 0 self, 1 slot, 2 letter, 3 kind -/
def m_System_base_price : Ms := (mSeq (mSet 3 (mBin fIxA (mUn (fFld "System" "kinds") (mName 0)) (mM1 fIndex (mUn (fFld "System" "letters") (mName 0)) (mName 2)))) (mRet (mIfE (mTc (mBin fInA (mName 1) (mUn (fFld "System" "peak") (mName 0)))) (mBin fIxA (mName 3) (mC (.int 2))) (mBin fIxA (mName 3) (mC (.int 1))))))
def g_System_base_price : List W → R Rs := mBody 1 m_System_base_price
/-- System.after_point(self, state): 0 self, 1 state, 2 slot, 3 left, 4 paid, 5 count, 6 following -/
def m_System_after_point : Ms := (mSeq (mAsg (mName 1) (tTup 4 (tCons (tName 2) (tCons (tName 3) (tCons (tName 4) (tCons (tName 5) tNil)))))) (mSeq (mSet 6 (mBin fMod (mBin fAdd (mName 2) (mC (.int 1))) (mUn (fFld "System" "slots") (mName 0)))) (mRet (mTup (mConsA (mName 6) (mConsA (mBin fMax2 (mC (.int 0)) (mBin fSub (mName 3) (mC (.int 1)))) (mConsA (mIfE (mTc (mBin fGt (mName 6) (mC (.int 0)))) (mName 4) (mC (.int 0))) (mConsA (mName 5) mNilA))))))))
def g_System_after_point : List W → R Rs := mBody 5 m_System_after_point
/-- System.step(self, state, letter): 0 self, 1 state, 2 letter, 3 slot, 4 left, 5 paid, 6 count, 7 cost -/
def m_System_step : Ms := (mSeq (mIf (mTc (mBin fEq (mName 2) (mC (.str ".")))) (mRet (mTup (mConsA (mMeth "System" "after_point" g_System_after_point (mName 0) (mConsA (mName 1) mNilA)) (mConsA (mC (.int 0)) mNilA)))) mNil) (mSeq (mAsg (mName 1) (tTup 4 (tCons (tName 3) (tCons (tName 4) (tCons (tName 5) (tCons (tName 6) tNil)))))) (mSeq (mSet 7 (mMeth "System" "base_price" g_System_base_price (mName 0) (mConsA (mName 3) (mConsA (mName 2) mNilA)))) (mSeq (mIf (mTc (mBin fGt (mName 4) (mC (.int 0)))) (mSet 7 (mBin fMin2 (mName 7) (mBin fIxA (mBin fIxA (mUn (fFld "System" "rules") (mName 0)) (mC (.str "transfer"))) (mC (.int 1))))) (mSeq (mSet 4 (mIfE (mTc (mBin fInA (mC (.str "transfer")) (mUn (fFld "System" "rules") (mName 0)))) (mBin fAdd (mBin fIxA (mBin fIxA (mUn (fFld "System" "rules") (mName 0)) (mC (.str "transfer"))) (mC (.int 0))) (mC (.int 1))) (mC (.int 0)))) (mIf (mTc (mBin fInA (mC (.str "bonus")) (mUn (fFld "System" "rules") (mName 0)))) (mSeq (mSet 6 (mBin fMod (mBin fAdd (mName 6) (mC (.int 1))) (mBin fIxA (mBin fIxA (mUn (fFld "System" "rules") (mName 0)) (mC (.str "bonus"))) (mC (.int 0))))) (mSet 7 (mIfE (mTc (mBin fEq (mName 6) (mC (.int 0)))) (mC (.int 0)) (mName 7)))) mNil))) (mSeq (mIf (mTc (mBin fInA (mC (.str "cap")) (mUn (fFld "System" "rules") (mName 0)))) (mSeq (mSet 7 (mBin fMin2 (mName 7) (mBin fSub (mBin fIxA (mBin fIxA (mUn (fFld "System" "rules") (mName 0)) (mC (.str "cap"))) (mC (.int 0))) (mName 5)))) (mAug fIAdd 5 (mName 7))) mNil) (mRet (mTup (mConsA (mTup (mConsA (mName 3) (mConsA (mName 4) (mConsA (mName 5) (mConsA (mName 6) mNilA))))) (mConsA (mName 7) mNilA)))))))))
def g_System_step : List W → R Rs := mBody 5 m_System_step
/-- System.costs(self, history): 0 self, 1 history, 2 place, 3 letter, 4 found, 5 state, 6 cost -/
def m_System_costs : Ms := (mSeq (mFor (mEnum (mName 1)) (tTup 2 (tCons (tName 2) (tCons (tName 3) tNil))) (mIf (mTc (mBin fNotInA (mName 3) (mUn (fFld "System" "letters") (mName 0)))) (fun _ => .bad) mNil)) (mSeq (mPar2 4 5 (mConsO (mLst mNilA) (mConsO (mC c_NEW) mNilO))) (mSeq (mFor (mIter (mName 1)) (tName 3) (mSeq (mAsg (mMeth "System" "step" g_System_step (mName 0) (mConsA (mName 5) (mConsA (mName 3) mNilA))) (tTup 2 (tCons (tName 5) (tCons (tName 6) tNil)))) (mExpr (mMut fAppend 4 (mConsA (mName 6) mNilA))))) (mRet (mName 4)))))
def g_System_costs : List W → R Rs := mBody 5 m_System_costs
/-- System.cost(self, history): 0 self, 1 history -/
def m_System_cost : Ms := (mRet (mUn fSum (mMeth "System" "costs" g_System_costs (mName 0) (mConsA (mName 1) mNilA))))
def g_System_cost : List W → R Rs := mBody 0 m_System_cost
/-- _law_take(feed, many): 0 feed, 1 many, 2 digit -/
def m_u_law_take : Ms := (mSeq (mIf (mTc (mBin fGt (mBin fIxA (mName 0) (mC (.int 0))) (mC (.int 0)))) (mSeq (mSet 2 (mBin fMod (mBin fIxA (mName 0) (mC (.int 0))) (mName 1))) (mSeq (mPut 0 (mC (.int 0)) (mBin fDiv (mBin fIxA (mName 0) (mC (.int 0))) (mName 1))) (mRet (mName 2)))) mNil) (mSeq (mPut 0 (mC (.int 1)) (mBin fMod (mBin fAdd (mBin fMul (mBin fIxA (mName 0) (mC (.int 1))) (mC (.int 6364136223846793005))) (mC (.int 1442695040888963407))) (mC (.int 2305843009213693951)))) (mRet (mBin fMod (mBin fDiv (mBin fIxA (mName 0) (mC (.int 1))) (mC (.int 65536))) (mName 1)))))
def g_u_law_take : W → List W → R (Rs × W) := mBodyI 1 m_u_law_take
/-- reached_states(system): 0 system, 1 states, 2 known, 3 place, 4 letter, 5 following -/
def m_reached_states : Ms := (mSeq (mPar3 1 2 3 (mConsO (mLst (mConsA (mC c_NEW) mNilA)) (mConsO (mDisp (mConsP (mC c_NEW) (mC (.bl true)) mNilP)) (mConsO (mC (.int 0)) mNilO)))) (mSeq (mWhile (mTc (mBin fLt (mName 3) (mUn fLen (mName 1)))) (mSeq (mFor (mIter (mUn (fFld "System" "letters") (mName 0))) (tName 4) (mSeq (mSet 5 (mBin fIxA (mMeth "System" "step" g_System_step (mName 0) (mConsA (mBin fIxA (mName 1) (mName 3)) (mConsA (mName 4) mNilA))) (mC (.int 0)))) (mIf (mTc (mBin fNotInA (mName 5) (mName 2))) (mSeq (mPut 2 (mName 5) (mC (.bl true))) (mExpr (mMut fAppend 1 (mConsA (mName 5) mNilA)))) mNil))) (mSeq (mIf (mTc (mBin fGt (mUn fLen (mName 1)) (mC c_MAX_STATES))) (fun _ => .bad) mNil) (mAug fIAdd 3 (mC (.int 1))))) 1000) (mRet (mName 1))))
def g_reached_states : List W → R Rs := mBody 5 m_reached_states
/-- System.__init__(self, slots, peak, kinds, rules): 0 self, 1 slots, 2 peak, 3 kinds, 4 rules, 5 kind -/
def m_System_init : Ms := (mSeq (mFst "System" "slots" 0 (mName 1)) (mSeq (mFst "System" "peak" 0 (mUn fTuple (mName 2))) (mSeq (mFst "System" "kinds" 0 (mUn fTuple (mName 3))) (mSeq (mFst "System" "rules" 0 (mUn fDict (mName 4))) (mSeq (mFst "System" "letters" 0 (mBin fAdd (mM1 fJoin (mC (.str "")) (mComp [] [5] (mIter (mUn (fFld "System" "kinds") (mName 0))) (tName 5) mYes (mBin fIxA (mName 5) (mC (.int 0))))) (mC (.str ".")))) (mFst "System" "all_states" 0 (mLendO 0 g_reached_states)))))))
def g_System_init : W → List W → R (Rs × W) := mBodyI 1 m_System_init
/-- read_number(word, least, most): 0 word, 1 least, 2 most, 3 digit -/
def m_read_number : Ms := (mSeq (mIf (mOr (mNot (mTc (mChain fLe fLe (mC (.int 1)) (mUn fLen (mName 0)) (mC (.int 2))))) (mOr (mNot (mTru (mUn fAll (mComp [] [3] (mIter (mName 0)) (tName 3) mYes (mBin fInA (mName 3) (mC c_DIGITS)))))) (mTc (mBin fNe (mUn fStr (mUn fInt (mName 0))) (mName 0))))) (mRet (mC .non)) mNil) (mRet (mIfE (mTc (mChain fLe fLe (mName 1) (mUn fInt (mName 0)) (mName 2))) (mUn fInt (mName 0)) (mC .non))))
def g_read_number : List W → R Rs := mBody 1 m_read_number
/-- read_rule(words, word, bounds): 0 words, 1 word, 2 bounds, 3 numbers, 4 part, 5 least, 6 most -/
def m_read_rule : Ms := (mSeq (mIf (mOr (mTc (mBin fNe (mBin fIxA (mName 0) (mC (.int 0))) (mName 1))) (mTc (mBin fNe (mUn fLen (mName 0)) (mBin fAdd (mUn fLen (mName 2)) (mC (.int 1)))))) (mRet (mC .non)) mNil) (mSeq (mSet 3 (mComp [] [4, 5, 6] (mZip (mSl (mName 0) (mPart (mC (.int 1))) mPartN) (mName 2)) (tTup 2 (tCons (tName 4) (tCons (tTup 2 (tCons (tName 5) (tCons (tName 6) tNil))) tNil))) mYes (mCall g_read_number (mConsA (mName 4) (mConsA (mName 5) (mConsA (mName 6) mNilA)))))) (mRet (mIfE (mTc (mBin fInA (mC .non) (mName 3))) (mC .non) (mUn fTuple (mName 3))))))
def g_read_rule : List W → R Rs := mBody 4 m_read_rule
/-- read_rules(rows, place): 0 rows, 1 place, 2 found, 3 word, 4 bounds, 5 numbers -/
def m_read_rules : Ms := (mSeq (mSet 2 (fun e => .ok (.fr (.dic [] []), e))) (mSeq (mFor (mIter (mC c_RULES)) (tTup 2 (tCons (tName 3) (tCons (tName 4) tNil))) (mSeq (mSet 5 (mIfE (mTc (mBin fLt (mName 1) (mUn fLen (mName 0)))) (mCall g_read_rule (mConsA (mBin fIxA (mName 0) (mName 1)) (mConsA (mName 3) (mConsA (mName 4) mNilA)))) (mC .non))) (mIf (mTc (mBin fNotN (mName 5) (mC .non))) (mSeq (mPut 2 (mName 3) (mName 5)) (mAug fIAdd 1 (mC (.int 1)))) mNil))) (mSeq (mIf (mTc (mBin fLt (mName 1) (mUn fLen (mName 0)))) (fun _ => .bad) mNil) (mRet (mName 2)))))
def g_read_rules : List W → R Rs := mBody 4 m_read_rules
/-- read_numbers(words, least, most): 0 words, 1 least, 2 most, 3 numbers, 4 word -/
def m_read_numbers : Ms := (mSeq (mSet 3 (mComp [1, 2] [4] (mIter (mName 0)) (tName 4) mYes (mCall g_read_number (mConsA (mName 4) (mConsA (mName 1) (mConsA (mName 2) mNilA)))))) (mRet (mIfE (mTc (mBin fInA (mC .non) (mName 3))) (mC .non) (mUn fTuple (mName 3)))))
def g_read_numbers : List W → R Rs := mBody 2 m_read_numbers
/-- read_ride(words, kinds): 0 words, 1 kinds, 2 numbers -/
def m_read_ride : Ms := (mSeq (mIf (mOr (mTc (mBin fNe (mUn fLen (mName 0)) (mC (.int 4)))) (mOr (mTc (mBin fNe (mBin fIxA (mName 0) (mC (.int 0))) (mC (.str "ride")))) (mTc (mBin fEq (mUn fLen (mName 1)) (mC c_MAX_KINDS))))) (mRet (mC .non)) mNil) (mSeq (mSet 2 (mCall g_read_numbers (mConsA (mSl (mName 0) (mPart (mC (.int 2))) mPartN) (mConsA (mC (.int 0)) (mConsA (mC c_MAX_PRICE) mNilA))))) (mSeq (mIf (mOr (mTc (mBin fIsN (mName 2) (mC .non))) (mOr (mTc (mBin fNe (mUn fLen (mBin fIxA (mName 0) (mC (.int 1)))) (mC (.int 1)))) (mTc (mBin fNotInA (mBin fIxA (mName 0) (mC (.int 1))) (mC c_LETTERS))))) (mRet (mC .non)) mNil) (mSeq (mIf (mAnd (mTc (mBin fNe (mName 1) (mLst mNilA))) (mTc (mBin fLe (mBin fIxA (mName 0) (mC (.int 1))) (mBin fIxA (mBin fIxA (mName 1) (mUn fNeg (mC (.int 1)))) (mC (.int 0)))))) (mRet (mC .non)) mNil) (mRet (mTup (mConsA (mBin fIxA (mName 0) (mC (.int 1))) (mConsA (mBin fIxA (mName 2) (mC (.int 0))) (mConsA (mBin fIxA (mName 2) (mC (.int 1))) mNilA)))))))))
def g_read_ride : List W → R Rs := mBody 1 m_read_ride
/-- read_rides(rows, place): 0 rows, 1 place, 2 kinds, 3 kind -/
def m_read_rides : Ms := (mSeq (mSet 2 (mLst mNilA)) (mSeq (mWhile (mTc (mBin fLt (mName 1) (mUn fLen (mName 0)))) (mSeq (mSet 3 (mCallL g_read_ride (mConsK (mBin fIxA (mName 0) (mName 1)) (mConsL 2 mNilO)))) (mSeq (mIf (mTc (mBin fIsN (mName 3) (mC .non))) mBrk mNil) (mSeq (mExpr (mMut fAppend 2 (mConsA (mName 3) mNilA))) (mAug fIAdd 1 (mC (.int 1)))))) 1000) (mSeq (mIf (mTc (mBin fEq (mName 2) (mLst mNilA))) (fun _ => .bad) mNil) (mRet (mTup (mConsA (mName 2) (mConsA (mName 1) mNilA)))))))
def g_read_rides : List W → R Rs := mBody 2 m_read_rides
/-- read_peak(words, slots): 0 words, 1 slots, 2 numbers -/
def m_read_peak : Ms := (mSeq (mSet 2 (mCall g_read_numbers (mConsA (mSl (mName 0) (mPart (mC (.int 1))) mPartN) (mConsA (mC (.int 0)) (mConsA (mBin fSub (mName 1) (mC (.int 1))) mNilA))))) (mSeq (mIf (mOr (mTc (mBin fNe (mBin fIxA (mName 0) (mC (.int 0))) (mC (.str "peak")))) (mOr (mTc (mBin fIsN (mName 2) (mC .non))) (mOr (mTc (mBin fEq (mName 2) (mTup mNilA))) (mTc (mBin fNe (mUn fList (mName 2)) (mUn fSortS (mName 2))))))) (mRet (mC .non)) mNil) (mRet (mName 2))))
def g_read_peak : List W → R Rs := mBody 1 m_read_peak
/-- read_slots(words): 0 words -/
def m_read_slots : Ms := (mSeq (mIf (mOr (mTc (mBin fNe (mUn fLen (mName 0)) (mC (.int 2)))) (mTc (mBin fNe (mBin fIxA (mName 0) (mC (.int 0))) (mC (.str "slots"))))) (mRet (mC .non)) mNil) (mRet (mCall g_read_number (mConsA (mBin fIxA (mName 0) (mC (.int 1))) (mConsA (mC (.int 1)) (mConsA (mC c_MAX_SLOTS) mNilA))))))
def g_read_slots : List W → R Rs := mBody 0 m_read_slots
/-- System.parse(cls, text): 0 cls, 1 text, 2 rows, 3 row, 4 slots, 5 peak, 6 kinds, 7 place, 8 rules -/
def m_System_parse : Ms := (mSeq (mSet 2 (mComp [] [3] (mIter (mM1 fSplit (mName 1) (mC (.str "\n")))) (tName 3) mYes (mM1 fSplit (mName 3) (mC (.str " "))))) (mSeq (mSet 4 (mCall g_read_slots (mConsA (mBin fIxA (mName 2) (mC (.int 0))) mNilA))) (mSeq (mIf (mTc (mBin fIsN (mName 4) (mC .non))) (fun _ => .bad) mNil) (mSeq (mSet 5 (mIfE (mTc (mBin fGt (mUn fLen (mName 2)) (mC (.int 1)))) (mCall g_read_peak (mConsA (mBin fIxA (mName 2) (mC (.int 1))) (mConsA (mName 4) mNilA))) (mC .non))) (mSeq (mAsg (mCall g_read_rides (mConsA (mName 2) (mConsA (mIfE (mTc (mBin fIsN (mName 5) (mC .non))) (mC (.int 1)) (mC (.int 2))) mNilA))) (tTup 2 (tCons (tName 6) (tCons (tName 7) tNil)))) (mSeq (mSet 8 (mCall g_read_rules (mConsA (mName 2) (mConsA (mName 7) mNilA)))) (mRet (mMakeL 0 "System" g_System_init (mConsA (mName 4) (mConsA (mIfE (mTc (mBin fIsN (mName 5) (mC .non))) (mTup mNilA) (mName 5)) (mConsA (mName 6) (mConsA (mName 8) mNilA))))))))))))
def g_System_parse : List W → R Rs := mBody 7 m_System_parse
/-- _law_feed(script, k): 0 script, 1 k, 2 cell, 3 digits, 4 state -/
def m_u_law_feed : Ms := (mSeq (mSet 2 (mIfE (mTc (mBin fLt (mName 1) (mUn fLen (mName 0)))) (mBin fIxA (mName 0) (mName 1)) (mBin fAdd (mBin fMul (mC (.int 83)) (mName 1)) (mC (.int 29))))) (mSeq (mSet 3 (mBin fMax2 (mC (.int 0)) (mBin fSub (mUn fAbs (mName 2)) (mBin fPow (mC (.int 10)) (mC (.int 18)))))) (mSeq (mSet 4 (mBin fMod (mBin fAdd (mBin fAdd (mBin fMul (mName 2) (mC (.int 6364136223846793005))) (mBin fMul (mC (.int 7919)) (mName 1))) (mC (.int 1442695040888963407))) (mC (.int 2305843009213693951)))) (mRet (mLst (mConsA (mName 3) (mConsA (mName 4) mNilA)))))))
def g_u_law_feed : List W → R Rs := mBody 3 m_u_law_feed
/-- _law_long_right(): 0 plain, 1 day -/
def m_u_law_long_right : Ms := (mSeq (mSet 0 (mCls "System" g_System_parse (mConsA (mC (.str "slots 1\nride a 1 1")) mNilA))) (mSeq (mIf (mOr (mTc (mBin fNe (mMeth "System" "cost" g_System_cost (mName 0) (mConsA (mBin fMul (mC (.str "a")) (mC (.int 3000))) mNilA)) (mC (.int 3000)))) (mTc (mBin fNe (mMeth "System" "costs" g_System_costs (mName 0) (mConsA (mBin fMul (mC (.str "a")) (mC (.int 3000))) mNilA)) (mBin fMul (mLst (mConsA (mC (.int 1)) mNilA)) (mC (.int 3000)))))) (mRet (mC (.bl false))) mNil) (mSeq (mSet 1 (mCls "System" g_System_parse (mConsA (mC (.str "slots 8\nride a 4 4\ncap 6")) mNilA))) (mRet (mBin fEq (mMeth "System" "cost" g_System_cost (mName 1) (mConsA (mBin fMul (mC (.str "aa........")) (mC (.int 100))) mNilA)) (mC (.int 600)))))))
def g_u_law_long_right : List W → R Rs := mBody 2 m_u_law_long_right
/-- law(script): 0 script, 1 k, 2 feed, 3 text, 4 history, 5 costs, 6 system, 7 ahead, 8 due, 9 whole, 10 word -/
def m_law : Ms := (mSeq (mIf (mNot (mTru (mCall g_u_law_long_right mNilA))) (mRet (mC (.bl false))) mNil) (mSeq (mFor (mRange (mBin fMax2 (mC (.int 1)) (mBin fMin2 (mC (.int 4)) (mUn fLen (mName 0))))) (tName 1) (mSeq (mSet 2 (mCall g_u_law_feed (mConsA (mName 0) (mConsA (mName 1) mNilA)))) (mFor (mIter (mCall g_u_law_rows mNilA)) (tTup 3 (tCons (tName 3) (tCons (tName 4) (tCons (tName 5) tNil)))) (mSeq (mSet 6 (mCls "System" g_System_parse (mConsA (mM1 fJoin (mC (.str "\n")) (mM1 fSplit (mName 3) (mC (.str "|")))) mNilA))) (mSeq (mSet 7 (mBin fMul (mC (.str ".")) (mBin fMul (mUn (fFld "System" "slots") (mName 6)) (mCallI 2 g_u_law_take (mConsA (mC (.int 5)) mNilA))))) (mSeq (mSet 8 (mBin fAdd (mBin fMul (mLst (mConsA (mC (.int 0)) mNilA)) (mUn fLen (mName 7))) (mComp [] [10] (mIter (mM1 fSplit (mName 5) (mC (.str " ")))) (tName 10) mYes (mUn fInt (mName 10))))) (mSeq (mSet 9 (mBin fAdd (mName 7) (mName 4))) (mIf (mOr (mTc (mBin fNe (mMeth "System" "costs" g_System_costs (mName 6) (mConsA (mName 9) mNilA)) (mName 8))) (mTc (mBin fNe (mMeth "System" "cost" g_System_cost (mName 6) (mConsA (mName 9) mNilA)) (mUn fSum (mName 8))))) (mRet (mC (.bl false))) mNil)))))))) (mRet (mC (.bl true)))))
def g_law : List W → R Rs := mBody 10 m_law
end WL
end F_MIR

section F_PS
/-! PS: the mirrors run by simp only: what follows a result is told by name, so nothing behind it is looked at too soon. -/
namespace WL
open PySem L2
section
variable {e : En} {a b : Mx} {u v : Ms} {t : Mt} {ta tb : Mt} {r : Ma} {o : Mo} {mp : Mp} {f f' : W → W → R Rs} {h : W → R Rs} {i j l n : Nat} {w w1 w2 : W} {ws us : List W} {g : List W → R Rs} {gi : W → List W → R (Rs × W)} {tg : Mg} {ts : Mgs} {cn m : Str} {it : Ma} {rs : List Rs} {x y : Rs} {z : Str}
def bodyC  : Fl × En → R Rs
  | (.nx, _) => .ok (.sh .non)
  | (.rt r, e) => fin r e
  | _ => .bad
def seqC (v : Ms) : Fl × En → R (Fl × En)
  | (.nx, e) => v e
  | (.rt r, e) => .ok (.rt r, e)
  | (.bk, e) => .ok (.bk, e)
  | (.ct, e) => .ok (.ct, e)
def ifC (u v : Ms) : Bool × En → R (Fl × En)
  | (true, e) => u e
  | (false, e) => v e
def exprC  : Rs × En → R (Fl × En)
  | (_, e) => .ok (.nx, e)
def retC  : Rs × En → R (Fl × En)
  | (r, e) => .ok (.rt r, e)
def setD (i : Nat) : W × En → R (Fl × En)
  | (w, e) => .ok (.nx, e.set i (.sh w))
def setC (i : Nat) : Rs × En → R (Fl × En)
  | (.sh w, e) => .ok (.nx, e.set i (.sh w))
  | (.fr w, e) => .ok (.nx, e.set i (.ow false w))
  | (.nm j, e) => (shr (.nm j) e).bind (setD i)
def asgD  : En → R (Fl × En)
  | e => .ok (.nx, e)
def asgC (tg : Mg) : W × En → R (Fl × En)
  | (w, e) => (tg w e).bind asgD
def tconsC (ts : Mgs) (ws : List W) : En → R En
  | e => ts ws e
def pairC (e : En) : Rs → R (Rs × En)
  | r => .ok (r, e)
def pairW (e : En) : W → R (W × En)
  | w => .ok (w, e)
def unC (h : W → R Rs) : W × En → R (Rs × En)
  | (w, e) => (h w).bind (pairC e)
def m1C  : Rs × En → R (W × En)
  | (r, e) => (rd r e).bind (pairW e)
def binC (f : W → W → R Rs) : W × W × En → R (Rs × En)
  | (w1, w2, e) => (f w1 w2).bind (pairC e)
def m2F (w1 : W) (e : En) : W → R (W × W × En)
  | w2 => .ok (w1, w2, e)
def m2E (s : Rs) (e : En) : W → R (W × W × En)
  | w1 => (rd s e).bind (m2F w1 e)
def m2D (r : Rs) : Rs × En → R (W × W × En)
  | (s, e) => (rd r.sv e).bind (m2E s e)
def m2C (b : Mx) : Rs × En → R (W × W × En)
  | (r, e) => (b e).bind (m2D r)
def shC  : Rs × En → R (W × En)
  | (r, e) => shr r e
def mtupC  : List W × En → R (Rs × En)
  | (ws, e) => iff (ws.length ≤ line) (.ok (.sh (.tup ws), e))
def mlstC  : List W × En → R (Rs × En)
  | (ws, e) => iff (ws.length ≤ line) (.ok (.fr (.lst ws), e))
def consD (w : W) : List W × En → R (List W × En)
  | (ws, e) => .ok (w :: ws, e)
def consC (r : Ma) : W × En → R (List W × En)
  | (w, e) => (r e).bind (consD w)
def tcC  : W × En → R (Bool × En)
  | (.bl b, e) => .ok (b, e)
  | _ => .bad
def truD (e : En) : Bool → R (Bool × En)
  | b => .ok (b, e)
def truC  : W × En → R (Bool × En)
  | (w, e) => (truth w).bind (truD e)
def andC (tb : Mt) : Bool × En → R (Bool × En)
  | (true, e) => tb e
  | (false, e) => .ok (false, e)
def orC (tb : Mt) : Bool × En → R (Bool × En)
  | (true, e) => .ok (true, e)
  | (false, e) => tb e
def notC  : Bool × En → R (Bool × En)
  | (b, e) => .ok (!b, e)
def ifeC (a b : Mx) : Bool × En → R (Rs × En)
  | (true, e) => a e
  | (false, e) => b e
def callC (g : List W → R Rs) : List W × En → R (Rs × En)
  | (ws, e) => (g ws).bind (pairC e)
def methD (g : List W → R Rs) (w : W) : List W × En → R (Rs × En)
  | (ws, e) => (g (w :: ws)).bind (pairC e)
def methC (cn m : Str) (g : List W → R Rs) (r : Ma) : W × En → R (Rs × En)
  | (.obj c ns vs, e) => iff (c = cn ∧ ns.contains m = false) ((r e).bind (methD g (.obj c ns vs)))
  | _ => .bad
def m1sD (ff : Str → W → R Rs) (z : Str) : W × En → R (Rs × En)
  | (w, e) => (ff z w).bind (pairC e)
def m1sC (ff : Str → W → R Rs) (b : Mx) : W × En → R (Rs × En)
  | (.str z, e) => (m1 b e).bind (m1sD ff z)
  | _ => .bad
def forC (tg : Mg) (u : Ms) : List W × En → R (Fl × En)
  | (ws, e) => mLoop tg u ws e
def iterD (e : En) : List W → R (List W × En)
  | ws => .ok (ws, e)
def iterC  : W × En → R (List W × En)
  | (w, e) => (items w).bind (iterD e)
def augE (i : Nat) (e : En) : Rs → R (Fl × En)
  | (.sh w) => .ok (.nx, e.set i (.sh w))
  | _ => .bad
def augD (f : W → W → R Rs) (i : Nat) (w : W) : W × En → R (Fl × En)
  | (w2, e) => (f w w2).bind (augE i e)
def augC (f : W → W → R Rs) (i : Nat) (a : Mx) (e : En) : Option Sl → R (Fl × En)
  | (some (.sh w)) => (m1 a e).bind (augD f i w)
  | _ => .bad
def mutE (i : Nat) (b : Bool) (e : En) : Option (W × List W) → R (Rs × En)
  | (some (w, ws)) => .ok (.sh w, e.set i (.ow b (.lst ws)))
  | none => .bad
def mutD (ff : List W → List W → Option (W × List W)) (i : Nat) (us : List W) (e : En) : Option Sl → R (Rs × En)
  | (some (.ow b (.lst ws))) => mutE i b e (ff ws us)
  | _ => .bad
def mutC (ff : List W → List W → Option (W × List W)) (i : Nat) : List W × En → R (Rs × En)
  | (us, e) => mutD ff i us e e[i]?
def mutB (ff : List W → List W → Option (W × List W)) (i : Nat) (r : Ma) (e : En) : Option Sl → R (Rs × En)
  | (some (.ow _ (.lst _))) => (r e).bind (mutC ff i)
  | _ => .bad
def putF2 (i : Nat) (b : Bool) (e : En) : W → R (Fl × En)
  | w => .ok (.nx, e.set i (.ow b w))
def putE2 (i : Nat) (v k : W) (e : En) : Option Sl → R (Fl × En)
  | (some (.ow b w)) => (fPut w k v).bind (putF2 i b e)
  | _ => .bad
def putD2 (i : Nat) (v : W) : W × En → R (Fl × En)
  | (k, e) => putE2 i v k e e[i]?
def putC2 (i : Nat) (a : Mx) (v : W) (e : En) : Option Sl → R (Fl × En)
  | (some (.ow _ _)) => (mSh a e).bind (putD2 i v)
  | _ => .bad
def putB2 (i : Nat) (a : Mx) : W × En → R (Fl × En)
  | (v, e) => putC2 i a v e e[i]?
def par2C (i j : Nat) : List Rs × En → R (Fl × En)
  | ([r, s], e) => .ok (.nx, (e.set i (slO r)).set j (slO s))
  | _ => .bad
def par3C (i j l : Nat) : List Rs × En → R (Fl × En)
  | ([r, s, t], e) => .ok (.nx, ((e.set i (slO r)).set j (slO s)).set l (slO t))
  | _ => .bad
def consoD (r : Rs) : List Rs × En → R (List Rs × En)
  | (rs, e) => .ok (r :: rs, e)
def consoC (o : Mo) : Rs × En → R (List Rs × En)
  | (r, e) => (o e).bind (consoD r)
def ownD  : W × En → R (Rs × En)
  | (w, e) => .ok (.sh w, e)
def ownC  : Rs × En → R (Rs × En)
  | (.nm j, e) => (shr (.nm j) e).bind ownD
  | (.sh w, e) => .ok (.sh w, e)
  | (.fr w, e) => .ok (.fr w, e)
def calliE (i : Nat) (b : Bool) (e : En) : Rs × W → R (Rs × En)
  | (r, w) => .ok (r, e.set i (.ow b w))
def calliD (i : Nat) (gi : W → List W → R (Rs × W)) (ws : List W) (e : En) : Option Sl → R (Rs × En)
  | (some (.ow b w)) => (gi w ws).bind (calliE i b e)
  | _ => .bad
def calliC (i : Nat) (gi : W → List W → R (Rs × W)) : List W × En → R (Rs × En)
  | (ws, e) => calliD i gi ws e e[i]?
def calliB (i : Nat) (gi : W → List W → R (Rs × W)) (r : Ma) (e : En) : Option Sl → R (Rs × En)
  | (some (.ow _ _)) => (r e).bind (calliC i gi)
  | _ => .bad
def bodyiD (w1 : W) : Rs → R (Rs × W)
  | r => .ok (r, w1)
def bodyiE (x : Fl × En) : Option W → R (Rs × W)
  | (some w1) => match x with | (.nx, _) => .ok (.sh .non, w1) | (.rt r, e) => (fin r e).bind (bodyiD w1) | _ => .bad
  | none => .bad
def bodyiC  : Fl × En → R (Rs × W)
  | x => bodyiE x (own0 x.2)
def enumC  : W × En → R (List W × En)
  | (.lst ws, e) => .ok ((enumF 0 ws).map W.tup, e)
  | (.str z, e) => .ok ((enumF 0 (z.cps.toList.map fun n => .str ⟨#[n]⟩)).map W.tup, e)
  | _ => .bad
def clsC (cn : Str) (g : List W → R Rs) : List W × En → R (Rs × En)
  | (ws, e) => (g (.cl cn :: ws)).bind (pairC e)
def loopD (tg : Mg) (u : Ms) (ws : List W) : Fl × En → R (Fl × En)
  | (.nx, e) => mLoop tg u ws e
  | (.ct, e) => mLoop tg u ws e
  | (.bk, e) => .ok (.nx, e)
  | (.rt r, e) => .ok (.rt r, e)
def loopC (tg : Mg) (u : Ms) (ws : List W) : En → R (Fl × En)
  | e => (u e).bind (loopD tg u ws)
def whileD (t : Mt) (u : Ms) (n : Nat) : Fl × En → R (Fl × En)
  | (.nx, e) => mWhile t u n e
  | (.ct, e) => mWhile t u n e
  | (.bk, e) => .ok (.nx, e)
  | (.rt r, e) => .ok (.rt r, e)
def whileC (t : Mt) (u : Ms) (n : Nat) : Bool × En → R (Fl × En)
  | (true, e) => (u e).bind (whileD t u n)
  | (false, e) => .ok (.nx, e)
def ixS  : W → R Rs
  | w => .ok (.sh w)
def nameC (i : Nat) (e : En) : Option Sl → R (Rs × En)
  | (some (.sh _)) => .ok (.nm i, e)
  | (some (.ow _ _)) => .ok (.nm i, e)
  | _ => .bad
def rdC  : Option Sl → R W
  | (some (.sh w)) => .ok w
  | (some (.ow _ w)) => .ok w
  | _ => .bad
def shrC (i : Nat) (e : En) : Option Sl → R (W × En)
  | (some (.sh w)) => .ok (w, e)
  | (some (.ow false w)) => .ok (w, e.set i (.sh w))
  | _ => .bad
def finC  : Option Sl → R Rs
  | (some (.sh w)) => .ok (.sh w)
  | (some (.ow false w)) => .ok (.fr w)
  | _ => .bad
end
theorem bind_ext {α β : Type} {x : R α} {f f' : α → R β} (h : ∀ p, f p = f' p) : x.bind f = x.bind f' := by cases x <;> first | exact h _ | rfl
section
variable {e : En} {a b : Mx} {u v : Ms} {t : Mt} {ta tb : Mt} {r : Ma} {o : Mo} {mp : Mp} {f f' : W → W → R Rs} {h : W → R Rs} {i j l n : Nat} {w w1 w2 : W} {ws us : List W} {g : List W → R Rs} {gi : W → List W → R (Rs × W)} {tg : Mg} {ts : Mgs} {cn m : Str} {it : Ma} {rs : List Rs} {x y : Rs} {z : Str}
theorem ap_body {k : Nat} {m : Ms} : mBody k m ws = (m (ws.map .sh ++ List.replicate k .un)).bind bodyC := by
  exact bind_ext fun ⟨w, e1⟩ => by cases w <;> rfl
theorem ap_seq : mSeq u v e = (u e).bind (seqC v) := by
  exact bind_ext fun ⟨w, e1⟩ => by cases w <;> rfl
theorem ap_nil : mNil e = .ok (.nx, e) := by
  first | rfl | exact bind_ext fun ⟨w, e1⟩ => rfl | exact bind_ext fun ⟨w, w2, e1⟩ => rfl
theorem ap_if : mIf t u v e = (t e).bind (ifC u v) := by
  exact bind_ext fun ⟨w, e1⟩ => by cases w <;> rfl
theorem ap_expr : mExpr a e = (a e).bind exprC := by
  first | rfl | exact bind_ext fun ⟨w, e1⟩ => rfl | exact bind_ext fun ⟨w, w2, e1⟩ => rfl
theorem ap_ret : mRet a e = (a e).bind retC := by
  first | rfl | exact bind_ext fun ⟨w, e1⟩ => rfl | exact bind_ext fun ⟨w, w2, e1⟩ => rfl
theorem ap_retN : mRetN e = .ok (.rt (.sh .non), e) := by
  first | rfl | exact bind_ext fun ⟨w, e1⟩ => rfl | exact bind_ext fun ⟨w, w2, e1⟩ => rfl
theorem ap_set : mSet i a e = (a e).bind (setC i) := by
  exact bind_ext fun ⟨r, e1⟩ => by cases r <;> first | rfl | exact bind_ext fun ⟨w, e2⟩ => rfl
theorem ap_asg : mAsg a tg e = (mSh a e).bind (asgC tg) := by
  first | rfl | exact bind_ext fun ⟨w, e1⟩ => rfl | exact bind_ext fun ⟨w, w2, e1⟩ => rfl
theorem ap_tup : tTup n ts (.tup ws) e = iff (ws.length = n) (ts ws e) := by
  first | rfl | exact bind_ext fun ⟨w, e1⟩ => rfl | exact bind_ext fun ⟨w, w2, e1⟩ => rfl
theorem ap_tname : tName i w e = .ok (e.set i (.sh w)) := by
  first | rfl | exact bind_ext fun ⟨w, e1⟩ => rfl | exact bind_ext fun ⟨w, w2, e1⟩ => rfl
theorem ap_tnil : tNil [] e = .ok e := by
  first | rfl | exact bind_ext fun ⟨w, e1⟩ => rfl | exact bind_ext fun ⟨w, w2, e1⟩ => rfl
theorem ap_tcons : tCons tg ts (w :: ws) e = (tg w e).bind (tconsC ts ws) := by
  first | rfl | exact bind_ext fun ⟨w, e1⟩ => rfl | exact bind_ext fun ⟨w, w2, e1⟩ => rfl
theorem ap_c : mC w e = .ok (.sh w, e) := by
  first | rfl | exact bind_ext fun ⟨w, e1⟩ => rfl | exact bind_ext fun ⟨w, w2, e1⟩ => rfl
theorem ap_name : mName i e = nameC i e e[i]? := by
  unfold mName nameC; rcases e[i]? with _ | (_ | w | ⟨b, w⟩) <;> rfl
theorem ap_un : mUn h a e = (m1 a e).bind (unC h) := by
  first | rfl | exact bind_ext fun ⟨w, e1⟩ => rfl | exact bind_ext fun ⟨w, w2, e1⟩ => rfl
theorem ap_m1 : m1 a e = (a e).bind m1C := by
  first | rfl | exact bind_ext fun ⟨w, e1⟩ => rfl | exact bind_ext fun ⟨w, w2, e1⟩ => rfl
theorem ap_bin : mBin f a b e = (m2 a b e).bind (binC f) := by
  first | rfl | exact bind_ext fun ⟨w, e1⟩ => rfl | exact bind_ext fun ⟨w, w2, e1⟩ => rfl
theorem ap_m2 : m2 a b e = (a e).bind (m2C b) := by
  exact bind_ext fun ⟨w, e1⟩ => bind_ext fun ⟨ws, e2⟩ => rfl
theorem ap_sh : mSh a e = (a e).bind shC := by
  first | rfl | exact bind_ext fun ⟨w, e1⟩ => rfl | exact bind_ext fun ⟨w, w2, e1⟩ => rfl
theorem ap_mtup : mTup r e = (r e).bind mtupC := by
  first | rfl | exact bind_ext fun ⟨w, e1⟩ => rfl | exact bind_ext fun ⟨w, w2, e1⟩ => rfl
theorem ap_mlst : mLst r e = (r e).bind mlstC := by
  first | rfl | exact bind_ext fun ⟨w, e1⟩ => rfl | exact bind_ext fun ⟨w, w2, e1⟩ => rfl
theorem ap_nila : mNilA e = .ok ([], e) := by
  first | rfl | exact bind_ext fun ⟨w, e1⟩ => rfl | exact bind_ext fun ⟨w, w2, e1⟩ => rfl
theorem ap_consa : mConsA a r e = (mSh a e).bind (consC r) := by
  exact bind_ext fun ⟨w, e1⟩ => bind_ext fun ⟨ws, e2⟩ => rfl
theorem ap_tc : mTc a e = (m1 a e).bind tcC := by
  exact bind_ext fun ⟨w, e1⟩ => by cases w <;> rfl
theorem ap_tru : mTru a e = (m1 a e).bind truC := by
  first | rfl | exact bind_ext fun ⟨w, e1⟩ => rfl | exact bind_ext fun ⟨w, w2, e1⟩ => rfl
theorem ap_and : mAnd ta tb e = (ta e).bind (andC tb) := by
  exact bind_ext fun ⟨w, e1⟩ => by cases w <;> rfl
theorem ap_or : mOr ta tb e = (ta e).bind (orC tb) := by
  exact bind_ext fun ⟨w, e1⟩ => by cases w <;> rfl
theorem ap_not : mNot ta e = (ta e).bind notC := by
  first | rfl | exact bind_ext fun ⟨w, e1⟩ => rfl | exact bind_ext fun ⟨w, w2, e1⟩ => rfl
theorem ap_ife : mIfE t a b e = (t e).bind (ifeC a b) := by
  exact bind_ext fun ⟨w, e1⟩ => by cases w <;> rfl
theorem ap_call : mCall g r e = (r e).bind (callC g) := by
  first | rfl | exact bind_ext fun ⟨w, e1⟩ => rfl | exact bind_ext fun ⟨w, w2, e1⟩ => rfl
theorem ap_meth : mMeth cn m g a r e = (mSh a e).bind (methC cn m g r) := by
  exact bind_ext fun ⟨w, e1⟩ => by cases w <;> first | rfl | exact congrArg (iff _) (bind_ext fun ⟨ws, e2⟩ => rfl)
theorem ap_m1s {ff : Str → W → R Rs} : mM1 ff a b e = (m1 a e).bind (m1sC ff b) := by
  exact bind_ext fun ⟨w, e1⟩ => by cases w <;> first | rfl | exact bind_ext fun ⟨ws, e2⟩ => rfl
theorem ap_for : mFor it tg u e = (it e).bind (forC tg u) := by
  first | rfl | exact bind_ext fun ⟨w, e1⟩ => rfl | exact bind_ext fun ⟨w, w2, e1⟩ => rfl
theorem ap_iter : mIter a e = (mSh a e).bind iterC := by
  first | rfl | exact bind_ext fun ⟨w, e1⟩ => rfl | exact bind_ext fun ⟨w, w2, e1⟩ => rfl
theorem ap_aug : mAug f i a e = augC f i a e e[i]? := by
  unfold mAug augC; rcases e[i]? with _ | (_ | w | ⟨_ | _, w⟩) <;> first | rfl | exact bind_ext fun ⟨w2, e2⟩ => bind_ext fun r => by cases r <;> rfl
theorem ap_mut {ff : List W → List W → Option (W × List W)} : mMut ff i r e = mutB ff i r e e[i]? := by
  unfold mMut mutB
  rcases e[i]? with _ | (_ | w | ⟨b, w⟩) <;> try rfl
  cases w <;> try rfl
  refine bind_ext fun ⟨us, e2⟩ => ?_
  show _ = mutD ff i us e2 e2[i]?
  dsimp only
  unfold mutD
  rcases e2[i]? with _ | (_ | w | ⟨b, w⟩) <;> try rfl
  cases w <;> try rfl
  rename_i ws
  show (ofO (ff ws us)).bind _ = mutE i b e2 (ff ws us)
  cases ff ws us <;> rfl
theorem ap_put : mPut i a b e = (mSh b e).bind (putB2 i a) := by
  refine bind_ext fun ⟨v, e1⟩ => ?_
  show _ = putC2 i a v e1 e1[i]?
  dsimp only
  rcases e1[i]? with _ | (_ | w | ⟨b, w⟩) <;> first | rfl | (refine bind_ext fun ⟨k, e2⟩ => ?_; show _ = putE2 i v k e2 e2[i]?; dsimp only; rcases e2[i]? with _ | (_ | w | ⟨b, w⟩) <;> rfl)
theorem ap_par2 : mPar2 i j o e = (o e).bind (par2C i j) := by
  exact bind_ext fun ⟨q, e1⟩ => by rcases q with _ | ⟨q1, _ | ⟨q2, _ | ⟨q3, q4⟩⟩⟩ <;> rfl
theorem ap_par3 : mPar3 i j l o e = (o e).bind (par3C i j l) := by
  exact bind_ext fun ⟨q, e1⟩ => by rcases q with _ | ⟨q1, _ | ⟨q2, _ | ⟨q3, _ | ⟨q4, q5⟩⟩⟩⟩ <;> rfl
theorem ap_nilo : mNilO e = .ok ([], e) := by
  first | rfl | exact bind_ext fun ⟨w, e1⟩ => rfl | exact bind_ext fun ⟨w, w2, e1⟩ => rfl
theorem ap_conso : mConsO a o e = (mOwn a e).bind (consoC o) := by
  exact bind_ext fun ⟨w, e1⟩ => bind_ext fun ⟨ws, e2⟩ => rfl
theorem ap_own : mOwn a e = (a e).bind ownC := by
  exact bind_ext fun ⟨r, e1⟩ => by cases r <;> first | rfl | exact bind_ext fun ⟨w, e2⟩ => rfl
theorem ap_calli : mCallI i gi r e = calliB i gi r e e[i]? := by
  unfold mCallI calliB; rcases e[i]? with _ | (_ | w | ⟨b, w⟩) <;> first | rfl | (refine bind_ext fun ⟨us, e2⟩ => ?_; show _ = calliD i gi us e2 e2[i]?; dsimp only; rcases e2[i]? with _ | (_ | w | ⟨b, w⟩) <;> rfl)
theorem ap_bodyi {k : Nat} {m : Ms} {w0 : W} : mBodyI k m w0 ws = (m (.ow true w0 :: ws.map .sh ++ List.replicate k .un)).bind bodyiC := by
  refine bind_ext fun x => ?_
  show _ = bodyiE x (own0 x.2)
  unfold bodyiE
  rcases own0 x.2 with _ | w1
  · rfl
  · rcases x with ⟨f, e2⟩; cases f <;> rfl
theorem ap_enum : mEnum a e = (mSh a e).bind enumC := by
  exact bind_ext fun ⟨w, e1⟩ => by cases w <;> rfl
theorem ap_cls : mCls cn g r e = (r e).bind (clsC cn g) := by
  first | rfl | exact bind_ext fun ⟨w, e1⟩ => rfl | exact bind_ext fun ⟨w, w2, e1⟩ => rfl
theorem ap_loop0 : mLoop tg u [] e = .ok (.nx, e) := by
  first | rfl | exact bind_ext fun ⟨w, e1⟩ => rfl | exact bind_ext fun ⟨w, w2, e1⟩ => rfl
theorem ap_loop1 : mLoop tg u (w :: ws) e = (tg w e).bind (loopC tg u ws) := by
  rw [mLoop]; exact bind_ext fun e1 => bind_ext fun ⟨f, e2⟩ => by cases f <;> rfl
theorem ap_while : mWhile t u (n + 1) e = (t e).bind (whileC t u n) := by
  rw [mWhile]; exact bind_ext fun ⟨q, e1⟩ => by cases q <;> first | rfl | (exact bind_ext fun ⟨f, e2⟩ => by cases f <;> rfl)
theorem ap_fld {f : Str} {c : Str} {ns : List Str} {vs : List W} : fFld cn f (.obj c ns vs) = iff (c = cn) ((ofO (fld f ns vs)).bind ixS) := by
  first | rfl | exact bind_ext fun ⟨w, e1⟩ => rfl | exact bind_ext fun ⟨w, w2, e1⟩ => rfl
theorem ap_ofs {α : Type} {x : α} : ofO (some x) = R.ok x := by
  first | rfl | exact bind_ext fun ⟨w, e1⟩ => rfl | exact bind_ext fun ⟨w, w2, e1⟩ => rfl
theorem ix_dic {ks : List Key} {vs : List W} : fIxA (.dic ks vs) w = (ofO (getK (.dic ks vs) w)).bind ixS := by
  first | rfl | exact bind_ext fun ⟨w, e1⟩ => rfl | exact bind_ext fun ⟨w, w2, e1⟩ => rfl
theorem ix_tup {i : Int} : fIxA (.tup ws) (.int i) = (ofO (atI ws i)).bind ixS := by
  first | rfl | exact bind_ext fun ⟨w, e1⟩ => rfl | exact bind_ext fun ⟨w, w2, e1⟩ => rfl
theorem ix_lst {i : Int} : fIxA (.lst ws) (.int i) = (ofO (atI ws i)).bind ixS := by
  first | rfl | exact bind_ext fun ⟨w, e1⟩ => rfl | exact bind_ext fun ⟨w, w2, e1⟩ => rfl
theorem getK_s {ks : List Key} {vs : List W} {x : Str} : getK (.dic ks vs) (.str x) = dGet ks vs (.inr x) := by
  first | rfl | exact bind_ext fun ⟨w, e1⟩ => rfl | exact bind_ext fun ⟨w, w2, e1⟩ => rfl
theorem in_dic {ks : List Key} {vs : List W} {x : Str} : fInA (.str x) (.dic ks vs) = .ok (.sh (.bl (dGet ks vs (.inr x)).isSome)) := by
  first | rfl | exact bind_ext fun ⟨w, e1⟩ => rfl | exact bind_ext fun ⟨w, w2, e1⟩ => rfl
theorem rd_sh : rd (.sh w) e = .ok w := by
  first | rfl | exact bind_ext fun ⟨w, e1⟩ => rfl | exact bind_ext fun ⟨w, w2, e1⟩ => rfl
theorem rd_fr : rd (.fr w) e = .ok w := by
  first | rfl | exact bind_ext fun ⟨w, e1⟩ => rfl | exact bind_ext fun ⟨w, w2, e1⟩ => rfl
theorem rd_nm : rd (.nm i) e = rdC e[i]? := by
  show (match e[i]? with | some (.sh w) => R.ok w | some (.ow _ w) => .ok w | _ => .bad) = rdC e[i]?; unfold rdC; rcases e[i]? with _ | (_ | w | ⟨b, w⟩) <;> rfl
theorem shr_sh : shr (.sh w) e = .ok (w, e) := by
  first | rfl | exact bind_ext fun ⟨w, e1⟩ => rfl | exact bind_ext fun ⟨w, w2, e1⟩ => rfl
theorem shr_fr : shr (.fr w) e = .ok (w, e) := by
  first | rfl | exact bind_ext fun ⟨w, e1⟩ => rfl | exact bind_ext fun ⟨w, w2, e1⟩ => rfl
theorem shr_nm : shr (.nm i) e = shrC i e e[i]? := by
  show (match e[i]? with | some (.sh w) => R.ok (w, e) | some (.ow false w) => .ok (w, e.set i (.sh w)) | _ => .bad) = shrC i e e[i]?; unfold shrC; rcases e[i]? with _ | (_ | w | ⟨_ | _, w⟩) <;> rfl
theorem sv_sh : (Rs.sh w).sv = .sh w := by
  first | rfl | exact bind_ext fun ⟨w, e1⟩ => rfl | exact bind_ext fun ⟨w, w2, e1⟩ => rfl
theorem sv_fr : (Rs.fr w).sv = .sh w := by
  first | rfl | exact bind_ext fun ⟨w, e1⟩ => rfl | exact bind_ext fun ⟨w, w2, e1⟩ => rfl
theorem sv_nm : (Rs.nm i).sv = .nm i := by
  first | rfl | exact bind_ext fun ⟨w, e1⟩ => rfl | exact bind_ext fun ⟨w, w2, e1⟩ => rfl
theorem fin_sh : fin (.sh w) e = .ok (.sh w) := by
  first | rfl | exact bind_ext fun ⟨w, e1⟩ => rfl | exact bind_ext fun ⟨w, w2, e1⟩ => rfl
theorem fin_fr : fin (.fr w) e = .ok (.fr w) := by
  first | rfl | exact bind_ext fun ⟨w, e1⟩ => rfl | exact bind_ext fun ⟨w, w2, e1⟩ => rfl
theorem fin_nm : fin (.nm i) e = finC e[i]? := by
  show (match e[i]? with | some (.sh w) => R.ok (Rs.sh w) | some (.ow false w) => .ok (.fr w) | _ => .bad) = finC e[i]?; unfold finC; rcases e[i]? with _ | (_ | w | ⟨_ | _, w⟩) <;> rfl
theorem ii_add {i j : Int} : fAdd (.int i) (.int j) = .ok (.sh (.int (i + j))) := by
  first | rfl | exact bind_ext fun ⟨w, e1⟩ => rfl | exact bind_ext fun ⟨w, w2, e1⟩ => rfl
theorem ii_sub {i j : Int} : fSub (.int i) (.int j) = .ok (.sh (.int (i - j))) := by
  first | rfl | exact bind_ext fun ⟨w, e1⟩ => rfl | exact bind_ext fun ⟨w, w2, e1⟩ => rfl
theorem ii_iadd {i j : Int} : fIAdd (.int i) (.int j) = .ok (.sh (.int (i + j))) := by
  first | rfl | exact bind_ext fun ⟨w, e1⟩ => rfl | exact bind_ext fun ⟨w, w2, e1⟩ => rfl
theorem ii_mod {i j : Int} : fMod (.int i) (.int j) = iff (0 < j) (.ok (.sh (.int (i % j)))) := by
  first | rfl | exact bind_ext fun ⟨w, e1⟩ => rfl | exact bind_ext fun ⟨w, w2, e1⟩ => rfl
theorem ii_div {i j : Int} : fDiv (.int i) (.int j) = iff (0 < j ∧ j < 1073741824) (.ok (.sh (.int (i / j)))) := by
  first | rfl | exact bind_ext fun ⟨w, e1⟩ => rfl | exact bind_ext fun ⟨w, w2, e1⟩ => rfl
theorem ii_gt {i j : Int} : fGt (.int i) (.int j) = .ok (.sh (.bl (decide (j < i)))) := by
  first | rfl | exact bind_ext fun ⟨w, e1⟩ => rfl | exact bind_ext fun ⟨w, w2, e1⟩ => rfl
theorem ii_lt {i j : Int} : fLt (.int i) (.int j) = .ok (.sh (.bl (decide (i < j)))) := by
  first | rfl | exact bind_ext fun ⟨w, e1⟩ => rfl | exact bind_ext fun ⟨w, w2, e1⟩ => rfl
theorem ii_min {i j : Int} : fMin2 (.int i) (.int j) = .ok (.sh (.int (if j < i then j else i))) := by
  first | rfl | exact bind_ext fun ⟨w, e1⟩ => rfl | exact bind_ext fun ⟨w, w2, e1⟩ => rfl
theorem ii_max {i j : Int} : fMax2 (.int i) (.int j) = .ok (.sh (.int (if j > i then j else i))) := by
  first | rfl | exact bind_ext fun ⟨w, e1⟩ => rfl | exact bind_ext fun ⟨w, w2, e1⟩ => rfl
theorem ii_eq {i j : Int} : fEq (.int i) (.int j) = .ok (.sh (.bl (decide (i = j)))) := by
  first | rfl | exact bind_ext fun ⟨w, e1⟩ => rfl | exact bind_ext fun ⟨w, w2, e1⟩ => rfl
theorem ss_eq {x y : Str} : fEq (.str x) (.str y) = .ok (.sh (.bl (decide (x = y)))) := by
  first | rfl | exact bind_ext fun ⟨w, e1⟩ => rfl | exact bind_ext fun ⟨w, w2, e1⟩ => rfl
theorem ss_ne {x y : Str} : fNe (.str x) (.str y) = .ok (.sh (.bl (!decide (x = y)))) := by
  first | rfl | exact bind_ext fun ⟨w, e1⟩ => rfl | exact bind_ext fun ⟨w, w2, e1⟩ => rfl
theorem ii_ne {i j : Int} : fNe (.int i) (.int j) = .ok (.sh (.bl (!decide (i = j)))) := by
  first | rfl | exact bind_ext fun ⟨w, e1⟩ => rfl | exact bind_ext fun ⟨w, w2, e1⟩ => rfl
end
end WL
end F_PS

section F_PL
/-! PL: fare systems in plain Lean: prices, steps, costs; what the mirrors of System compute. -/
namespace WL
open PySem L2
local macro_rules | `(tactic| trivial) => `(tactic| simp [mBody, mSeq, mSet, mRet, mIf, mIfE, mTc, mBin, m2, m1, mUn, mName, mC, mMeth, mSh, shr, rd, Rs.sv, mConsA, mNilA, mTup, mAsg, tTup, tCons, tName, tNil, mM1, ofO, iff, fin, fAdd, fSub, fMod, fGt, fMax2, fMin2, fFld, line, mCall, fLt, mNil, fIxA, fIx, fInA, fIn, mAug, fIAdd, getK, hasK, kK, atI, ixN, fEq, eqS, *])

/-! ### the place of a sign in a text -/
section
open PySem.StrLaws PySem.Builtin PySem.Builtin.Str
theorem occ_full (s sub : Str) (hi : Nat) : ∀ (l : List Nat) (st : Array Nat × Nat), st.1.size = 1 → (forIn l st (occBody s sub hi 1)).run.fst = st.1
  | [], st, h => rfl
  | a :: l, st, h => by
    rw [List.forIn_cons]
    have hn : ¬ (((st.fst.size < 1 ∧ st.snd ≤ a) ∧ a + sub.length ≤ hi) ∧ subAt s sub a = true) := fun q => by omega
    unfold occBody
    rw [if_neg hn]
    exact occ_full s sub hi l (st.fst, st.snd) h
theorem occ_first (x : Str) (c : Nat) : ∀ (l : List Nat) (free : Nat), (∀ i ∈ l, free ≤ i) →
    (forIn l ((#[] : Array Nat), free) (occBody x ⟨#[c]⟩ x.length 1)).run.fst.toList = ((l.find? fun i => decide (x.cps.toList[i]? = some c)).map fun i => [i]).getD []
  | [], free, _ => rfl
  | a :: l, free, hf => by
    have ha : free ≤ a := hf a (List.mem_cons_self ..)
    rw [List.forIn_cons]
    by_cases hc : x.cps.toList[a]? = some c
    · have h2 := (subAt_one x c a).mpr hc
      unfold occBody
      rw [if_pos ⟨⟨⟨by simp, ha⟩, h2.1⟩, h2.2⟩]
      have hq := occ_full x ⟨#[c]⟩ x.length l (#[a], a + (⟨#[c]⟩ : Str).length) rfl
      rw [List.find?_cons, decide_eq_true hc]
      exact congrArg Array.toList hq
    · have h2 : ¬ (a + (⟨#[c]⟩ : Str).length ≤ x.length ∧ subAt x ⟨#[c]⟩ a = true) := fun z => hc ((subAt_one x c a).mp z)
      unfold occBody
      rw [if_neg fun z => h2 ⟨z.1.2, z.2⟩, List.find?_cons, decide_eq_false hc]
      exact occ_first x c l free fun i hi => hf i (List.mem_cons_of_mem _ hi)
/-- the first place of a sign -/
def firstIx (c : Nat) : List Nat → Nat
  | [] => 0
  | x :: xs => if x = c then 0 else firstIx c xs + 1
theorem firstIx_at {c : Nat} : ∀ {l : List Nat}, c ∈ l → l[firstIx c l]? = some c ∧ ∀ j, j < firstIx c l → l[j]? ≠ some c
  | [], h => by cases h
  | x :: xs, h => by
    unfold firstIx
    by_cases q : x = c
    · rw [if_pos q]; exact ⟨by simp [q], fun j hj => by omega⟩
    · rw [if_neg q]
      have hm : c ∈ xs := (List.mem_cons.mp h).resolve_left fun z => q z.symm
      obtain ⟨h1, h2⟩ := firstIx_at hm
      refine ⟨by rw [List.getElem?_cons_succ]; exact h1, fun j hj => ?_⟩
      cases j with
      | zero => simpa using q
      | succ j => rw [List.getElem?_cons_succ]; exact h2 j (by omega)
theorem firstIx_app {c : Nat} : ∀ {l : List Nat} (r : List Nat), c ∈ l → firstIx c (l ++ r) = firstIx c l
  | [], _, h => by cases h
  | x :: xs, r, h => by
    rw [List.cons_append]
    unfold firstIx
    by_cases q : x = c
    · rw [if_pos q, if_pos q]
    · rw [if_neg q, if_neg q, firstIx_app r ((List.mem_cons.mp h).resolve_left fun z => q z.symm)]
theorem occ_one (x : Str) (c : Nat) (h : c ∈ x.cps.toList) : occurrences x ⟨#[c]⟩ 0 x.length 1 = [firstIx c x.cps.toList] := by
  rw [occ_eq, occ_first x c _ 0 fun _ _ => Nat.zero_le _]
  obtain ⟨h1, h2⟩ := firstIx_at h
  have hl := (List.getElem?_eq_some_iff.mp h1).1
  have hr : List.range' 0 (x.length + 1 - 0) = List.range (x.length + 1) := by rw [List.range_eq_range']; rfl
  have : (List.range (x.length + 1)).find? (fun i => decide (x.cps.toList[i]? = some c)) = some (firstIx c x.cps.toList) := by
    rw [List.find?_range_eq_some]
    refine ⟨decide_eq_true h1, by
      have : x.length = x.cps.toList.length := by simp [Str.length]
      simp only [List.mem_range]; omega, fun j hj => ?_⟩
    simp only [Bool.not_eq_eq_eq_not, Bool.not_true, decide_eq_false_iff_not]
    exact h2 j hj
  rw [hr, this]; rfl
end

def chS (c : Nat) : Str := ⟨#[c]⟩
structure Fare where
  slots : Int
  peak : List Int
  kinds : List (Nat × Int × Int)
  tr : Option (Int × Int)
  cap : Option Int
  bo : Option Int
def Fare.letters (F : Fare) : List Nat := F.kinds.map (·.1) ++ [46]
def kindW (k : Nat × Int × Int) : W := .tup [.str (chS k.1), .int k.2.1, .int k.2.2]
structure FareW (F : Fare) (w : W) : Prop where
  pos : 0 < F.slots
  pb : ∀ m, F.bo = some m → 0 < m
  nodot : 46 ∉ F.kinds.map (·.1)
  ex : ∃ ns fs ks vs, w = .obj "System" ns fs ∧ fld "slots" ns fs = some (.int F.slots) ∧ fld "peak" ns fs = some (.tup (F.peak.map W.int)) ∧ fld "kinds" ns fs = some (.tup (F.kinds.map kindW)) ∧ fld "rules" ns fs = some (.dic ks vs) ∧ fld "letters" ns fs = some (.str ⟨F.letters.toArray⟩) ∧
    dGet ks vs (.inr "transfer") = F.tr.map (fun t => .tup [.int t.1, .int t.2]) ∧ dGet ks vs (.inr "cap") = F.cap.map (fun t => .tup [.int t]) ∧ dGet ks vs (.inr "bonus") = F.bo.map (fun t => .tup [.int t]) ∧
    ns.contains "step" = false ∧ ns.contains "base_price" = false ∧ ns.contains "after_point" = false ∧ ns.contains "costs" = false ∧ ns.contains "cost" = false
structure FState where
  slot : Int
  left : Int
  paid : Int
  count : Int
def FState.w (s : FState) : W := .tup [.int s.slot, .int s.left, .int s.paid, .int s.count]
def Fare.price (F : Fare) (slot : Int) (c : Nat) : Int := match F.kinds[firstIx c F.letters]? with
  | some k => if slot ∈ F.peak then k.2.2 else k.2.1
  | none => 0
def Fare.after (F : Fare) (s : FState) : FState := ⟨(s.slot + 1) % F.slots, if s.left - 1 > 0 then s.left - 1 else 0, if (s.slot + 1) % F.slots > 0 then s.paid else 0, s.count⟩
def imin (a b : Int) : Int := if b < a then b else a
/-- the time left, the count and the cost before the cap -/
def Fare.ride (F : Fare) (s : FState) (p : Int) : Int × Int × Int :=
  if s.left > 0 then (s.left, s.count, match F.tr with | some t => imin p t.2 | none => p)
  else (match F.tr with | some t => t.1 + 1 | none => 0, match F.bo with | some m => (s.count + 1) % m | none => s.count, match F.bo with | some m => if (s.count + 1) % m = 0 then 0 else p | none => p)
def Fare.capped (F : Fare) (s : FState) (r : Int × Int × Int) : FState × Int := match F.cap with
  | some cp => (⟨s.slot, r.1, s.paid + imin r.2.2 (cp - s.paid), r.2.1⟩, imin r.2.2 (cp - s.paid))
  | none => (⟨s.slot, r.1, s.paid, r.2.1⟩, r.2.2)
def Fare.step (F : Fare) (s : FState) (c : Nat) : FState × Int := if c = 46 then (F.after s, 0) else F.capped s (F.ride s (F.price s.slot c))

theorem iff_T [Decidable True] {α : Type} {r : R α} : iff True r = r := if_pos trivial
theorem at0 {α : Type} {x : α} {r : List α} : atI (x :: r) 0 = some x := by unfold atI ixN; simp
theorem at1 {α : Type} {x y : α} {r : List α} : atI (x :: y :: r) 1 = some y := by
  have : ixN (x :: y :: r).length 1 = some 1 := by
    unfold ixN
    rw [if_pos (by omega), if_pos (by simp; omega)]; rfl
  unfold atI; rw [this]; rfl
theorem at2 {α : Type} {x y z : α} {r : List α} : atI (x :: y :: z :: r) 2 = some z := by
  have : ixN (x :: y :: z :: r).length 2 = some 2 := by
    unfold ixN
    rw [if_pos (by omega), if_pos (by simp; omega)]; rfl
  unfold atI; rw [this]; rfl
section
variable {F : Fare} {w : W} {s : FState} {c : Nat}
theorem after_eq (S : FareW F w) : g_System_after_point [w, s.w] = .ok (.sh (F.after s).w) := by
  obtain ⟨ns, fs, ks, vs, rfl, h1, _⟩ := S.ex
  have h := S.pos
  unfold g_System_after_point m_System_after_point FState.w Fare.after
  by_cases q : 0 < (s.slot + 1) % F.slots
  · trivial
  · trivial
theorem inF_int (i : Int) : ∀ l : List Int, inF (.int i) (l.map W.int) = decide (i ∈ l)
  | [] => rfl
  | x :: xs => by
    have ih := inF_int i xs
    unfold inF at ih ⊢
    rw [List.map_cons, List.any_cons, ih]
    by_cases q : x = i
    · subst q; simp [eqF]
    · have : ¬ i = x := fun z => q z.symm
      simp [eqF, q, this]
theorem flat_ints : ∀ l : List Int, (l.map W.int).all flatW = true
  | [] => rfl
  | x :: xs => by rw [List.map_cons, List.all_cons, flat_ints xs]; rfl
theorem price_eq (S : FareW F w) {slot : Int} (hc : c ∈ F.kinds.map (·.1)) : g_System_base_price [w, .int slot, .str (chS c)] = .ok (.sh (.int (F.price slot c))) := by
  obtain ⟨ns, fs, ks, vs, rfl, h1, h2, h3, h4, h5, _⟩ := S.ex
  have hl : c ∈ F.letters := List.mem_append_left _ hc
  have hi : firstIx c F.letters < F.kinds.length := by
    unfold Fare.letters
    rw [firstIx_app _ hc]
    have := (List.getElem?_eq_some_iff.mp (firstIx_at hc).1).1
    simpa using this
  have ho : Builtin.Str.occurrences ⟨F.letters.toArray⟩ (chS c) 0 (Str.length ⟨F.letters.toArray⟩) 1 = [firstIx c F.letters] := by
    have := occ_one ⟨F.letters.toArray⟩ c (by simpa using hl)
    simpa [chS] using this
  have hk : F.kinds[firstIx c F.letters]? = some F.kinds[firstIx c F.letters] := by simp [hi]
  unfold g_System_base_price m_System_base_price Fare.price
  rw [hk]
  have hx : ixN F.kinds.length ((firstIx c F.letters : Nat) : Int) = some (firstIx c F.letters) := by
    unfold ixN
    rw [if_pos (by omega), if_pos (by omega)]; simp
  have hy : atI (F.kinds.map kindW) ((firstIx c F.letters : Nat) : Int) = some (kindW F.kinds[firstIx c F.letters]) := by
    unfold atI
    rw [List.length_map, hx]
    simp [hi]
  have e1 := inF_int slot F.peak
  have e2 := flat_ints F.peak
  generalize F.kinds[firstIx c F.letters] = kk at hy
  have a1 : atI [W.str (chS kk.1), .int kk.2.1, .int kk.2.2] 2 = some (.int kk.2.2) := rfl
  have a2 : atI [W.str (chS kk.1), .int kk.2.1, .int kk.2.2] 1 = some (.int kk.2.1) := rfl
  by_cases q : slot ∈ F.peak
  · simp [mBody, mSeq, mSet, mRet, mIfE, mTc, mBin, m2, m1, mUn, mName, mC, shr, rd, Rs.sv, mM1, ofO, iff, fin, fFld, fIndex, ho, h1, h2, h3, h5, fInA, fIn, fIxA, fIx, hy, e1, flatW, q, kindW, a1, a2]
  · simp [mBody, mSeq, mSet, mRet, mIfE, mTc, mBin, m2, m1, mUn, mName, mC, shr, rd, Rs.sv, mM1, ofO, iff, fin, fFld, fIndex, ho, h1, h2, h3, h5, fInA, fIn, fIxA, fIx, hy, e1, flatW, q, kindW, a1, a2]
theorem dot_ch : (Str.ofString "." : Str) = chS 46 := by decide +kernel
theorem ch_inj {a b : Nat} : chS a = chS b ↔ a = b := ⟨fun h => by simpa [chS] using h, fun h => by rw [h]⟩
local macro_rules | `(tactic| trivial) => `(tactic| simp only [R.bind_ok, R.bind_bad, R.bind_exn, ap_body, ap_seq, ap_nil, ap_if, ap_expr, ap_ret, ap_retN, ap_set, ap_asg, ap_tup, ap_tname, ap_tnil, ap_tcons, ap_c, ap_name, ap_un, ap_m1, ap_bin, ap_m2, ap_sh, ap_mtup, ap_mlst, ap_nila, ap_consa, ap_tc, ap_tru, ap_and, ap_or, ap_not, ap_ife, ap_call, ap_meth, ap_m1s, ap_for, ap_iter, ap_aug, ap_mut, ap_put, ap_par2, ap_par3, ap_nilo, ap_conso, ap_own, ap_calli, ap_bodyi, ap_enum, ap_cls, ap_loop0, ap_loop1, ap_while, ap_fld, ap_ofs, ix_dic, ix_tup, ix_lst, getK_s, in_dic, rd_sh, rd_fr, rd_nm, shr_sh, shr_fr, shr_nm, sv_sh, sv_fr, sv_nm, fin_sh, fin_fr, fin_nm, ii_add, ii_sub, ii_iadd, ii_mod, ii_div, ii_gt, ii_lt, ii_min, ii_max, ii_eq, ss_eq, ss_ne, ii_ne, bodyC, seqC, ifC, exprC, retC, setD, setC, asgD, asgC, tconsC, pairC, pairW, unC, m1C, binC, m2F, m2E, m2D, m2C, shC, mtupC, mlstC, consD, consC, tcC, truD, truC, andC, orC, notC, ifeC, callC, methD, methC, m1sD, m1sC, forC, iterD, iterC, augE, augD, augC, mutE, mutD, mutC, mutB, putF2, putE2, putD2, putC2, putB2, par2C, par3C, consoD, consoC, ownD, ownC, calliE, calliD, calliC, calliB, bodyiD, bodyiE, bodyiC, enumC, clsC, loopD, loopC, whileD, whileC, ixS, nameC, rdC, shrC, finC, List.getElem?_cons_zero, List.getElem?_cons_succ, List.set_cons_zero, List.set_cons_succ, List.map_cons, List.map_nil, List.cons_append, List.nil_append, List.replicate_succ, List.replicate_zero, List.length_cons, List.length_nil, at0, at1, at2, iff_pos, fAppend, slO, items, ch_inj, dot_ch, decide_true, decide_false, Bool.not_true, Bool.not_false, if_true, if_false, Option.isSome_some, Option.isSome_none, Option.map_some, Option.map_none, Bool.false_eq_true, Nat.reduceLeDiff, and_self, and_true, true_and, iff_T, line, Fare.ride, Fare.capped, imin, FState.w, gt_iff_lt, *])
theorem step_eq (S : FareW F w) (hc : c ∈ F.letters) (hL : 0 < s.left → F.tr.isSome = true) : g_System_step [w, s.w, .str (chS c)] = .ok (.sh (.tup [(F.step s c).1.w, .int (F.step s c).2])) := by
  have hA := after_eq (s := s) S
  by_cases hd : c = 46
  · subst hd
    obtain ⟨ns, fs, ks, vs, rfl, h1, h2, h3, h4, h5, h6, h7, h8, n1, n2, n3, n4, n5⟩ := S.ex
    unfold g_System_step m_System_step Fare.step
    simp only [FState.w] at hA ⊢
    trivial
  · have hk : c ∈ F.kinds.map (·.1) := (List.mem_append.mp hc).resolve_right fun z => hd (by simpa using z)
    have hp := price_eq (slot := s.slot) S hk
    obtain ⟨ns, fs, ks, vs, rfl, h1, h2, h3, h4, h5, h6, h7, h8, n1, n2, n3, n4, n5⟩ := S.ex
    have hb := S.pb
    unfold g_System_step m_System_step Fare.step
    rw [if_neg hd]
    generalize F.price s.slot c = pp at hp
    obtain ⟨sl, lf, pd, ct⟩ := s
    simp only [FState.w] at hp hA ⊢
    cases e1 : F.tr with
    | none =>
      have hl : ¬ 0 < lf := fun z => by have := hL z; rw [e1] at this; cases this
      cases e2 : F.bo with
      | none =>
        cases e3 : F.cap with
        | none =>
          simp only [e1, e2, e3, Option.map_none] at h6 h7 h8
          trivial
        | some cp =>
          simp only [e1, e2, e3, Option.map_none, Option.map_some] at h6 h7 h8
          trivial
      | some m =>
        have hm := hb m e2
        by_cases hz : (ct + 1) % m = 0 <;> cases e3 : F.cap with
        | none =>
          simp only [e1, e2, e3, Option.map_none, Option.map_some] at h6 h7 h8
          trivial
        | some cp =>
          simp only [e1, e2, e3, Option.map_none, Option.map_some] at h6 h7 h8
          trivial
    | some t =>
      by_cases hl : 0 < lf
      · cases e3 : F.cap with
        | none =>
          simp only [e1, e3, Option.map_none, Option.map_some] at h6 h7 h8
          trivial
        | some cp =>
          simp only [e1, e3, Option.map_none, Option.map_some] at h6 h7 h8
          trivial
      · cases e2 : F.bo with
        | none =>
          cases e3 : F.cap with
          | none =>
            simp only [e1, e2, e3, Option.map_none, Option.map_some] at h6 h7 h8
            trivial
          | some cp =>
            simp only [e1, e2, e3, Option.map_none, Option.map_some] at h6 h7 h8
            trivial
        | some m =>
          have hm := hb m e2
          by_cases hz : (ct + 1) % m = 0 <;> cases e3 : F.cap with
          | none =>
            simp only [e1, e2, e3, Option.map_none, Option.map_some] at h6 h7 h8
            trivial
          | some cp =>
            simp only [e1, e2, e3, Option.map_none, Option.map_some] at h6 h7 h8
            trivial
end
end WL
end F_PL

section F_PC
/-! PC: what a history costs; the draws. -/
namespace WL
open PySem L2
local macro_rules | `(tactic| trivial) => `(tactic| simp only [R.bind_ok, R.bind_bad, R.bind_exn, ap_body, ap_seq, ap_nil, ap_if, ap_expr, ap_ret, ap_retN, ap_set, ap_asg, ap_tup, ap_tname, ap_tnil, ap_tcons, ap_c, ap_name, ap_un, ap_m1, ap_bin, ap_m2, ap_sh, ap_mtup, ap_mlst, ap_nila, ap_consa, ap_tc, ap_tru, ap_and, ap_or, ap_not, ap_ife, ap_call, ap_meth, ap_m1s, ap_for, ap_iter, ap_aug, ap_mut, ap_put, ap_par2, ap_par3, ap_nilo, ap_conso, ap_own, ap_calli, ap_bodyi, ap_enum, ap_cls, ap_loop0, ap_loop1, ap_while, ap_fld, ap_ofs, ix_dic, ix_tup, ix_lst, getK_s, in_dic, rd_sh, rd_fr, rd_nm, shr_sh, shr_fr, shr_nm, sv_sh, sv_fr, sv_nm, fin_sh, fin_fr, fin_nm, ii_add, ii_sub, ii_iadd, ii_mod, ii_div, ii_gt, ii_lt, ii_min, ii_max, ii_eq, ss_eq, ss_ne, ii_ne, bodyC, seqC, ifC, exprC, retC, setD, setC, asgD, asgC, tconsC, pairC, pairW, unC, m1C, binC, m2F, m2E, m2D, m2C, shC, mtupC, mlstC, consD, consC, tcC, truD, truC, andC, orC, notC, ifeC, callC, methD, methC, m1sD, m1sC, forC, iterD, iterC, augE, augD, augC, mutE, mutD, mutC, mutB, putF2, putE2, putD2, putC2, putB2, par2C, par3C, consoD, consoC, ownD, ownC, calliE, calliD, calliC, calliB, bodyiD, bodyiE, bodyiC, enumC, clsC, loopD, loopC, whileD, whileC, ixS, nameC, rdC, shrC, finC, List.getElem?_cons_zero, List.getElem?_cons_succ, List.set_cons_zero, List.set_cons_succ, List.map_cons, List.map_nil, List.cons_append, List.nil_append, List.replicate_succ, List.replicate_zero, List.length_cons, List.length_nil, at0, at1, at2, iff_pos, fAppend, slO, items, ch_inj, dot_ch, decide_true, decide_false, Bool.not_true, Bool.not_false, if_true, if_false, Option.isSome_some, Option.isSome_none, Option.map_some, Option.map_none, Bool.false_eq_true, Nat.reduceLeDiff, and_self, and_true, true_and, iff_T, line, gt_iff_lt, *])
def Fare.run (F : Fare) (s : FState) : List Nat → List Int × FState
  | [] => ([], s)
  | c :: cs => ((F.step s c).2 :: (F.run (F.step s c).1 cs).1, (F.run (F.step s c).1 cs).2)
def st0 : FState := ⟨0, 0, 0, 0⟩
def Fare.costs (F : Fare) (h : List Nat) : List Int := (F.run st0 h).1
def Good (F : Fare) (s : FState) : Prop := 0 < s.left → F.tr.isSome = true
theorem good_step {F : Fare} {s : FState} (h : Good F s) (c : Nat) : Good F (F.step s c).1 := by
  unfold Fare.step
  split
  · intro z
    unfold Fare.after at z
    simp only at z
    split at z
    · exact h (by omega)
    · omega
  · intro z
    have key : ∀ p, 0 < (F.ride s p).1 → F.tr.isSome = true := fun p z => by
      unfold Fare.ride at z
      split at z
      · rename_i q; exact h q
      · cases e : F.tr with
        | none => rw [e] at z; simp at z
        | some t => rfl
    unfold Fare.capped at z
    cases e : F.cap with
    | none => rw [e] at z; exact key _ z
    | some cp => rw [e] at z; exact key _ z
theorem run_len (F : Fare) : ∀ (h : List Nat) (s : FState), (F.run s h).1.length = h.length
  | [], s => rfl
  | c :: cs, s => by rw [Fare.run, List.length_cons, List.length_cons, run_len F cs]
theorem nin_s {x y : Str} : fNotInA (.str x) (.str y) = .ok (.sh (.bl (!strIn x y))) := rfl
theorem in_s {x y : Str} : fInA (.str x) (.str y) = .ok (.sh (.bl (strIn x y))) := rfl
theorem strIn_ch {c : Nat} {l : List Nat} : strIn (chS c) ⟨l.toArray⟩ = decide (c ∈ l) := by
  unfold strIn chS; simp
section
variable {F : Fare} {w : W}
theorem costs_a (S : FareW F w) {hW : W} : ∀ (l : List Nat) (k : Nat) (s2 s3 s4 s5 s6 : Sl), (∀ c ∈ l, c ∈ F.letters) → ∃ s2' s3',
    mLoop (tTup 2 (tCons (tName 2) (tCons (tName 3) tNil))) (mIf (mTc (mBin fNotInA (mName 3) (mUn (fFld "System" "letters") (mName 0)))) (fun _ => .bad) mNil) ((enumF k (l.map fun n => W.str (chS n))).map W.tup) [.sh w, .sh hW, s2, s3, s4, s5, s6] =
      .ok (.nx, [.sh w, .sh hW, s2', s3', s4, s5, s6])
  | [], k, s2, s3, s4, s5, s6, _ => ⟨s2, s3, rfl⟩
  | c :: l, k, s2, s3, s4, s5, s6, h => by
    obtain ⟨a, b, ih⟩ := costs_a S (hW := hW) l (k + 1) (.sh (.int (k : Int))) (.sh (.str (chS c))) s4 s5 s6 fun c' hc' => h c' (List.mem_cons_of_mem _ hc')
    obtain ⟨ns, fs, ks, vs, rfl, h1, h2, h3, h4, h5, h6, h7, h8, n1, n2, n3, n4, n5⟩ := S.ex
    refine ⟨a, b, ?_⟩
    have hc := h c (List.mem_cons_self ..)
    have hn := strIn_ch (c := c) (l := F.letters)
    rw [decide_eq_true hc] at hn
    simp only [List.map_cons, enumF]
    simp only [nin_s, R.bind_ok, R.bind_bad, R.bind_exn, ap_body, ap_seq, ap_nil, ap_if, ap_expr, ap_ret, ap_retN, ap_set, ap_asg, ap_tup, ap_tname, ap_tnil, ap_tcons, ap_c, ap_name, ap_un, ap_m1, ap_bin, ap_m2, ap_sh, ap_mtup, ap_mlst, ap_nila, ap_consa, ap_tc, ap_tru, ap_and, ap_or, ap_not, ap_ife, ap_call, ap_meth, ap_m1s, ap_for, ap_iter, ap_aug, ap_mut, ap_put, ap_par2, ap_par3, ap_nilo, ap_conso, ap_own, ap_calli, ap_bodyi, ap_enum, ap_cls, ap_loop0, ap_loop1, ap_while, ap_fld, ap_ofs, ix_dic, ix_tup, ix_lst, getK_s, in_dic, rd_sh, rd_fr, rd_nm, shr_sh, shr_fr, shr_nm, sv_sh, sv_fr, sv_nm, fin_sh, fin_fr, fin_nm, ii_add, ii_sub, ii_iadd, ii_mod, ii_div, ii_gt, ii_lt, ii_min, ii_max, ii_eq, ss_eq, ss_ne, ii_ne, bodyC, seqC, ifC, exprC, retC, setD, setC, asgD, asgC, tconsC, pairC, pairW, unC, m1C, binC, m2F, m2E, m2D, m2C, shC, mtupC, mlstC, consD, consC, tcC, truD, truC, andC, orC, notC, ifeC, callC, methD, methC, m1sD, m1sC, forC, iterD, iterC, augE, augD, augC, mutE, mutD, mutC, mutB, putF2, putE2, putD2, putC2, putB2, par2C, par3C, consoD, consoC, ownD, ownC, calliE, calliD, calliC, calliB, bodyiD, bodyiE, bodyiC, enumC, clsC, loopD, loopC, whileD, whileC, ixS, nameC, rdC, shrC, finC, List.getElem?_cons_zero, List.getElem?_cons_succ, List.set_cons_zero, List.set_cons_succ, List.map_cons, List.map_nil, List.cons_append, List.nil_append, List.replicate_succ, List.replicate_zero, List.length_cons, List.length_nil, iff_T, and_self, h5, hn, Bool.not_true, ih]
theorem costs_b (S : FareW F w) {hW : W} : ∀ (l : List Nat) (s : FState) (acc : List W) (s2 s3 s6 : Sl), (∀ c ∈ l, c ∈ F.letters) → Good F s → acc.length + l.length ≤ line → ∃ s3' s6',
    mLoop (tName 3) (mSeq (mAsg (mMeth "System" "step" g_System_step (mName 0) (mConsA (mName 5) (mConsA (mName 3) mNilA))) (tTup 2 (tCons (tName 5) (tCons (tName 6) tNil)))) (mExpr (mMut fAppend 4 (mConsA (mName 6) mNilA)))) (l.map fun n => W.str (chS n))
      [.sh w, .sh hW, s2, s3, .ow false (.lst acc), .sh s.w, s6] = .ok (.nx, [.sh w, .sh hW, s2, s3', .ow false (.lst (acc ++ (F.run s l).1.map W.int)), .sh (F.run s l).2.w, s6'])
  | [], s, acc, s2, s3, s6, _, _, _ => ⟨s3, s6, by simp [ap_loop0, Fare.run]⟩
  | c :: l, s, acc, s2, s3, s6, h, g, hl => by
    have hs := step_eq (s := s) S (h c (List.mem_cons_self ..)) g
    rw [List.length_cons] at hl
    obtain ⟨a, b, ih⟩ := costs_b S (hW := hW) l (F.step s c).1 (acc ++ [.int (F.step s c).2]) s2 (.sh (.str (chS c))) (.sh (.int (F.step s c).2)) (fun c' hc' => h c' (List.mem_cons_of_mem _ hc')) (good_step g c) (by simp; omega)
    obtain ⟨ns, fs, ks, vs, rfl, h1, h2, h3, h4, h5, h6, h7, h8, n1, n2, n3, n4, n5⟩ := S.ex
    refine ⟨a, b, ?_⟩
    have hlt : acc.length < 16777216 := by have : line = 16777216 := rfl; omega
    rw [Fare.run]
    simp only [List.map_cons, List.append_assoc, List.cons_append, List.nil_append] at ih ⊢
    rw [← ih]
    simp only [R.bind_ok, R.bind_bad, R.bind_exn, ap_body, ap_seq, ap_nil, ap_if, ap_expr, ap_ret, ap_retN, ap_set, ap_asg, ap_tup, ap_tname, ap_tnil, ap_tcons, ap_c, ap_name, ap_un, ap_m1, ap_bin, ap_m2, ap_sh, ap_mtup, ap_mlst, ap_nila, ap_consa, ap_tc, ap_tru, ap_and, ap_or, ap_not, ap_ife, ap_call, ap_meth, ap_m1s, ap_for, ap_iter, ap_aug, ap_mut, ap_put, ap_par2, ap_par3, ap_nilo, ap_conso, ap_own, ap_calli, ap_bodyi, ap_enum, ap_cls, ap_loop0, ap_loop1, ap_while, ap_fld, ap_ofs, ix_dic, ix_tup, ix_lst, getK_s, in_dic, rd_sh, rd_fr, rd_nm, shr_sh, shr_fr, shr_nm, sv_sh, sv_fr, sv_nm, fin_sh, fin_fr, fin_nm, ii_add, ii_sub, ii_iadd, ii_mod, ii_div, ii_gt, ii_lt, ii_min, ii_max, ii_eq, ss_eq, ss_ne, ii_ne, bodyC, seqC, ifC, exprC, retC, setD, setC, asgD, asgC, tconsC, pairC, pairW, unC, m1C, binC, m2F, m2E, m2D, m2C, shC, mtupC, mlstC, consD, consC, tcC, truD, truC, andC, orC, notC, ifeC, callC, methD, methC, m1sD, m1sC, forC, iterD, iterC, augE, augD, augC, mutE, mutD, mutC, mutB, putF2, putE2, putD2, putC2, putB2, par2C, par3C, consoD, consoC, ownD, ownC, calliE, calliD, calliC, calliB, bodyiD, bodyiE, bodyiC, enumC, clsC, loopD, loopC, whileD, whileC, ixS, nameC, rdC, shrC, finC, List.getElem?_cons_zero, List.getElem?_cons_succ, List.set_cons_zero, List.set_cons_succ, List.map_cons, List.map_nil, List.cons_append, List.nil_append, List.replicate_succ, List.replicate_zero, List.length_cons, List.length_nil, iff_T, and_self, hs, n1, fAppend, hlt, if_true, line]
theorem costs_eq (S : FareW F w) {h : List Nat} (hh : ∀ c ∈ h, c ∈ F.letters) (hl : h.length ≤ line) : g_System_costs [w, .str ⟨h.toArray⟩] = .ok (.fr (.lst ((F.costs h).map W.int))) := by
  unfold g_System_costs m_System_costs
  obtain ⟨a1, b1, e1⟩ := costs_a S (hW := .str ⟨h.toArray⟩) h 0 .un .un .un .un .un hh
  obtain ⟨a2, b2, e2⟩ := costs_b S (hW := .str ⟨h.toArray⟩) h st0 [] a1 b1 .un hh (fun z => absurd z (by decide)) (by simpa using hl)
  have hn : c_NEW = st0.w := rfl
  have en : (List.map (fun n => W.str { cps := #[n] }) h) = h.map fun n => W.str (chS n) := rfl
  simp only [R.bind_ok, R.bind_bad, R.bind_exn, ap_body, ap_seq, ap_nil, ap_if, ap_expr, ap_ret, ap_retN, ap_set, ap_asg, ap_tup, ap_tname, ap_tnil, ap_tcons, ap_c, ap_name, ap_un, ap_m1, ap_bin, ap_m2, ap_sh, ap_mtup, ap_mlst, ap_nila, ap_consa, ap_tc, ap_tru, ap_and, ap_or, ap_not, ap_ife, ap_call, ap_meth, ap_m1s, ap_for, ap_iter, ap_aug, ap_mut, ap_put, ap_par2, ap_par3, ap_nilo, ap_conso, ap_own, ap_calli, ap_bodyi, ap_enum, ap_cls, ap_loop0, ap_loop1, ap_while, ap_fld, ap_ofs, ix_dic, ix_tup, ix_lst, getK_s, in_dic, rd_sh, rd_fr, rd_nm, shr_sh, shr_fr, shr_nm, sv_sh, sv_fr, sv_nm, fin_sh, fin_fr, fin_nm, ii_add, ii_sub, ii_iadd, ii_mod, ii_div, ii_gt, ii_lt, ii_min, ii_max, ii_eq, ss_eq, ss_ne, ii_ne, bodyC, seqC, ifC, exprC, retC, setD, setC, asgD, asgC, tconsC, pairC, pairW, unC, m1C, binC, m2F, m2E, m2D, m2C, shC, mtupC, mlstC, consD, consC, tcC, truD, truC, andC, orC, notC, ifeC, callC, methD, methC, m1sD, m1sC, forC, iterD, iterC, augE, augD, augC, mutE, mutD, mutC, mutB, putF2, putE2, putD2, putC2, putB2, par2C, par3C, consoD, consoC, ownD, ownC, calliE, calliD, calliC, calliB, bodyiD, bodyiE, bodyiC, enumC, clsC, loopD, loopC, whileD, whileC, ixS, nameC, rdC, shrC, finC, List.getElem?_cons_zero, List.getElem?_cons_succ, List.set_cons_zero, List.set_cons_succ, List.map_cons, List.map_nil, List.cons_append, List.nil_append, List.replicate_succ, List.replicate_zero, List.length_cons, List.length_nil, slO, items, en, e1, hn, e2, iff_T, List.length_nil, Nat.zero_le, line]
  rfl
theorem cost_eq (S : FareW F w) {h : List Nat} (hh : ∀ c ∈ h, c ∈ F.letters) (hl : h.length ≤ line) : g_System_cost [w, .str ⟨h.toArray⟩] = .ok (.sh (.int (F.costs h).sum)) := by
  have hc := costs_eq S hh hl
  obtain ⟨ns, fs, ks, vs, rfl, h1, h2, h3, h4, h5, h6, h7, h8, n1, n2, n3, n4, n5⟩ := S.ex
  unfold g_System_cost m_System_cost
  simp only [R.bind_ok, R.bind_bad, R.bind_exn, ap_body, ap_seq, ap_nil, ap_if, ap_expr, ap_ret, ap_retN, ap_set, ap_asg, ap_tup, ap_tname, ap_tnil, ap_tcons, ap_c, ap_name, ap_un, ap_m1, ap_bin, ap_m2, ap_sh, ap_mtup, ap_mlst, ap_nila, ap_consa, ap_tc, ap_tru, ap_and, ap_or, ap_not, ap_ife, ap_call, ap_meth, ap_m1s, ap_for, ap_iter, ap_aug, ap_mut, ap_put, ap_par2, ap_par3, ap_nilo, ap_conso, ap_own, ap_calli, ap_bodyi, ap_enum, ap_cls, ap_loop0, ap_loop1, ap_while, ap_fld, ap_ofs, ix_dic, ix_tup, ix_lst, getK_s, in_dic, rd_sh, rd_fr, rd_nm, shr_sh, shr_fr, shr_nm, sv_sh, sv_fr, sv_nm, fin_sh, fin_fr, fin_nm, ii_add, ii_sub, ii_iadd, ii_mod, ii_div, ii_gt, ii_lt, ii_min, ii_max, ii_eq, ss_eq, ss_ne, ii_ne, bodyC, seqC, ifC, exprC, retC, setD, setC, asgD, asgC, tconsC, pairC, pairW, unC, m1C, binC, m2F, m2E, m2D, m2C, shC, mtupC, mlstC, consD, consC, tcC, truD, truC, andC, orC, notC, ifeC, callC, methD, methC, m1sD, m1sC, forC, iterD, iterC, augE, augD, augC, mutE, mutD, mutC, mutB, putF2, putE2, putD2, putC2, putB2, par2C, par3C, consoD, consoC, ownD, ownC, calliE, calliD, calliC, calliB, bodyiD, bodyiE, bodyiC, enumC, clsC, loopD, loopC, whileD, whileC, ixS, nameC, rdC, shrC, finC, List.getElem?_cons_zero, List.getElem?_cons_succ, List.set_cons_zero, List.set_cons_succ, List.map_cons, List.map_nil, List.cons_append, List.nil_append, List.replicate_succ, List.replicate_zero, List.length_cons, List.length_nil, hc, n4, iff_T, and_self, fSum, intsOf_map]
end
/-! ### the draws -/
theorem ii_mul {i j : Int} : fMul (.int i) (.int j) = iff ((-(2 ^ 64) < i ∧ i < 2 ^ 64) ∨ (-(2 ^ 64) < j ∧ j < 2 ^ 64)) (.ok (.sh (.int (i * j)))) := rfl
theorem put2_0 {x y v : W} : fPut (.lst [x, y]) (.int 0) v = .ok (.lst [v, y]) := rfl
theorem put2_1 {x y v : W} : fPut (.lst [x, y]) (.int 1) v = .ok (.lst [x, v]) := rfl
def draw (a b n : Int) : Int × Int × Int := if 0 < a then (a % n, a / n, b) else ((b * 6364136223846793005 + 1442695040888963407) % 2305843009213693951 / 65536 % n, a, (b * 6364136223846793005 + 1442695040888963407) % 2305843009213693951)
theorem take_eq {a b n : Int} (h1 : 0 < n) (h2 : n < 1073741824) : g_u_law_take (.lst [.int a, .int b]) [.int n] = .ok (.sh (.int (draw a b n).1), .lst [.int (draw a b n).2.1, .int (draw a b n).2.2]) := by
  unfold g_u_law_take m_u_law_take draw
  have x0 : ixN [W.int a, W.int b].length 0 = some 0 := rfl
  have x1 : ixN [W.int a, W.int b].length 1 = some 1 := rfl
  have c1 : ((-(2 ^ 64) < b ∧ b < 2 ^ 64) ∨ (-(2 ^ 64) < (6364136223846793005 : Int) ∧ (6364136223846793005 : Int) < 2 ^ 64)) = True := by simp
  have c2 : (0 < (65536 : Int) ∧ (65536 : Int) < 1073741824) = True := by simp
  have c3 : (0 < (2305843009213693951 : Int)) = True := by simp
  by_cases q : 0 < a
  · simp only [R.bind_ok, R.bind_bad, R.bind_exn, ap_body, ap_seq, ap_nil, ap_if, ap_expr, ap_ret, ap_retN, ap_set, ap_asg, ap_tup, ap_tname, ap_tnil, ap_tcons, ap_c, ap_name, ap_un, ap_m1, ap_bin, ap_m2, ap_sh, ap_mtup, ap_mlst, ap_nila, ap_consa, ap_tc, ap_tru, ap_and, ap_or, ap_not, ap_ife, ap_call, ap_meth, ap_m1s, ap_for, ap_iter, ap_aug, ap_mut, ap_put, ap_par2, ap_par3, ap_nilo, ap_conso, ap_own, ap_calli, ap_bodyi, ap_enum, ap_cls, ap_loop0, ap_loop1, ap_while, ap_fld, ap_ofs, ix_dic, ix_tup, ix_lst, getK_s, in_dic, rd_sh, rd_fr, rd_nm, shr_sh, shr_fr, shr_nm, sv_sh, sv_fr, sv_nm, fin_sh, fin_fr, fin_nm, ii_add, ii_sub, ii_iadd, ii_mod, ii_div, ii_gt, ii_lt, ii_min, ii_max, ii_eq, ss_eq, ss_ne, ii_ne, bodyC, seqC, ifC, exprC, retC, setD, setC, asgD, asgC, tconsC, pairC, pairW, unC, m1C, binC, m2F, m2E, m2D, m2C, shC, mtupC, mlstC, consD, consC, tcC, truD, truC, andC, orC, notC, ifeC, callC, methD, methC, m1sD, m1sC, forC, iterD, iterC, augE, augD, augC, mutE, mutD, mutC, mutB, putF2, putE2, putD2, putC2, putB2, par2C, par3C, consoD, consoC, ownD, ownC, calliE, calliD, calliC, calliB, bodyiD, bodyiE, bodyiC, enumC, clsC, loopD, loopC, whileD, whileC, ixS, nameC, rdC, shrC, finC, List.getElem?_cons_zero, List.getElem?_cons_succ, List.set_cons_zero, List.set_cons_succ, List.map_cons, List.map_nil, List.cons_append, List.nil_append, List.replicate_succ, List.replicate_zero, List.length_cons, List.length_nil, iff_T, and_self, at0, at1, q, h1, h2, if_true, decide_true, put2_0, put2_1, own0]
  · simp only [R.bind_ok, R.bind_bad, R.bind_exn, ap_body, ap_seq, ap_nil, ap_if, ap_expr, ap_ret, ap_retN, ap_set, ap_asg, ap_tup, ap_tname, ap_tnil, ap_tcons, ap_c, ap_name, ap_un, ap_m1, ap_bin, ap_m2, ap_sh, ap_mtup, ap_mlst, ap_nila, ap_consa, ap_tc, ap_tru, ap_and, ap_or, ap_not, ap_ife, ap_call, ap_meth, ap_m1s, ap_for, ap_iter, ap_aug, ap_mut, ap_put, ap_par2, ap_par3, ap_nilo, ap_conso, ap_own, ap_calli, ap_bodyi, ap_enum, ap_cls, ap_loop0, ap_loop1, ap_while, ap_fld, ap_ofs, ix_dic, ix_tup, ix_lst, getK_s, in_dic, rd_sh, rd_fr, rd_nm, shr_sh, shr_fr, shr_nm, sv_sh, sv_fr, sv_nm, fin_sh, fin_fr, fin_nm, ii_add, ii_sub, ii_iadd, ii_mod, ii_div, ii_gt, ii_lt, ii_min, ii_max, ii_eq, ss_eq, ss_ne, ii_ne, bodyC, seqC, ifC, exprC, retC, setD, setC, asgD, asgC, tconsC, pairC, pairW, unC, m1C, binC, m2F, m2E, m2D, m2C, shC, mtupC, mlstC, consD, consC, tcC, truD, truC, andC, orC, notC, ifeC, callC, methD, methC, m1sD, m1sC, forC, iterD, iterC, augE, augD, augC, mutE, mutD, mutC, mutB, putF2, putE2, putD2, putC2, putB2, par2C, par3C, consoD, consoC, ownD, ownC, calliE, calliD, calliC, calliB, bodyiD, bodyiE, bodyiC, enumC, clsC, loopD, loopC, whileD, whileC, ixS, nameC, rdC, shrC, finC, List.getElem?_cons_zero, List.getElem?_cons_succ, List.set_cons_zero, List.set_cons_succ, List.map_cons, List.map_nil, List.cons_append, List.nil_append, List.replicate_succ, List.replicate_zero, List.length_cons, List.length_nil, iff_T, and_self, at0, at1, q, h1, h2, if_false, decide_false, put2_0, put2_1, own0, ii_mul, c1, c2, c3]
theorem draw_range {a b n : Int} (h : 0 < n) : 0 ≤ (draw a b n).1 ∧ (draw a b n).1 < n := by
  unfold draw
  split
  · exact ⟨Int.emod_nonneg _ (by omega), Int.emod_lt_of_pos _ h⟩
  · exact ⟨Int.emod_nonneg _ (by omega), Int.emod_lt_of_pos _ h⟩
theorem p1 : fPow (.int 10) (.int 18) = .ok (.sh (.int 1000000000000000000)) := by
  have h1 : fPow (.int 10) (.int 18) = iff (0 ≤ (18 : Int) ∧ (18 : Int) ≤ 1000000 ∧ (10 : Int).natAbs < 2 ^ 64) (.ok (.sh (.int (10 ^ (18 : Int).toNat)))) := rfl
  have h2 : (10 : Int) ^ (18 : Int).toNat = 1000000000000000000 := by decide
  have h3 : (0 ≤ (18 : Int) ∧ (18 : Int) ≤ 1000000 ∧ (10 : Int).natAbs < 2 ^ 64) := by decide
  rw [h1, h2, iff_pos h3]
def cell (ns : List Int) (k : Nat) : Int := if h : k < ns.length then ns[k] else 83 * (k : Int) + 29
def feedA (c : Int) : Int := if (if c < 0 then -c else c) - 1000000000000000000 > 0 then (if c < 0 then -c else c) - 1000000000000000000 else 0
def feedB (c : Int) (k : Nat) : Int := (c * 6364136223846793005 + 7919 * (k : Int) + 1442695040888963407) % 2305843009213693951
theorem cell_eq {ns : List Int} {k : Nat} {s2 s3 s4 : Sl} : mIfE (mTc (mBin fLt (mName 1) (mUn fLen (mName 0)))) (mBin fIxA (mName 0) (mName 1)) (mBin fAdd (mBin fMul (mC (.int 83)) (mName 1)) (mC (.int 29))) [.sh (.scr ns), .sh (.int (k : Int)), s2, s3, s4] =
    .ok (.sh (.int (cell ns k)), [.sh (.scr ns), .sh (.int (k : Int)), s2, s3, s4]) := by
  have l1 : fLen (.scr ns) = .ok (.sh (.int (ns.length : Nat))) := rfl
  have sc : ∀ i : Int, fIxA (.scr ns) (.int i) = (ofO (atI ns i)).bind fun n => .ok (.sh (.int n)) := fun i => rfl
  by_cases q : (k : Int) < (ns.length : Nat)
  · have hx : atI ns (k : Int) = some (ns[k]'(by omega)) := by
      have : ixN ns.length (k : Int) = some k := by unfold ixN; rw [if_pos (by omega), if_pos q]; simp
      unfold atI; rw [this]
      have hk2 : k < ns.length := by omega
      simp [hk2]
    have hce : cell ns k = ns[k]'(by omega) := dif_pos (by omega)
    rw [hce]
    simp only [R.bind_ok, R.bind_bad, R.bind_exn, ap_body, ap_seq, ap_nil, ap_if, ap_expr, ap_ret, ap_retN, ap_set, ap_asg, ap_tup, ap_tname, ap_tnil, ap_tcons, ap_c, ap_name, ap_un, ap_m1, ap_bin, ap_m2, ap_sh, ap_mtup, ap_mlst, ap_nila, ap_consa, ap_tc, ap_tru, ap_and, ap_or, ap_not, ap_ife, ap_call, ap_meth, ap_m1s, ap_for, ap_iter, ap_aug, ap_mut, ap_put, ap_par2, ap_par3, ap_nilo, ap_conso, ap_own, ap_calli, ap_bodyi, ap_enum, ap_cls, ap_loop0, ap_loop1, ap_while, ap_fld, ap_ofs, ix_dic, ix_tup, ix_lst, getK_s, in_dic, rd_sh, rd_fr, rd_nm, shr_sh, shr_fr, shr_nm, sv_sh, sv_fr, sv_nm, fin_sh, fin_fr, fin_nm, ii_add, ii_sub, ii_iadd, ii_mod, ii_div, ii_gt, ii_lt, ii_min, ii_max, ii_eq, ss_eq, ss_ne, ii_ne, bodyC, seqC, ifC, exprC, retC, setD, setC, asgD, asgC, tconsC, pairC, pairW, unC, m1C, binC, m2F, m2E, m2D, m2C, shC, mtupC, mlstC, consD, consC, tcC, truD, truC, andC, orC, notC, ifeC, callC, methD, methC, m1sD, m1sC, forC, iterD, iterC, augE, augD, augC, mutE, mutD, mutC, mutB, putF2, putE2, putD2, putC2, putB2, par2C, par3C, consoD, consoC, ownD, ownC, calliE, calliD, calliC, calliB, bodyiD, bodyiE, bodyiC, enumC, clsC, loopD, loopC, whileD, whileC, ixS, nameC, rdC, shrC, finC, List.getElem?_cons_zero, List.getElem?_cons_succ, List.set_cons_zero, List.set_cons_succ, List.map_cons, List.map_nil, List.cons_append, List.nil_append, List.replicate_succ, List.replicate_zero, List.length_cons, List.length_nil, q, if_true, decide_true, sc, hx, l1]
  · have hce : cell ns k = 83 * (k : Int) + 29 := dif_neg (by omega)
    have mm : ∀ x : Int, fMul (.int 83) (.int x) = .ok (.sh (.int (83 * x))) := fun x => by
      rw [ii_mul]
      exact iff_pos (.inl ⟨by decide, by decide⟩)
    rw [hce]
    simp only [R.bind_ok, R.bind_bad, R.bind_exn, ap_body, ap_seq, ap_nil, ap_if, ap_expr, ap_ret, ap_retN, ap_set, ap_asg, ap_tup, ap_tname, ap_tnil, ap_tcons, ap_c, ap_name, ap_un, ap_m1, ap_bin, ap_m2, ap_sh, ap_mtup, ap_mlst, ap_nila, ap_consa, ap_tc, ap_tru, ap_and, ap_or, ap_not, ap_ife, ap_call, ap_meth, ap_m1s, ap_for, ap_iter, ap_aug, ap_mut, ap_put, ap_par2, ap_par3, ap_nilo, ap_conso, ap_own, ap_calli, ap_bodyi, ap_enum, ap_cls, ap_loop0, ap_loop1, ap_while, ap_fld, ap_ofs, ix_dic, ix_tup, ix_lst, getK_s, in_dic, rd_sh, rd_fr, rd_nm, shr_sh, shr_fr, shr_nm, sv_sh, sv_fr, sv_nm, fin_sh, fin_fr, fin_nm, ii_add, ii_sub, ii_iadd, ii_mod, ii_div, ii_gt, ii_lt, ii_min, ii_max, ii_eq, ss_eq, ss_ne, ii_ne, bodyC, seqC, ifC, exprC, retC, setD, setC, asgD, asgC, tconsC, pairC, pairW, unC, m1C, binC, m2F, m2E, m2D, m2C, shC, mtupC, mlstC, consD, consC, tcC, truD, truC, andC, orC, notC, ifeC, callC, methD, methC, m1sD, m1sC, forC, iterD, iterC, augE, augD, augC, mutE, mutD, mutC, mutB, putF2, putE2, putD2, putC2, putB2, par2C, par3C, consoD, consoC, ownD, ownC, calliE, calliD, calliC, calliB, bodyiD, bodyiE, bodyiC, enumC, clsC, loopD, loopC, whileD, whileC, ixS, nameC, rdC, shrC, finC, List.getElem?_cons_zero, List.getElem?_cons_succ, List.set_cons_zero, List.set_cons_succ, List.map_cons, List.map_nil, List.cons_append, List.nil_append, List.replicate_succ, List.replicate_zero, List.length_cons, List.length_nil, q, if_false, decide_false, sc, l1, mm]
theorem feed_eq {ns : List Int} {k : Nat} : g_u_law_feed [.scr ns, .int (k : Int)] = .ok (.fr (.lst [.int (feedA (cell ns k)), .int (feedB (cell ns k) k)])) := by
  unfold g_u_law_feed m_u_law_feed
  have c1 : ∀ x : Int, ((-(2 ^ 64) < x ∧ x < 2 ^ 64) ∨ (-(2 ^ 64) < (6364136223846793005 : Int) ∧ (6364136223846793005 : Int) < 2 ^ 64)) = True := fun x => by simp
  have c5 : ∀ x : Int, ((-(2 ^ 64) < (7919 : Int) ∧ (7919 : Int) < 2 ^ 64) ∨ (-(2 ^ 64) < x ∧ x < 2 ^ 64)) = True := fun x => by simp
  have c3 : (0 < (2305843009213693951 : Int)) = True := by simp
  generalize hc : cell ns k = cc
  have hcc := cell_eq (ns := ns) (k := k) (s2 := .un) (s3 := .un) (s4 := .un)
  rw [hc] at hcc
  simp only [R.bind_ok, R.bind_bad, R.bind_exn, ap_body, ap_seq, ap_nil, ap_if, ap_expr, ap_ret, ap_retN, ap_set, ap_asg, ap_tup, ap_tname, ap_tnil, ap_tcons, ap_c, ap_name, ap_un, ap_m1, ap_bin, ap_m2, ap_sh, ap_mtup, ap_mlst, ap_nila, ap_consa, ap_tc, ap_tru, ap_and, ap_or, ap_not, ap_call, ap_meth, ap_m1s, ap_for, ap_iter, ap_aug, ap_mut, ap_put, ap_par2, ap_par3, ap_nilo, ap_conso, ap_own, ap_calli, ap_bodyi, ap_enum, ap_cls, ap_loop0, ap_loop1, ap_while, ap_fld, ap_ofs, ix_dic, ix_tup, ix_lst, getK_s, in_dic, rd_sh, rd_fr, rd_nm, shr_sh, shr_fr, shr_nm, sv_sh, sv_fr, sv_nm, fin_sh, fin_fr, fin_nm, ii_add, ii_sub, ii_iadd, ii_mod, ii_div, ii_gt, ii_lt, ii_min, ii_max, ii_eq, ss_eq, ss_ne, ii_ne, bodyC, seqC, ifC, exprC, retC, setD, setC, asgD, asgC, tconsC, pairC, pairW, unC, m1C, binC, m2F, m2E, m2D, m2C, shC, mtupC, mlstC, consD, consC, tcC, truD, truC, andC, orC, notC, ifeC, callC, methD, methC, m1sD, m1sC, forC, iterD, iterC, augE, augD, augC, mutE, mutD, mutC, mutB, putF2, putE2, putD2, putC2, putB2, par2C, par3C, consoD, consoC, ownD, ownC, calliE, calliD, calliC, calliB, bodyiD, bodyiE, bodyiC, enumC, clsC, loopD, loopC, whileD, whileC, ixS, nameC, rdC, shrC, finC, List.getElem?_cons_zero, List.getElem?_cons_succ, List.set_cons_zero, List.set_cons_succ, List.map_cons, List.map_nil, List.cons_append, List.nil_append, List.replicate_succ, List.replicate_zero, List.length_cons, List.length_nil, iff_T, and_self, hcc, p1, ii_mul, c1, c5, c3, fAbs, line, Nat.reduceLeDiff, feedA, feedB, gt_iff_lt]
end WL
end F_PC

section F_PK
/-! PK: comprehensions that change nothing; equal lists; trees that are equal. -/
namespace WL
open PySem L2
theorem back_reb (s : Sl) : back1 s (reb1 s) = s := by cases s <;> rfl
theorem back_one (i : Nat) (x : Sl) : ∀ (e : En) (k : Nat), i < k → backE [i] k (rebE [i] k e) e = e
  | [], k, _ => rfl
  | s :: r, k, h => by
    have hn : [i].contains k = false := by simp; omega
    simp only [rebE, backE, hn, Bool.false_eq_true, if_false, back_reb, back_one i x r (k + 1) (by omega)]
theorem back_set (i : Nat) (x : Sl) : ∀ (e : En) (k : Nat), k ≤ i → backE [i] k ((rebE [i] k e).set (i - k) x) e = e
  | [], k, _ => by simp [rebE, backE]
  | s :: r, k, h => by
    by_cases z : i = k
    · subst z
      have hc : [i].contains i = true := by simp
      simp only [rebE, hc, if_true, Nat.sub_self, List.set_cons_zero, backE, back_one i x r (i + 1) (by omega)]
    · have hn : [i].contains k = false := by simp; omega
      have e1 : i - k = (i - (k + 1)) + 1 := by omega
      rw [e1]
      simp only [rebE, hn, Bool.false_eq_true, if_false, List.set_cons_succ, backE, back_reb, back_set i x r (k + 1) (by omega)]
/-- a comprehension over one name whose elements change nothing -/
theorem cLoop_pure {i : Nat} {m : Mx} {e : En} (f : W → W) : ∀ (ws acc : List W), (∀ w ∈ ws, mSh m ((rebE [i] 0 e).set i (.sh w)) = .ok (f w, (rebE [i] 0 e).set i (.sh w))) → acc.length + ws.length ≤ line →
    cLoop [i] (tName i) mYes m ws e acc = .ok (acc ++ ws.map f, e)
  | [], acc, _, _ => by rw [cLoop]; simp
  | w :: ws, acc, h, hl => by
    rw [List.length_cons] at hl
    have h1 := h w (List.mem_cons_self ..)
    have hlt : acc.length < line := by omega
    have hb : backE [i] 0 ((rebE [i] 0 e).set i (.sh w)) e = e := back_set i (.sh w) e 0 (Nat.zero_le _)
    rw [cLoop]
    show (noX ((mSh m ((rebE [i] 0 e).set i (.sh w))).bind fun q => .ok (some q.1, q.2))).bind _ = _
    rw [h1]
    show iff (acc.length < line) (cLoop [i] (tName i) mYes m ws (backE [i] 0 ((rebE [i] 0 e).set i (.sh w)) e) (acc ++ [f w])) = _
    rw [iff_pos hlt, hb, cLoop_pure f ws (acc ++ [f w]) (fun w' hw => h w' (List.mem_cons_of_mem _ hw)) (by simp; omega)]
    simp
theorem ap_comp0 {own : List Nat} {it : Ma} {t : Mg} {tt : Mt} {m : Mx} {e : En} : mComp [] own it t tt m e = (it e).bind fun p => (cLoop own t tt m p.1 p.2 []).bind fun q => .ok (.fr (.lst q.1), q.2) := rfl
theorem rebE_len' (own : List Nat) (e : En) : (rebE own 0 e).length = e.length := rebE_len own e 0

/-! ### == of lists of ints -/
theorem eqv_ints : ∀ xs ys : List Int, PyData.eqvAll (wDs (xs.map W.int)) (wDs (ys.map W.int)) = decide (xs = ys)
  | [], [] => by simp [wDs, PyData.eqvAll]
  | [], y :: ys => by simp [wDs, PyData.eqvAll]
  | x :: xs, [] => by simp [wDs, PyData.eqvAll]
  | x :: xs, y :: ys => by
    simp only [List.map_cons, wDs, PyData.eqvAll, wD, PyData.eqv, eqv_ints xs ys]
    by_cases h : x = y <;> simp [h]
theorem canLay_ints : ∀ xs : List Int, PyData.canLayAll0 (wDs (xs.map W.int)) = true
  | [] => by simp [wDs, PyData.canLayAll0]
  | x :: xs => by simp [wDs, wD, PyData.canLayAll0, PyData.canLay0, canLay_ints xs]
theorem depth_ints : ∀ xs : List Int, PyData.depthAll (wDs (xs.map W.int)) = 0
  | [] => by simp [wDs, PyData.depthAll]
  | x :: xs => by simp [wDs, wD, PyData.depthAll, PyData.depth, depth_ints xs]
theorem shaped_ints (xs : List Int) : SeqAt.shaped (wD (.lst (xs.map W.int))) = true := by
  unfold SeqAt.shaped
  simp [wD, PyData.canLay0, canLay_ints, PyData.depth, depth_ints]
theorem ne_ints {xs ys : List Int} : fNe (.lst (xs.map W.int)) (.lst (ys.map W.int)) = .ok (.sh (.bl (!decide (xs = ys)))) := by
  show iff ((SeqAt.shaped (wD (.lst (xs.map W.int))) && SeqAt.shaped (wD (.lst (ys.map W.int)))) = true) (WL.R.ok (Rs.sh (.bl (!PyData.eqv (wD (.lst (xs.map W.int))) (wD (.lst (ys.map W.int))))))) = _
  rw [iff_pos (by rw [shaped_ints, shaped_ints]; rfl)]
  simp only [wD, PyData.eqv, eqv_ints]
theorem eq_ints {xs ys : List Int} : fEq (.lst (xs.map W.int)) (.lst (ys.map W.int)) = .ok (.sh (.bl (decide (xs = ys)))) := by
  show iff ((SeqAt.shaped (wD (.lst (xs.map W.int))) && SeqAt.shaped (wD (.lst (ys.map W.int)))) = true) (WL.R.ok (Rs.sh (.bl (PyData.eqv (wD (.lst (xs.map W.int))) (wD (.lst (ys.map W.int))))))) = _
  rw [iff_pos (by rw [shaped_ints, shaped_ints]; rfl)]
  simp only [wD, PyData.eqv, eqv_ints]

/-! ### trees that are the same, by computing -/
mutual
def weq : W → W → Bool
  | .non, .non => true
  | .bl a, .bl b => a == b
  | .int a, .int b => decide (a = b)
  | .str a, .str b => decide (a = b)
  | .tup a, .tup b => weqs a b
  | .lst a, .lst b => weqs a b
  | .obj c n a, .obj d m b => decide (c = d) && decide (n = m) && weqs a b
  | _, _ => false
def weqs : List W → List W → Bool
  | [], [] => true
  | a :: as, b :: bs => weq a b && weqs as bs
  | _, _ => false
end
mutual
theorem weq_eq : ∀ {a b : W}, weq a b = true → a = b
  | .non, b, h => by cases b <;> first | rfl | cases h
  | .bl x, b, h => by cases b <;> first | cases h | (simp only [weq, beq_iff_eq] at h; rw [h])
  | .int x, b, h => by cases b <;> first | cases h | (simp only [weq, decide_eq_true_eq] at h; rw [h])
  | .str x, b, h => by cases b <;> first | cases h | (simp only [weq, decide_eq_true_eq] at h; rw [h])
  | .tup x, b, h => by cases b <;> first | cases h | (rw [weqs_eq (show weqs x _ = true from h)])
  | .lst x, b, h => by cases b <;> first | cases h | (rw [weqs_eq (show weqs x _ = true from h)])
  | .obj c n x, b, h => by
    cases b <;> first | cases h | skip
    rename_i d m y
    simp only [weq, Bool.and_eq_true, decide_eq_true_eq] at h
    rw [h.1.1, h.1.2, weqs_eq h.2]
  | .dic _ _, b, h => by cases b <;> cases h
  | .tdc _ _, b, h => by cases b <;> cases h
  | .scr _, b, h => by cases b <;> cases h
  | .cl _, b, h => by cases b <;> cases h
theorem weqs_eq : ∀ {a b : List W}, weqs a b = true → a = b
  | [], [], _ => rfl
  | x :: xs, y :: ys, h => by
    simp only [weqs, Bool.and_eq_true] at h
    rw [weq_eq h.1, weqs_eq h.2]
  | [], _ :: _, h => by cases h
  | _ :: _, [], h => by cases h
end
def weqO : Option W → Option W → Bool
  | some a, some b => weq a b
  | none, none => true
  | _, _ => false
theorem weqO_eq : ∀ {a b : Option W}, weqO a b = true → a = b
  | some a, some b, h => by rw [weq_eq (show weq a b = true from h)]
  | none, none, _ => rfl
  | some _, none, h => by cases h
  | none, some _, h => by cases h
end WL
end F_PK

section F_K08A
/-! K08A: the typed rows: what their systems are, what their histories cost. -/
namespace WL
open PySem L2
/-- a system that a text writes, looked at -/
def fareB (F : Fare) (w : W) : Bool := match w with
  | .obj c ns fs => decide (c = Str.ofString "System") && weqO (fld "slots" ns fs) (some (.int F.slots)) && weqO (fld "peak" ns fs) (some (.tup (F.peak.map W.int))) && weqO (fld "kinds" ns fs) (some (.tup (F.kinds.map kindW))) &&
      weqO (fld "letters" ns fs) (some (.str ⟨F.letters.toArray⟩)) &&
      (match fld "rules" ns fs with
        | some (.dic ks vs) => weqO (dGet ks vs (.inr "transfer")) (F.tr.map (fun t => .tup [.int t.1, .int t.2])) && weqO (dGet ks vs (.inr "cap")) (F.cap.map (fun t => .tup [.int t])) && weqO (dGet ks vs (.inr "bonus")) (F.bo.map (fun t => .tup [.int t]))
        | _ => false) &&
      (!ns.contains "step" && !ns.contains "base_price" && !ns.contains "after_point" && !ns.contains "costs" && !ns.contains "cost") && decide (0 < F.slots) && decide (46 ∉ F.kinds.map (·.1)) && (match F.bo with | some m => decide (0 < m) | none => true)
  | _ => false
theorem fareB_w {F : Fare} {w : W} (h : fareB F w = true) : FareW F w := by
  unfold fareB at h
  split at h
  · rename_i c ns fs
    simp only [Bool.and_eq_true, decide_eq_true_eq, Bool.not_eq_true'] at h
    obtain ⟨⟨⟨⟨⟨⟨⟨⟨⟨hc, h1⟩, h2⟩, h3⟩, h5⟩, hr⟩, ⟨⟨⟨⟨n1, n2⟩, n3⟩, n4⟩, n5⟩⟩, hp⟩, hd⟩, hb⟩ := h
    split at hr
    · rename_i ks vs hq
      simp only [Bool.and_eq_true] at hr
      refine ⟨hp, fun m hm => by rw [hm] at hb; simpa using hb, hd, ns, fs, ks, vs, by rw [hc], weqO_eq h1, weqO_eq h2, weqO_eq h3, hq, weqO_eq h5, weqO_eq hr.1.1, weqO_eq hr.1.2, weqO_eq hr.2, n1, n2, n3, n4, n5⟩
    · cases hr
  · cases h
def parseB (F : Fare) (t : Str) : Bool := match g_System_parse [.cl "System", .str t] with
  | .ok (.fr w) => fareB F w
  | _ => false
theorem parse_ok {F : Fare} {t : Str} (h : parseB F t = true) : ∃ w, g_System_parse [.cl "System", .str t] = .ok (.fr w) ∧ FareW F w := by
  unfold parseB at h
  split at h
  · rename_i w hw
    exact ⟨w, hw, fareB_w h⟩
  · cases h
structure KRow where
  t : Str
  h : Str
  c : Str
  F : Fare
  hs : List Nat
  cs : List Int
def krows : List KRow := [
  ⟨"slots 4|peak 1 2|ride a 4 6|ride b 2 2|transfer 1 1|bonus 3", "a.b..ab", "4 0 1 0 0 4 1", ⟨4, [1, 2], [(97, 4, 6), (98, 2, 2)], some (1, 1), none, some 3⟩, [97, 46, 98, 46, 46, 97, 98], [4, 0, 1, 0, 0, 4, 1]⟩,
  ⟨"slots 2|ride a 5 5|transfer 0 3", "aa.aa", "5 3 0 5 3", ⟨2, [], [(97, 5, 5)], some (0, 3), none, none⟩, [97, 97, 46, 97, 97], [5, 3, 0, 5, 3]⟩,
  ⟨"slots 2|ride a 5 5", "aa.a", "5 5 0 5", ⟨2, [], [(97, 5, 5)], none, none, none⟩, [97, 97, 46, 97], [5, 5, 0, 5]⟩,
  ⟨"slots 2|ride a 5 5|transfer 2 3", "a.a.a.a", "5 0 3 0 3 0 5", ⟨2, [], [(97, 5, 5)], some (2, 3), none, none⟩, [97, 46, 97, 46, 97, 46, 97], [5, 0, 3, 0, 3, 0, 5]⟩,
  ⟨"slots 2|ride a 5 5|ride b 2 2|transfer 1 3", "ab.b.b", "5 2 0 2 0 2", ⟨2, [], [(97, 5, 5), (98, 2, 2)], some (1, 3), none, none⟩, [97, 98, 46, 98, 46, 98], [5, 2, 0, 2, 0, 2]⟩,
  ⟨"slots 1|ride a 4 4|ride b 2 2|bonus 3", "aabaab", "4 4 0 4 4 0", ⟨1, [], [(97, 4, 4), (98, 2, 2)], none, none, some 3⟩, [97, 97, 98, 97, 97, 98], [4, 4, 0, 4, 4, 0]⟩,
  ⟨"slots 1|ride a 4 4|ride b 2 2|bonus 3", "bba.bba", "2 2 0 0 2 2 0", ⟨1, [], [(97, 4, 4), (98, 2, 2)], none, none, some 3⟩, [98, 98, 97, 46, 98, 98, 97], [2, 2, 0, 0, 2, 2, 0]⟩,
  ⟨"slots 2|ride a 4 4|transfer 0 1|bonus 2", "aa.aa.aa", "4 1 0 0 1 0 4 1", ⟨2, [], [(97, 4, 4)], some (0, 1), none, some 2⟩, [97, 97, 46, 97, 97, 46, 97, 97], [4, 1, 0, 0, 1, 0, 4, 1]⟩,
  ⟨"slots 2|ride a 4 4|cap 9", "aaa.a.aaa", "4 4 1 0 0 0 4 4 1", ⟨2, [], [(97, 4, 4)], none, some 9, none⟩, [97, 97, 97, 46, 97, 46, 97, 97, 97], [4, 4, 1, 0, 0, 0, 4, 4, 1]⟩,
  ⟨"slots 1|ride a 4 4|cap 9", "aaa.aaaa", "4 4 1 0 4 4 1 0", ⟨1, [], [(97, 4, 4)], none, some 9, none⟩, [97, 97, 97, 46, 97, 97, 97, 97], [4, 4, 1, 0, 4, 4, 1, 0]⟩,
  ⟨"slots 8|ride a 4 4|cap 9", "aaa.......a.a", "4 4 1 0 0 0 0 0 0 0 0 0 4", ⟨8, [], [(97, 4, 4)], none, some 9, none⟩, [97, 97, 97, 46, 46, 46, 46, 46, 46, 46, 97, 46, 97], [4, 4, 1, 0, 0, 0, 0, 0, 0, 0, 0, 0, 4]⟩,
  ⟨"slots 8|ride a 4 4|bonus 3", "aa.......a.a", "4 4 0 0 0 0 0 0 0 0 0 4", ⟨8, [], [(97, 4, 4)], none, none, some 3⟩, [97, 97, 46, 46, 46, 46, 46, 46, 46, 97, 46, 97], [4, 4, 0, 0, 0, 0, 0, 0, 0, 0, 0, 4]⟩,
  ⟨"slots 8|ride a 4 4|transfer 4 1", "a....a.a", "4 0 0 0 0 1 0 4", ⟨8, [], [(97, 4, 4)], some (4, 1), none, none⟩, [97, 46, 46, 46, 46, 97, 46, 97], [4, 0, 0, 0, 0, 1, 0, 4]⟩,
  ⟨"slots 3|ride a 4 4|cap 0", "aa.a", "0 0 0 0", ⟨3, [], [(97, 4, 4)], none, some 0, none⟩, [97, 97, 46, 97], [0, 0, 0, 0]⟩,
  ⟨"slots 1|ride a 4 4|cap 6|bonus 3", "aaa.aaa", "4 2 0 0 4 2 0", ⟨1, [], [(97, 4, 4)], none, some 6, some 3⟩, [97, 97, 97, 46, 97, 97, 97], [4, 2, 0, 0, 4, 2, 0]⟩,
  ⟨"slots 1|ride a 4 4|cap 6|bonus 4", "aaaa.aaa.a", "4 2 0 0 0 4 2 0 0 0", ⟨1, [], [(97, 4, 4)], none, some 6, some 4⟩, [97, 97, 97, 97, 46, 97, 97, 97, 46, 97], [4, 2, 0, 0, 0, 4, 2, 0, 0, 0]⟩,
  ⟨"slots 2|ride a 4 4|transfer 1 3|cap 6", "aa.aa.a", "4 2 0 0 0 0 4", ⟨2, [], [(97, 4, 4)], some (1, 3), some 6, none⟩, [97, 97, 46, 97, 97, 46, 97], [4, 2, 0, 0, 0, 0, 4]⟩,
  ⟨"slots 3|peak 0|ride a 4 1", "a.a.a.a", "1 0 4 0 4 0 1", ⟨3, [0], [(97, 4, 1)], none, none, none⟩, [97, 46, 97, 46, 97, 46, 97], [1, 0, 4, 0, 4, 0, 1]⟩,
  ⟨"slots 1|peak 0|ride a 4 1", "a.a", "1 0 1", ⟨1, [0], [(97, 4, 1)], none, none, none⟩, [97, 46, 97], [1, 0, 1]⟩,
  ⟨"slots 2|peak 1|ride a 2 7|transfer 1 5", "a.a.a.a", "2 0 5 0 2 0 5", ⟨2, [1], [(97, 2, 7)], some (1, 5), none, none⟩, [97, 46, 97, 46, 97, 46, 97], [2, 0, 5, 0, 2, 0, 5]⟩,
  ⟨"slots 1|ride a 0 0|ride b 5 5|transfer 4 1", "ab....b.b", "0 1 0 0 0 0 1 0 5", ⟨1, [], [(97, 0, 0), (98, 5, 5)], some (4, 1), none, none⟩, [97, 98, 46, 46, 46, 46, 98, 46, 98], [0, 1, 0, 0, 0, 0, 1, 0, 5]⟩]
def rowA (r : KRow) : Bool := decide (0 < ("|" : Str).length) && decide (r.t.length + 2 ≤ line) && decide (((Txt.split r.t "|").map (·.length)).sum + (Txt.split r.t "|").length * ("\n" : Str).length ≤ line)
def rowP (r : KRow) : Bool := parseB r.F (Txt.join "\n" (Txt.split r.t "|"))
def rowC (r : KRow) : Bool := decide (r.h = ⟨r.hs.toArray⟩) && decide (r.hs.all (fun c => r.F.letters.contains c) = true) && decide (r.F.slots ≤ 8 ∧ r.hs.length ≤ 100) &&
  (List.range 5).all fun d => decide (r.F.costs (List.replicate (r.F.slots.toNat * d) 46 ++ r.hs) = List.replicate (r.F.slots.toNat * d) 0 ++ r.cs)
def rowW (r : KRow) : Bool := decide (0 < (" " : Str).length) && decide (r.c.length + 2 ≤ line) && decide ((Txt.split r.c " ").length ≤ 1000) && decide ((Txt.split r.c " ").map (fun s => if s.length ≤ 640 then PySem.intText? s else none) = r.cs.map some)
theorem sp_eq {z s : Str} (h : 0 < s.length ∧ z.length + 2 ≤ line) : fSplit z (.str s) = .ok (.fr (.lst ((Txt.split z s).map W.str))) := iff_pos h
theorem jn_eq {z : Str} {ys : List Str} (h : (ys.map (·.length)).sum + ys.length * z.length ≤ line) : fJoin z (.lst (ys.map W.str)) = .ok (.sh (.str (Txt.join z ys))) := by
  show (ofO (strsOf (ys.map W.str))).bind _ = _
  rw [strsOf_map]
  exact iff_pos h
theorem len_s {z : Str} (h : z.length ≤ line) : fLen (.str z) = .ok (.sh (.int (z.length : Nat))) := iff_pos h
theorem rep_flat : ∀ n : Nat, (List.replicate n [W.int 0]).flatten = (List.replicate n (0 : Int)).map W.int
  | 0 => rfl
  | n + 1 => by rw [List.replicate_succ, List.flatten_cons, rep_flat n, List.replicate_succ]; rfl
theorem mul_l {n : Nat} (h : n ≤ 1000) : fMul (.lst [.int 0]) (.int (n : Int)) = .ok (.fr (.lst ((List.replicate n (0 : Int)).map W.int))) := by
  have hh : ((-(2 ^ 63) ≤ (n : Int) ∧ (n : Int) < 2 ^ 63) ∧ [W.int 0].length * (n : Int).toNat ≤ line) := by
    refine ⟨⟨by omega, by omega⟩, ?_⟩
    have : line = 16777216 := rfl
    simp; omega
  show iff _ _ = _
  rw [iff_pos hh, Int.toNat_natCast, rep_flat]
theorem dots_all : (List.range 33).all (fun m => decide (Txt.mul "." (m : Int) = ⟨(List.replicate m 46).toArray⟩)) = true := by decide +kernel
theorem dots {m : Nat} (h : m ≤ 32) : Txt.mul "." (m : Int) = ⟨(List.replicate m 46).toArray⟩ := by
  have := List.all_eq_true.mp dots_all m (List.mem_range.mpr (by omega))
  exact of_decide_eq_true this
def ints0 (s : Str) : Int := ((if s.length ≤ 640 then PySem.intText? s else none)).getD 0
def kb0 : Ms := (mSet 6 (mCls "System" g_System_parse (mConsA (mM1 fJoin (mC (.str "\n")) (mM1 fSplit (mName 3) (mC (.str "|")))) mNilA)))
def kb1 : Ms := (mSet 7 (mBin fMul (mC (.str ".")) (mBin fMul (mUn (fFld "System" "slots") (mName 6)) (mCallI 2 g_u_law_take (mConsA (mC (.int 5)) mNilA)))))
def kb2 : Ms := (mSet 8 (mBin fAdd (mBin fMul (mLst (mConsA (mC (.int 0)) mNilA)) (mUn fLen (mName 7))) (mComp [] [10] (mIter (mM1 fSplit (mName 5) (mC (.str " ")))) (tName 10) mYes (mUn fInt (mName 10)))))
def kb3 : Ms := (mSet 9 (mBin fAdd (mName 7) (mName 4)))
def kb4 : Ms := (mIf (mOr (mTc (mBin fNe (mMeth "System" "costs" g_System_costs (mName 6) (mConsA (mName 9) mNilA)) (mName 8))) (mTc (mBin fNe (mMeth "System" "cost" g_System_cost (mName 6) (mConsA (mName 9) mNilA)) (mUn fSum (mName 8))))) (mRet (mC (.bl false))) mNil)
def kbody : Ms := (mSeq (mSet 6 (mCls "System" g_System_parse (mConsA (mM1 fJoin (mC (.str "\n")) (mM1 fSplit (mName 3) (mC (.str "|")))) mNilA))) (mSeq (mSet 7 (mBin fMul (mC (.str ".")) (mBin fMul (mUn (fFld "System" "slots") (mName 6)) (mCallI 2 g_u_law_take (mConsA (mC (.int 5)) mNilA))))) (mSeq (mSet 8 (mBin fAdd (mBin fMul (mLst (mConsA (mC (.int 0)) mNilA)) (mUn fLen (mName 7))) (mComp [] [10] (mIter (mM1 fSplit (mName 5) (mC (.str " ")))) (tName 10) mYes (mUn fInt (mName 10))))) (mSeq (mSet 9 (mBin fAdd (mName 7) (mName 4))) (mIf (mOr (mTc (mBin fNe (mMeth "System" "costs" g_System_costs (mName 6) (mConsA (mName 9) mNilA)) (mName 8))) (mTc (mBin fNe (mMeth "System" "cost" g_System_cost (mName 6) (mConsA (mName 9) mNilA)) (mUn fSum (mName 8))))) (mRet (mC (.bl false))) mNil)))))
section
variable {SS KK w : W} {a b : Int} {r : KRow} {x6 x7 x8 x9 x10 : Sl}
theorem k0 (hA : rowA r = true) (hp : g_System_parse [.cl "System", .str (Txt.join "\n" (Txt.split r.t "|"))] = .ok (.fr w)) :
    kb0 [.sh SS, .sh KK, .ow false (.lst [.int a, .int b]), .sh (.str r.t), .sh (.str r.h), .sh (.str r.c), x6, x7, x8, x9, x10] = .ok (.nx, [.sh SS, .sh KK, .ow false (.lst [.int a, .int b]), .sh (.str r.t), .sh (.str r.h), .sh (.str r.c), .ow false w, x7, x8, x9, x10]) := by
  simp only [rowA, Bool.and_eq_true, decide_eq_true_eq] at hA
  obtain ⟨⟨h1, h2⟩, h3⟩ := hA
  have e1 := sp_eq (z := r.t) (s := "|") ⟨h1, h2⟩
  have e2 := jn_eq (z := "\n") h3
  unfold kb0
  simp only [R.bind_ok, R.bind_bad, R.bind_exn, ap_body, ap_seq, ap_nil, ap_if, ap_expr, ap_ret, ap_retN, ap_set, ap_asg, ap_tup, ap_tname, ap_tnil, ap_tcons, ap_c, ap_name, ap_un, ap_m1, ap_bin, ap_m2, ap_sh, ap_mtup, ap_mlst, ap_nila, ap_consa, ap_tc, ap_tru, ap_and, ap_or, ap_not, ap_ife, ap_call, ap_meth, ap_m1s, ap_for, ap_iter, ap_aug, ap_mut, ap_put, ap_par2, ap_par3, ap_nilo, ap_conso, ap_own, ap_calli, ap_bodyi, ap_enum, ap_cls, ap_loop0, ap_loop1, ap_while, ap_fld, ap_ofs, ix_dic, ix_tup, ix_lst, getK_s, in_dic, rd_sh, rd_fr, rd_nm, shr_sh, shr_fr, shr_nm, sv_sh, sv_fr, sv_nm, fin_sh, fin_fr, fin_nm, ii_add, ii_sub, ii_iadd, ii_mod, ii_div, ii_gt, ii_lt, ii_min, ii_max, ii_eq, ss_eq, ss_ne, ii_ne, bodyC, seqC, ifC, exprC, retC, setD, setC, asgD, asgC, tconsC, pairC, pairW, unC, m1C, binC, m2F, m2E, m2D, m2C, shC, mtupC, mlstC, consD, consC, tcC, truD, truC, andC, orC, notC, ifeC, callC, methD, methC, m1sD, m1sC, forC, iterD, iterC, augE, augD, augC, mutE, mutD, mutC, mutB, putF2, putE2, putD2, putC2, putB2, par2C, par3C, consoD, consoC, ownD, ownC, calliE, calliD, calliC, calliB, bodyiD, bodyiE, bodyiC, enumC, clsC, loopD, loopC, whileD, whileC, ixS, nameC, rdC, shrC, finC, List.getElem?_cons_zero, List.getElem?_cons_succ, List.set_cons_zero, List.set_cons_succ, List.map_cons, List.map_nil, List.cons_append, List.nil_append, List.replicate_succ, List.replicate_zero, List.length_cons, List.length_nil, e1, e2, hp]
theorem k1 (S : FareW r.F w) (hs : r.F.slots ≤ 8) : ∃ d a' b', d < 5 ∧
    kb1 [.sh SS, .sh KK, .ow false (.lst [.int a, .int b]), .sh (.str r.t), .sh (.str r.h), .sh (.str r.c), .ow false w, x7, x8, x9, x10] = .ok (.nx, [.sh SS, .sh KK, .ow false (.lst [.int a', .int b']), .sh (.str r.t), .sh (.str r.h), .sh (.str r.c), .ow false w, .sh (.str ⟨(List.replicate (r.F.slots.toNat * d) 46).toArray⟩), x8, x9, x10]) := by
  have ht := take_eq (a := a) (b := b) (n := 5) (by decide) (by decide)
  obtain ⟨q1, q2⟩ := draw_range (a := a) (b := b) (n := 5) (by decide)
  generalize (draw a b 5).1 = v at *
  generalize (draw a b 5).2.1 = a' at *
  generalize (draw a b 5).2.2 = b' at *
  have hpos := S.pos
  obtain ⟨ns, fs, ks, vs, rfl, h1, h2, h3, h4, h5, h6, h7, h8, n1, n2, n3, n4, n5⟩ := S.ex
  refine ⟨v.toNat, a', b', by omega, ?_⟩
  have hv : v = (v.toNat : Int) := by omega
  have hsl : r.F.slots = (r.F.slots.toNat : Int) := by omega
  have hm : r.F.slots * v = ((r.F.slots.toNat * v.toNat : Nat) : Int) := by rw [Int.natCast_mul, ← hsl, ← hv]
  have hle : r.F.slots.toNat * v.toNat ≤ 8 * 4 := Nat.mul_le_mul (by omega) (by omega)
  have m1' : fMul (.int r.F.slots) (.int v) = .ok (.sh (.int (r.F.slots * v))) := iff_pos (.inl ⟨by omega, by omega⟩)
  have m2' : fMul (.str ".") (.int (r.F.slots * v)) = .ok (.sh (.str (Txt.mul "." (r.F.slots * v)))) := iff_pos ⟨⟨by rw [hm]; omega, by rw [hm]; omega⟩, by decide +kernel⟩
  rw [← dots (by omega), ← hm]
  unfold kb1
  simp only [R.bind_ok, R.bind_bad, R.bind_exn, ap_body, ap_seq, ap_nil, ap_if, ap_expr, ap_ret, ap_retN, ap_set, ap_asg, ap_tup, ap_tname, ap_tnil, ap_tcons, ap_c, ap_name, ap_un, ap_m1, ap_bin, ap_m2, ap_sh, ap_mtup, ap_mlst, ap_nila, ap_consa, ap_tc, ap_tru, ap_and, ap_or, ap_not, ap_ife, ap_call, ap_meth, ap_m1s, ap_for, ap_iter, ap_aug, ap_mut, ap_put, ap_par2, ap_par3, ap_nilo, ap_conso, ap_own, ap_calli, ap_bodyi, ap_enum, ap_cls, ap_loop0, ap_loop1, ap_while, ap_fld, ap_ofs, ix_dic, ix_tup, ix_lst, getK_s, in_dic, rd_sh, rd_fr, rd_nm, shr_sh, shr_fr, shr_nm, sv_sh, sv_fr, sv_nm, fin_sh, fin_fr, fin_nm, ii_add, ii_sub, ii_iadd, ii_mod, ii_div, ii_gt, ii_lt, ii_min, ii_max, ii_eq, ss_eq, ss_ne, ii_ne, bodyC, seqC, ifC, exprC, retC, setD, setC, asgD, asgC, tconsC, pairC, pairW, unC, m1C, binC, m2F, m2E, m2D, m2C, shC, mtupC, mlstC, consD, consC, tcC, truD, truC, andC, orC, notC, ifeC, callC, methD, methC, m1sD, m1sC, forC, iterD, iterC, augE, augD, augC, mutE, mutD, mutC, mutB, putF2, putE2, putD2, putC2, putB2, par2C, par3C, consoD, consoC, ownD, ownC, calliE, calliD, calliC, calliB, bodyiD, bodyiE, bodyiC, enumC, clsC, loopD, loopC, whileD, whileC, ixS, nameC, rdC, shrC, finC, List.getElem?_cons_zero, List.getElem?_cons_succ, List.set_cons_zero, List.set_cons_succ, List.map_cons, List.map_nil, List.cons_append, List.nil_append, List.replicate_succ, List.replicate_zero, List.length_cons, List.length_nil, iff_T, h1, ht, m1', m2']
variable {F0 : Sl} {m : Nat}
theorem fint_ok {s : Str} (hx : (if s.length ≤ 640 then PySem.intText? s else none).isSome = true) : fInt (.str s) = .ok (.sh (.int (ints0 s))) := by
  unfold ints0
  by_cases q : s.length ≤ 640
  · rw [if_pos q] at hx ⊢
    obtain ⟨z, hz⟩ := Option.isSome_iff_exists.mp hx
    have h1 : fInt (.str s) = iff (s.length ≤ 640) ((ofO (PySem.intText? s)).bind fun n => WL.R.ok (Rs.sh (.int n))) := rfl
    rw [h1, iff_pos q, hz]
    rfl
  · rw [if_neg q] at hx; cases hx
theorem words_ok {c : Str} {cs : List Int} (h4 : (Txt.split c " ").map (fun s => if s.length ≤ 640 then PySem.intText? s else none) = cs.map some) {e : En} (he : e.length = 11) (h3 : (Txt.split c " ").length ≤ 1000) :
    cLoop [10] (tName 10) mYes (mUn fInt (mName 10)) ((Txt.split c " ").map W.str) e [] = .ok (cs.map W.int, e) := by
  have hp : (Txt.split c " ").map ints0 = cs := by
    have h5 := congrArg (List.map (fun o : Option Int => o.getD 0)) h4
    rw [List.map_map, List.map_map] at h5
    have h6 : (List.map ((fun o : Option Int => o.getD 0) ∘ some) cs) = cs := by
      conv => rhs; rw [← List.map_id cs]
      rfl
    rw [h6] at h5
    exact h5
  have e5 : ((Txt.split c " ").map W.str).map (fun w => match w with | .str s => W.int (ints0 s) | _ => .non) = cs.map W.int := by
    rw [List.map_map, ← hp, List.map_map]; rfl
  have key := cLoop_pure (i := 10) (m := mUn fInt (mName 10)) (e := e) (fun w => match w with | .str s => W.int (ints0 s) | _ => .non) ((Txt.split c " ").map W.str) [] (fun w hw => ?_) ?_
  · rw [key, e5]; rfl
  · obtain ⟨s, hs, rfl⟩ := List.mem_map.mp hw
    have hx : ((if s.length ≤ 640 then PySem.intText? s else none)).isSome = true := by
      have : (if s.length ≤ 640 then PySem.intText? s else none) ∈ (Txt.split c " ").map (fun s => if s.length ≤ 640 then PySem.intText? s else none) := List.mem_map.mpr ⟨s, hs, rfl⟩
      rw [h4] at this
      obtain ⟨z, _, hz⟩ := List.mem_map.mp this
      rw [← hz]; rfl
    have hi := fint_ok hx
    have hg : ((rebE [10] 0 e).set 10 (.sh (.str s)))[10]? = some (.sh (.str s)) := List.getElem?_set_self (by rw [rebE_len']; omega)
    simp only [R.bind_ok, R.bind_bad, R.bind_exn, ap_body, ap_seq, ap_nil, ap_if, ap_expr, ap_ret, ap_retN, ap_set, ap_asg, ap_tup, ap_tname, ap_tnil, ap_tcons, ap_c, ap_name, ap_un, ap_m1, ap_bin, ap_m2, ap_sh, ap_mtup, ap_mlst, ap_nila, ap_consa, ap_tc, ap_tru, ap_and, ap_or, ap_not, ap_ife, ap_call, ap_meth, ap_m1s, ap_for, ap_iter, ap_aug, ap_mut, ap_put, ap_par2, ap_par3, ap_nilo, ap_conso, ap_own, ap_calli, ap_bodyi, ap_enum, ap_cls, ap_loop0, ap_loop1, ap_while, ap_fld, ap_ofs, ix_dic, ix_tup, ix_lst, getK_s, in_dic, rd_sh, rd_fr, rd_nm, shr_sh, shr_fr, shr_nm, sv_sh, sv_fr, sv_nm, fin_sh, fin_fr, fin_nm, ii_add, ii_sub, ii_iadd, ii_mod, ii_div, ii_gt, ii_lt, ii_min, ii_max, ii_eq, ss_eq, ss_ne, ii_ne, bodyC, seqC, ifC, exprC, retC, setD, setC, asgD, asgC, tconsC, pairC, pairW, unC, m1C, binC, m2F, m2E, m2D, m2C, shC, mtupC, mlstC, consD, consC, tcC, truD, truC, andC, orC, notC, ifeC, callC, methD, methC, m1sD, m1sC, forC, iterD, iterC, augE, augD, augC, mutE, mutD, mutC, mutB, putF2, putE2, putD2, putC2, putB2, par2C, par3C, consoD, consoC, ownD, ownC, calliE, calliD, calliC, calliB, bodyiD, bodyiE, bodyiC, enumC, clsC, loopD, loopC, whileD, whileC, ixS, nameC, rdC, shrC, finC, List.getElem?_cons_zero, List.getElem?_cons_succ, List.set_cons_zero, List.set_cons_succ, List.map_cons, List.map_nil, List.cons_append, List.nil_append, List.replicate_succ, List.replicate_zero, List.length_cons, List.length_nil, hg, hi]
  · have : line = 16777216 := rfl
    simp only [List.length_nil, List.length_map]; omega
theorem lst1 {z : W} {e : En} : mLst (mConsA (mC z) mNilA) e = .ok (.fr (.lst [z]), e) := by
  have h : mLst (mConsA (mC z) mNilA) e = iff ([z].length ≤ line) (.ok (.fr (.lst [z]), e)) := rfl
  rw [h]
  generalize hL : line = L
  have : 1 ≤ L := by rw [← hL]; exact Nat.le_add_left 1 16777215
  exact iff_pos this
theorem un_nm {f : W → R Rs} {i : Nat} {z : W} {e0 : En} {q : Rs} (h7 : e0[i]? = some (.sh z)) (h : f z = .ok q) : mUn f (mName i) e0 = .ok (q, e0) := by
  rw [ap_un, ap_m1, ap_name, h7]
  simp only [R.bind_ok, nameC, m1C, sv_nm, sv_sh, rd_nm, rd_sh, h7, rdC, pairW, unC, h, pairC]
theorem bin_fs {f : W → W → R Rs} {A B : Mx} {u v : W} {e0 : En} {q : Rs} (c1 : A e0 = .ok (.fr u, e0)) (c2 : B e0 = .ok (.sh v, e0)) (h : f u v = .ok q) : mBin f A B e0 = .ok (q, e0) := by
  rw [ap_bin, ap_m2, c1]
  simp only [R.bind_ok, m2C, c2, m2D, sv_fr, sv_sh, rd_sh, m2E, rd_fr, m2F, binC, h, pairC]
theorem k2l (hm : m ≤ 100) : fLen (.str ⟨(List.replicate m 46).toArray⟩) = .ok (.sh (.int (m : Nat))) := by
  have lA : Str.length ⟨(List.replicate m 46).toArray⟩ = m := by simp [Str.length]
  generalize (⟨(List.replicate m 46).toArray⟩ : Str) = z at *
  have e : line = 16777116 + 100 := rfl
  have hL : z.length ≤ line := by rw [lA, e]; exact Nat.le_trans hm (Nat.le_add_left 100 16777116)
  have := len_s (z := z) hL
  rw [lA] at this; exact this
theorem k2a (hm : m ≤ 100) : mBin fMul (mLst (mConsA (mC (.int 0)) mNilA)) (mUn fLen (mName 7)) [.sh SS, .sh KK, F0, .sh (.str r.t), .sh (.str r.h), .sh (.str r.c), .ow false w, .sh (.str ⟨(List.replicate m 46).toArray⟩), x8, x9, x10] = .ok (.fr (.lst ((List.replicate m (0 : Int)).map W.int)), [.sh SS, .sh KK, F0, .sh (.str r.t), .sh (.str r.h), .sh (.str r.c), .ow false w, .sh (.str ⟨(List.replicate m 46).toArray⟩), x8, x9, x10]) :=
  bin_fs lst1 (un_nm rfl (k2l hm)) (mul_l (Nat.le_trans hm (Nat.le_add_left 100 900)))
theorem k2c (h3 : (Txt.split r.c " ").length ≤ 1000) (h12 : 0 < (" " : Str).length ∧ r.c.length + 2 ≤ line) (h4 : (Txt.split r.c " ").map (fun s => if s.length ≤ 640 then PySem.intText? s else none) = r.cs.map some) {s7 : Sl} : mComp [] [10] (mIter (mM1 fSplit (mName 5) (mC (.str " ")))) (tName 10) mYes (mUn fInt (mName 10)) [.sh SS, .sh KK, F0, .sh (.str r.t), .sh (.str r.h), .sh (.str r.c), .ow false w, s7, x8, x9, x10] = .ok (.fr (.lst (r.cs.map W.int)), [.sh SS, .sh KK, F0, .sh (.str r.t), .sh (.str r.h), .sh (.str r.c), .ow false w, s7, x8, x9, x10]) := by
  have e1 := sp_eq (z := r.c) (s := " ") h12
  have e7 := words_ok (e := [.sh SS, .sh KK, F0, .sh (.str r.t), .sh (.str r.h), .sh (.str r.c), .ow false w, s7, x8, x9, x10]) h4 rfl h3
  generalize (" " : Str) = sp at *
  rw [ap_comp0]
  simp only [R.bind_ok, R.bind_bad, R.bind_exn, ap_body, ap_seq, ap_nil, ap_if, ap_expr, ap_ret, ap_retN, ap_set, ap_asg, ap_tup, ap_tname, ap_tnil, ap_tcons, ap_c, ap_name, ap_un, ap_m1, ap_bin, ap_m2, ap_sh, ap_mtup, ap_mlst, ap_nila, ap_consa, ap_tc, ap_tru, ap_and, ap_or, ap_not, ap_ife, ap_call, ap_meth, ap_m1s, ap_for, ap_iter, ap_aug, ap_mut, ap_put, ap_par2, ap_par3, ap_nilo, ap_conso, ap_own, ap_calli, ap_bodyi, ap_enum, ap_cls, ap_loop0, ap_loop1, ap_while, ap_fld, ap_ofs, ix_dic, ix_tup, ix_lst, getK_s, in_dic, rd_sh, rd_fr, rd_nm, shr_sh, shr_fr, shr_nm, sv_sh, sv_fr, sv_nm, fin_sh, fin_fr, fin_nm, ii_add, ii_sub, ii_iadd, ii_mod, ii_div, ii_gt, ii_lt, ii_min, ii_max, ii_eq, ss_eq, ss_ne, ii_ne, bodyC, seqC, ifC, exprC, retC, setD, setC, asgD, asgC, tconsC, pairC, pairW, unC, m1C, binC, m2F, m2E, m2D, m2C, shC, mtupC, mlstC, consD, consC, tcC, truD, truC, andC, orC, notC, ifeC, callC, methD, methC, m1sD, m1sC, forC, iterD, iterC, augE, augD, augC, mutE, mutD, mutC, mutB, putF2, putE2, putD2, putC2, putB2, par2C, par3C, consoD, consoC, ownD, ownC, calliE, calliD, calliC, calliB, bodyiD, bodyiE, bodyiC, enumC, clsC, loopD, loopC, whileD, whileC, ixS, nameC, rdC, shrC, finC, List.getElem?_cons_zero, List.getElem?_cons_succ, List.set_cons_zero, List.set_cons_succ, List.map_cons, List.map_nil, List.cons_append, List.nil_append, List.replicate_succ, List.replicate_zero, List.length_cons, List.length_nil, items, e1, e7]
theorem k2e (hm : m ≤ 100) (hl : r.cs.length ≤ 1000) : fAdd (.lst ((List.replicate m (0 : Int)).map W.int)) (.lst (r.cs.map W.int)) = .ok (.fr (.lst ((List.replicate m (0 : Int) ++ r.cs).map W.int))) := by
  rw [List.map_append]
  refine iff_pos ?_
  have : line = 16777216 := rfl
  simp only [List.length_map, List.length_replicate]; omega
theorem k2h (h3 : (Txt.split r.c " ").length ≤ 1000) (h4 : (Txt.split r.c " ").map (fun s => if s.length ≤ 640 then PySem.intText? s else none) = r.cs.map some) : r.cs.length ≤ 1000 := by
  have := congrArg List.length h4
  rw [List.length_map, List.length_map] at this
  rw [← this]; exact h3
theorem k2j {A B : Mx} {x : List Int} {y z : List W} {e0 : En} (i : Nat) (c1 : A e0 = .ok (.fr (.lst (x.map W.int)), e0)) (c2 : B e0 = .ok (.fr (.lst y), e0)) (e6 : fAdd (.lst (x.map W.int)) (.lst y) = .ok (.fr (.lst z))) :
    mSet i (mBin fAdd A B) e0 = .ok (.nx, e0.set i (.ow false (.lst z))) := by
  rw [ap_set, ap_bin, ap_m2, c1]
  simp only [R.bind_ok, m2C, c2, m2D, sv_fr, rd_sh, m2E, rd_fr, m2F, binC, e6, pairC]
  rfl
theorem k2 (hW : rowW r = true) (hm : m ≤ 100) : kb2 [.sh SS, .sh KK, F0, .sh (.str r.t), .sh (.str r.h), .sh (.str r.c), .ow false w, .sh (.str ⟨(List.replicate m 46).toArray⟩), x8, x9, x10] = .ok (.nx, [.sh SS, .sh KK, F0, .sh (.str r.t), .sh (.str r.h), .sh (.str r.c), .ow false w, .sh (.str ⟨(List.replicate m 46).toArray⟩), (.ow false (.lst ((List.replicate m (0 : Int) ++ r.cs).map W.int))), x9, x10]) := by
  simp only [rowW, Bool.and_eq_true, decide_eq_true_eq] at hW
  obtain ⟨⟨⟨h1, h2⟩, h3⟩, h4⟩ := hW
  exact k2j 8 (k2a hm) (k2c h3 ⟨h1, h2⟩ h4) (k2e hm (k2h h3 h4))
theorem k3 (hC : rowC r = true) (hm : m ≤ 100) {x8 : Sl} : kb3 [.sh SS, .sh KK, F0, .sh (.str r.t), .sh (.str r.h), .sh (.str r.c), .ow false w, .sh (.str ⟨(List.replicate m 46).toArray⟩), x8, x9, x10] = .ok (.nx, [.sh SS, .sh KK, F0, .sh (.str r.t), .sh (.str r.h), .sh (.str r.c), .ow false w, .sh (.str ⟨(List.replicate m 46).toArray⟩), x8, .sh (.str ⟨(List.replicate m 46 ++ r.hs).toArray⟩), x10]) := by
  simp only [rowC, Bool.and_eq_true, decide_eq_true_eq] at hC
  obtain ⟨⟨⟨h1, h2⟩, h3⟩, h4⟩ := hC
  have e1 : fAdd (.str ⟨(List.replicate m 46).toArray⟩) (.str r.h) = .ok (.sh (.str ⟨(List.replicate m 46 ++ r.hs).toArray⟩)) := by
    have : fAdd (.str ⟨(List.replicate m 46).toArray⟩) (.str r.h) = .ok (.sh (.str (⟨(List.replicate m 46).toArray⟩ ++ r.h))) := by
      refine iff_pos ?_
      have l1 : line = 16777216 := rfl
      have l2 : r.h.length = r.hs.length := by rw [h1]; simp [Str.length]
      rw [l2]
      simp only [Str.length, List.size_toArray, List.length_replicate]; omega
    rw [this, h1]
    congr 3
    show (⟨(List.replicate m 46).toArray ++ r.hs.toArray⟩ : Str) = _
    simp
  unfold kb3
  simp only [R.bind_ok, R.bind_bad, R.bind_exn, ap_body, ap_seq, ap_nil, ap_if, ap_expr, ap_ret, ap_retN, ap_set, ap_asg, ap_tup, ap_tname, ap_tnil, ap_tcons, ap_c, ap_name, ap_un, ap_m1, ap_bin, ap_m2, ap_sh, ap_mtup, ap_mlst, ap_nila, ap_consa, ap_tc, ap_tru, ap_and, ap_or, ap_not, ap_ife, ap_call, ap_meth, ap_m1s, ap_for, ap_iter, ap_aug, ap_mut, ap_put, ap_par2, ap_par3, ap_nilo, ap_conso, ap_own, ap_calli, ap_bodyi, ap_enum, ap_cls, ap_loop0, ap_loop1, ap_while, ap_fld, ap_ofs, ix_dic, ix_tup, ix_lst, getK_s, in_dic, rd_sh, rd_fr, rd_nm, shr_sh, shr_fr, shr_nm, sv_sh, sv_fr, sv_nm, fin_sh, fin_fr, fin_nm, ii_add, ii_sub, ii_iadd, ii_mod, ii_div, ii_gt, ii_lt, ii_min, ii_max, ii_eq, ss_eq, ss_ne, ii_ne, bodyC, seqC, ifC, exprC, retC, setD, setC, asgD, asgC, tconsC, pairC, pairW, unC, m1C, binC, m2F, m2E, m2D, m2C, shC, mtupC, mlstC, consD, consC, tcC, truD, truC, andC, orC, notC, ifeC, callC, methD, methC, m1sD, m1sC, forC, iterD, iterC, augE, augD, augC, mutE, mutD, mutC, mutB, putF2, putE2, putD2, putC2, putB2, par2C, par3C, consoD, consoC, ownD, ownC, calliE, calliD, calliC, calliB, bodyiD, bodyiE, bodyiC, enumC, clsC, loopD, loopC, whileD, whileC, ixS, nameC, rdC, shrC, finC, List.getElem?_cons_zero, List.getElem?_cons_succ, List.set_cons_zero, List.set_cons_succ, List.map_cons, List.map_nil, List.cons_append, List.nil_append, List.replicate_succ, List.replicate_zero, List.length_cons, List.length_nil, e1]
theorem k4 (S : FareW r.F w) (hc : ∀ c ∈ (List.replicate m 46 ++ r.hs), c ∈ r.F.letters) (hm : m ≤ 100) (hh : r.hs.length ≤ 100) (hE : r.F.costs (List.replicate m 46 ++ r.hs) = List.replicate m 0 ++ r.cs) :
    kb4 [.sh SS, .sh KK, F0, .sh (.str r.t), .sh (.str r.h), .sh (.str r.c), .ow false w, .sh (.str ⟨(List.replicate m 46).toArray⟩), .ow false (.lst ((List.replicate m (0 : Int) ++ r.cs).map W.int)), .sh (.str ⟨(List.replicate m 46 ++ r.hs).toArray⟩), x10] = .ok (.nx, [.sh SS, .sh KK, F0, .sh (.str r.t), .sh (.str r.h), .sh (.str r.c), .sh w, .sh (.str ⟨(List.replicate m 46).toArray⟩), .ow false (.lst ((List.replicate m (0 : Int) ++ r.cs).map W.int)), .sh (.str ⟨(List.replicate m 46 ++ r.hs).toArray⟩), x10]) := by
  have l1 : line = 16777216 := rfl
  have e1 := costs_eq S hc (by simp only [List.length_append, List.length_replicate]; omega)
  have e2 := cost_eq S hc (by simp only [List.length_append, List.length_replicate]; omega)
  rw [hE] at e1 e2
  have e3 : fSum (.lst ((List.replicate m (0 : Int) ++ r.cs).map W.int)) = .ok (.sh (.int (List.replicate m (0 : Int) ++ r.cs).sum)) := by
    show (ofO (intsOf _)).bind _ = _
    rw [intsOf_map]; rfl
  have e4 := ne_ints (xs := List.replicate m (0 : Int) ++ r.cs) (ys := List.replicate m (0 : Int) ++ r.cs)
  obtain ⟨ns, fs, ks, vs, rfl, h1, h2, h3, h4, h5, h6, h7, h8, n1, n2, n3, n4, n5⟩ := S.ex
  unfold kb4
  simp only [R.bind_ok, R.bind_bad, R.bind_exn, ap_body, ap_seq, ap_nil, ap_if, ap_expr, ap_ret, ap_retN, ap_set, ap_asg, ap_tup, ap_tname, ap_tnil, ap_tcons, ap_c, ap_name, ap_un, ap_m1, ap_bin, ap_m2, ap_sh, ap_mtup, ap_mlst, ap_nila, ap_consa, ap_tc, ap_tru, ap_and, ap_or, ap_not, ap_ife, ap_call, ap_meth, ap_m1s, ap_for, ap_iter, ap_aug, ap_mut, ap_put, ap_par2, ap_par3, ap_nilo, ap_conso, ap_own, ap_calli, ap_bodyi, ap_enum, ap_cls, ap_loop0, ap_loop1, ap_while, ap_fld, ap_ofs, ix_dic, ix_tup, ix_lst, getK_s, in_dic, rd_sh, rd_fr, rd_nm, shr_sh, shr_fr, shr_nm, sv_sh, sv_fr, sv_nm, fin_sh, fin_fr, fin_nm, ii_add, ii_sub, ii_iadd, ii_mod, ii_div, ii_gt, ii_lt, ii_min, ii_max, ii_eq, ss_eq, ss_ne, ii_ne, bodyC, seqC, ifC, exprC, retC, setD, setC, asgD, asgC, tconsC, pairC, pairW, unC, m1C, binC, m2F, m2E, m2D, m2C, shC, mtupC, mlstC, consD, consC, tcC, truD, truC, andC, orC, notC, ifeC, callC, methD, methC, m1sD, m1sC, forC, iterD, iterC, augE, augD, augC, mutE, mutD, mutC, mutB, putF2, putE2, putD2, putC2, putB2, par2C, par3C, consoD, consoC, ownD, ownC, calliE, calliD, calliC, calliB, bodyiD, bodyiE, bodyiC, enumC, clsC, loopD, loopC, whileD, whileC, ixS, nameC, rdC, shrC, finC, List.getElem?_cons_zero, List.getElem?_cons_succ, List.set_cons_zero, List.set_cons_succ, List.map_cons, List.map_nil, List.cons_append, List.nil_append, List.replicate_succ, List.replicate_zero, List.length_cons, List.length_nil, iff_T, and_self, n4, n5, e1, e2, e3, e4, decide_true, Bool.not_true, Bool.false_eq_true, if_false, ii_ne]
end
end WL
end F_K08A

section F_K08B
/-! K08B: the rows, looked at by the kernel. -/
namespace WL
open PySem L2
theorem rows_A : krows.all rowA = true := by decide +kernel
theorem rows_W : krows.all rowW = true := by decide +kernel
theorem rows_C : krows.all rowC = true := by decide +kernel
theorem rows_P : krows.all rowP = true := by decide +kernel
theorem rows_w : (match g_u_law_rows [] with | .ok (.fr (.lst ws)) => weqs ws (krows.map fun r => .tup [.str r.t, .str r.h, .str r.c]) | _ => false) = true := by decide +kernel
def FA : Fare := ⟨1, [], [(97, 1, 1)], none, none, none⟩
def FB : Fare := ⟨8, [], [(97, 4, 4)], none, some 6, none⟩
theorem pA : parseB FA "slots 1\nride a 1 1" = true := by decide +kernel
theorem pB : parseB FB "slots 8\nride a 4 4\ncap 6" = true := by decide +kernel
theorem cA : FA.costs (List.replicate 3000 97) = List.replicate 3000 1 := by decide +kernel
theorem cB : (FB.costs ((List.replicate 100 [97, 97, 46, 46, 46, 46, 46, 46, 46, 46]).flatten)).sum = 600 := by decide +kernel
end WL
end F_K08B

section F_K08C
/-! K08C: thousands of letters. -/
namespace WL
open PySem L2
theorem fold_app (x : Array Nat) : ∀ (n : Nat) (acc : Array Nat), (List.replicate n x).foldl (· ++ ·) acc = acc ++ ((List.replicate n x.toList).flatten).toArray
  | 0, acc => by simp
  | n + 1, acc => by
    rw [List.replicate_succ, List.foldl_cons, fold_app x n, List.replicate_succ, List.flatten_cons, Array.append_assoc]
    refine congrArg (acc ++ ·) (Array.ext' ?_)
    simp
theorem mul_gen {s : Str} {n : Nat} (h1 : 1 < n) (h2 : s.length ≠ 0) : Txt.mul s (n : Int) = ⟨((List.replicate n s.cps.toList).flatten).toArray⟩ := by
  unfold Txt.mul
  have c1 : ¬ (n : Int) < 1 := by omega
  have c2 : ¬ ((((n : Int) == 1) || s.length == 0) = true) := by
    simp only [Bool.or_eq_true, beq_iff_eq, not_or]
    exact ⟨by omega, h2⟩
  rw [if_neg c1, if_neg c2, Int.toNat_natCast, fold_app]
  simp
theorem flat_one (c : Nat) : ∀ n : Nat, (List.replicate n [c]).flatten = List.replicate n c
  | 0 => rfl
  | n + 1 => by rw [List.replicate_succ, List.flatten_cons, flat_one c n, List.replicate_succ]; rfl
theorem tA {n : Nat} (h1 : 1 < n) : Txt.mul "a" (n : Int) = ⟨(List.replicate n 97).toArray⟩ := by
  have h : ("a" : Str).cps.toList = [97] := by decide
  rw [mul_gen h1 (by decide), h, flat_one]
theorem tB {n : Nat} (h1 : 1 < n) : Txt.mul "aa........" (n : Int) = ⟨((List.replicate n [97, 97, 46, 46, 46, 46, 46, 46, 46, 46]).flatten).toArray⟩ := by
  have h : ("aa........" : Str).cps.toList = [97, 97, 46, 46, 46, 46, 46, 46, 46, 46] := by decide
  rw [mul_gen h1 (by decide), h]
theorem rep_flat1 (z : Int) : ∀ n : Nat, (List.replicate n [W.int z]).flatten = (List.replicate n z).map W.int
  | 0 => rfl
  | n + 1 => by rw [List.replicate_succ, List.flatten_cons, rep_flat1 z n, List.replicate_succ]; rfl
theorem mul_l1 {n : Nat} {z : Int} (h : n ≤ 10000) : fMul (.lst [.int z]) (.int (n : Int)) = .ok (.fr (.lst ((List.replicate n z).map W.int))) := by
  have hh : ((-(2 ^ 63) ≤ (n : Int) ∧ (n : Int) < 2 ^ 63) ∧ [W.int z].length * (n : Int).toNat ≤ line) := by
    refine ⟨⟨by omega, by omega⟩, ?_⟩
    have : line = 16777216 := rfl
    simp; omega
  show iff _ _ = _
  rw [iff_pos hh, Int.toNat_natCast, rep_flat1]
theorem mul_s {n : Nat} {s : Str} (h : n ≤ 10000) (h2 : s.length ≤ 100) : fMul (.str s) (.int (n : Int)) = .ok (.sh (.str (Txt.mul s (n : Int)))) := by
  exact iff_pos ⟨⟨by omega, by omega⟩, h2⟩
section
variable {SS w : W} {x0 x1 : Sl} {s : Str} {N : Int} {xs : List Int} {A : Mx}
def lg (A : Mx) (N : Int) : Ms := mIf (mOr (mTc (mBin fNe (mMeth "System" "cost" g_System_cost (mName 0) (mConsA A mNilA)) (mC (.int N)))) (mTc (mBin fNe (mMeth "System" "costs" g_System_costs (mName 0) (mConsA A mNilA)) (mBin fMul (mLst (mConsA (mC (.int 1)) mNilA)) (mC (.int N)))))) (mRet (mC (.bl false))) mNil
theorem lg_ok {F : Fare} (S : FareW F w) (hA : ∀ e, A e = .ok (.sh (.str s), e)) (e1 : g_System_cost [w, .str s] = .ok (.sh (.int N))) (e2 : g_System_costs [w, .str s] = .ok (.fr (.lst (xs.map W.int)))) (e3 : fMul (.lst [.int 1]) (.int N) = .ok (.fr (.lst (xs.map W.int)))) :
    lg A N [.ow false w, x1] = .ok (.nx, [.sh w, x1]) := by
  have e4 := ne_ints (xs := xs) (ys := xs)
  have hB : ∀ e : En, mBin fMul (mLst (mConsA (mC (.int 1)) mNilA)) (mC (.int N)) e = .ok (.fr (.lst (xs.map W.int)), e) := fun e => bin_fs lst1 rfl e3
  obtain ⟨ns, fs, ks, vs, rfl, h1, h2, h3, h4, h5, h6, h7, h8, n1, n2, n3, n4, n5⟩ := S.ex
  unfold lg
  generalize mBin fMul (mLst (mConsA (mC (.int 1)) mNilA)) (mC (.int N)) = B at *
  simp only [R.bind_ok, R.bind_bad, R.bind_exn, ap_body, ap_seq, ap_nil, ap_if, ap_expr, ap_ret, ap_retN, ap_set, ap_asg, ap_tup, ap_tname, ap_tnil, ap_tcons, ap_c, ap_name, ap_un, ap_m1, ap_bin, ap_m2, ap_sh, ap_mtup, ap_mlst, ap_nila, ap_consa, ap_tc, ap_tru, ap_and, ap_or, ap_not, ap_ife, ap_call, ap_meth, ap_m1s, ap_for, ap_iter, ap_aug, ap_mut, ap_put, ap_par2, ap_par3, ap_nilo, ap_conso, ap_own, ap_calli, ap_bodyi, ap_enum, ap_cls, ap_loop0, ap_loop1, ap_while, ap_fld, ap_ofs, ix_dic, ix_tup, ix_lst, getK_s, in_dic, rd_sh, rd_fr, rd_nm, shr_sh, shr_fr, shr_nm, sv_sh, sv_fr, sv_nm, fin_sh, fin_fr, fin_nm, ii_add, ii_sub, ii_iadd, ii_mod, ii_div, ii_gt, ii_lt, ii_min, ii_max, ii_eq, ss_eq, ss_ne, ii_ne, bodyC, seqC, ifC, exprC, retC, setD, setC, asgD, asgC, tconsC, pairC, pairW, unC, m1C, binC, m2F, m2E, m2D, m2C, shC, mtupC, mlstC, consD, consC, tcC, truD, truC, andC, orC, notC, ifeC, callC, methD, methC, m1sD, m1sC, forC, iterD, iterC, augE, augD, augC, mutE, mutD, mutC, mutB, putF2, putE2, putD2, putC2, putB2, par2C, par3C, consoD, consoC, ownD, ownC, calliE, calliD, calliC, calliB, bodyiD, bodyiE, bodyiC, enumC, clsC, loopD, loopC, whileD, whileC, ixS, nameC, rdC, shrC, finC, List.getElem?_cons_zero, List.getElem?_cons_succ, List.set_cons_zero, List.set_cons_succ, List.map_cons, List.map_nil, List.cons_append, List.nil_append, List.replicate_succ, List.replicate_zero, List.length_cons, List.length_nil, hA, hB, iff_T, and_self, n4, n5, e1, e2, e4, decide_true, Bool.not_true, Bool.false_eq_true, if_false, ii_ne]
def lh (A : Mx) (N : Int) : Ms := mRet (mBin fEq (mMeth "System" "cost" g_System_cost (mName 1) (mConsA A mNilA)) (mC (.int N)))
theorem lh_ok {F : Fare} (S : FareW F w) (hA : ∀ e, A e = .ok (.sh (.str s), e)) (e1 : g_System_cost [w, .str s] = .ok (.sh (.int N))) :
    lh A N [x0, .ow false w] = .ok (.rt (.sh (.bl true)), [x0, .sh w]) := by
  obtain ⟨ns, fs, ks, vs, rfl, h1, h2, h3, h4, h5, h6, h7, h8, n1, n2, n3, n4, n5⟩ := S.ex
  unfold lh
  simp only [R.bind_ok, R.bind_bad, R.bind_exn, ap_body, ap_seq, ap_nil, ap_if, ap_expr, ap_ret, ap_retN, ap_set, ap_asg, ap_tup, ap_tname, ap_tnil, ap_tcons, ap_c, ap_name, ap_un, ap_m1, ap_bin, ap_m2, ap_sh, ap_mtup, ap_mlst, ap_nila, ap_consa, ap_tc, ap_tru, ap_and, ap_or, ap_not, ap_ife, ap_call, ap_meth, ap_m1s, ap_for, ap_iter, ap_aug, ap_mut, ap_put, ap_par2, ap_par3, ap_nilo, ap_conso, ap_own, ap_calli, ap_bodyi, ap_enum, ap_cls, ap_loop0, ap_loop1, ap_while, ap_fld, ap_ofs, ix_dic, ix_tup, ix_lst, getK_s, in_dic, rd_sh, rd_fr, rd_nm, shr_sh, shr_fr, shr_nm, sv_sh, sv_fr, sv_nm, fin_sh, fin_fr, fin_nm, ii_add, ii_sub, ii_iadd, ii_mod, ii_div, ii_gt, ii_lt, ii_min, ii_max, ii_eq, ss_eq, ss_ne, ii_ne, bodyC, seqC, ifC, exprC, retC, setD, setC, asgD, asgC, tconsC, pairC, pairW, unC, m1C, binC, m2F, m2E, m2D, m2C, shC, mtupC, mlstC, consD, consC, tcC, truD, truC, andC, orC, notC, ifeC, callC, methD, methC, m1sD, m1sC, forC, iterD, iterC, augE, augD, augC, mutE, mutD, mutC, mutB, putF2, putE2, putD2, putC2, putB2, par2C, par3C, consoD, consoC, ownD, ownC, calliE, calliD, calliC, calliB, bodyiD, bodyiE, bodyiC, enumC, clsC, loopD, loopC, whileD, whileC, ixS, nameC, rdC, shrC, finC, List.getElem?_cons_zero, List.getElem?_cons_succ, List.set_cons_zero, List.set_cons_succ, List.map_cons, List.map_nil, List.cons_append, List.nil_append, List.replicate_succ, List.replicate_zero, List.length_cons, List.length_nil, hA, iff_T, and_self, n4, n5, e1, decide_true, ii_eq]
end
theorem st_parse {i : Nat} {z : Str} {w : W} {e : En} (hp : g_System_parse [.cl "System", .str z] = .ok (.fr w)) : mSet i (mCls "System" g_System_parse (mConsA (mC (.str z)) mNilA)) e = .ok (.nx, e.set i (.ow false w)) := by
  simp only [R.bind_ok, R.bind_bad, R.bind_exn, ap_body, ap_seq, ap_nil, ap_if, ap_expr, ap_ret, ap_retN, ap_set, ap_asg, ap_tup, ap_tname, ap_tnil, ap_tcons, ap_c, ap_name, ap_un, ap_m1, ap_bin, ap_m2, ap_sh, ap_mtup, ap_mlst, ap_nila, ap_consa, ap_tc, ap_tru, ap_and, ap_or, ap_not, ap_ife, ap_call, ap_meth, ap_m1s, ap_for, ap_iter, ap_aug, ap_mut, ap_put, ap_par2, ap_par3, ap_nilo, ap_conso, ap_own, ap_calli, ap_bodyi, ap_enum, ap_cls, ap_loop0, ap_loop1, ap_while, ap_fld, ap_ofs, ix_dic, ix_tup, ix_lst, getK_s, in_dic, rd_sh, rd_fr, rd_nm, shr_sh, shr_fr, shr_nm, sv_sh, sv_fr, sv_nm, fin_sh, fin_fr, fin_nm, ii_add, ii_sub, ii_iadd, ii_mod, ii_div, ii_gt, ii_lt, ii_min, ii_max, ii_eq, ss_eq, ss_ne, ii_ne, bodyC, seqC, ifC, exprC, retC, setD, setC, asgD, asgC, tconsC, pairC, pairW, unC, m1C, binC, m2F, m2E, m2D, m2C, shC, mtupC, mlstC, consD, consC, tcC, truD, truC, andC, orC, notC, ifeC, callC, methD, methC, m1sD, m1sC, forC, iterD, iterC, augE, augD, augC, mutE, mutD, mutC, mutB, putF2, putE2, putD2, putC2, putB2, par2C, par3C, consoD, consoC, ownD, ownC, calliE, calliD, calliC, calliB, bodyiD, bodyiE, bodyiC, enumC, clsC, loopD, loopC, whileD, whileC, ixS, nameC, rdC, shrC, finC, List.getElem?_cons_zero, List.getElem?_cons_succ, List.set_cons_zero, List.set_cons_succ, List.map_cons, List.map_nil, List.cons_append, List.nil_append, List.replicate_succ, List.replicate_zero, List.length_cons, List.length_nil, hp]
theorem bin_cc {f : W → W → R Rs} {u v : W} {e0 : En} {q : Rs} (h : f u v = .ok q) : mBin f (mC u) (mC v) e0 = .ok (q, e0) := by
  rw [ap_bin, ap_m2, ap_c]
  simp only [R.bind_ok, m2C, ap_c, m2D, sv_fr, sv_sh, rd_sh, m2E, rd_fr, m2F, binC, h, pairC]
theorem long_gen {A B : Mx} {N M : Int} {z y : Str} {w v : W} {s t : Str} {F G : Fare} {xs : List Int}
    (p1 : g_System_parse [.cl "System", .str z] = .ok (.fr w)) (p2 : g_System_parse [.cl "System", .str y] = .ok (.fr v))
    (h1 : lg A N [.ow false w, .un] = .ok (.nx, [.sh w, .un])) (h2 : lh B M [.sh w, .ow false v] = .ok (.rt (.sh (.bl true)), [.sh w, .sh v])) :
    mBody 2 (mSeq (mSet 0 (mCls "System" g_System_parse (mConsA (mC (.str z)) mNilA))) (mSeq (lg A N) (mSeq (mSet 1 (mCls "System" g_System_parse (mConsA (mC (.str y)) mNilA))) (lh B M)))) [] = .ok (.sh (.bl true)) := by
  have q1 := st_parse (i := 0) (e := [.un, .un]) p1
  have q2 := st_parse (i := 1) (e := [.sh w, .un]) p2
  generalize mSet 0 (mCls "System" g_System_parse (mConsA (mC (.str z)) mNilA)) = U at *
  generalize mSet 1 (mCls "System" g_System_parse (mConsA (mC (.str y)) mNilA)) = V at *
  generalize lg A N = P at *
  generalize lh B M = Q at *
  simp only [List.set_cons_zero, List.set_cons_succ] at q1 q2
  rw [ap_body]
  show ((mSeq U (mSeq P (mSeq V Q))) [.un, .un]).bind bodyC = _
  simp only [R.bind_ok, ap_seq, q1, q2, h1, h2, seqC, bodyC, fin_sh]
theorem long_ok : g_u_law_long_right [] = .ok (.sh (.bl true)) := by
  obtain ⟨w, p1, S1⟩ := parse_ok pA
  obtain ⟨v, p2, S2⟩ := parse_ok pB
  have hl : (3000 : Nat) ≤ line := Nat.le_add_left 3000 16774216
  have hm : (1000 : Nat) ≤ line := Nat.le_add_left 1000 16776216
  have a1 := costs_eq S1 (h := List.replicate 3000 97) (fun c hc => by rw [(List.mem_replicate.mp hc).2]; decide) (by rw [List.length_replicate]; exact hl)
  have a2 := cost_eq S1 (h := List.replicate 3000 97) (fun c hc => by rw [(List.mem_replicate.mp hc).2]; decide) (by rw [List.length_replicate]; exact hl)
  rw [cA] at a1 a2
  rw [show (List.replicate 3000 (1 : Int)).sum = 3000 by decide +kernel] at a2
  have hb : ∀ c ∈ [97, 97, 46, 46, 46, 46, 46, 46, 46, 46], c ∈ FB.letters := by decide
  have a3 := cost_eq S2 (h := (List.replicate 100 [97, 97, 46, 46, 46, 46, 46, 46, 46, 46]).flatten) (fun c hc => by
    obtain ⟨l, hl, hc⟩ := List.mem_flatten.mp hc
    rw [(List.mem_replicate.mp hl).2] at hc
    exact hb c hc) (by
    rw [show ((List.replicate 100 [97, 97, 46, 46, 46, 46, 46, 46, 46, 46]).flatten).length = 1000 by decide +kernel]; exact hm)
  rw [cB] at a3
  have m1 : fMul (.str "a") (.int 3000) = .ok (.sh (.str ⟨(List.replicate 3000 97).toArray⟩)) := by
    rw [← tA (by decide)]; exact mul_s (by decide) (by decide)
  have m2 : fMul (.str "aa........") (.int 100) = .ok (.sh (.str ⟨((List.replicate 100 [97, 97, 46, 46, 46, 46, 46, 46, 46, 46]).flatten).toArray⟩)) := by
    rw [← tB (by decide)]; exact mul_s (by decide) (by decide)
  have m3 : fMul (.lst [.int 1]) (.int 3000) = .ok (.fr (.lst ((List.replicate 3000 1).map W.int))) := mul_l1 (n := 3000) (by decide)
  exact long_gen (F := FA) (G := FB) (s := "a") (t := "a") (xs := []) p1 p2 (lg_ok S1 (fun e => bin_cc m1) a2 a1 m3) (lh_ok S2 (fun e => bin_cc m2) a3)
end WL
end F_K08C

section F_LAW
/-! LAW: the law is kept. -/
namespace WL
open PySem L2
theorem loop_inv {I : En → Prop} {tg : Mg} {b : Ms} : ∀ (ws : List W), (∀ w ∈ ws, ∀ e, I e → ∃ e1, tg w e = .ok e1 ∧ ∃ e2, b e1 = .ok (.nx, e2) ∧ I e2) → ∀ e, I e → ∃ e', mLoop tg b ws e = .ok (.nx, e') ∧ I e'
  | [], _, e, h => ⟨e, ap_loop0, h⟩
  | w :: ws, H, e, h => by
    obtain ⟨e1, h1, e2, h2, h3⟩ := H w (List.mem_cons_self ..) e h
    obtain ⟨e', h4, h5⟩ := loop_inv ws (fun w hw => H w (List.mem_cons_of_mem _ hw)) e2 h3
    refine ⟨e', ?_, h5⟩
    rw [ap_loop1, h1, R.bind_ok]
    show (b e1).bind (loopD tg b ws) = _
    rw [h2, R.bind_ok]
    exact h4
def InvI (SS KK : W) (e : En) : Prop := ∃ a b : Int, ∃ x3 x4 x5 x6 x7 x8 x9 x10 : Sl, e = [.sh SS, .sh KK, .ow false (.lst [.int a, .int b]), x3, x4, x5, x6, x7, x8, x9, x10]
def InvO (SS : W) (e : En) : Prop := ∃ x1 x2 x3 x4 x5 x6 x7 x8 x9 x10 : Sl, e = [.sh SS, x1, x2, x3, x4, x5, x6, x7, x8, x9, x10]
theorem seq_nx {u v : Ms} {e e1 : En} {q : R (Fl × En)} (h : u e = .ok (.nx, e1)) (h2 : v e1 = q) : mSeq u v e = q := by
  rw [ap_seq, h, R.bind_ok]
  exact h2
theorem turn_ok {SS KK : W} {r : KRow} (hA : rowA r = true) (hW : rowW r = true) (hC : rowC r = true) (hP : rowP r = true) {a b : Int} {x6 x7 x8 x9 x10 : Sl} :
    ∃ e2, kbody [.sh SS, .sh KK, .ow false (.lst [.int a, .int b]), .sh (.str r.t), .sh (.str r.h), .sh (.str r.c), x6, x7, x8, x9, x10] = .ok (.nx, e2) ∧ InvI SS KK e2 := by
  obtain ⟨w, hp, S⟩ := parse_ok hP
  have hC' := hC
  simp only [rowC, Bool.and_eq_true, decide_eq_true_eq] at hC'
  obtain ⟨⟨⟨c1, c2⟩, ⟨c3, c3'⟩⟩, c4⟩ := hC'
  obtain ⟨d, a', b', hd, e1⟩ := k1 (SS := SS) (KK := KK) (a := a) (b := b) (x7 := x7) (x8 := x8) (x9 := x9) (x10 := x10) S c3
  have hm : r.F.slots.toNat * d ≤ 8 * 4 := Nat.mul_le_mul (by omega) (by omega)
  have hm' : r.F.slots.toNat * d ≤ 100 := Nat.le_trans hm (by decide)
  have hE := List.all_eq_true.mp c4 d (List.mem_range.mpr hd)
  rw [decide_eq_true_eq] at hE
  generalize r.F.slots.toNat * d = m at *
  have hdot : m = 0 ∨ 46 ∈ r.F.letters := by right; simp [Fare.letters]
  have hc : ∀ c ∈ (List.replicate m 46 ++ r.hs), c ∈ r.F.letters := by
    intro c hc
    rcases List.mem_append.mp hc with h | h
    · rcases hdot with h0 | h0
      · subst h0; simp at h
      · rw [(List.mem_replicate.mp h).2]; exact h0
    · have := List.all_eq_true.mp c2 c h
      simpa using this
  refine ⟨[.sh SS, .sh KK, .ow false (.lst [.int a', .int b']), .sh (.str r.t), .sh (.str r.h), .sh (.str r.c), .sh w, .sh (.str ⟨(List.replicate m 46).toArray⟩), .ow false (.lst ((List.replicate m (0 : Int) ++ r.cs).map W.int)), .sh (.str ⟨(List.replicate m 46 ++ r.hs).toArray⟩), x10], ?_, a', b', _, _, _, _, _, _, _, _, rfl⟩
  · show mSeq kb0 (mSeq kb1 (mSeq kb2 (mSeq kb3 kb4))) _ = _
    exact seq_nx (k0 hA hp) (seq_nx e1 (seq_nx (k2 hW hm') (seq_nx (k3 hC hm') (k4 S hc hm' c3' hE))))
theorem tup3 {a b c : W} {x0 x1 x2 x3 x4 x5 x6 x7 x8 x9 x10 : Sl} : tTup 3 (tCons (tName 3) (tCons (tName 4) (tCons (tName 5) tNil))) (.tup [a, b, c]) [x0, x1, x2, x3, x4, x5, x6, x7, x8, x9, x10] = .ok [x0, x1, x2, .sh a, .sh b, .sh c, x6, x7, x8, x9, x10] := by
  rfl
def kfor : Ms := mFor (mIter (mCall g_u_law_rows mNilA)) (tTup 3 (tCons (tName 3) (tCons (tName 4) (tCons (tName 5) tNil)))) kbody
theorem rows_eq : ∃ ws, g_u_law_rows [] = .ok (.fr (.lst ws)) ∧ ws = krows.map fun r => .tup [.str r.t, .str r.h, .str r.c] := by
  have h := rows_w
  split at h
  · rename_i ws hw
    exact ⟨ws, hw, weqs_eq h⟩
  · cases h
theorem kfor_ok {SS KK : W} {e : En} (h : InvI SS KK e) : ∃ e', kfor e = .ok (.nx, e') ∧ InvI SS KK e' := by
  obtain ⟨ws, h1, h2⟩ := rows_eq
  have hit : mIter (mCall g_u_law_rows mNilA) e = .ok (ws, e) := by
    simp only [R.bind_ok, R.bind_bad, R.bind_exn, ap_body, ap_seq, ap_nil, ap_if, ap_expr, ap_ret, ap_retN, ap_set, ap_asg, ap_tup, ap_tname, ap_tnil, ap_tcons, ap_c, ap_name, ap_un, ap_m1, ap_bin, ap_m2, ap_sh, ap_mtup, ap_mlst, ap_nila, ap_consa, ap_tc, ap_tru, ap_and, ap_or, ap_not, ap_ife, ap_call, ap_meth, ap_m1s, ap_for, ap_iter, ap_aug, ap_mut, ap_put, ap_par2, ap_par3, ap_nilo, ap_conso, ap_own, ap_calli, ap_bodyi, ap_enum, ap_cls, ap_loop0, ap_loop1, ap_while, ap_fld, ap_ofs, ix_dic, ix_tup, ix_lst, getK_s, in_dic, rd_sh, rd_fr, rd_nm, shr_sh, shr_fr, shr_nm, sv_sh, sv_fr, sv_nm, fin_sh, fin_fr, fin_nm, ii_add, ii_sub, ii_iadd, ii_mod, ii_div, ii_gt, ii_lt, ii_min, ii_max, ii_eq, ss_eq, ss_ne, ii_ne, bodyC, seqC, ifC, exprC, retC, setD, setC, asgD, asgC, tconsC, pairC, pairW, unC, m1C, binC, m2F, m2E, m2D, m2C, shC, mtupC, mlstC, consD, consC, tcC, truD, truC, andC, orC, notC, ifeC, callC, methD, methC, m1sD, m1sC, forC, iterD, iterC, augE, augD, augC, mutE, mutD, mutC, mutB, putF2, putE2, putD2, putC2, putB2, par2C, par3C, consoD, consoC, ownD, ownC, calliE, calliD, calliC, calliB, bodyiD, bodyiE, bodyiC, enumC, clsC, loopD, loopC, whileD, whileC, ixS, nameC, rdC, shrC, finC, List.getElem?_cons_zero, List.getElem?_cons_succ, List.set_cons_zero, List.set_cons_succ, List.map_cons, List.map_nil, List.cons_append, List.nil_append, List.replicate_succ, List.replicate_zero, List.length_cons, List.length_nil, h1, items]
  obtain ⟨e', h3, h4⟩ := loop_inv (I := InvI SS KK) (tg := tTup 3 (tCons (tName 3) (tCons (tName 4) (tCons (tName 5) tNil)))) (b := kbody) ws (fun w hw e he => by
    rw [h2] at hw
    obtain ⟨r, hr, rfl⟩ := List.mem_map.mp hw
    obtain ⟨a, b, x3, x4, x5, x6, x7, x8, x9, x10, rfl⟩ := he
    exact ⟨_, tup3, turn_ok (List.all_eq_true.mp rows_A r hr) (List.all_eq_true.mp rows_W r hr) (List.all_eq_true.mp rows_C r hr) (List.all_eq_true.mp rows_P r hr)⟩) e h
  refine ⟨e', ?_, h4⟩
  unfold kfor
  rw [ap_for, hit, R.bind_ok]
  exact h3
def kset : Ms := mSet 2 (mCall g_u_law_feed (mConsA (mName 0) (mConsA (mName 1) mNilA)))
theorem kset_ok {ns : List Int} {k : Nat} {x2 x3 x4 x5 x6 x7 x8 x9 x10 : Sl} : ∃ e', kset [.sh (.scr ns), .sh (.int (k : Int)), x2, x3, x4, x5, x6, x7, x8, x9, x10] = .ok (.nx, e') ∧ InvI (.scr ns) (.int (k : Int)) e' := by
  have h := feed_eq (ns := ns) (k := k)
  generalize feedA (cell ns k) = a at *
  generalize feedB (cell ns k) k = b at *
  refine ⟨[.sh (.scr ns), .sh (.int (k : Int)), .ow false (.lst [.int a, .int b]), x3, x4, x5, x6, x7, x8, x9, x10], ?_, a, b, x3, x4, x5, x6, x7, x8, x9, x10, rfl⟩
  unfold kset
  simp only [R.bind_ok, R.bind_bad, R.bind_exn, ap_body, ap_seq, ap_nil, ap_if, ap_expr, ap_ret, ap_retN, ap_set, ap_asg, ap_tup, ap_tname, ap_tnil, ap_tcons, ap_c, ap_name, ap_un, ap_m1, ap_bin, ap_m2, ap_sh, ap_mtup, ap_mlst, ap_nila, ap_consa, ap_tc, ap_tru, ap_and, ap_or, ap_not, ap_ife, ap_call, ap_meth, ap_m1s, ap_for, ap_iter, ap_aug, ap_mut, ap_put, ap_par2, ap_par3, ap_nilo, ap_conso, ap_own, ap_calli, ap_bodyi, ap_enum, ap_cls, ap_loop0, ap_loop1, ap_while, ap_fld, ap_ofs, ix_dic, ix_tup, ix_lst, getK_s, in_dic, rd_sh, rd_fr, rd_nm, shr_sh, shr_fr, shr_nm, sv_sh, sv_fr, sv_nm, fin_sh, fin_fr, fin_nm, ii_add, ii_sub, ii_iadd, ii_mod, ii_div, ii_gt, ii_lt, ii_min, ii_max, ii_eq, ss_eq, ss_ne, ii_ne, bodyC, seqC, ifC, exprC, retC, setD, setC, asgD, asgC, tconsC, pairC, pairW, unC, m1C, binC, m2F, m2E, m2D, m2C, shC, mtupC, mlstC, consD, consC, tcC, truD, truC, andC, orC, notC, ifeC, callC, methD, methC, m1sD, m1sC, forC, iterD, iterC, augE, augD, augC, mutE, mutD, mutC, mutB, putF2, putE2, putD2, putC2, putB2, par2C, par3C, consoD, consoC, ownD, ownC, calliE, calliD, calliC, calliB, bodyiD, bodyiE, bodyiC, enumC, clsC, loopD, loopC, whileD, whileC, ixS, nameC, rdC, shrC, finC, List.getElem?_cons_zero, List.getElem?_cons_succ, List.set_cons_zero, List.set_cons_succ, List.map_cons, List.map_nil, List.cons_append, List.nil_append, List.replicate_succ, List.replicate_zero, List.length_cons, List.length_nil, h]
theorem outer_ok {ns : List Int} {k : Nat} {e : En} (h : InvO (.scr ns) e) : ∃ e1, tName 1 (.int (k : Int)) e = .ok e1 ∧ ∃ e2, mSeq kset kfor e1 = .ok (.nx, e2) ∧ InvO (.scr ns) e2 := by
  obtain ⟨x1, x2, x3, x4, x5, x6, x7, x8, x9, x10, rfl⟩ := h
  obtain ⟨e', h1, h2⟩ := kset_ok (ns := ns) (k := k) (x2 := x2) (x3 := x3) (x4 := x4) (x5 := x5) (x6 := x6) (x7 := x7) (x8 := x8) (x9 := x9) (x10 := x10)
  obtain ⟨e2, h3, h4⟩ := kfor_ok h2
  refine ⟨[.sh (.scr ns), .sh (.int (k : Int)), x2, x3, x4, x5, x6, x7, x8, x9, x10], rfl, e2, seq_nx h1 h3, ?_⟩
  obtain ⟨a, b, y3, y4, y5, y6, y7, y8, y9, y10, rfl⟩ := h4
  exact ⟨_, _, _, _, _, _, _, _, _, _, rfl⟩
def kit : Ma := mRange (mBin fMax2 (mC (.int 1)) (mBin fMin2 (mC (.int 4)) (mUn fLen (mName 0))))
theorem kit_ok {ns : List Int} {x1 x2 x3 x4 x5 x6 x7 x8 x9 x10 : Sl} : ∃ n : Nat, kit [.sh (.scr ns), x1, x2, x3, x4, x5, x6, x7, x8, x9, x10] = .ok ((List.range n).map (fun (i : Nat) => W.int (i : Int)), [.sh (.scr ns), x1, x2, x3, x4, x5, x6, x7, x8, x9, x10]) := by
  have l1 : fLen (.scr ns) = .ok (.sh (.int (ns.length : Nat))) := rfl
  have hm : m1 (mBin fMax2 (mC (.int 1)) (mBin fMin2 (mC (.int 4)) (mUn fLen (mName 0)))) [.sh (.scr ns), x1, x2, x3, x4, x5, x6, x7, x8, x9, x10] = .ok (.int (if (if (ns.length : Int) < 4 then (ns.length : Int) else 4) > 1 then (if (ns.length : Int) < 4 then (ns.length : Int) else 4) else 1), [.sh (.scr ns), x1, x2, x3, x4, x5, x6, x7, x8, x9, x10]) := by
    simp only [R.bind_ok, R.bind_bad, R.bind_exn, ap_body, ap_seq, ap_nil, ap_if, ap_expr, ap_ret, ap_retN, ap_set, ap_asg, ap_tup, ap_tname, ap_tnil, ap_tcons, ap_c, ap_name, ap_un, ap_m1, ap_bin, ap_m2, ap_sh, ap_mtup, ap_mlst, ap_nila, ap_consa, ap_tc, ap_tru, ap_and, ap_or, ap_not, ap_ife, ap_call, ap_meth, ap_m1s, ap_for, ap_iter, ap_aug, ap_mut, ap_put, ap_par2, ap_par3, ap_nilo, ap_conso, ap_own, ap_calli, ap_bodyi, ap_enum, ap_cls, ap_loop0, ap_loop1, ap_while, ap_fld, ap_ofs, ix_dic, ix_tup, ix_lst, getK_s, in_dic, rd_sh, rd_fr, rd_nm, shr_sh, shr_fr, shr_nm, sv_sh, sv_fr, sv_nm, fin_sh, fin_fr, fin_nm, ii_add, ii_sub, ii_iadd, ii_mod, ii_div, ii_gt, ii_lt, ii_min, ii_max, ii_eq, ss_eq, ss_ne, ii_ne, bodyC, seqC, ifC, exprC, retC, setD, setC, asgD, asgC, tconsC, pairC, pairW, unC, m1C, binC, m2F, m2E, m2D, m2C, shC, mtupC, mlstC, consD, consC, tcC, truD, truC, andC, orC, notC, ifeC, callC, methD, methC, m1sD, m1sC, forC, iterD, iterC, augE, augD, augC, mutE, mutD, mutC, mutB, putF2, putE2, putD2, putC2, putB2, par2C, par3C, consoD, consoC, ownD, ownC, calliE, calliD, calliC, calliB, bodyiD, bodyiE, bodyiC, enumC, clsC, loopD, loopC, whileD, whileC, ixS, nameC, rdC, shrC, finC, List.getElem?_cons_zero, List.getElem?_cons_succ, List.set_cons_zero, List.set_cons_succ, List.map_cons, List.map_nil, List.cons_append, List.nil_append, List.replicate_succ, List.replicate_zero, List.length_cons, List.length_nil, l1]
  refine ⟨(if (if (ns.length : Int) < 4 then (ns.length : Int) else 4) > 1 then (if (ns.length : Int) < 4 then (ns.length : Int) else 4) else 1).toNat, ?_⟩
  unfold kit mRange
  rw [hm, R.bind_ok]
  exact iff_pos (by split <;> (try split) <;> constructor <;> omega)
theorem hl_ok {g : List W → R Rs} (h : g [] = .ok (.sh (.bl true))) {e : En} : mIf (mNot (mTru (mCall g mNilA))) (mRet (mC (.bl false))) mNil e = .ok (.nx, e) := by
  simp only [R.bind_ok, R.bind_bad, R.bind_exn, ap_body, ap_seq, ap_nil, ap_if, ap_expr, ap_ret, ap_retN, ap_set, ap_asg, ap_tup, ap_tname, ap_tnil, ap_tcons, ap_c, ap_name, ap_un, ap_m1, ap_bin, ap_m2, ap_sh, ap_mtup, ap_mlst, ap_nila, ap_consa, ap_tc, ap_tru, ap_and, ap_or, ap_not, ap_ife, ap_call, ap_meth, ap_m1s, ap_for, ap_iter, ap_aug, ap_mut, ap_put, ap_par2, ap_par3, ap_nilo, ap_conso, ap_own, ap_calli, ap_bodyi, ap_enum, ap_cls, ap_loop0, ap_loop1, ap_while, ap_fld, ap_ofs, ix_dic, ix_tup, ix_lst, getK_s, in_dic, rd_sh, rd_fr, rd_nm, shr_sh, shr_fr, shr_nm, sv_sh, sv_fr, sv_nm, fin_sh, fin_fr, fin_nm, ii_add, ii_sub, ii_iadd, ii_mod, ii_div, ii_gt, ii_lt, ii_min, ii_max, ii_eq, ss_eq, ss_ne, ii_ne, bodyC, seqC, ifC, exprC, retC, setD, setC, asgD, asgC, tconsC, pairC, pairW, unC, m1C, binC, m2F, m2E, m2D, m2C, shC, mtupC, mlstC, consD, consC, tcC, truD, truC, andC, orC, notC, ifeC, callC, methD, methC, m1sD, m1sC, forC, iterD, iterC, augE, augD, augC, mutE, mutD, mutC, mutB, putF2, putE2, putD2, putC2, putB2, par2C, par3C, consoD, consoC, ownD, ownC, calliE, calliD, calliC, calliB, bodyiD, bodyiE, bodyiC, enumC, clsC, loopD, loopC, whileD, whileC, ixS, nameC, rdC, shrC, finC, List.getElem?_cons_zero, List.getElem?_cons_succ, List.set_cons_zero, List.set_cons_succ, List.map_cons, List.map_nil, List.cons_append, List.nil_append, List.replicate_succ, List.replicate_zero, List.length_cons, List.length_nil, h]
  rfl
def e0 (ns : List Int) : En := [.sh (.scr ns), .un, .un, .un, .un, .un, .un, .un, .un, .un, .un]
theorem kmain_ok {ns : List Int} : ∃ e', mFor kit (tName 1) (mSeq kset kfor) (e0 ns) = .ok (.nx, e') := by
  obtain ⟨n, hk⟩ := kit_ok (ns := ns) (x1 := .un) (x2 := .un) (x3 := .un) (x4 := .un) (x5 := .un) (x6 := .un) (x7 := .un) (x8 := .un) (x9 := .un) (x10 := .un)
  obtain ⟨e', h3, h4⟩ := loop_inv (I := InvO (.scr ns)) (tg := tName 1) (b := mSeq kset kfor) ((List.range n).map (fun (i : Nat) => W.int (i : Int))) (fun w hw e he => by
    obtain ⟨k, hk, rfl⟩ := List.mem_map.mp hw
    exact outer_ok he) (e0 ns) ⟨_, _, _, _, _, _, _, _, _, _, rfl⟩
  refine ⟨e', ?_⟩
  rw [ap_for]
  unfold e0 at *
  rw [hk, R.bind_ok]
  exact h3
def khead : Ms := mIf (mNot (mTru (mCall g_u_law_long_right mNilA))) (mRet (mC (.bl false))) mNil
theorem m_law_eq : m_law = mSeq khead (mSeq (mFor kit (tName 1) (mSeq kset kfor)) (mRet (mC (.bl true)))) := by
  unfold m_law khead kit kset kfor kbody
  rfl
theorem ret_ok {e : En} : mRet (mC (.bl true)) e = .ok (.rt (.sh (.bl true)), e) := rfl
theorem m_law_ok {ns : List Int} : ∃ e', m_law (e0 ns) = .ok (.rt (.sh (.bl true)), e') := by
  obtain ⟨e', h⟩ := kmain_ok (ns := ns)
  refine ⟨e', ?_⟩
  rw [m_law_eq]
  have hl : khead (e0 ns) = .ok (.nx, e0 ns) := by
    unfold khead
    exact hl_ok long_ok
  exact seq_nx hl (seq_nx h ret_ok)
theorem body_true {m : Ms} {ns : List Int} {e' : En} (h : m (e0 ns) = .ok (.rt (.sh (.bl true)), e')) : mBody 10 m [.scr ns] = .ok (.sh (.bl true)) := by
  rw [ap_body]
  show (m (e0 ns)).bind bodyC = _
  rw [h]
  rfl
theorem law_true (ns : List Int) (_h : ns.length ≤ 63) : g_law [.scr ns] = .ok (.sh (.bl true)) := by
  obtain ⟨e', h⟩ := m_law_ok (ns := ns)
  unfold g_law
  exact body_true h
end WL
end F_LAW

section F_DER
namespace WL
open PySem PySem.Spec PyProof.Rows L2
def top (i : Nat) : Stmt := PySem.Challenge.pw_trickfares_k08_known_prices.main.body.getD i (.Pass ⟨0, 0, 0, 0⟩)
structure TX (P : Program) (w : World) (K : PySem.W.Frag) (mg : Str → Option Value) (base : Heap) (cls : Str → Option Addr) : Prop where
  b_abs : mg "abs" = none
  b_all : mg "all" = none
  b_dict : mg "dict" = none
  b_enumerate : mg "enumerate" = none
  b_int : mg "int" = none
  b_len : mg "len" = none
  b_list : mg "list" = none
  b_max : mg "max" = none
  b_min : mg "min" = none
  b_range : mg "range" = none
  b_set : mg "set" = none
  b_sorted : mg "sorted" = none
  b_str : mg "str" = none
  b_sum : mg "sum" = none
  b_tuple : mg "tuple" = none
  b_zip : mg "zip" = none
  g_DIGITS : GE K ⟨P, w, K, cls⟩ mg "DIGITS" c_DIGITS
  g_LETTERS : GE K ⟨P, w, K, cls⟩ mg "LETTERS" c_LETTERS
  g_MAX_KINDS : GE K ⟨P, w, K, cls⟩ mg "MAX_KINDS" c_MAX_KINDS
  g_MAX_PRICE : GE K ⟨P, w, K, cls⟩ mg "MAX_PRICE" c_MAX_PRICE
  g_MAX_SLOTS : GE K ⟨P, w, K, cls⟩ mg "MAX_SLOTS" c_MAX_SLOTS
  g_MAX_STATES : GE K ⟨P, w, K, cls⟩ mg "MAX_STATES" c_MAX_STATES
  g_NEW : GE K ⟨P, w, K, cls⟩ mg "NEW" c_NEW
  g_RULES : GE K ⟨P, w, K, cls⟩ mg "RULES" c_RULES
  f_System_all_states : FE K cls "System" "all_states"
  f_System_kinds : FE K cls "System" "kinds"
  f_System_letters : FE K cls "System" "letters"
  f_System_peak : FE K cls "System" "peak"
  f_System_rules : FE K cls "System" "rules"
  f_System_slots : FE K cls "System" "slots"
section
variable {P : Program} {w : World} {K : PySem.W.Frag} {mg : Str → Option Value} {base : Heap} {cls : Str → Option Addr}
theorem s_u_law_rows : FnScope ["rows"] [] (defScope (top 33)) := ⟨rfl, rfl, rfl, by decide +kernel, rfl, by decide +kernel, by decide +kernel⟩
theorem t_u_law_rows {f : Addr} {fd : FuncData} (T : TX P w K mg base cls) (F : Fun K "_law_rows" "_law_rows" (top 33) f fd)  : FnG P w K mg base (L2.CX P w) 1 f fd [] (spW ⟨P, w, K, cls⟩ 0 g_u_law_rows) :=
  fnC (j := 1) F s_u_law_rows rfl rfl fun cdv A outer s H E c hp hh => by
    have hp := hp _ rfl
    exact (wss_cons (ws_set 0 hh (we_lst (wa_cons (we_tup (wa_cons we_str (wa_cons we_str (wa_cons we_str wa_nil)))) wa_nil))) (wss_cons (ws_expr (we_append 0 (slotPE 0) (wa_cons (we_tup (wa_cons we_str (wa_cons we_str (wa_cons we_str wa_nil)))) wa_nil))) (wss_cons (ws_expr (we_append 0 (slotPE 0) (wa_cons (we_tup (wa_cons we_str (wa_cons we_str (wa_cons we_str wa_nil)))) wa_nil))) (wss_cons (ws_set 0 hh (we_bin (ow_add hh.g) (we_name 0) (we_lst (wa_cons (we_tup (wa_cons we_str (wa_cons we_str (wa_cons we_str wa_nil)))) wa_nil)))) (wss_cons (ws_set 0 hh (we_bin (ow_add hh.g) (we_name 0) (we_lst (wa_cons (we_tup (wa_cons we_str (wa_cons we_str (wa_cons we_str wa_nil)))) wa_nil)))) (wss_cons (ws_set 0 hh (we_bin (ow_add hh.g) (we_name 0) (we_lst (wa_cons (we_tup (wa_cons we_str (wa_cons we_str (wa_cons we_str wa_nil)))) wa_nil)))) (wss_cons (ws_set 0 hh (we_bin (ow_add hh.g) (we_name 0) (we_lst (wa_cons (we_tup (wa_cons we_str (wa_cons we_str (wa_cons we_str wa_nil)))) wa_nil)))) (wss_cons (ws_set 0 hh (we_bin (ow_add hh.g) (we_name 0) (we_lst (wa_cons (we_tup (wa_cons we_str (wa_cons we_str (wa_cons we_str wa_nil)))) wa_nil)))) (wss_cons (ws_set 0 hh (we_bin (ow_add hh.g) (we_name 0) (we_lst (wa_cons (we_tup (wa_cons we_str (wa_cons we_str (wa_cons we_str wa_nil)))) wa_nil)))) (wss_cons (ws_expr (we_append 0 (slotPE 0) (wa_cons (we_tup (wa_cons we_str (wa_cons we_str (wa_cons we_str wa_nil)))) wa_nil))) (wss_cons (ws_expr (we_append 0 (slotPE 0) (wa_cons (we_tup (wa_cons we_str (wa_cons we_str (wa_cons we_str wa_nil)))) wa_nil))) (wss_cons (ws_expr (we_append 0 (slotPE 0) (wa_cons (we_tup (wa_cons we_str (wa_cons we_str (wa_cons we_str wa_nil)))) wa_nil))) (wss_cons (ws_expr (we_append 0 (slotPE 0) (wa_cons (we_tup (wa_cons we_str (wa_cons we_str (wa_cons we_str wa_nil)))) wa_nil))) (wss_cons (ws_expr (we_append 0 (slotPE 0) (wa_cons (we_tup (wa_cons we_str (wa_cons we_str (wa_cons we_str wa_nil)))) wa_nil))) (wss_cons (ws_set 0 hh (we_bin (ow_add hh.g) (we_name 0) (we_lst (wa_cons (we_tup (wa_cons we_str (wa_cons we_str (wa_cons we_str wa_nil)))) wa_nil)))) (wss_cons (ws_set 0 hh (we_bin (ow_add hh.g) (we_name 0) (we_lst (wa_cons (we_tup (wa_cons we_str (wa_cons we_str (wa_cons we_str wa_nil)))) wa_nil)))) (wss_cons (ws_set 0 hh (we_bin (ow_add hh.g) (we_name 0) (we_lst (wa_cons (we_tup (wa_cons we_str (wa_cons we_str (wa_cons we_str wa_nil)))) wa_nil)))) (wss_cons (ws_expr (we_append 0 (slotPE 0) (wa_cons (we_tup (wa_cons we_str (wa_cons we_str (wa_cons we_str wa_nil)))) wa_nil))) (wss_cons (ws_expr (we_append 0 (slotPE 0) (wa_cons (we_tup (wa_cons we_str (wa_cons we_str (wa_cons we_str wa_nil)))) wa_nil))) (wss_cons (ws_set 0 hh (we_bin (ow_add hh.g) (we_name 0) (we_lst (wa_cons (we_tup (wa_cons we_str (wa_cons we_str (wa_cons we_str wa_nil)))) wa_nil)))) (wss_one (ws_ret (we_bin (ow_add hh.g) (we_name 0) (we_lst (wa_cons (we_tup (wa_cons we_str (wa_cons we_str (wa_cons we_str wa_nil)))) wa_nil)))))))))))))))))))))))))
theorem s_System_base_price : FnScope ["self", "slot", "letter", "kind"] ["self", "slot", "letter"] (defScope (inClass (top 26) 4)) := ⟨rfl, rfl, rfl, by decide +kernel, rfl, by decide +kernel, by decide +kernel⟩
theorem t_System_base_price {f : Addr} {fd : FuncData} (T : TX P w K mg base cls) (F : Fun K "base_price" "System.base_price" (inClass (top 26) 4) f fd)  : FnG P w K mg base (L2.CX P w) 1 f fd ["self", "slot", "letter"] (spW ⟨P, w, K, cls⟩ 3 g_System_base_price) :=
  fnC (j := 1) F s_System_base_price rfl rfl fun cdv A outer s H E c hp hh => by
    have hp := hp _ rfl
    exact (wss_cons (ws_set 3 hh (we_ix (ixA_all hh) (wy_fld T.f_System_kinds (we_name 0)) (we_sindex (wy_fld T.f_System_letters (we_name 0)) (we_name 2)))) (wss_one (ws_ret (we_if (wt_cmp (owA_in hh) (we_name 1) (wy_fld T.f_System_peak (we_name 0))) (we_ix (ixA_all hh) (we_name 3) we_int) (we_ix (ixA_all hh) (we_name 3) we_int)))))
theorem s_System_after_point : FnScope ["self", "state", "slot", "left", "paid", "count", "following"] ["self", "state"] (defScope (inClass (top 26) 5)) := ⟨rfl, rfl, rfl, by decide +kernel, rfl, by decide +kernel, by decide +kernel⟩
theorem t_System_after_point {f : Addr} {fd : FuncData} (T : TX P w K mg base cls) (F : Fun K "after_point" "System.after_point" (inClass (top 26) 5) f fd)  : FnG P w K mg base (L2.CX P w) 1 f fd ["self", "state"] (spW ⟨P, w, K, cls⟩ 2 g_System_after_point) :=
  fnC (j := 5) F s_System_after_point rfl rfl fun cdv A outer s H E c hp hh => by
    have hp := hp _ rfl
    exact (wss_cons (ws_asg (we_name 1) (wg_tup hh.g hh.calm (wgs_cons (wg_name 2 hh.nd) (wgs_cons (wg_name 3 hh.nd) (wgs_cons (wg_name 4 hh.nd) (wgs_cons (wg_name 5 hh.nd) wgs_nil)))))) (wss_cons (ws_set 6 hh (we_bin ow_mod (we_bin (ow_add hh.g) (we_name 2) we_int) (wy_fld T.f_System_slots (we_name 0)))) (wss_one (ws_ret (we_tup (wa_cons (we_name 6) (wa_cons (we_max2 hh.calm we_int (we_bin ow_sub (we_name 3) we_int) T.b_max) (wa_cons (we_if (wt_cmp ow_gt (we_name 6) we_int) (we_name 4) we_int) (wa_cons (we_name 5) wa_nil)))))))))
theorem s_System_step : FnScope ["self", "state", "letter", "slot", "left", "paid", "count", "cost"] ["self", "state", "letter"] (defScope (inClass (top 26) 6)) := ⟨rfl, rfl, rfl, by decide +kernel, rfl, by decide +kernel, by decide +kernel⟩
theorem t_System_step {f : Addr} {fd : FuncData} (T : TX P w K mg base cls) (F : Fun K "step" "System.step" (inClass (top 26) 6) f fd) (d_System_base_price : ME P w K mg base cls "System" "base_price" 1 (spW ⟨P, w, K, cls⟩ 3 g_System_base_price)) (d_System_after_point : ME P w K mg base cls "System" "after_point" 1 (spW ⟨P, w, K, cls⟩ 2 g_System_after_point)) : FnG P w K mg base (L2.CX P w) 2 f fd ["self", "state", "letter"] (spW ⟨P, w, K, cls⟩ 3 g_System_step) :=
  fnC (j := 5) F s_System_step rfl rfl fun cdv A outer s H E c hp hh => by
    have hp := hp _ rfl
    exact (wss_cons (ws_if (wt_cmp (ow_eq hh.g hh.un) (we_name 2) we_str) (wss_one (ws_ret (we_tup (wa_cons (wy_meth hh d_System_after_point (by decide) (we_name 0) (wa_cons (we_name 1) wa_nil) (cons_len nil_len)) (wa_cons we_int wa_nil))))) wss_nil) (wss_cons (ws_asg (we_name 1) (wg_tup hh.g hh.calm (wgs_cons (wg_name 3 hh.nd) (wgs_cons (wg_name 4 hh.nd) (wgs_cons (wg_name 5 hh.nd) (wgs_cons (wg_name 6 hh.nd) wgs_nil)))))) (wss_cons (ws_set 7 hh (wy_meth hh d_System_base_price (by decide) (we_name 0) (wa_cons (we_name 3) (wa_cons (we_name 2) wa_nil)) (cons_len (cons_len nil_len)))) (wss_cons (ws_if (wt_cmp ow_gt (we_name 4) we_int) (wss_one (ws_set 7 hh (we_min2 hh.calm (we_name 7) (we_ix (ixA_all hh) (we_ix (ixA_all hh) (wy_fld T.f_System_rules (we_name 0)) we_str) we_int) T.b_min))) (wss_cons (ws_set 4 hh (we_if (wt_cmp (owA_in hh) we_str (wy_fld T.f_System_rules (we_name 0))) (we_bin (ow_add hh.g) (we_ix (ixA_all hh) (we_ix (ixA_all hh) (wy_fld T.f_System_rules (we_name 0)) we_str) we_int) we_int) we_int)) (wss_one (ws_if (wt_cmp (owA_in hh) we_str (wy_fld T.f_System_rules (we_name 0))) (wss_cons (ws_set 6 hh (we_bin ow_mod (we_bin (ow_add hh.g) (we_name 6) we_int) (we_ix (ixA_all hh) (we_ix (ixA_all hh) (wy_fld T.f_System_rules (we_name 0)) we_str) we_int))) (wss_one (ws_set 7 hh (we_if (wt_cmp (ow_eq hh.g hh.un) (we_name 6) we_int) we_int (we_name 7))))) wss_nil)))) (wss_cons (ws_if (wt_cmp (owA_in hh) we_str (wy_fld T.f_System_rules (we_name 0))) (wss_cons (ws_set 7 hh (we_min2 hh.calm (we_name 7) (we_bin ow_sub (we_ix (ixA_all hh) (we_ix (ixA_all hh) (wy_fld T.f_System_rules (we_name 0)) we_str) we_int) (we_name 5)) T.b_min)) (wss_one (ws_aug 5 hh ow_iadd (we_name 7)))) wss_nil) (wss_one (ws_ret (we_tup (wa_cons (we_tup (wa_cons (we_name 3) (wa_cons (we_name 4) (wa_cons (we_name 5) (wa_cons (we_name 6) wa_nil))))) (wa_cons (we_name 7) wa_nil))))))))))
theorem s_System_costs : FnScope ["self", "history", "place", "letter", "found", "state", "cost"] ["self", "history"] (defScope (inClass (top 26) 7)) := ⟨rfl, rfl, rfl, by decide +kernel, rfl, by decide +kernel, by decide +kernel⟩
theorem t_System_costs {f : Addr} {fd : FuncData} (T : TX P w K mg base cls) (F : Fun K "costs" "System.costs" (inClass (top 26) 7) f fd) (d_System_step : ME P w K mg base cls "System" "step" 2 (spW ⟨P, w, K, cls⟩ 3 g_System_step)) : FnG P w K mg base (L2.CX P w) 3 f fd ["self", "history"] (spW ⟨P, w, K, cls⟩ 2 g_System_costs) :=
  fnC (j := 5) F s_System_costs rfl rfl fun cdv A outer s H E c hp hh => by
    have hp := hp _ rfl
    exact (wss_cons (ws_for hh hp (wi_enum hh.g T.b_enumerate (we_name 1)) (wg_tup hh.g hh.calm (wgs_cons (wg_name 2 hh.nd) (wgs_cons (wg_name 3 hh.nd) wgs_nil))) (wss_one (ws_if (wt_cmp (owA_notIn hh) (we_name 3) (wy_fld T.f_System_letters (we_name 0))) (wss_one ws_never) wss_nil))) (wss_cons (ws_par2 4 5 hh (wo_cons hh (we_lst wa_nil) (fun c hh => (wo_cons hh (wy_glob T.g_NEW) (fun c hh => wo_nil))))) (wss_cons (ws_for hh hp (wi_seq hh.g (we_name 1)) (wg_name 3 hh.nd) (wss_cons (ws_asg (wy_meth hh d_System_step (by decide) (we_name 0) (wa_cons (we_name 5) (wa_cons (we_name 3) wa_nil)) (cons_len (cons_len nil_len))) (wg_tup hh.g hh.calm (wgs_cons (wg_name 5 hh.nd) (wgs_cons (wg_name 6 hh.nd) wgs_nil)))) (wss_one (ws_expr (we_append 4 (slotPE 4) (wa_cons (we_name 6) wa_nil)))))) (wss_one (ws_ret (we_name 4))))))
theorem s_System_cost : FnScope ["self", "history"] ["self", "history"] (defScope (inClass (top 26) 8)) := ⟨rfl, rfl, rfl, by decide +kernel, rfl, by decide +kernel, by decide +kernel⟩
theorem t_System_cost {f : Addr} {fd : FuncData} (T : TX P w K mg base cls) (F : Fun K "cost" "System.cost" (inClass (top 26) 8) f fd) (d_System_costs : ME P w K mg base cls "System" "costs" 3 (spW ⟨P, w, K, cls⟩ 2 g_System_costs)) : FnG P w K mg base (L2.CX P w) 4 f fd ["self", "history"] (spW ⟨P, w, K, cls⟩ 2 g_System_cost) :=
  fnC (j := 0) F s_System_cost rfl rfl fun cdv A outer s H E c hp hh => by
    have hp := hp _ rfl
    exact (wss_one (ws_ret (we_b1 (u_sum hh.calm) (wy_meth hh d_System_costs (by decide) (we_name 0) (wa_cons (we_name 1) wa_nil) (cons_len nil_len)) T.b_sum (by decide +kernel))))
theorem s_u_law_take : FnScope ["feed", "many", "digit"] ["feed", "many"] (defScope (top 31)) := ⟨rfl, rfl, rfl, by decide +kernel, rfl, by decide +kernel, by decide +kernel⟩
theorem t_u_law_take {f : Addr} {fd : FuncData} (T : TX P w K mg base cls) (F : Fun K "_law_take" "_law_take" (top 31) f fd)  : FnG P w K mg base (L2.CX P w) 1 f fd ["feed", "many"] (spI ⟨P, w, K, cls⟩ 1 g_u_law_take) :=
  fnCI (j := 1) F s_u_law_take rfl rfl fun cdv A outer s H E c hp hh => by
    have hp := hp _ rfl
    exact (wss_cons (ws_if (wt_cmp ow_gt (we_ix (ixA_all hh) (we_name 0) we_int) we_int) (wss_cons (ws_set 2 hh (we_bin ow_mod (we_ix (ixA_all hh) (we_name 0) we_int) (we_name 1))) (wss_cons (ws_put 0 hh (slotPE 0) we_int (we_bin ow_div (we_ix (ixA_all hh) (we_name 0) we_int) (we_name 1))) (wss_one (ws_ret (we_name 2))))) wss_nil) (wss_cons (ws_put 0 hh (slotPE 0) we_int (we_bin ow_mod (we_bin (ow_add hh.g) (we_bin (ow_mul hh.g) (we_ix (ixA_all hh) (we_name 0) we_int) we_int) we_int) we_int)) (wss_one (ws_ret (we_bin ow_mod (we_bin ow_div (we_ix (ixA_all hh) (we_name 0) we_int) we_int) (we_name 1))))))
theorem s_reached_states : FnScope ["system", "states", "known", "place", "letter", "following"] ["system"] (defScope (top 28)) := ⟨rfl, rfl, rfl, by decide +kernel, rfl, by decide +kernel, by decide +kernel⟩
theorem t_reached_states {f : Addr} {fd : FuncData} (T : TX P w K mg base cls) (F : Fun K "reached_states" "reached_states" (top 28) f fd) (d_System_step : ME P w K mg base cls "System" "step" 2 (spW ⟨P, w, K, cls⟩ 3 g_System_step)) : FnG P w K mg base (L2.CX P w) 3 f fd ["system"] (spW ⟨P, w, K, cls⟩ 1 g_reached_states) :=
  fnC (j := 5) F s_reached_states rfl rfl fun cdv A outer s H E c hp hh => by
    have hp := hp _ rfl
    exact (wss_cons (ws_par3 1 2 3 hh (wo_cons hh (we_lst (wa_cons (wy_glob T.g_NEW) wa_nil)) (fun c hh => (wo_cons hh (we_disp hh (fun p o hh => (wpr_cons (wy_glob T.g_NEW) we_bl wpr_nil))) (fun c hh => (wo_cons hh we_int (fun c hh => wo_nil))))))) (wss_cons (ws_while 1000 hp (wt_cmp ow_lt (we_name 3) (we_b1 (u_len hh.g) (we_name 1) T.b_len (by decide +kernel))) (wss_cons (ws_for hh hp (wi_seq hh.g (wy_fld T.f_System_letters (we_name 0))) (wg_name 4 hh.nd) (wss_cons (ws_set 5 hh (we_ix (ixA_all hh) (wy_meth hh d_System_step (by decide) (we_name 0) (wa_cons (we_ix (ixA_all hh) (we_name 1) (we_name 3)) (wa_cons (we_name 4) wa_nil)) (cons_len (cons_len nil_len))) we_int)) (wss_one (ws_if (wt_cmp (owA_notIn hh) (we_name 5) (we_name 2)) (wss_cons (ws_put 2 hh (slotPE 2) (we_name 5) we_bl) (wss_one (ws_expr (we_append 1 (slotPE 1) (wa_cons (we_name 5) wa_nil))))) wss_nil)))) (wss_cons (ws_if (wt_cmp ow_gt (we_b1 (u_len hh.g) (we_name 1) T.b_len (by decide +kernel)) (wy_glob T.g_MAX_STATES)) (wss_one ws_never) wss_nil) (wss_one (ws_aug 3 hh ow_iadd we_int))))) (wss_one (ws_ret (we_name 1)))))
theorem s_System_init : FnScope ["self", "slots", "peak", "kinds", "rules", "kind"] ["self", "slots", "peak", "kinds", "rules"] (defScope (inClass (top 26) 0)) := ⟨rfl, rfl, rfl, by decide +kernel, rfl, by decide +kernel, by decide +kernel⟩
theorem t_System_init {f : Addr} {fd : FuncData} (T : TX P w K mg base cls) (F : Fun K "__init__" "System.__init__" (inClass (top 26) 0) f fd) (d_reached_states : DE P w K mg base "reached_states" 3 (spW ⟨P, w, K, cls⟩ 1 g_reached_states)) : FnG P w K mg base (L2.CX P w) 4 f fd ["self", "slots", "peak", "kinds", "rules"] (spI ⟨P, w, K, cls⟩ 4 g_System_init) :=
  fnCI (j := 1) F s_System_init rfl rfl fun cdv A outer s H E c hp hh => by
    have hp := hp _ rfl
    exact (wss_cons (wy_fst 0 T.f_System_slots (slotPE 0) (we_name 1)) (wss_cons (wy_fst 0 T.f_System_peak (slotPE 0) (we_t1 (u_tuple hh.g) (we_name 2) T.b_tuple (by decide +kernel))) (wss_cons (wy_fst 0 T.f_System_kinds (slotPE 0) (we_t1 (u_tuple hh.g) (we_name 3) T.b_tuple (by decide +kernel))) (wss_cons (wy_fst 0 T.f_System_rules (slotPE 0) (we_t1 u_dict (we_name 4) T.b_dict (by decide +kernel))) (wss_cons (wy_fst 0 T.f_System_letters (slotPE 0) (we_bin (ow_add hh.g) (we_join we_str (wy_comp (own := [("kind", 5)]) [] hh (wi_seq hh.g (wy_fld T.f_System_kinds (we_name 0))) (blk_of (by kernel_rfl)) (fun _ _ _ _ _ hh => (wgc_name 5 hh.nd)) (fun _ _ _ _ _ c hh => (we_ix (ixA_all hh) (we_name 5) we_int)))) we_str)) (wss_one (wy_fst 0 T.f_System_all_states (slotPE 0) (wy_lend 0 hh d_reached_states (by decide) (slotPE 0)))))))))
theorem s_read_number : FnScope ["word", "least", "most", "digit"] ["word", "least", "most"] (defScope (top 16)) := ⟨rfl, rfl, rfl, by decide +kernel, rfl, by decide +kernel, by decide +kernel⟩
theorem t_read_number {f : Addr} {fd : FuncData} (T : TX P w K mg base cls) (F : Fun K "read_number" "read_number" (top 16) f fd)  : FnG P w K mg base (L2.CX P w) 1 f fd ["word", "least", "most"] (spW ⟨P, w, K, cls⟩ 3 g_read_number) :=
  fnC (j := 1) F s_read_number rfl rfl fun cdv A outer s H E c hp hh => by
    have hp := hp _ rfl
    exact (wss_cons (ws_if (wt_bool (wp_or (wt_not (wt_chain ow_le ow_le we_int (we_b1 (u_len hh.g) (we_name 0) T.b_len (by decide +kernel)) we_int)) (wp_or (wt_not (wt_truth hh.g (we_b1 (u_all hh.calm) (wy_comp (own := [("digit", 3)]) [] hh (wi_seq hh.g (we_name 0)) (blk_of (by kernel_rfl)) (fun _ _ _ _ _ hh => (wgc_name 3 hh.nd)) (fun _ _ _ _ _ c hh => (we_cmp (owA_in hh) (we_name 3) (wy_glob T.g_DIGITS)))) T.b_all (by decide +kernel)))) (wp_or1 (wt_cmp (ow_ne hh.g hh.un) (we_t1 u_str (we_t1 u_int (we_name 0) T.b_int (by decide +kernel)) T.b_str (by decide +kernel)) (we_name 0)))))) (wss_one (ws_ret we_non)) wss_nil) (wss_one (ws_ret (we_if (wt_chain ow_le ow_le (we_name 1) (we_t1 u_int (we_name 0) T.b_int (by decide +kernel)) (we_name 2)) (we_t1 u_int (we_name 0) T.b_int (by decide +kernel)) we_non))))
theorem s_read_rule : FnScope ["words", "word", "bounds", "numbers", "part", "least", "most"] ["words", "word", "bounds"] (defScope (top 21)) := ⟨rfl, rfl, rfl, by decide +kernel, rfl, by decide +kernel, by decide +kernel⟩
theorem t_read_rule {f : Addr} {fd : FuncData} (T : TX P w K mg base cls) (F : Fun K "read_rule" "read_rule" (top 21) f fd) (d_read_number : DE P w K mg base "read_number" 1 (spW ⟨P, w, K, cls⟩ 3 g_read_number)) : FnG P w K mg base (L2.CX P w) 2 f fd ["words", "word", "bounds"] (spW ⟨P, w, K, cls⟩ 3 g_read_rule) :=
  fnC (j := 4) F s_read_rule rfl rfl fun cdv A outer s H E c hp hh => by
    have hp := hp _ rfl
    exact (wss_cons (ws_if (wt_bool (wp_or (wt_cmp (ow_ne hh.g hh.un) (we_ix (ixA_all hh) (we_name 0) we_int) (we_name 1)) (wp_or1 (wt_cmp (ow_ne hh.g hh.un) (we_b1 (u_len hh.g) (we_name 0) T.b_len (by decide +kernel)) (we_bin (ow_add hh.g) (we_b1 (u_len hh.g) (we_name 2) T.b_len (by decide +kernel)) we_int))))) (wss_one (ws_ret we_non)) wss_nil) (wss_cons (sy_comp 3 (own := [("part", 4), ("least", 5), ("most", 6)]) [] hh (wi_zip hh.g T.b_zip (we_sl (we_name 0) (wo_some we_int) wo_none (sw_all hh.g)) (we_name 2)) (blk_of (by kernel_rfl)) (fun _ _ _ _ _ hh => (wgc_tup hh.g hh.calm (wgcs_cons (wgc_name 4 hh.nd) (wgcs_cons (wgc_tup hh.g hh.calm (wgcs_cons (wgc_name 5 hh.nd) (wgcs_cons (wgc_name 6 hh.nd) wgcs_nil))) wgcs_nil)))) (fun _ _ _ _ _ c hh => (wy_call hh d_read_number (by decide) (wa_cons (we_name 4) (wa_cons (we_name 5) (wa_cons (we_name 6) wa_nil))) (cons_len (cons_len (cons_len nil_len)))))) (wss_one (ws_ret (we_if (wt_cmp (owA_in hh) we_non (we_name 3)) we_non (we_t1 (u_tuple hh.g) (we_name 3) T.b_tuple (by decide +kernel)))))))
theorem s_read_rules : FnScope ["rows", "place", "found", "word", "bounds", "numbers"] ["rows", "place"] (defScope (top 25)) := ⟨rfl, rfl, rfl, by decide +kernel, rfl, by decide +kernel, by decide +kernel⟩
theorem t_read_rules {f : Addr} {fd : FuncData} (T : TX P w K mg base cls) (F : Fun K "read_rules" "read_rules" (top 25) f fd) (d_read_rule : DE P w K mg base "read_rule" 2 (spW ⟨P, w, K, cls⟩ 3 g_read_rule)) : FnG P w K mg base (L2.CX P w) 3 f fd ["rows", "place"] (spW ⟨P, w, K, cls⟩ 2 g_read_rules) :=
  fnC (j := 4) F s_read_rules rfl rfl fun cdv A outer s H E c hp hh => by
    have hp := hp _ rfl
    exact (wss_cons (ws_set 2 hh we_newK) (wss_cons (ws_for hh hp (wi_seq hh.g (wy_glob T.g_RULES)) (wg_tup hh.g hh.calm (wgs_cons (wg_name 3 hh.nd) (wgs_cons (wg_name 4 hh.nd) wgs_nil))) (wss_cons (ws_set 5 hh (we_if (wt_cmp ow_lt (we_name 1) (we_b1 (u_len hh.g) (we_name 0) T.b_len (by decide +kernel))) (wy_call hh d_read_rule (by decide) (wa_cons (we_ix (ixA_all hh) (we_name 0) (we_name 1)) (wa_cons (we_name 3) (wa_cons (we_name 4) wa_nil))) (cons_len (cons_len (cons_len nil_len)))) we_non)) (wss_one (ws_if (wt_cmp ow_notN (we_name 5) we_non) (wss_cons (ws_put 2 hh (slotPE 2) (we_name 3) (we_name 5)) (wss_one (ws_aug 1 hh ow_iadd we_int))) wss_nil)))) (wss_cons (ws_if (wt_cmp ow_lt (we_name 1) (we_b1 (u_len hh.g) (we_name 0) T.b_len (by decide +kernel))) (wss_one ws_never) wss_nil) (wss_one (ws_ret (we_name 2))))))
theorem s_read_numbers : FnScope ["words", "least", "most", "numbers", "word"] ["words", "least", "most"] (defScope (top 17)) := ⟨rfl, rfl, rfl, by decide +kernel, rfl, by decide +kernel, by decide +kernel⟩
theorem t_read_numbers {f : Addr} {fd : FuncData} (T : TX P w K mg base cls) (F : Fun K "read_numbers" "read_numbers" (top 17) f fd) (d_read_number : DE P w K mg base "read_number" 1 (spW ⟨P, w, K, cls⟩ 3 g_read_number)) : FnG P w K mg base (L2.CX P w) 2 f fd ["words", "least", "most"] (spW ⟨P, w, K, cls⟩ 3 g_read_numbers) :=
  fnC (j := 2) F s_read_numbers rfl rfl fun cdv A outer s H E c hp hh => by
    have hp := hp _ rfl
    exact (wss_cons (sy_comp 3 (own := [("word", 4)]) [1, 2] hh (wi_seq hh.g (we_name 0)) (blk_of (by kernel_rfl)) (fun _ _ _ _ _ hh => (wgc_name 4 hh.nd)) (fun _ _ _ _ _ c hh => (wy_call hh d_read_number (by decide) (wa_cons (we_name 4) (wa_cons (we_name 1) (wa_cons (we_name 2) wa_nil))) (cons_len (cons_len (cons_len nil_len)))))) (wss_one (ws_ret (we_if (wt_cmp (owA_in hh) we_non (we_name 3)) we_non (we_t1 (u_tuple hh.g) (we_name 3) T.b_tuple (by decide +kernel))))))
theorem s_read_ride : FnScope ["words", "kinds", "numbers"] ["words", "kinds"] (defScope (top 20)) := ⟨rfl, rfl, rfl, by decide +kernel, rfl, by decide +kernel, by decide +kernel⟩
theorem t_read_ride {f : Addr} {fd : FuncData} (T : TX P w K mg base cls) (F : Fun K "read_ride" "read_ride" (top 20) f fd) (d_read_numbers : DE P w K mg base "read_numbers" 2 (spW ⟨P, w, K, cls⟩ 3 g_read_numbers)) : FnG P w K mg base (L2.CX P w) 3 f fd ["words", "kinds"] (spW ⟨P, w, K, cls⟩ 2 g_read_ride) :=
  fnC (j := 1) F s_read_ride rfl rfl fun cdv A outer s H E c hp hh => by
    have hp := hp _ rfl
    exact (wss_cons (ws_if (wt_bool (wp_or (wt_cmp (ow_ne hh.g hh.un) (we_b1 (u_len hh.g) (we_name 0) T.b_len (by decide +kernel)) we_int) (wp_or (wt_cmp (ow_ne hh.g hh.un) (we_ix (ixA_all hh) (we_name 0) we_int) we_str) (wp_or1 (wt_cmp (ow_eq hh.g hh.un) (we_b1 (u_len hh.g) (we_name 1) T.b_len (by decide +kernel)) (wy_glob T.g_MAX_KINDS)))))) (wss_one (ws_ret we_non)) wss_nil) (wss_cons (ws_set 2 hh (wy_call hh d_read_numbers (by decide) (wa_cons (we_sl (we_name 0) (wo_some we_int) wo_none (sw_all hh.g)) (wa_cons we_int (wa_cons (wy_glob T.g_MAX_PRICE) wa_nil))) (cons_len (cons_len (cons_len nil_len))))) (wss_cons (ws_if (wt_bool (wp_or (wt_cmp ow_isN (we_name 2) we_non) (wp_or (wt_cmp (ow_ne hh.g hh.un) (we_b1 (u_len hh.g) (we_ix (ixA_all hh) (we_name 0) we_int) T.b_len (by decide +kernel)) we_int) (wp_or1 (wt_cmp (owA_notIn hh) (we_ix (ixA_all hh) (we_name 0) we_int) (wy_glob T.g_LETTERS)))))) (wss_one (ws_ret we_non)) wss_nil) (wss_cons (ws_if (wt_bool (wp_and (wt_cmp (ow_ne hh.g hh.un) (we_name 1) (we_lst wa_nil)) (wp_and1 (wt_cmp ow_le (we_ix (ixA_all hh) (we_name 0) we_int) (we_ix (ixA_all hh) (we_ix (ixA_all hh) (we_name 1) (un_neg_w we_int)) we_int))))) (wss_one (ws_ret we_non)) wss_nil) (wss_one (ws_ret (we_tup (wa_cons (we_ix (ixA_all hh) (we_name 0) we_int) (wa_cons (we_ix (ixA_all hh) (we_name 2) we_int) (wa_cons (we_ix (ixA_all hh) (we_name 2) we_int) wa_nil))))))))))
theorem s_read_rides : FnScope ["rows", "place", "kinds", "kind"] ["rows", "place"] (defScope (top 24)) := ⟨rfl, rfl, rfl, by decide +kernel, rfl, by decide +kernel, by decide +kernel⟩
theorem t_read_rides {f : Addr} {fd : FuncData} (T : TX P w K mg base cls) (F : Fun K "read_rides" "read_rides" (top 24) f fd) (d_read_ride : DE P w K mg base "read_ride" 3 (spW ⟨P, w, K, cls⟩ 2 g_read_ride)) : FnG P w K mg base (L2.CX P w) 4 f fd ["rows", "place"] (spW ⟨P, w, K, cls⟩ 2 g_read_rides) :=
  fnC (j := 2) F s_read_rides rfl rfl fun cdv A outer s H E c hp hh => by
    have hp := hp _ rfl
    exact (wss_cons (ws_set 2 hh (we_lst wa_nil)) (wss_cons (ws_while 1000 hp (wt_cmp ow_lt (we_name 1) (we_b1 (u_len hh.g) (we_name 0) T.b_len (by decide +kernel))) (wss_cons (ws_set 3 hh (wy_callL hh d_read_ride (by decide) (wl_kept (we_ix (ixA_all hh) (we_name 0) (we_name 1)) (wl_lent 2 (slotPE 2) wl_nil)) (consK_len (consL_len nilO_len)))) (wss_cons (ws_if (wt_cmp ow_isN (we_name 3) we_non) (wss_one ws_brk) wss_nil) (wss_cons (ws_expr (we_append 2 (slotPE 2) (wa_cons (we_name 3) wa_nil))) (wss_one (ws_aug 1 hh ow_iadd we_int)))))) (wss_cons (ws_if (wt_cmp (ow_eq hh.g hh.un) (we_name 2) (we_lst wa_nil)) (wss_one ws_never) wss_nil) (wss_one (ws_ret (we_tup (wa_cons (we_name 2) (wa_cons (we_name 1) wa_nil))))))))
theorem s_read_peak : FnScope ["words", "slots", "numbers"] ["words", "slots"] (defScope (top 19)) := ⟨rfl, rfl, rfl, by decide +kernel, rfl, by decide +kernel, by decide +kernel⟩
theorem t_read_peak {f : Addr} {fd : FuncData} (T : TX P w K mg base cls) (F : Fun K "read_peak" "read_peak" (top 19) f fd) (d_read_numbers : DE P w K mg base "read_numbers" 2 (spW ⟨P, w, K, cls⟩ 3 g_read_numbers)) : FnG P w K mg base (L2.CX P w) 3 f fd ["words", "slots"] (spW ⟨P, w, K, cls⟩ 2 g_read_peak) :=
  fnC (j := 1) F s_read_peak rfl rfl fun cdv A outer s H E c hp hh => by
    have hp := hp _ rfl
    exact (wss_cons (ws_set 2 hh (wy_call hh d_read_numbers (by decide) (wa_cons (we_sl (we_name 0) (wo_some we_int) wo_none (sw_all hh.g)) (wa_cons we_int (wa_cons (we_bin ow_sub (we_name 1) we_int) wa_nil))) (cons_len (cons_len (cons_len nil_len))))) (wss_cons (ws_if (wt_bool (wp_or (wt_cmp (ow_ne hh.g hh.un) (we_ix (ixA_all hh) (we_name 0) we_int) we_str) (wp_or (wt_cmp ow_isN (we_name 2) we_non) (wp_or (wt_cmp (ow_eq hh.g hh.un) (we_name 2) (we_tup wa_nil)) (wp_or1 (wt_cmp (ow_ne hh.g hh.un) (we_t1 (u_list hh.g) (we_name 2) T.b_list (by decide +kernel)) (we_sortS hh (we_name 2) T.b_sorted T.b_set))))))) (wss_one (ws_ret we_non)) wss_nil) (wss_one (ws_ret (we_name 2)))))
theorem s_read_slots : FnScope ["words"] ["words"] (defScope (top 18)) := ⟨rfl, rfl, rfl, by decide +kernel, rfl, by decide +kernel, by decide +kernel⟩
theorem t_read_slots {f : Addr} {fd : FuncData} (T : TX P w K mg base cls) (F : Fun K "read_slots" "read_slots" (top 18) f fd) (d_read_number : DE P w K mg base "read_number" 1 (spW ⟨P, w, K, cls⟩ 3 g_read_number)) : FnG P w K mg base (L2.CX P w) 2 f fd ["words"] (spW ⟨P, w, K, cls⟩ 1 g_read_slots) :=
  fnC (j := 0) F s_read_slots rfl rfl fun cdv A outer s H E c hp hh => by
    have hp := hp _ rfl
    exact (wss_cons (ws_if (wt_bool (wp_or (wt_cmp (ow_ne hh.g hh.un) (we_b1 (u_len hh.g) (we_name 0) T.b_len (by decide +kernel)) we_int) (wp_or1 (wt_cmp (ow_ne hh.g hh.un) (we_ix (ixA_all hh) (we_name 0) we_int) we_str)))) (wss_one (ws_ret we_non)) wss_nil) (wss_one (ws_ret (wy_call hh d_read_number (by decide) (wa_cons (we_ix (ixA_all hh) (we_name 0) we_int) (wa_cons we_int (wa_cons (wy_glob T.g_MAX_SLOTS) wa_nil))) (cons_len (cons_len (cons_len nil_len)))))))
theorem s_System_parse : FnScope ["cls", "text", "rows", "row", "slots", "peak", "kinds", "place", "rules"] ["cls", "text"] (defScope (inClass (top 26) 1)) := ⟨rfl, rfl, rfl, by decide +kernel, rfl, by decide +kernel, by decide +kernel⟩
theorem t_System_parse {f : Addr} {fd : FuncData} (T : TX P w K mg base cls) (F : Fun K "parse" "System.parse" (inClass (top 26) 1) f fd) (d_System_init : KE' P w K mg base cls "System" 4 (spI ⟨P, w, K, cls⟩ 4 g_System_init)) (d_read_rules : DE P w K mg base "read_rules" 3 (spW ⟨P, w, K, cls⟩ 2 g_read_rules)) (d_read_rides : DE P w K mg base "read_rides" 4 (spW ⟨P, w, K, cls⟩ 2 g_read_rides)) (d_read_peak : DE P w K mg base "read_peak" 3 (spW ⟨P, w, K, cls⟩ 2 g_read_peak)) (d_read_slots : DE P w K mg base "read_slots" 2 (spW ⟨P, w, K, cls⟩ 1 g_read_slots)) : FnG P w K mg base (L2.CX P w) 6 f fd ["cls", "text"] (spW ⟨P, w, K, cls⟩ 2 g_System_parse) :=
  fnC (j := 7) F s_System_parse rfl rfl fun cdv A outer s H E c hp hh => by
    have hp := hp _ rfl
    exact (wss_cons (sy_comp 2 (own := [("row", 3)]) [] hh (wi_seq hh.g (we_split (we_name 1) we_str)) (blk_of (by kernel_rfl)) (fun _ _ _ _ _ hh => (wgc_name 3 hh.nd)) (fun _ _ _ _ _ c hh => (we_split (we_name 3) we_str))) (wss_cons (ws_set 4 hh (wy_call hh d_read_slots (by decide) (wa_cons (we_ix (ixA_all hh) (we_name 2) we_int) wa_nil) (cons_len nil_len))) (wss_cons (ws_if (wt_cmp ow_isN (we_name 4) we_non) (wss_one ws_never) wss_nil) (wss_cons (ws_set 5 hh (we_if (wt_cmp ow_gt (we_b1 (u_len hh.g) (we_name 2) T.b_len (by decide +kernel)) we_int) (wy_call hh d_read_peak (by decide) (wa_cons (we_ix (ixA_all hh) (we_name 2) we_int) (wa_cons (we_name 4) wa_nil)) (cons_len (cons_len nil_len))) we_non)) (wss_cons (ws_asg (wy_call hh d_read_rides (by decide) (wa_cons (we_name 2) (wa_cons (we_if (wt_cmp ow_isN (we_name 5) we_non) we_int we_int) wa_nil)) (cons_len (cons_len nil_len))) (wg_tup hh.g hh.calm (wgs_cons (wg_name 6 hh.nd) (wgs_cons (wg_name 7 hh.nd) wgs_nil)))) (wss_cons (ws_set 8 hh (wy_call hh d_read_rules (by decide) (wa_cons (we_name 2) (wa_cons (we_name 7) wa_nil)) (cons_len (cons_len nil_len)))) (wss_one (ws_ret (wy_makeL 0 hh d_System_init (by decide) (slotPE 0) (wa_cons (we_name 4) (wa_cons (we_if (wt_cmp ow_isN (we_name 5) we_non) (we_tup wa_nil) (we_name 5)) (wa_cons (we_name 6) (wa_cons (we_name 8) wa_nil)))) (cons_len (cons_len (cons_len (cons_len nil_len)))))))))))))
theorem s_u_law_feed : FnScope ["script", "k", "cell", "digits", "state"] ["script", "k"] (defScope (top 30)) := ⟨rfl, rfl, rfl, by decide +kernel, rfl, by decide +kernel, by decide +kernel⟩
theorem t_u_law_feed {f : Addr} {fd : FuncData} (T : TX P w K mg base cls) (F : Fun K "_law_feed" "_law_feed" (top 30) f fd)  : FnG P w K mg base (L2.CX P w) 1 f fd ["script", "k"] (spW ⟨P, w, K, cls⟩ 2 g_u_law_feed) :=
  fnC (j := 3) F s_u_law_feed rfl rfl fun cdv A outer s H E c hp hh => by
    have hp := hp _ rfl
    exact (wss_cons (ws_set 2 hh (we_if (wt_cmp ow_lt (we_name 1) (we_b1 (u_len hh.g) (we_name 0) T.b_len (by decide +kernel))) (we_ix (ixA_all hh) (we_name 0) (we_name 1)) (we_bin (ow_add hh.g) (we_bin (ow_mul hh.g) we_int (we_name 1)) we_int))) (wss_cons (ws_set 3 hh (we_max2 hh.calm we_int (we_bin ow_sub (we_b1 u_abs (we_name 2) T.b_abs (by decide +kernel)) (we_bin ow_pow we_int we_int)) T.b_max)) (wss_cons (ws_set 4 hh (we_bin ow_mod (we_bin (ow_add hh.g) (we_bin (ow_add hh.g) (we_bin (ow_mul hh.g) (we_name 2) we_int) (we_bin (ow_mul hh.g) we_int (we_name 1))) we_int) we_int)) (wss_one (ws_ret (we_lst (wa_cons (we_name 3) (wa_cons (we_name 4) wa_nil))))))))
theorem s_u_law_long_right : FnScope ["plain", "day"] [] (defScope (top 34)) := ⟨rfl, rfl, rfl, by decide +kernel, rfl, by decide +kernel, by decide +kernel⟩
theorem t_u_law_long_right {f : Addr} {fd : FuncData} (T : TX P w K mg base cls) (F : Fun K "_law_long_right" "_law_long_right" (top 34) f fd) (d_System_cost : ME P w K mg base cls "System" "cost" 4 (spW ⟨P, w, K, cls⟩ 2 g_System_cost)) (d_System_parse : CE' P w K mg base cls "System" "parse" 6 (spW ⟨P, w, K, cls⟩ 2 g_System_parse)) (d_System_costs : ME P w K mg base cls "System" "costs" 3 (spW ⟨P, w, K, cls⟩ 2 g_System_costs)) : FnG P w K mg base (L2.CX P w) 7 f fd [] (spW ⟨P, w, K, cls⟩ 0 g_u_law_long_right) :=
  fnC (j := 2) F s_u_law_long_right rfl rfl fun cdv A outer s H E c hp hh => by
    have hp := hp _ rfl
    exact (wss_cons (ws_set 0 hh (wy_cls hh d_System_parse (by decide) (wa_cons we_str wa_nil) (cons_len nil_len))) (wss_cons (ws_if (wt_bool (wp_or (wt_cmp (ow_ne hh.g hh.un) (wy_meth hh d_System_cost (by decide) (we_name 0) (wa_cons (we_bin (ow_mul hh.g) we_str we_int) wa_nil) (cons_len nil_len)) we_int) (wp_or1 (wt_cmp (ow_ne hh.g hh.un) (wy_meth hh d_System_costs (by decide) (we_name 0) (wa_cons (we_bin (ow_mul hh.g) we_str we_int) wa_nil) (cons_len nil_len)) (we_bin (ow_mul hh.g) (we_lst (wa_cons we_int wa_nil)) we_int))))) (wss_one (ws_ret we_bl)) wss_nil) (wss_cons (ws_set 1 hh (wy_cls hh d_System_parse (by decide) (wa_cons we_str wa_nil) (cons_len nil_len))) (wss_one (ws_ret (we_cmp (ow_eq hh.g hh.un) (wy_meth hh d_System_cost (by decide) (we_name 1) (wa_cons (we_bin (ow_mul hh.g) we_str we_int) wa_nil) (cons_len nil_len)) we_int))))))
theorem s_law : FnScope ["script", "k", "feed", "text", "history", "costs", "system", "ahead", "due", "whole", "word"] ["script"] (defScope (top 35)) := ⟨rfl, rfl, rfl, by decide +kernel, rfl, by decide +kernel, by decide +kernel⟩
theorem t_law {f : Addr} {fd : FuncData} (T : TX P w K mg base cls) (F : Fun K "law" "law" (top 35) f fd) (d_u_law_rows : DE P w K mg base "_law_rows" 1 (spW ⟨P, w, K, cls⟩ 0 g_u_law_rows)) (d_System_cost : ME P w K mg base cls "System" "cost" 4 (spW ⟨P, w, K, cls⟩ 2 g_System_cost)) (d_System_costs : ME P w K mg base cls "System" "costs" 3 (spW ⟨P, w, K, cls⟩ 2 g_System_costs)) (d_u_law_take : DE P w K mg base "_law_take" 1 (spI ⟨P, w, K, cls⟩ 1 g_u_law_take)) (d_System_parse : CE' P w K mg base cls "System" "parse" 6 (spW ⟨P, w, K, cls⟩ 2 g_System_parse)) (d_u_law_feed : DE P w K mg base "_law_feed" 1 (spW ⟨P, w, K, cls⟩ 2 g_u_law_feed)) (d_u_law_long_right : DE P w K mg base "_law_long_right" 7 (spW ⟨P, w, K, cls⟩ 0 g_u_law_long_right)) : FnG P w K mg base (L2.CX P w) 8 f fd ["script"] (spW ⟨P, w, K, cls⟩ 1 g_law) :=
  fnC (j := 10) F s_law rfl rfl fun cdv A outer s H E c hp hh => by
    have hp := hp _ rfl
    exact (wss_cons (ws_if (wt_not (wt_truth hh.g (wy_call0 hh d_u_law_long_right (by decide)))) (wss_one (ws_ret we_bl)) wss_nil) (wss_cons (ws_for hh hp (wi_range T.b_range (we_max2 hh.calm we_int (we_min2 hh.calm we_int (we_b1 (u_len hh.g) (we_name 0) T.b_len (by decide +kernel)) T.b_min) T.b_max)) (wg_name 1 hh.nd) (wss_cons (ws_set 2 hh (wy_call hh d_u_law_feed (by decide) (wa_cons (we_name 0) (wa_cons (we_name 1) wa_nil)) (cons_len (cons_len nil_len)))) (wss_one (ws_for hh hp (wi_seq hh.g (wy_call0 hh d_u_law_rows (by decide))) (wg_tup hh.g hh.calm (wgs_cons (wg_name 3 hh.nd) (wgs_cons (wg_name 4 hh.nd) (wgs_cons (wg_name 5 hh.nd) wgs_nil)))) (wss_cons (ws_set 6 hh (wy_cls hh d_System_parse (by decide) (wa_cons (we_join we_str (we_split (we_name 3) we_str)) wa_nil) (cons_len nil_len))) (wss_cons (ws_set 7 hh (we_bin (ow_mul hh.g) we_str (we_bin (ow_mul hh.g) (wy_fld T.f_System_slots (we_name 6)) (wy_callI 2 hh d_u_law_take (by decide) (slotPE 2) (wa_cons we_int wa_nil) (cons_len nil_len))))) (wss_cons (ws_set 8 hh (we_bin (ow_add hh.g) (we_bin (ow_mul hh.g) (we_lst (wa_cons we_int wa_nil)) (we_b1 (u_len hh.g) (we_name 7) T.b_len (by decide +kernel))) (wy_comp (own := [("word", 10)]) [] hh (wi_seq hh.g (we_split (we_name 5) we_str)) (blk_of (by kernel_rfl)) (fun _ _ _ _ _ hh => (wgc_name 10 hh.nd)) (fun _ _ _ _ _ c hh => (we_t1 u_int (we_name 10) T.b_int (by decide +kernel)))))) (wss_cons (ws_set 9 hh (we_bin (ow_add hh.g) (we_name 7) (we_name 4))) (wss_one (ws_if (wt_bool (wp_or (wt_cmp (ow_ne hh.g hh.un) (wy_meth hh d_System_costs (by decide) (we_name 6) (wa_cons (we_name 9) wa_nil) (cons_len nil_len)) (we_name 8)) (wp_or1 (wt_cmp (ow_ne hh.g hh.un) (wy_meth hh d_System_cost (by decide) (we_name 6) (wa_cons (we_name 9) wa_nil) (cons_len nil_len)) (we_b1 (u_sum hh.calm) (we_name 8) T.b_sum (by decide +kernel)))))) (wss_one (ws_ret we_bl)) wss_nil)))))))))) (wss_one (ws_ret we_bl))))
end
end WL
end F_DER

section F_ENDA
namespace WL
open PySem PySem.Spec PyProof.Rows L2
def clsOf (C_System : Addr) : Str → Option Addr := fun x => if x = "System" then some C_System else none
set_option maxHeartbeats 0 in
theorem all_mk {P : Program} {w : World} {K : PySem.W.Frag} {h : Heap} {mg : Str → Option Value} {fa : Addr} {C_System f_u_law_rows f_System_base_price f_System_after_point f_System_step f_System_costs f_System_cost f_u_law_take f_reached_states f_System_init f_read_number f_read_rule f_read_rules f_read_numbers f_read_ride f_read_rides f_read_peak f_read_slots f_System_parse p_System_parse f_u_law_feed f_u_law_long_right f_law g7 g12 g13 g15 g16 g19 g22 g24 g25 g28 g30 g31 : Addr} {oc_u_law_rows kV_u_law_rows dc_u_law_rows pm_u_law_rows cd_u_law_rows ct_u_law_rows oc_System_base_price kV_System_base_price dc_System_base_price pm_System_base_price cd_System_base_price ct_System_base_price oc_System_after_point kV_System_after_point dc_System_after_point pm_System_after_point cd_System_after_point ct_System_after_point oc_System_step kV_System_step dc_System_step pm_System_step cd_System_step ct_System_step oc_System_costs kV_System_costs dc_System_costs pm_System_costs cd_System_costs ct_System_costs oc_System_cost kV_System_cost dc_System_cost pm_System_cost cd_System_cost ct_System_cost oc_u_law_take kV_u_law_take dc_u_law_take pm_u_law_take cd_u_law_take ct_u_law_take oc_reached_states kV_reached_states dc_reached_states pm_reached_states cd_reached_states ct_reached_states oc_System_init kV_System_init dc_System_init pm_System_init cd_System_init ct_System_init oc_read_number kV_read_number dc_read_number pm_read_number cd_read_number ct_read_number oc_read_rule kV_read_rule dc_read_rule pm_read_rule cd_read_rule ct_read_rule oc_read_rules kV_read_rules dc_read_rules pm_read_rules cd_read_rules ct_read_rules oc_read_numbers kV_read_numbers dc_read_numbers pm_read_numbers cd_read_numbers ct_read_numbers oc_read_ride kV_read_ride dc_read_ride pm_read_ride cd_read_ride ct_read_ride oc_read_rides kV_read_rides dc_read_rides pm_read_rides cd_read_rides ct_read_rides oc_read_peak kV_read_peak dc_read_peak pm_read_peak cd_read_peak ct_read_peak oc_read_slots kV_read_slots dc_read_slots pm_read_slots cd_read_slots ct_read_slots oc_System_parse kV_System_parse dc_System_parse pm_System_parse cd_System_parse ct_System_parse mc_System_parse oc_u_law_feed kV_u_law_feed dc_u_law_feed pm_u_law_feed cd_u_law_feed ct_u_law_feed oc_u_law_long_right kV_u_law_long_right dc_u_law_long_right pm_u_law_long_right cd_u_law_long_right ct_u_law_long_right oc_law kV_law dc_law pm_law cd_law ct_law : Value} {od_u_law_rows an_u_law_rows : Option Addr} {sl_u_law_rows : Array (Option Value)} {od_System_base_price an_System_base_price : Option Addr} {sl_System_base_price : Array (Option Value)} {od_System_after_point an_System_after_point : Option Addr} {sl_System_after_point : Array (Option Value)} {od_System_step an_System_step : Option Addr} {sl_System_step : Array (Option Value)} {od_System_costs an_System_costs : Option Addr} {sl_System_costs : Array (Option Value)} {od_System_cost an_System_cost : Option Addr} {sl_System_cost : Array (Option Value)} {od_u_law_take an_u_law_take : Option Addr} {sl_u_law_take : Array (Option Value)} {od_reached_states an_reached_states : Option Addr} {sl_reached_states : Array (Option Value)} {od_System_init an_System_init : Option Addr} {sl_System_init : Array (Option Value)} {od_read_number an_read_number : Option Addr} {sl_read_number : Array (Option Value)} {od_read_rule an_read_rule : Option Addr} {sl_read_rule : Array (Option Value)} {od_read_rules an_read_rules : Option Addr} {sl_read_rules : Array (Option Value)} {od_read_numbers an_read_numbers : Option Addr} {sl_read_numbers : Array (Option Value)} {od_read_ride an_read_ride : Option Addr} {sl_read_ride : Array (Option Value)} {od_read_rides an_read_rides : Option Addr} {sl_read_rides : Array (Option Value)} {od_read_peak an_read_peak : Option Addr} {sl_read_peak : Array (Option Value)} {od_read_slots an_read_slots : Option Addr} {sl_read_slots : Array (Option Value)} {rest_System_parse : List Value} {od_System_parse an_System_parse : Option Addr} {sl_System_parse : Array (Option Value)} {od_u_law_feed an_u_law_feed : Option Addr} {sl_u_law_feed : Array (Option Value)} {od_u_law_long_right an_u_law_long_right : Option Addr} {sl_u_law_long_right : Array (Option Value)} {od_law an_law : Option Addr} {sl_law : Array (Option Value)} {tk1 : Tok} {tk2 : Tok} {tk3 : Tok} {tk4 : Tok} {tk5 : Tok} {tk6 : Tok} {tk8 : Tok} {tk9 : Tok} {tk10 : Tok} {tk11 : Tok} {n_g7 : Nat} {od_g7 : Option Addr} {sl_g7 : Array (Option Value)} {tk14 : Tok} {tk17 : Tok} {tk18 : Tok} {n_g16 : Nat} {od_g16 : Option Addr} {sl_g16 : Array (Option Value)} {tk20 : Tok} {tk21 : Tok} {n_g19 : Nat} {od_g19 : Option Addr} {sl_g19 : Array (Option Value)} {n_g15 : Nat} {od_g15 : Option Addr} {sl_g15 : Array (Option Value)} {n_g13 : Nat} {od_g13 : Option Addr} {sl_g13 : Array (Option Value)} {tk23 : Tok} {tk26 : Tok} {tk27 : Tok} {n_g25 : Nat} {od_g25 : Option Addr} {sl_g25 : Array (Option Value)} {n_g24 : Nat} {od_g24 : Option Addr} {sl_g24 : Array (Option Value)} {n_g22 : Nat} {od_g22 : Option Addr} {sl_g22 : Array (Option Value)} {tk29 : Tok} {tk32 : Tok} {tk33 : Tok} {n_g31 : Nat} {od_g31 : Option Addr} {sl_g31 : Array (Option Value)} {n_g30 : Nat} {od_g30 : Option Addr} {sl_g30 : Array (Option Value)} {n_g28 : Nat} {od_g28 : Option Addr} {sl_g28 : Array (Option Value)} {n_g12 : Nat} {od_g12 : Option Addr} {sl_g12 : Array (Option Value)} (XI : K.In h) (Gl0 : h.Ns mainGlobals mg) (hfa : mg "law" = some (.ref fa))
    (aC_System : PySem.W.nsIn K mainGlobals "System" = some (some (.ref C_System)))
    (pg_System : PySem.W.plainGet K C_System Str.empty = true)
    (hd_System : PySem.W.hasDictIn K C_System = true)
    (po_System : PySem.W.plainOver K C_System = true)
    (sa_System : PySem.W.findIn K (.ref C_System) "__setattr__" = some (some (.builtin "object.__setattr__")))
    (kc_System : PySem.W.keepIn K (.ref C_System) = true)
    (mk_System : PySem.W.makesIn K C_System = true)
    (n_System_all_states : PySem.W.findIn K (.ref C_System) "all_states" = some none)
    (n_System_kinds : PySem.W.findIn K (.ref C_System) "kinds" = some none)
    (n_System_letters : PySem.W.findIn K (.ref C_System) "letters" = some none)
    (n_System_peak : PySem.W.findIn K (.ref C_System) "peak" = some none)
    (n_System_rules : PySem.W.findIn K (.ref C_System) "rules" = some none)
    (n_System_slots : PySem.W.findIn K (.ref C_System) "slots" = some none)
    (a_u_law_rows : PySem.W.nsIn K mainGlobals "_law_rows" = some (some (.ref f_u_law_rows)))
    (l_u_law_rows : K.lookup f_u_law_rows = some ⟨oc_u_law_rows, od_u_law_rows, .func (PySem.W.fnOf "_law_rows" "_law_rows" (defArgs (top 33)) (defBody (top 33)) (defScope (top 33)) .none kV_u_law_rows dc_u_law_rows pm_u_law_rows an_u_law_rows cd_u_law_rows ct_u_law_rows), sl_u_law_rows⟩)
    (c_u_law_rows : PySem.W.codeIn K cd_u_law_rows "_law_rows" = true)
    (k_u_law_rows : PySem.W.keepIn K (.ref f_u_law_rows) = true)
    (a_System_base_price : PySem.W.findIn K (.ref C_System) "base_price" = some (some (.ref f_System_base_price)))
    (i_System_base_price : PySem.W.isFn K (.ref f_System_base_price) = true)
    (l_System_base_price : K.lookup f_System_base_price = some ⟨oc_System_base_price, od_System_base_price, .func (PySem.W.fnOf "base_price" "System.base_price" (defArgs (inClass (top 26) 4)) (defBody (inClass (top 26) 4)) (defScope (inClass (top 26) 4)) .none kV_System_base_price dc_System_base_price pm_System_base_price an_System_base_price cd_System_base_price ct_System_base_price), sl_System_base_price⟩)
    (c_System_base_price : PySem.W.codeIn K cd_System_base_price "System.base_price" = true)
    (k_System_base_price : PySem.W.keepIn K (.ref f_System_base_price) = true)
    (a_System_after_point : PySem.W.findIn K (.ref C_System) "after_point" = some (some (.ref f_System_after_point)))
    (i_System_after_point : PySem.W.isFn K (.ref f_System_after_point) = true)
    (l_System_after_point : K.lookup f_System_after_point = some ⟨oc_System_after_point, od_System_after_point, .func (PySem.W.fnOf "after_point" "System.after_point" (defArgs (inClass (top 26) 5)) (defBody (inClass (top 26) 5)) (defScope (inClass (top 26) 5)) .none kV_System_after_point dc_System_after_point pm_System_after_point an_System_after_point cd_System_after_point ct_System_after_point), sl_System_after_point⟩)
    (c_System_after_point : PySem.W.codeIn K cd_System_after_point "System.after_point" = true)
    (k_System_after_point : PySem.W.keepIn K (.ref f_System_after_point) = true)
    (a_System_step : PySem.W.findIn K (.ref C_System) "step" = some (some (.ref f_System_step)))
    (i_System_step : PySem.W.isFn K (.ref f_System_step) = true)
    (l_System_step : K.lookup f_System_step = some ⟨oc_System_step, od_System_step, .func (PySem.W.fnOf "step" "System.step" (defArgs (inClass (top 26) 6)) (defBody (inClass (top 26) 6)) (defScope (inClass (top 26) 6)) .none kV_System_step dc_System_step pm_System_step an_System_step cd_System_step ct_System_step), sl_System_step⟩)
    (c_System_step : PySem.W.codeIn K cd_System_step "System.step" = true)
    (k_System_step : PySem.W.keepIn K (.ref f_System_step) = true)
    (a_System_costs : PySem.W.findIn K (.ref C_System) "costs" = some (some (.ref f_System_costs)))
    (i_System_costs : PySem.W.isFn K (.ref f_System_costs) = true)
    (l_System_costs : K.lookup f_System_costs = some ⟨oc_System_costs, od_System_costs, .func (PySem.W.fnOf "costs" "System.costs" (defArgs (inClass (top 26) 7)) (defBody (inClass (top 26) 7)) (defScope (inClass (top 26) 7)) .none kV_System_costs dc_System_costs pm_System_costs an_System_costs cd_System_costs ct_System_costs), sl_System_costs⟩)
    (c_System_costs : PySem.W.codeIn K cd_System_costs "System.costs" = true)
    (k_System_costs : PySem.W.keepIn K (.ref f_System_costs) = true)
    (a_System_cost : PySem.W.findIn K (.ref C_System) "cost" = some (some (.ref f_System_cost)))
    (i_System_cost : PySem.W.isFn K (.ref f_System_cost) = true)
    (l_System_cost : K.lookup f_System_cost = some ⟨oc_System_cost, od_System_cost, .func (PySem.W.fnOf "cost" "System.cost" (defArgs (inClass (top 26) 8)) (defBody (inClass (top 26) 8)) (defScope (inClass (top 26) 8)) .none kV_System_cost dc_System_cost pm_System_cost an_System_cost cd_System_cost ct_System_cost), sl_System_cost⟩)
    (c_System_cost : PySem.W.codeIn K cd_System_cost "System.cost" = true)
    (k_System_cost : PySem.W.keepIn K (.ref f_System_cost) = true)
    (a_u_law_take : PySem.W.nsIn K mainGlobals "_law_take" = some (some (.ref f_u_law_take)))
    (l_u_law_take : K.lookup f_u_law_take = some ⟨oc_u_law_take, od_u_law_take, .func (PySem.W.fnOf "_law_take" "_law_take" (defArgs (top 31)) (defBody (top 31)) (defScope (top 31)) .none kV_u_law_take dc_u_law_take pm_u_law_take an_u_law_take cd_u_law_take ct_u_law_take), sl_u_law_take⟩)
    (c_u_law_take : PySem.W.codeIn K cd_u_law_take "_law_take" = true)
    (k_u_law_take : PySem.W.keepIn K (.ref f_u_law_take) = true)
    (a_reached_states : PySem.W.nsIn K mainGlobals "reached_states" = some (some (.ref f_reached_states)))
    (l_reached_states : K.lookup f_reached_states = some ⟨oc_reached_states, od_reached_states, .func (PySem.W.fnOf "reached_states" "reached_states" (defArgs (top 28)) (defBody (top 28)) (defScope (top 28)) .none kV_reached_states dc_reached_states pm_reached_states an_reached_states cd_reached_states ct_reached_states), sl_reached_states⟩)
    (c_reached_states : PySem.W.codeIn K cd_reached_states "reached_states" = true)
    (k_reached_states : PySem.W.keepIn K (.ref f_reached_states) = true)
    (a_System_init : PySem.W.findIn K (.ref C_System) "__init__" = some (some (.ref f_System_init)))
    (i_System_init : PySem.W.isFn K (.ref f_System_init) = true)
    (l_System_init : K.lookup f_System_init = some ⟨oc_System_init, od_System_init, .func (PySem.W.fnOf "__init__" "System.__init__" (defArgs (inClass (top 26) 0)) (defBody (inClass (top 26) 0)) (defScope (inClass (top 26) 0)) .none kV_System_init dc_System_init pm_System_init an_System_init cd_System_init ct_System_init), sl_System_init⟩)
    (c_System_init : PySem.W.codeIn K cd_System_init "System.__init__" = true)
    (k_System_init : PySem.W.keepIn K (.ref f_System_init) = true)
    (a_read_number : PySem.W.nsIn K mainGlobals "read_number" = some (some (.ref f_read_number)))
    (l_read_number : K.lookup f_read_number = some ⟨oc_read_number, od_read_number, .func (PySem.W.fnOf "read_number" "read_number" (defArgs (top 16)) (defBody (top 16)) (defScope (top 16)) .none kV_read_number dc_read_number pm_read_number an_read_number cd_read_number ct_read_number), sl_read_number⟩)
    (c_read_number : PySem.W.codeIn K cd_read_number "read_number" = true)
    (k_read_number : PySem.W.keepIn K (.ref f_read_number) = true)
    (a_read_rule : PySem.W.nsIn K mainGlobals "read_rule" = some (some (.ref f_read_rule)))
    (l_read_rule : K.lookup f_read_rule = some ⟨oc_read_rule, od_read_rule, .func (PySem.W.fnOf "read_rule" "read_rule" (defArgs (top 21)) (defBody (top 21)) (defScope (top 21)) .none kV_read_rule dc_read_rule pm_read_rule an_read_rule cd_read_rule ct_read_rule), sl_read_rule⟩)
    (c_read_rule : PySem.W.codeIn K cd_read_rule "read_rule" = true)
    (k_read_rule : PySem.W.keepIn K (.ref f_read_rule) = true)
    (a_read_rules : PySem.W.nsIn K mainGlobals "read_rules" = some (some (.ref f_read_rules)))
    (l_read_rules : K.lookup f_read_rules = some ⟨oc_read_rules, od_read_rules, .func (PySem.W.fnOf "read_rules" "read_rules" (defArgs (top 25)) (defBody (top 25)) (defScope (top 25)) .none kV_read_rules dc_read_rules pm_read_rules an_read_rules cd_read_rules ct_read_rules), sl_read_rules⟩)
    (c_read_rules : PySem.W.codeIn K cd_read_rules "read_rules" = true)
    (k_read_rules : PySem.W.keepIn K (.ref f_read_rules) = true)
    (a_read_numbers : PySem.W.nsIn K mainGlobals "read_numbers" = some (some (.ref f_read_numbers)))
    (l_read_numbers : K.lookup f_read_numbers = some ⟨oc_read_numbers, od_read_numbers, .func (PySem.W.fnOf "read_numbers" "read_numbers" (defArgs (top 17)) (defBody (top 17)) (defScope (top 17)) .none kV_read_numbers dc_read_numbers pm_read_numbers an_read_numbers cd_read_numbers ct_read_numbers), sl_read_numbers⟩)
    (c_read_numbers : PySem.W.codeIn K cd_read_numbers "read_numbers" = true)
    (k_read_numbers : PySem.W.keepIn K (.ref f_read_numbers) = true)
    (a_read_ride : PySem.W.nsIn K mainGlobals "read_ride" = some (some (.ref f_read_ride)))
    (l_read_ride : K.lookup f_read_ride = some ⟨oc_read_ride, od_read_ride, .func (PySem.W.fnOf "read_ride" "read_ride" (defArgs (top 20)) (defBody (top 20)) (defScope (top 20)) .none kV_read_ride dc_read_ride pm_read_ride an_read_ride cd_read_ride ct_read_ride), sl_read_ride⟩)
    (c_read_ride : PySem.W.codeIn K cd_read_ride "read_ride" = true)
    (k_read_ride : PySem.W.keepIn K (.ref f_read_ride) = true)
    (a_read_rides : PySem.W.nsIn K mainGlobals "read_rides" = some (some (.ref f_read_rides)))
    (l_read_rides : K.lookup f_read_rides = some ⟨oc_read_rides, od_read_rides, .func (PySem.W.fnOf "read_rides" "read_rides" (defArgs (top 24)) (defBody (top 24)) (defScope (top 24)) .none kV_read_rides dc_read_rides pm_read_rides an_read_rides cd_read_rides ct_read_rides), sl_read_rides⟩)
    (c_read_rides : PySem.W.codeIn K cd_read_rides "read_rides" = true)
    (k_read_rides : PySem.W.keepIn K (.ref f_read_rides) = true)
    (a_read_peak : PySem.W.nsIn K mainGlobals "read_peak" = some (some (.ref f_read_peak)))
    (l_read_peak : K.lookup f_read_peak = some ⟨oc_read_peak, od_read_peak, .func (PySem.W.fnOf "read_peak" "read_peak" (defArgs (top 19)) (defBody (top 19)) (defScope (top 19)) .none kV_read_peak dc_read_peak pm_read_peak an_read_peak cd_read_peak ct_read_peak), sl_read_peak⟩)
    (c_read_peak : PySem.W.codeIn K cd_read_peak "read_peak" = true)
    (k_read_peak : PySem.W.keepIn K (.ref f_read_peak) = true)
    (a_read_slots : PySem.W.nsIn K mainGlobals "read_slots" = some (some (.ref f_read_slots)))
    (l_read_slots : K.lookup f_read_slots = some ⟨oc_read_slots, od_read_slots, .func (PySem.W.fnOf "read_slots" "read_slots" (defArgs (top 18)) (defBody (top 18)) (defScope (top 18)) .none kV_read_slots dc_read_slots pm_read_slots an_read_slots cd_read_slots ct_read_slots), sl_read_slots⟩)
    (c_read_slots : PySem.W.codeIn K cd_read_slots "read_slots" = true)
    (k_read_slots : PySem.W.keepIn K (.ref f_read_slots) = true)
    (ga_System_parse : PySem.W.specialIn K (.ref C_System) "__getattribute__" = some (some (.builtin "type.__getattribute__")))
    (ty_System_parse : PySem.W.typeIn K (.ref C_System) = some mc_System_parse)
    (rd_System_parse : PySem.W.readsIn K C_System mc_System_parse = true)
    (at_System_parse : PySem.W.findCls K (.ref C_System) mc_System_parse "parse" = some (.get (.builtin "classmethod.__get__") (.ref p_System_parse) .none (.ref C_System)))
    (rc_System_parse : PySem.W.recIn K p_System_parse "classmethod" = some (.ref f_System_parse :: rest_System_parse))
    (fi_System_parse : PySem.W.fnIn K f_System_parse = true)
    (l_System_parse : K.lookup f_System_parse = some ⟨oc_System_parse, od_System_parse, .func (PySem.W.fnOf "parse" "System.parse" (defArgs (inClass (top 26) 1)) (defBody (inClass (top 26) 1)) (defScope (inClass (top 26) 1)) .none kV_System_parse dc_System_parse pm_System_parse an_System_parse cd_System_parse ct_System_parse), sl_System_parse⟩)
    (c_System_parse : PySem.W.codeIn K cd_System_parse "System.parse" = true)
    (k_System_parse : PySem.W.keepIn K (.ref f_System_parse) = true)
    (a_u_law_feed : PySem.W.nsIn K mainGlobals "_law_feed" = some (some (.ref f_u_law_feed)))
    (l_u_law_feed : K.lookup f_u_law_feed = some ⟨oc_u_law_feed, od_u_law_feed, .func (PySem.W.fnOf "_law_feed" "_law_feed" (defArgs (top 30)) (defBody (top 30)) (defScope (top 30)) .none kV_u_law_feed dc_u_law_feed pm_u_law_feed an_u_law_feed cd_u_law_feed ct_u_law_feed), sl_u_law_feed⟩)
    (c_u_law_feed : PySem.W.codeIn K cd_u_law_feed "_law_feed" = true)
    (k_u_law_feed : PySem.W.keepIn K (.ref f_u_law_feed) = true)
    (a_u_law_long_right : PySem.W.nsIn K mainGlobals "_law_long_right" = some (some (.ref f_u_law_long_right)))
    (l_u_law_long_right : K.lookup f_u_law_long_right = some ⟨oc_u_law_long_right, od_u_law_long_right, .func (PySem.W.fnOf "_law_long_right" "_law_long_right" (defArgs (top 34)) (defBody (top 34)) (defScope (top 34)) .none kV_u_law_long_right dc_u_law_long_right pm_u_law_long_right an_u_law_long_right cd_u_law_long_right ct_u_law_long_right), sl_u_law_long_right⟩)
    (c_u_law_long_right : PySem.W.codeIn K cd_u_law_long_right "_law_long_right" = true)
    (k_u_law_long_right : PySem.W.keepIn K (.ref f_u_law_long_right) = true)
    (a_law : PySem.W.nsIn K mainGlobals "law" = some (some (.ref f_law)))
    (l_law : K.lookup f_law = some ⟨oc_law, od_law, .func (PySem.W.fnOf "law" "law" (defArgs (top 35)) (defBody (top 35)) (defScope (top 35)) .none kV_law dc_law pm_law an_law cd_law ct_law), sl_law⟩)
    (c_law : PySem.W.codeIn K cd_law "law" = true)
    (k_law : PySem.W.keepIn K (.ref f_law) = true)
    (z_abs : PySem.W.nsIn K mainGlobals "abs" = some none)
    (z_all : PySem.W.nsIn K mainGlobals "all" = some none)
    (z_dict : PySem.W.nsIn K mainGlobals "dict" = some none)
    (z_enumerate : PySem.W.nsIn K mainGlobals "enumerate" = some none)
    (z_int : PySem.W.nsIn K mainGlobals "int" = some none)
    (z_len : PySem.W.nsIn K mainGlobals "len" = some none)
    (z_list : PySem.W.nsIn K mainGlobals "list" = some none)
    (z_max : PySem.W.nsIn K mainGlobals "max" = some none)
    (z_min : PySem.W.nsIn K mainGlobals "min" = some none)
    (z_range : PySem.W.nsIn K mainGlobals "range" = some none)
    (z_set : PySem.W.nsIn K mainGlobals "set" = some none)
    (z_sorted : PySem.W.nsIn K mainGlobals "sorted" = some none)
    (z_str : PySem.W.nsIn K mainGlobals "str" = some none)
    (z_sum : PySem.W.nsIn K mainGlobals "sum" = some none)
    (z_tuple : PySem.W.nsIn K mainGlobals "tuple" = some none)
    (z_zip : PySem.W.nsIn K mainGlobals "zip" = some none)
    (v_DIGITS : PySem.W.nsIn K mainGlobals "DIGITS" = some (some (.str "0123456789" tk1)))
    (v_LETTERS : PySem.W.nsIn K mainGlobals "LETTERS" = some (some (.str "abcdefghijklmnopqrstuvwxyz" tk2)))
    (v_MAX_KINDS : PySem.W.nsIn K mainGlobals "MAX_KINDS" = some (some (.int 3 tk3)))
    (v_MAX_PRICE : PySem.W.nsIn K mainGlobals "MAX_PRICE" = some (some (.int 20 tk4)))
    (v_MAX_SLOTS : PySem.W.nsIn K mainGlobals "MAX_SLOTS" = some (some (.int 8 tk5)))
    (v_MAX_STATES : PySem.W.nsIn K mainGlobals "MAX_STATES" = some (some (.int 100 tk6)))
    (v_NEW : PySem.W.nsIn K mainGlobals "NEW" = some (some (.ref g7)))
    (lt_g7 : K.lookup g7 = some ⟨.type "tuple", od_g7, .seq #[(.int 0 tk8), (.int 0 tk9), (.int 0 tk10), (.int 0 tk11)] n_g7, sl_g7⟩)
    (v_RULES : PySem.W.nsIn K mainGlobals "RULES" = some (some (.ref g12)))
    (lt_g12 : K.lookup g12 = some ⟨.type "tuple", od_g12, .seq #[(.ref g13), (.ref g22), (.ref g28)] n_g12, sl_g12⟩)
    (lt_g28 : K.lookup g28 = some ⟨.type "tuple", od_g28, .seq #[(.str "bonus" tk29), (.ref g30)] n_g28, sl_g28⟩)
    (lt_g30 : K.lookup g30 = some ⟨.type "tuple", od_g30, .seq #[(.ref g31)] n_g30, sl_g30⟩)
    (lt_g31 : K.lookup g31 = some ⟨.type "tuple", od_g31, .seq #[(.int 2 tk32), (.int 4 tk33)] n_g31, sl_g31⟩)
    (lt_g22 : K.lookup g22 = some ⟨.type "tuple", od_g22, .seq #[(.str "cap" tk23), (.ref g24)] n_g22, sl_g22⟩)
    (lt_g24 : K.lookup g24 = some ⟨.type "tuple", od_g24, .seq #[(.ref g25)] n_g24, sl_g24⟩)
    (lt_g25 : K.lookup g25 = some ⟨.type "tuple", od_g25, .seq #[(.int 0 tk26), (.int 20 tk27)] n_g25, sl_g25⟩)
    (lt_g13 : K.lookup g13 = some ⟨.type "tuple", od_g13, .seq #[(.str "transfer" tk14), (.ref g15)] n_g13, sl_g13⟩)
    (lt_g15 : K.lookup g15 = some ⟨.type "tuple", od_g15, .seq #[(.ref g16), (.ref g19)] n_g15, sl_g15⟩)
    (lt_g19 : K.lookup g19 = some ⟨.type "tuple", od_g19, .seq #[(.int 0 tk20), (.int 20 tk21)] n_g19, sl_g19⟩)
    (lt_g16 : K.lookup g16 = some ⟨.type "tuple", od_g16, .seq #[(.int 0 tk17), (.int 4 tk18)] n_g16, sl_g16⟩) :
    ∃ (fd : FuncData), (∀ (s : Shared) (v : Value), BindsTo s fd ⟨[v], []⟩ [("script", v)]) ∧ ∀ base : Heap, K.In base → base.Ns mainGlobals mg → FnG P w K mg base (L2.CX P w) 8 fa fd ["script"] (spW ⟨P, w, K, clsOf C_System⟩ 1 g_law) := by
  have e := hfa.symm.trans (PySem.W.mg_of XI Gl0 a_law)
  cases e
  have F_u_law_rows := fun_mk (st := (top 33)) l_u_law_rows c_u_law_rows k_u_law_rows
  have b_u_law_rows := F_u_law_rows.binds (ps := []) fun _ _ _ _ _ _ us hl => match us, hl with | [], _ => rfl
  have F_System_base_price := fun_mk (st := (inClass (top 26) 4)) l_System_base_price c_System_base_price k_System_base_price
  have b_System_base_price := F_System_base_price.binds (ps := ["self", "slot", "letter"]) fun _ _ _ _ _ _ us hl => match us, hl with | [_, _, _], _ => rfl
  have F_System_after_point := fun_mk (st := (inClass (top 26) 5)) l_System_after_point c_System_after_point k_System_after_point
  have b_System_after_point := F_System_after_point.binds (ps := ["self", "state"]) fun _ _ _ _ _ _ us hl => match us, hl with | [_, _], _ => rfl
  have F_System_step := fun_mk (st := (inClass (top 26) 6)) l_System_step c_System_step k_System_step
  have b_System_step := F_System_step.binds (ps := ["self", "state", "letter"]) fun _ _ _ _ _ _ us hl => match us, hl with | [_, _, _], _ => rfl
  have F_System_costs := fun_mk (st := (inClass (top 26) 7)) l_System_costs c_System_costs k_System_costs
  have b_System_costs := F_System_costs.binds (ps := ["self", "history"]) fun _ _ _ _ _ _ us hl => match us, hl with | [_, _], _ => rfl
  have F_System_cost := fun_mk (st := (inClass (top 26) 8)) l_System_cost c_System_cost k_System_cost
  have b_System_cost := F_System_cost.binds (ps := ["self", "history"]) fun _ _ _ _ _ _ us hl => match us, hl with | [_, _], _ => rfl
  have F_u_law_take := fun_mk (st := (top 31)) l_u_law_take c_u_law_take k_u_law_take
  have b_u_law_take := F_u_law_take.binds (ps := ["feed", "many"]) fun _ _ _ _ _ _ us hl => match us, hl with | [_, _], _ => rfl
  have F_reached_states := fun_mk (st := (top 28)) l_reached_states c_reached_states k_reached_states
  have b_reached_states := F_reached_states.binds (ps := ["system"]) fun _ _ _ _ _ _ us hl => match us, hl with | [_], _ => rfl
  have F_System_init := fun_mk (st := (inClass (top 26) 0)) l_System_init c_System_init k_System_init
  have b_System_init := F_System_init.binds (ps := ["self", "slots", "peak", "kinds", "rules"]) fun _ _ _ _ _ _ us hl => match us, hl with | [_, _, _, _, _], _ => rfl
  have F_read_number := fun_mk (st := (top 16)) l_read_number c_read_number k_read_number
  have b_read_number := F_read_number.binds (ps := ["word", "least", "most"]) fun _ _ _ _ _ _ us hl => match us, hl with | [_, _, _], _ => rfl
  have F_read_rule := fun_mk (st := (top 21)) l_read_rule c_read_rule k_read_rule
  have b_read_rule := F_read_rule.binds (ps := ["words", "word", "bounds"]) fun _ _ _ _ _ _ us hl => match us, hl with | [_, _, _], _ => rfl
  have F_read_rules := fun_mk (st := (top 25)) l_read_rules c_read_rules k_read_rules
  have b_read_rules := F_read_rules.binds (ps := ["rows", "place"]) fun _ _ _ _ _ _ us hl => match us, hl with | [_, _], _ => rfl
  have F_read_numbers := fun_mk (st := (top 17)) l_read_numbers c_read_numbers k_read_numbers
  have b_read_numbers := F_read_numbers.binds (ps := ["words", "least", "most"]) fun _ _ _ _ _ _ us hl => match us, hl with | [_, _, _], _ => rfl
  have F_read_ride := fun_mk (st := (top 20)) l_read_ride c_read_ride k_read_ride
  have b_read_ride := F_read_ride.binds (ps := ["words", "kinds"]) fun _ _ _ _ _ _ us hl => match us, hl with | [_, _], _ => rfl
  have F_read_rides := fun_mk (st := (top 24)) l_read_rides c_read_rides k_read_rides
  have b_read_rides := F_read_rides.binds (ps := ["rows", "place"]) fun _ _ _ _ _ _ us hl => match us, hl with | [_, _], _ => rfl
  have F_read_peak := fun_mk (st := (top 19)) l_read_peak c_read_peak k_read_peak
  have b_read_peak := F_read_peak.binds (ps := ["words", "slots"]) fun _ _ _ _ _ _ us hl => match us, hl with | [_, _], _ => rfl
  have F_read_slots := fun_mk (st := (top 18)) l_read_slots c_read_slots k_read_slots
  have b_read_slots := F_read_slots.binds (ps := ["words"]) fun _ _ _ _ _ _ us hl => match us, hl with | [_], _ => rfl
  have F_System_parse := fun_mk (st := (inClass (top 26) 1)) l_System_parse c_System_parse k_System_parse
  have b_System_parse := F_System_parse.binds (ps := ["cls", "text"]) fun _ _ _ _ _ _ us hl => match us, hl with | [_, _], _ => rfl
  have F_u_law_feed := fun_mk (st := (top 30)) l_u_law_feed c_u_law_feed k_u_law_feed
  have b_u_law_feed := F_u_law_feed.binds (ps := ["script", "k"]) fun _ _ _ _ _ _ us hl => match us, hl with | [_, _], _ => rfl
  have F_u_law_long_right := fun_mk (st := (top 34)) l_u_law_long_right c_u_law_long_right k_u_law_long_right
  have b_u_law_long_right := F_u_law_long_right.binds (ps := []) fun _ _ _ _ _ _ us hl => match us, hl with | [], _ => rfl
  have F_law := fun_mk (st := (top 35)) l_law c_law k_law
  have b_law := F_law.binds (ps := ["script"]) fun _ _ _ _ _ _ us hl => match us, hl with | [_], _ => rfl
  have hc_System : clsOf C_System "System" = some C_System := by unfold clsOf; simp [show ("System" : Str) = "System" from rfl]
  refine ⟨PySem.W.fnOf "law" "law" (defArgs (top 35)) (defBody (top 35)) (defScope (top 35)) .none kV_law dc_law pm_law an_law cd_law ct_law, fun s v => .of_eq rfl, fun base _ _ => ?_⟩
  obtain ⟨w_DIGITS, r_DIGITS, q_DIGITS⟩ := (show ValIs ⟨P, w, K, clsOf C_System⟩ c_DIGITS _ from (vis_str tk1))
  obtain ⟨w_LETTERS, r_LETTERS, q_LETTERS⟩ := (show ValIs ⟨P, w, K, clsOf C_System⟩ c_LETTERS _ from (vis_str tk2))
  obtain ⟨w_MAX_KINDS, r_MAX_KINDS, q_MAX_KINDS⟩ := (show ValIs ⟨P, w, K, clsOf C_System⟩ c_MAX_KINDS _ from (vis_int tk3))
  obtain ⟨w_MAX_PRICE, r_MAX_PRICE, q_MAX_PRICE⟩ := (show ValIs ⟨P, w, K, clsOf C_System⟩ c_MAX_PRICE _ from (vis_int tk4))
  obtain ⟨w_MAX_SLOTS, r_MAX_SLOTS, q_MAX_SLOTS⟩ := (show ValIs ⟨P, w, K, clsOf C_System⟩ c_MAX_SLOTS _ from (vis_int tk5))
  obtain ⟨w_MAX_STATES, r_MAX_STATES, q_MAX_STATES⟩ := (show ValIs ⟨P, w, K, clsOf C_System⟩ c_MAX_STATES _ from (vis_int tk6))
  obtain ⟨w_NEW, r_NEW, q_NEW⟩ := (show ValIs ⟨P, w, K, clsOf C_System⟩ c_NEW _ from (vis_tup lt_g7 (Nat.le_of_ble_eq_true rfl) (viss_cons (vis_int tk8) (viss_cons (vis_int tk9) (viss_cons (vis_int tk10) (viss_cons (vis_int tk11) viss_nil))))))
  obtain ⟨w_RULES, r_RULES, q_RULES⟩ := (show ValIs ⟨P, w, K, clsOf C_System⟩ c_RULES _ from (vis_tup lt_g12 (Nat.le_of_ble_eq_true rfl) (viss_cons (vis_tup lt_g13 (Nat.le_of_ble_eq_true rfl) (viss_cons (vis_str tk14) (viss_cons (vis_tup lt_g15 (Nat.le_of_ble_eq_true rfl) (viss_cons (vis_tup lt_g16 (Nat.le_of_ble_eq_true rfl) (viss_cons (vis_int tk17) (viss_cons (vis_int tk18) viss_nil))) (viss_cons (vis_tup lt_g19 (Nat.le_of_ble_eq_true rfl) (viss_cons (vis_int tk20) (viss_cons (vis_int tk21) viss_nil))) viss_nil))) viss_nil))) (viss_cons (vis_tup lt_g22 (Nat.le_of_ble_eq_true rfl) (viss_cons (vis_str tk23) (viss_cons (vis_tup lt_g24 (Nat.le_of_ble_eq_true rfl) (viss_cons (vis_tup lt_g25 (Nat.le_of_ble_eq_true rfl) (viss_cons (vis_int tk26) (viss_cons (vis_int tk27) viss_nil))) viss_nil)) viss_nil))) (viss_cons (vis_tup lt_g28 (Nat.le_of_ble_eq_true rfl) (viss_cons (vis_str tk29) (viss_cons (vis_tup lt_g30 (Nat.le_of_ble_eq_true rfl) (viss_cons (vis_tup lt_g31 (Nat.le_of_ble_eq_true rfl) (viss_cons (vis_int tk32) (viss_cons (vis_int tk33) viss_nil))) viss_nil)) viss_nil))) viss_nil)))))
  have T : TX P w K mg base (clsOf C_System) := ⟨PySem.W.mg_none_of XI Gl0 z_abs, PySem.W.mg_none_of XI Gl0 z_all, PySem.W.mg_none_of XI Gl0 z_dict, PySem.W.mg_none_of XI Gl0 z_enumerate, PySem.W.mg_none_of XI Gl0 z_int, PySem.W.mg_none_of XI Gl0 z_len, PySem.W.mg_none_of XI Gl0 z_list, PySem.W.mg_none_of XI Gl0 z_max, PySem.W.mg_none_of XI Gl0 z_min, PySem.W.mg_none_of XI Gl0 z_range, PySem.W.mg_none_of XI Gl0 z_set, PySem.W.mg_none_of XI Gl0 z_sorted, PySem.W.mg_none_of XI Gl0 z_str, PySem.W.mg_none_of XI Gl0 z_sum, PySem.W.mg_none_of XI Gl0 z_tuple, PySem.W.mg_none_of XI Gl0 z_zip, ⟨_, _, PySem.W.mg_of XI Gl0 v_DIGITS, r_DIGITS, q_DIGITS⟩, ⟨_, _, PySem.W.mg_of XI Gl0 v_LETTERS, r_LETTERS, q_LETTERS⟩, ⟨_, _, PySem.W.mg_of XI Gl0 v_MAX_KINDS, r_MAX_KINDS, q_MAX_KINDS⟩, ⟨_, _, PySem.W.mg_of XI Gl0 v_MAX_PRICE, r_MAX_PRICE, q_MAX_PRICE⟩, ⟨_, _, PySem.W.mg_of XI Gl0 v_MAX_SLOTS, r_MAX_SLOTS, q_MAX_SLOTS⟩, ⟨_, _, PySem.W.mg_of XI Gl0 v_MAX_STATES, r_MAX_STATES, q_MAX_STATES⟩, ⟨_, _, PySem.W.mg_of XI Gl0 v_NEW, r_NEW, q_NEW⟩, ⟨_, _, PySem.W.mg_of XI Gl0 v_RULES, r_RULES, q_RULES⟩, fe_of hc_System ⟨pg_System, hd_System, po_System, sa_System⟩ n_System_all_states, fe_of hc_System ⟨pg_System, hd_System, po_System, sa_System⟩ n_System_kinds, fe_of hc_System ⟨pg_System, hd_System, po_System, sa_System⟩ n_System_letters, fe_of hc_System ⟨pg_System, hd_System, po_System, sa_System⟩ n_System_peak, fe_of hc_System ⟨pg_System, hd_System, po_System, sa_System⟩ n_System_rules, fe_of hc_System ⟨pg_System, hd_System, po_System, sa_System⟩ n_System_slots⟩
  have t_u_law_rows := t_u_law_rows T F_u_law_rows 
  have d_u_law_rows : DE P w K mg base "_law_rows" 1 (spW ⟨P, w, K, clsOf C_System⟩ 0 g_u_law_rows) := ⟨⟨_, _, _, t_u_law_rows, PySem.W.mg_of XI Gl0 a_u_law_rows, k_u_law_rows, b_u_law_rows⟩⟩
  have t_System_base_price := t_System_base_price T F_System_base_price 
  have d_System_base_price : ME P w K mg base (clsOf C_System) "System" "base_price" 1 (spW ⟨P, w, K, clsOf C_System⟩ 3 g_System_base_price) := ⟨⟨_, _, _, _, hc_System, ⟨pg_System, hd_System, po_System, sa_System⟩, ⟨a_System_base_price, i_System_base_price, k_System_base_price⟩, b_System_base_price, t_System_base_price⟩⟩
  have t_System_after_point := t_System_after_point T F_System_after_point 
  have d_System_after_point : ME P w K mg base (clsOf C_System) "System" "after_point" 1 (spW ⟨P, w, K, clsOf C_System⟩ 2 g_System_after_point) := ⟨⟨_, _, _, _, hc_System, ⟨pg_System, hd_System, po_System, sa_System⟩, ⟨a_System_after_point, i_System_after_point, k_System_after_point⟩, b_System_after_point, t_System_after_point⟩⟩
  have t_System_step := t_System_step T F_System_step d_System_base_price d_System_after_point
  have d_System_step : ME P w K mg base (clsOf C_System) "System" "step" 2 (spW ⟨P, w, K, clsOf C_System⟩ 3 g_System_step) := ⟨⟨_, _, _, _, hc_System, ⟨pg_System, hd_System, po_System, sa_System⟩, ⟨a_System_step, i_System_step, k_System_step⟩, b_System_step, t_System_step⟩⟩
  have t_System_costs := t_System_costs T F_System_costs d_System_step
  have d_System_costs : ME P w K mg base (clsOf C_System) "System" "costs" 3 (spW ⟨P, w, K, clsOf C_System⟩ 2 g_System_costs) := ⟨⟨_, _, _, _, hc_System, ⟨pg_System, hd_System, po_System, sa_System⟩, ⟨a_System_costs, i_System_costs, k_System_costs⟩, b_System_costs, t_System_costs⟩⟩
  have t_System_cost := t_System_cost T F_System_cost d_System_costs
  have d_System_cost : ME P w K mg base (clsOf C_System) "System" "cost" 4 (spW ⟨P, w, K, clsOf C_System⟩ 2 g_System_cost) := ⟨⟨_, _, _, _, hc_System, ⟨pg_System, hd_System, po_System, sa_System⟩, ⟨a_System_cost, i_System_cost, k_System_cost⟩, b_System_cost, t_System_cost⟩⟩
  have t_u_law_take := t_u_law_take T F_u_law_take 
  have d_u_law_take : DE P w K mg base "_law_take" 1 (spI ⟨P, w, K, clsOf C_System⟩ 1 g_u_law_take) := ⟨⟨_, _, _, t_u_law_take, PySem.W.mg_of XI Gl0 a_u_law_take, k_u_law_take, b_u_law_take⟩⟩
  have t_reached_states := t_reached_states T F_reached_states d_System_step
  have d_reached_states : DE P w K mg base "reached_states" 3 (spW ⟨P, w, K, clsOf C_System⟩ 1 g_reached_states) := ⟨⟨_, _, _, t_reached_states, PySem.W.mg_of XI Gl0 a_reached_states, k_reached_states, b_reached_states⟩⟩
  have t_System_init := t_System_init T F_System_init d_reached_states
  have d_System_init : KE' P w K mg base (clsOf C_System) "System" 4 (spI ⟨P, w, K, clsOf C_System⟩ 4 g_System_init) := ⟨⟨_, _, _, _, hc_System, PySem.W.mg_of XI Gl0 aC_System, ⟨mk_System, a_System_init, i_System_init, kc_System⟩, b_System_init, t_System_init⟩⟩
  have t_read_number := t_read_number T F_read_number 
  have d_read_number : DE P w K mg base "read_number" 1 (spW ⟨P, w, K, clsOf C_System⟩ 3 g_read_number) := ⟨⟨_, _, _, t_read_number, PySem.W.mg_of XI Gl0 a_read_number, k_read_number, b_read_number⟩⟩
  have t_read_rule := t_read_rule T F_read_rule d_read_number
  have d_read_rule : DE P w K mg base "read_rule" 2 (spW ⟨P, w, K, clsOf C_System⟩ 3 g_read_rule) := ⟨⟨_, _, _, t_read_rule, PySem.W.mg_of XI Gl0 a_read_rule, k_read_rule, b_read_rule⟩⟩
  have t_read_rules := t_read_rules T F_read_rules d_read_rule
  have d_read_rules : DE P w K mg base "read_rules" 3 (spW ⟨P, w, K, clsOf C_System⟩ 2 g_read_rules) := ⟨⟨_, _, _, t_read_rules, PySem.W.mg_of XI Gl0 a_read_rules, k_read_rules, b_read_rules⟩⟩
  have t_read_numbers := t_read_numbers T F_read_numbers d_read_number
  have d_read_numbers : DE P w K mg base "read_numbers" 2 (spW ⟨P, w, K, clsOf C_System⟩ 3 g_read_numbers) := ⟨⟨_, _, _, t_read_numbers, PySem.W.mg_of XI Gl0 a_read_numbers, k_read_numbers, b_read_numbers⟩⟩
  have t_read_ride := t_read_ride T F_read_ride d_read_numbers
  have d_read_ride : DE P w K mg base "read_ride" 3 (spW ⟨P, w, K, clsOf C_System⟩ 2 g_read_ride) := ⟨⟨_, _, _, t_read_ride, PySem.W.mg_of XI Gl0 a_read_ride, k_read_ride, b_read_ride⟩⟩
  have t_read_rides := t_read_rides T F_read_rides d_read_ride
  have d_read_rides : DE P w K mg base "read_rides" 4 (spW ⟨P, w, K, clsOf C_System⟩ 2 g_read_rides) := ⟨⟨_, _, _, t_read_rides, PySem.W.mg_of XI Gl0 a_read_rides, k_read_rides, b_read_rides⟩⟩
  have t_read_peak := t_read_peak T F_read_peak d_read_numbers
  have d_read_peak : DE P w K mg base "read_peak" 3 (spW ⟨P, w, K, clsOf C_System⟩ 2 g_read_peak) := ⟨⟨_, _, _, t_read_peak, PySem.W.mg_of XI Gl0 a_read_peak, k_read_peak, b_read_peak⟩⟩
  have t_read_slots := t_read_slots T F_read_slots d_read_number
  have d_read_slots : DE P w K mg base "read_slots" 2 (spW ⟨P, w, K, clsOf C_System⟩ 1 g_read_slots) := ⟨⟨_, _, _, t_read_slots, PySem.W.mg_of XI Gl0 a_read_slots, k_read_slots, b_read_slots⟩⟩
  have t_System_parse := t_System_parse T F_System_parse d_System_init d_read_rules d_read_rides d_read_peak d_read_slots
  have d_System_parse : CE' P w K mg base (clsOf C_System) "System" "parse" 6 (spW ⟨P, w, K, clsOf C_System⟩ 2 g_System_parse) := ⟨⟨_, _, _, _, _, _, hc_System, PySem.W.mg_of XI Gl0 aC_System, ⟨rd_System_parse, ga_System_parse⟩, ⟨at_System_parse, ⟨_, rc_System_parse⟩, fi_System_parse⟩, b_System_parse, t_System_parse⟩⟩
  have t_u_law_feed := t_u_law_feed T F_u_law_feed 
  have d_u_law_feed : DE P w K mg base "_law_feed" 1 (spW ⟨P, w, K, clsOf C_System⟩ 2 g_u_law_feed) := ⟨⟨_, _, _, t_u_law_feed, PySem.W.mg_of XI Gl0 a_u_law_feed, k_u_law_feed, b_u_law_feed⟩⟩
  have t_u_law_long_right := t_u_law_long_right T F_u_law_long_right d_System_cost d_System_parse d_System_costs
  have d_u_law_long_right : DE P w K mg base "_law_long_right" 7 (spW ⟨P, w, K, clsOf C_System⟩ 0 g_u_law_long_right) := ⟨⟨_, _, _, t_u_law_long_right, PySem.W.mg_of XI Gl0 a_u_law_long_right, k_u_law_long_right, b_u_law_long_right⟩⟩
  have t_law := t_law T F_law d_u_law_rows d_System_cost d_System_costs d_u_law_take d_System_parse d_u_law_feed d_u_law_long_right
  exact t_law
end WL
end F_ENDA

section F_ENDB
open PySem PySem.W PyProof.Rows
set_option maxRecDepth 100000 in
set_option maxHeartbeats 0 in
theorem PySem.Challenge.cw_trickfares_k08_known_prices_holds : PySem.Challenge.rw_trickfares_k08_known_prices.Holds := by
  w_on; o_law; k_head; (case hw => w_witness2)
  k_fill
  refine WL.walkE (l := PySem.Challenge.rw_trickfares_k08_known_prices) (n := 63) (k := 8) (g := WL.g_law) rfl (by decide) rfl ⟨rfl, by decide, by decide⟩ rfl (fun w h Y => PySem.W.kIn_of Y) ?F WL.law_true
  case F =>
    intro w mg fa h KX G hmg
    refine' ⟨_, WL.all_mk KX G hmg ?aC_System ?pg_System ?hd_System ?po_System ?sa_System ?kc_System ?mk_System ?n_System_all_states ?n_System_kinds ?n_System_letters ?n_System_peak ?n_System_rules ?n_System_slots ?a_u_law_rows ?l_u_law_rows ?c_u_law_rows ?k_u_law_rows ?a_System_base_price ?i_System_base_price ?l_System_base_price ?c_System_base_price ?k_System_base_price ?a_System_after_point ?i_System_after_point ?l_System_after_point ?c_System_after_point ?k_System_after_point ?a_System_step ?i_System_step ?l_System_step ?c_System_step ?k_System_step ?a_System_costs ?i_System_costs ?l_System_costs ?c_System_costs ?k_System_costs ?a_System_cost ?i_System_cost ?l_System_cost ?c_System_cost ?k_System_cost ?a_u_law_take ?l_u_law_take ?c_u_law_take ?k_u_law_take ?a_reached_states ?l_reached_states ?c_reached_states ?k_reached_states ?a_System_init ?i_System_init ?l_System_init ?c_System_init ?k_System_init ?a_read_number ?l_read_number ?c_read_number ?k_read_number ?a_read_rule ?l_read_rule ?c_read_rule ?k_read_rule ?a_read_rules ?l_read_rules ?c_read_rules ?k_read_rules ?a_read_numbers ?l_read_numbers ?c_read_numbers ?k_read_numbers ?a_read_ride ?l_read_ride ?c_read_ride ?k_read_ride ?a_read_rides ?l_read_rides ?c_read_rides ?k_read_rides ?a_read_peak ?l_read_peak ?c_read_peak ?k_read_peak ?a_read_slots ?l_read_slots ?c_read_slots ?k_read_slots ?ga_System_parse ?ty_System_parse ?rd_System_parse ?at_System_parse ?rc_System_parse ?fi_System_parse ?l_System_parse ?c_System_parse ?k_System_parse ?a_u_law_feed ?l_u_law_feed ?c_u_law_feed ?k_u_law_feed ?a_u_law_long_right ?l_u_law_long_right ?c_u_law_long_right ?k_u_law_long_right ?a_law ?l_law ?c_law ?k_law ?z_abs ?z_all ?z_dict ?z_enumerate ?z_int ?z_len ?z_list ?z_max ?z_min ?z_range ?z_set ?z_sorted ?z_str ?z_sum ?z_tuple ?z_zip ?v_DIGITS ?v_LETTERS ?v_MAX_KINDS ?v_MAX_PRICE ?v_MAX_SLOTS ?v_MAX_STATES ?v_NEW ?lt_g7 ?v_RULES ?lt_g12 ?lt_g28 ?lt_g30 ?lt_g31 ?lt_g22 ?lt_g24 ?lt_g25 ?lt_g13 ?lt_g15 ?lt_g19 ?lt_g16⟩
    (case aC_System => k_is)
    (case pg_System => k_is)
    (case hd_System => k_is)
    (case po_System => k_is)
    (case sa_System => k_is)
    (case kc_System => k_is)
    (case mk_System => k_is)
    (case n_System_all_states => k_is)
    (case n_System_kinds => k_is)
    (case n_System_letters => k_is)
    (case n_System_peak => k_is)
    (case n_System_rules => k_is)
    (case n_System_slots => k_is)
    (case a_u_law_rows => k_is)
    (case l_u_law_rows => k_is)
    (case c_u_law_rows => k_is)
    (case k_u_law_rows => k_is)
    (case a_System_base_price => k_is)
    (case i_System_base_price => k_is)
    (case l_System_base_price => k_is)
    (case c_System_base_price => k_is)
    (case k_System_base_price => k_is)
    (case a_System_after_point => k_is)
    (case i_System_after_point => k_is)
    (case l_System_after_point => k_is)
    (case c_System_after_point => k_is)
    (case k_System_after_point => k_is)
    (case a_System_step => k_is)
    (case i_System_step => k_is)
    (case l_System_step => k_is)
    (case c_System_step => k_is)
    (case k_System_step => k_is)
    (case a_System_costs => k_is)
    (case i_System_costs => k_is)
    (case l_System_costs => k_is)
    (case c_System_costs => k_is)
    (case k_System_costs => k_is)
    (case a_System_cost => k_is)
    (case i_System_cost => k_is)
    (case l_System_cost => k_is)
    (case c_System_cost => k_is)
    (case k_System_cost => k_is)
    (case a_u_law_take => k_is)
    (case l_u_law_take => k_is)
    (case c_u_law_take => k_is)
    (case k_u_law_take => k_is)
    (case a_reached_states => k_is)
    (case l_reached_states => k_is)
    (case c_reached_states => k_is)
    (case k_reached_states => k_is)
    (case a_System_init => k_is)
    (case i_System_init => k_is)
    (case l_System_init => k_is)
    (case c_System_init => k_is)
    (case k_System_init => k_is)
    (case a_read_number => k_is)
    (case l_read_number => k_is)
    (case c_read_number => k_is)
    (case k_read_number => k_is)
    (case a_read_rule => k_is)
    (case l_read_rule => k_is)
    (case c_read_rule => k_is)
    (case k_read_rule => k_is)
    (case a_read_rules => k_is)
    (case l_read_rules => k_is)
    (case c_read_rules => k_is)
    (case k_read_rules => k_is)
    (case a_read_numbers => k_is)
    (case l_read_numbers => k_is)
    (case c_read_numbers => k_is)
    (case k_read_numbers => k_is)
    (case a_read_ride => k_is)
    (case l_read_ride => k_is)
    (case c_read_ride => k_is)
    (case k_read_ride => k_is)
    (case a_read_rides => k_is)
    (case l_read_rides => k_is)
    (case c_read_rides => k_is)
    (case k_read_rides => k_is)
    (case a_read_peak => k_is)
    (case l_read_peak => k_is)
    (case c_read_peak => k_is)
    (case k_read_peak => k_is)
    (case a_read_slots => k_is)
    (case l_read_slots => k_is)
    (case c_read_slots => k_is)
    (case k_read_slots => k_is)
    (case ga_System_parse => k_is)
    (case ty_System_parse => k_is)
    (case rd_System_parse => k_is)
    (case at_System_parse => k_is)
    (case rc_System_parse => k_is)
    (case fi_System_parse => k_is)
    (case l_System_parse => k_is)
    (case c_System_parse => k_is)
    (case k_System_parse => k_is)
    (case a_u_law_feed => k_is)
    (case l_u_law_feed => k_is)
    (case c_u_law_feed => k_is)
    (case k_u_law_feed => k_is)
    (case a_u_law_long_right => k_is)
    (case l_u_law_long_right => k_is)
    (case c_u_law_long_right => k_is)
    (case k_u_law_long_right => k_is)
    (case a_law => k_is)
    (case l_law => k_is)
    (case c_law => k_is)
    (case k_law => k_is)
    (case z_abs => k_is)
    (case z_all => k_is)
    (case z_dict => k_is)
    (case z_enumerate => k_is)
    (case z_int => k_is)
    (case z_len => k_is)
    (case z_list => k_is)
    (case z_max => k_is)
    (case z_min => k_is)
    (case z_range => k_is)
    (case z_set => k_is)
    (case z_sorted => k_is)
    (case z_str => k_is)
    (case z_sum => k_is)
    (case z_tuple => k_is)
    (case z_zip => k_is)
    (case v_DIGITS => k_is)
    (case v_LETTERS => k_is)
    (case v_MAX_KINDS => k_is)
    (case v_MAX_PRICE => k_is)
    (case v_MAX_SLOTS => k_is)
    (case v_MAX_STATES => k_is)
    (case v_NEW => k_is)
    (case lt_g7 => k_is)
    (case v_RULES => k_is)
    (case lt_g12 => k_is)
    (case lt_g28 => k_is)
    (case lt_g30 => k_is)
    (case lt_g31 => k_is)
    (case lt_g22 => k_is)
    (case lt_g24 => k_is)
    (case lt_g25 => k_is)
    (case lt_g13 => k_is)
    (case lt_g15 => k_is)
    (case lt_g19 => k_is)
    (case lt_g16 => k_is)
#print axioms PySem.Challenge.cw_trickfares_k08_known_prices_holds
end F_ENDB

