import PyProof.Rows.All
import Wide.All
import OpenK.AllK
import Wide.FinOn
import HandS.ForMost
import HandS.Exc
import HandS.ExcOwn
import HandS.TryOnly
import HandS.TryMany
import HandS.WordsExc
import HandS.TupAny
import HandS.TupMul
import HandS.IsInst
import HandS.SetFor
import HandS.Conv
import HandS.Style
import HandS.Zip
import HandS.SortInts
import HandS.EndTab
import HandS.GenList
import HandS.GenYield
import HandS.Lambda
import HandS.SortOrd
import HandS.Words
import KE.GoesEnum
import KE.GoesMore
import KE.KLam
import KE.KSortedM
import KE.KTupSum
import PyProof.ForAny
import PyProof.GenComp
import PySem.Challenge.RW_droppedmarks_k16_whole_written_panels
set_option Elab.async false
set_option autoImplicit false
set_option linter.all false
set_option maxRecDepth 100000
set_option maxHeartbeats 4000000
set_option pp.maxSteps 1500
/-! DSem0: a weakest precondition over plain data. Values are trees (D); mutable things live in a store by index. Law-independent. -/
namespace DS
open PySem PySem.Spec PyProof.Rows L2
/-- the tables of code objects that the row's lambdas write, each with the name of its lambdas -/
class Tbs where
  tabs : List (Addr × Str)
abbrev nt (o : HO) : Prop := ∀ q, o ≠ .tbl q

/-- data: a value with all that hangs on it -/
inductive D where
  | non | bl (b : Bool) | int (i : Int) | str (x : Str) | tup (xs : List D) | lst (xs : List D) | raw (v : V)

mutual
/-- the value v is the data d, by what stands (unchanging) in F -/
inductive Rep (K : PySem.W.Frag) (F : Hp) : V → D → Prop
  | non : Rep K F .non .non
  | bl (b : Bool) : Rep K F (.bl b) (.bl b)
  | int (i : Int) : Rep K F (.int i) (.int i)
  | str (x : Str) : Rep K F (.str x) (.str x)
  | lst {a : Addr} {xs : List V} {ds : List D} : SqL K F a xs → RepA K F xs ds → Rep K F (.ref a) (.lst ds)
  | tup {a : Addr} {xs : List V} {ds : List D} : SqT K F a xs → RepA K F xs ds → Rep K F (.ref a) (.tup ds)
  | raw (v : V) : Rep K F v (.raw v)
inductive RepA (K : PySem.W.Frag) (F : Hp) : List V → List D → Prop
  | nil : RepA K F [] []
  | cons {v : V} {vs : List V} {d : D} {ds : List D} : Rep K F v d → RepA K F vs ds → RepA K F (v :: vs) (d :: ds)
end

theorem SameT {K : PySem.W.Frag} {H H' : Hp} {a : Addr} {xs : List V} (e : Same H H') (h : SqT K H a xs) : SqT K H' a xs := by
  rcases h with (h | ⟨o, h⟩) | h
  · exact .inl (.inl (e _ _ h))
  · exact .inl (.inr ⟨o, e _ _ h⟩)
  · exact .inr h

section
variable {K : PySem.W.Frag} {F F' : Hp}
mutual
theorem Rep.mono (e : Same F F') : ∀ {v : V} {d : D}, Rep K F v d → Rep K F' v d
  | _, _, .non => .non
  | _, _, .bl b => .bl b
  | _, _, .int i => .int i
  | _, _, .str x => .str x
  | _, _, .lst s a => .lst (e.seq s) (RepA.mono e a)
  | _, _, .tup s a => .tup (SameT e s) (RepA.mono e a)
  | _, _, .raw v => .raw v
theorem RepA.mono (e : Same F F') : ∀ {vs : List V} {ds : List D}, RepA K F vs ds → RepA K F' vs ds
  | _, _, .nil => .nil
  | _, _, .cons h t => .cons (Rep.mono e h) (RepA.mono e t)
end
theorem RepA.length : ∀ {vs : List V} {ds : List D}, RepA K F vs ds → vs.length = ds.length
  | _, _, .nil => rfl
  | _, _, .cons _ t => congrArg (· + 1) t.length
theorem RepA.append : ∀ {vs ws : List V} {ds es : List D}, RepA K F vs ds → RepA K F ws es → RepA K F (vs ++ ws) (ds ++ es)
  | _, _, _, _, .nil, h => h
  | _, _, _, _, .cons r t, h => .cons r (t.append h)
theorem RepA.get : ∀ {vs : List V} {ds : List D} {i : Nat} {d : D}, RepA K F vs ds → ds[i]? = some d → ∃ v, vs[i]? = some v ∧ Rep K F v d
  | _, _, i, _, .nil, h => by simp at h
  | _, _, 0, _, .cons r _, h => by simp at h; subst h; exact ⟨_, rfl, r⟩
  | _, _, i + 1, _, .cons _ t, h => by
    obtain ⟨v, e, r⟩ := t.get (i := i) (by simpa using h)
    exact ⟨v, by simpa using e, r⟩
theorem RepA.get' : ∀ {vs : List V} {ds : List D} {i : Nat} {v : V}, RepA K F vs ds → vs[i]? = some v → ∃ d, ds[i]? = some d ∧ Rep K F v d
  | _, _, i, _, .nil, h => by simp at h
  | _, _, 0, _, .cons r _, h => by simp at h; subst h; exact ⟨_, rfl, r⟩
  | _, _, i + 1, _, .cons _ t, h => by
    obtain ⟨v, e, r⟩ := t.get' (i := i) (by simpa using h)
    exact ⟨v, by simpa using e, r⟩
theorem RepA.take : ∀ {vs : List V} {ds : List D} (n : Nat), RepA K F vs ds → RepA K F (vs.take n) (ds.take n)
  | _, _, 0, _ => .nil
  | _, _, _ + 1, .nil => .nil
  | _, _, n + 1, .cons r t => .cons r (t.take n)
theorem RepA.drop : ∀ {vs : List V} {ds : List D} (n : Nat), RepA K F vs ds → RepA K F (vs.drop n) (ds.drop n)
  | _, _, 0, h => h
  | _, _, _ + 1, .nil => .nil
  | _, _, n + 1, .cons _ t => t.drop n
theorem RepA.set {v : V} {d : D} (r : Rep K F v d) : ∀ {vs : List V} {ds : List D} (n : Nat), RepA K F vs ds → RepA K F (vs.set n v) (ds.set n d)
  | _, _, _, .nil => .nil
  | _, _, 0, .cons _ t => .cons r t
  | _, _, n + 1, .cons q t => .cons q (RepA.set r n t)
theorem RepA.reverse {vs : List V} {ds : List D} (h : RepA K F vs ds) : RepA K F vs.reverse ds.reverse := by
  induction vs generalizing ds with
  | nil => cases h; exact .nil
  | cons v vs ih =>
    cases h with
    | cons r t =>
      rw [List.reverse_cons, List.reverse_cons]
      exact (ih t).append (.cons r .nil)
theorem RepA.rep {vs : List V} {ds : List D} (h : RepA K F vs ds) : ∀ k : Nat, RepA K F (List.replicate k vs).flatten (List.replicate k ds).flatten
  | 0 => .nil
  | k + 1 => by
    rw [List.replicate_succ, List.replicate_succ, List.flatten_cons, List.flatten_cons]
    exact h.append (h.rep k)
theorem RepA.erase : ∀ {vs : List V} {ds : List D} (i : Nat), RepA K F vs ds → RepA K F (vs.eraseIdx i) (ds.eraseIdx i)
  | _, _, _, .nil => .nil
  | _, _, 0, .cons _ t => t
  | _, _, i + 1, .cons r t => .cons r (t.erase i)
theorem Rep.inv_int {v : V} {i : Int} (h : Rep K F v (.int i)) : v = .int i := by cases h; rfl
theorem Rep.inv_bl {v : V} {i : Bool} (h : Rep K F v (.bl i)) : v = .bl i := by cases h; rfl
theorem Rep.inv_str {v : V} {i : Str} (h : Rep K F v (.str i)) : v = .str i := by cases h; rfl
theorem Rep.inv_non {v : V} (h : Rep K F v .non) : v = .non := by cases h; rfl
theorem RepA.inv_ints : ∀ {ns : List Int} {vs : List V}, RepA K F vs (ns.map D.int) → vs = ns.map V.int
  | [], _, h => by cases h; rfl
  | n :: ns, _, h => by
    cases h with
    | cons r t => rw [List.map_cons, r.inv_int, t.inv_ints]
theorem RepA.ints : ∀ (ns : List Int), RepA K F (ns.map V.int) (ns.map D.int)
  | [] => .nil
  | n :: ns => .cons (.int n) (RepA.ints ns)
theorem RepA.inv_bls : ∀ {ns : List Bool} {vs : List V}, RepA K F vs (ns.map D.bl) → vs = ns.map V.bl
  | [], _, h => by cases h; rfl
  | n :: ns, _, h => by
    cases h with
    | cons r t => rw [List.map_cons, r.inv_bl, t.inv_bls]
theorem RepA.bls : ∀ (ns : List Bool), RepA K F (ns.map V.bl) (ns.map D.bl)
  | [] => .nil
  | n :: ns => .cons (.bl n) (RepA.bls ns)
theorem RepA.inv_strs : ∀ {ns : List Str} {vs : List V}, RepA K F vs (ns.map D.str) → vs = ns.map V.str
  | [], _, h => by cases h; rfl
  | n :: ns, _, h => by
    cases h with
    | cons r t => rw [List.map_cons, r.inv_str, t.inv_strs]
end

/-! ### the store -/
inductive SV where
  | d (x : D)
  | loc (k : Nat)
inductive MO where
  | lst (xs : List D)
  | dct (kvs : List (D × D))
  | ins (C : Addr) (fs : List (Str × D))
  /-- a list that is not changed any more -/
  | frz (xs : List D)
  | dead
def live : MO → Bool
  | .dead => false
  | .frz _ => false
  | _ => true

/-- the frame: what stood at the entry beside the data (R), the data at the entry (F0), the addresses of the mutable arguments -/
structure DX where
  R : Hp
  F0 : Hp
  ps : List Addr

/-- the same frame, other data at the entry -/
abbrev DX.w (C : DX) (F0 : Hp) : DX := ⟨C.R, F0, C.ps⟩
def kD : Key → D
  | .inl i => .int i
  | .inr x => .str x
def VOk (K : PySem.W.Frag) (F : Hp) (as : List Addr) (v : V) : SV → Prop
  | .d x => Rep K F v x
  | .loc k => ∃ a, as[k]? = some a ∧ v = .ref a
def MC (K : PySem.W.Frag) (F : Hp) (o : HO) : MO → Prop
  | .lst xs => ∃ vs, o = .lst vs ∧ RepA K F vs xs
  | .dct kvs => (∃ ws : List (Key × V), o = .dK ws ∧ Paired (fun p q => kD p.1 = q.1 ∧ Rep K F p.2 q.2) ws kvs) ∨
      (∃ ws : List (List Key × V), o = .dT ws ∧ Paired (fun p q => D.tup (p.1.map kD) = q.1 ∧ Rep K F p.2 q.2) ws kvs)
  | .ins C fs => ∃ dx gs, o = .ins C dx gs ∧ Paired (fun p q => p.1 = q.1 ∧ Rep K F p.2 q.2) gs fs
  | .frz _ => True
  | .dead => True

structure Agree [Tbs] (K : PySem.W.Frag) (C : DX) (F H : Hp) (as : List Addr) (σ : L2.St) (δ : List (Option SV)) (μ : List MO) : Prop where
  f0 : Same C.F0 F
  fr : ∀ (a : Addr) (o : HO), F a = some o → C.F0 a = some o ∨ C.R a = none
  rH : Same C.R H
  fH : Same F H
  las : as.length = μ.length
  pre : C.ps <+: as
  nd : ∀ (i j : Nat) (a : Addr) (m m' : MO), as[i]? = some a → as[j]? = some a → μ[i]? = some m → μ[j]? = some m' → live m = true → live m' = true → i = j
  own : ∀ (k : Nat) (m : MO) (a : Addr), μ[k]? = some m → as[k]? = some a → live m = true → F a = none ∧ C.R a = none ∧ ∃ o, H a = some o ∧ MC K F o m
  frz : ∀ (k : Nat) (xs : List D) (a : Addr), μ[k]? = some (.frz xs) → as[k]? = some a → Rep K F (.ref a) (.lst xs)
  lσ : σ.length = δ.length
  val : ∀ (i : Nat) (sv : SV), δ[i]? = some (some sv) → ∃ v, σ[i]? = some (some v) ∧ VOk K F as v sv
  fT : ∀ (a : Addr) (o : HO), F a = some o → nt o
  rT : ∀ (a : Addr) (o : HO), C.R a = some o → nt o
  tb : LamX.Tabs Tbs.tabs H
theorem tabs_write {T : List (Addr × Str)} {H : Hp} {a : Addr} {u o : HO} (t : LamX.Tabs T H) (h : H a = some u) (n1 : nt u) (n2 : ∀ p, u ≠ .ext p) : LamX.Tabs T (upd H a o) := fun p hp => by
  obtain ⟨ps, h1, h2, h3⟩ := t p hp
  have ne : p.1 ≠ a := fun e => by rw [e, h] at h1; exact n1 ps (Option.some.inj h1)
  refine ⟨ps, by rw [upd_ne ne]; exact h1, h2, fun pos cv hc => ?_⟩
  obtain ⟨c, e1, e2⟩ := h3 pos cv hc
  have ne2 : c ≠ a := fun e => by rw [e, h] at e2; exact n2 _ (Option.some.inj e2)
  exact ⟨c, e1, by rw [upd_ne ne2]; exact e2⟩

theorem mc_nt {K : PySem.W.Frag} {F : Hp} {o : HO} {m : MO} (h : MC K F o m) (l : live m = true) : nt o ∧ ∀ p, o ≠ .ext p := by
  cases m with
  | lst xs => obtain ⟨vs, rfl, _⟩ := h; exact ⟨fun q z => (by cases z), fun q z => (by cases z)⟩
  | dct kvs => rcases h with ⟨ws, rfl, _⟩ | ⟨ws, rfl, _⟩ <;> exact ⟨fun q z => (by cases z), fun q z => (by cases z)⟩
  | ins C fs => obtain ⟨dx, gs, rfl, _⟩ := h; exact ⟨fun q z => (by cases z), fun q z => (by cases z)⟩
  | frz xs => cases l
  | dead => cases l
theorem pfx_get {α : Type} {as bs : List α} (p : as <+: bs) {k : Nat} {a : α} (h : as[k]? = some a) : bs[k]? = some a := by
  obtain ⟨t, rfl⟩ := p
  rw [List.getElem?_append_left (List.getElem?_eq_some_iff.mp h).1]
  exact h
theorem Paired.imp {α β : Type} {F G : α → β → Prop} (f : ∀ a b, F a b → G a b) : ∀ {l₁ : List α} {l₂ : List β}, Paired F l₁ l₂ → Paired G l₁ l₂
  | _, _, .nil => .nil
  | _, _, .cons r t => .cons (f _ _ r) (Paired.imp f t)
section
variable {K : PySem.W.Frag} {F F' : Hp} {as as' : List Addr}
theorem VOk.mono (e : Same F F') (p : as <+: as') {v : V} : ∀ {sv : SV}, VOk K F as v sv → VOk K F' as' v sv
  | .d _, h => Rep.mono e h
  | .loc _, ⟨a, h, q⟩ => ⟨a, pfx_get p h, q⟩
theorem MC.mono (e : Same F F') {o : HO} : ∀ {m : MO}, MC K F o m → MC K F' o m
  | .lst _, ⟨vs, h, r⟩ => ⟨vs, h, r.mono e⟩
  | .dct _, .inl ⟨ws, h, r⟩ => .inl ⟨ws, h, Paired.imp (fun _ _ x => ⟨x.1, x.2.mono e⟩) r⟩
  | .dct _, .inr ⟨ws, h, r⟩ => .inr ⟨ws, h, Paired.imp (fun _ _ x => ⟨x.1, x.2.mono e⟩) r⟩
  | .ins _ _, ⟨dx, gs, h, r⟩ => ⟨dx, gs, h, Paired.imp (fun _ _ x => ⟨x.1, x.2.mono e⟩) r⟩
  | .frz _, _ => trivial
  | .dead, _ => trivial
end

/-! ### maximal readings -/
section
variable (X : Cx)
def tm (e : Expr) : TE := fun σ H Q => ∀ pins s, Inv X pins σ H s → wpAny (model X.prog X.w) X.A (eval e X.env) (EP X pins σ Q) X.xe s
def tmT (e : Expr) : TT := fun σ H Q => ∀ pins s, Inv X pins σ H s → wpAny (model X.prog X.w) X.A (isTrue e X.env (eval e X.env)) (TP X pins σ Q) X.xe s
def tmW (e : Expr) : TT := fun σ H Q => ∀ whole pins s, Inv X pins σ H s → wpAny (model X.prog X.w) X.A (isTrue e X.env whole) (TP X pins σ Q) X.xe s
def tmA (es : List Expr) : TA := fun σ H Q => ∀ pos pins s, Inv X pins σ H s → wpAny (model X.prog X.w) X.A (spliced (backTo pos (starEach es X.env))) (AP X pins σ Q) X.xe s
def tmS (st : Stmt) : TS := fun E σ H => ∀ pins s, Inv X pins σ H s → wpAny (model X.prog X.w) X.A (exec st X.env) (SP X pins E) X.xe s
def tmSs (st : List Stmt) : TS := fun E σ H => ∀ pins s, Inv X pins σ H s → wpAny (model X.prog X.w) X.A (execs st X.env) (SP X pins E) X.xe s
def tmG (tg : Expr) : TG := fun v σ H Q => ∀ pins s u, Inv X pins σ H s → RelV v u → wpAny (model X.prog X.w) X.A (assign tg X.env u) (fun _ s' => ∃ σ' H', Inv X pins σ' H' s' ∧ Q σ' H') X.xe s
def tmGs (ts : List Expr) : TGs := fun vs σ H Q => ∀ pins s us, Inv X pins σ H s → Vals vs us → wpAny (model X.prog X.w) X.A (assignInOrder ((assignEach ts X.env).map (·.2)) us) (fun _ s' => ∃ σ' H', Inv X pins σ' H' s' ∧ Q σ' H') X.xe s
def tmO (e : Option Expr) : TO := fun σ H Q => ∀ pins s, Inv X pins σ H s → wpAny (model X.prog X.w) X.A (evalPart e X.env) (fun u s' => ∃ o H', Inv X pins σ H' s' ∧ IsPart u o ∧ Q o H') X.xe s
end
section
variable {X : Cx} {e : Expr} {es : List Expr} {st : Stmt} {sts : List Stmt} {σ : L2.St} {H : Hp}
theorem pe_tm : PE X e (tm X e) := ⟨fun pins s _ _ _ I h => h pins s I⟩
theorem pt_tm : PT X e (tmT X e) := ⟨fun pins s _ _ _ I h => h pins s I⟩
theorem pw_tm : PW X e (tmW X e) := ⟨fun w pins s _ _ _ I h => h w pins s I⟩
theorem pa_tm : PA X es (tmA X es) := ⟨fun pos pins s _ _ _ I h => h pos pins s I⟩
theorem ps_tm : PS X st (tmS X st) := ⟨fun pins s _ _ _ I h => h pins s I⟩
theorem pss_tm : PSs X sts (tmSs X sts) := ⟨fun pins s _ _ _ I h => h pins s I⟩
theorem pg_tm : PG X e (tmG X e) := ⟨fun pins s _ _ _ u _ I r h => h pins s u I r⟩
theorem pgs_tm : PGs X es (tmGs X es) := ⟨fun pins s _ _ _ us _ I r h => h pins s us I r⟩
theorem po_tm {o : Option Expr} : PO X o (tmO X o) := ⟨fun pins s _ _ _ I h => h pins s I⟩
theorem tm_of {t : TE} {Q : VK} (h : PE X e t) (q : t σ H Q) : tm X e σ H Q := fun pins s I => h.run pins s σ H Q I q
theorem tmT_of {t : TT} {Q : Bool → Hp → Prop} (h : PT X e t) (q : t σ H Q) : tmT X e σ H Q := fun pins s I => h.run pins s σ H Q I q
theorem tmW_of {t : TT} {Q : Bool → Hp → Prop} (h : PW X e t) (q : t σ H Q) : tmW X e σ H Q := fun w pins s I => h.run w pins s σ H Q I q
theorem tmA_of {t : TA} {Q : List V → Hp → Prop} (h : PA X es t) (q : t σ H Q) : tmA X es σ H Q := fun pos pins s I => h.run pos pins s σ H Q I q
theorem tmS_of {t : TS} {E : Ends} (h : PS X st t) (q : t E σ H) : tmS X st E σ H := fun pins s I => h.run pins s σ H E I q
theorem tmSs_of {t : TS} {E : Ends} (h : PSs X sts t) (q : t E σ H) : tmSs X sts E σ H := fun pins s I => h.run pins s σ H E I q
theorem tmG_of {t : TG} {v : V} {Q : L2.St → Hp → Prop} (h : PG X e t) (q : t v σ H Q) : tmG X e v σ H Q := fun pins s u I r => h.run pins s σ H v u Q I r q
theorem tmGs_of {t : TGs} {v : List V} {Q : L2.St → Hp → Prop} (h : PGs X es t) (q : t v σ H Q) : tmGs X es v σ H Q := fun pins s u I r => h.run pins s σ H v u Q I r q
theorem tmO_of {o : Option Expr} {t : TO} {Q : Option Int → Hp → Prop} (h : PO X o t) (q : t σ H Q) : tmO X o σ H Q := fun pins s I => h.run pins s σ H Q I q
theorem tm_mono {Q Q' : VK} (h : tm X e σ H Q) (f : ∀ v H', Q v H' → Q' v H') : tm X e σ H Q' := fun pins s I =>
  thn (h pins s I) fun _ _ ⟨v, H', I', r, q⟩ => ⟨v, H', I', r, f _ _ q⟩
theorem tmT_mono {Q Q' : Bool → Hp → Prop} (h : tmT X e σ H Q) (f : ∀ v H', Q v H' → Q' v H') : tmT X e σ H Q' := fun pins s I =>
  thn (h pins s I) fun _ _ ⟨H', I', q⟩ => ⟨H', I', f _ _ q⟩
theorem tmW_mono {Q Q' : Bool → Hp → Prop} (h : tmW X e σ H Q) (f : ∀ v H', Q v H' → Q' v H') : tmW X e σ H Q' := fun w pins s I =>
  thn (h w pins s I) fun _ _ ⟨H', I', q⟩ => ⟨H', I', f _ _ q⟩
theorem tmA_mono {Q Q' : List V → Hp → Prop} (h : tmA X es σ H Q) (f : ∀ v H', Q v H' → Q' v H') : tmA X es σ H Q' := fun pos pins s I =>
  thn (h pos pins s I) fun _ _ ⟨v, H', I', r, q⟩ => ⟨v, H', I', r, f _ _ q⟩
theorem tmG_mono {v : V} {Q Q' : L2.St → Hp → Prop} (h : tmG X e v σ H Q) (f : ∀ v H', Q v H' → Q' v H') : tmG X e v σ H Q' := fun pins s u I r =>
  thn (h pins s u I r) fun _ _ ⟨v, H', I', q⟩ => ⟨v, H', I', f _ _ q⟩
theorem tmGs_mono {v : List V} {Q Q' : L2.St → Hp → Prop} (h : tmGs X es v σ H Q) (f : ∀ v H', Q v H' → Q' v H') : tmGs X es v σ H Q' := fun pins s u I r =>
  thn (h pins s u I r) fun _ _ ⟨v, H', I', q⟩ => ⟨v, H', I', f _ _ q⟩
theorem tmO_mono {o : Option Expr} {Q Q' : Option Int → Hp → Prop} (h : tmO X o σ H Q) (f : ∀ v H', Q v H' → Q' v H') : tmO X o σ H Q' := fun pins s I =>
  thn (h pins s I) fun _ _ ⟨v, H', I', r, q⟩ => ⟨v, H', I', r, f _ _ q⟩
theorem SP_mono {pins : List (Addr × Obj)} {E E' : Ends} {f : Flow} {s : Shared} (h : SP X pins E f s) (h1 : ∀ σ H, E.nx σ H → E'.nx σ H) (h2 : ∀ v H, E.rt v H → E'.rt v H) (h3 : ∀ σ H, E.bk σ H → E'.bk σ H) (h4 : ∀ σ H, E.ct σ H → E'.ct σ H) : SP X pins E' f s := by
  cases f with
  | next => obtain ⟨σ', H', I, q⟩ := h; exact ⟨σ', H', I, h1 _ _ q⟩
  | brk => obtain ⟨σ', H', I, q⟩ := h; exact ⟨σ', H', I, h3 _ _ q⟩
  | cont => obtain ⟨σ', H', I, q⟩ := h; exact ⟨σ', H', I, h4 _ _ q⟩
  | ret u => obtain ⟨v, σ', H', I, r, q⟩ := h; exact ⟨v, σ', H', I, r, h2 _ _ q⟩
theorem tmS_mono {E E' : Ends} (h : tmS X st E σ H) (h1 : ∀ σ H, E.nx σ H → E'.nx σ H) (h2 : ∀ v H, E.rt v H → E'.rt v H) (h3 : ∀ σ H, E.bk σ H → E'.bk σ H) (h4 : ∀ σ H, E.ct σ H → E'.ct σ H) : tmS X st E' σ H := fun pins s I =>
  thn (h pins s I) fun _ _ q => SP_mono q h1 h2 h3 h4
theorem tmSs_mono {E E' : Ends} (h : tmSs X sts E σ H) (h1 : ∀ σ H, E.nx σ H → E'.nx σ H) (h2 : ∀ v H, E.rt v H → E'.rt v H) (h3 : ∀ σ H, E.bk σ H → E'.bk σ H) (h4 : ∀ σ H, E.ct σ H → E'.ct σ H) : tmSs X sts E' σ H := fun pins s I =>
  thn (h pins s I) fun _ _ q => SP_mono q h1 h2 h3 h4
end

/-! ### the data-level judgements -/
variable [Tbs]
abbrev De := List (Option SV)
abbrev Mu := List MO
def Post (K : PySem.W.Frag) (C : DX) (F : Hp) (as : List Addr) (σ : L2.St) (δ : De) (Q : SV → Mu → Prop) : VK := fun v H' =>
  ∃ F' as' μ' sv, Same F F' ∧ as <+: as' ∧ Agree K C F' H' as' σ δ μ' ∧ VOk K F' as' v sv ∧ Q sv μ'
def PostB (K : PySem.W.Frag) (C : DX) (F : Hp) (as : List Addr) (σ : L2.St) (δ : De) (Q : Bool → Mu → Prop) : Bool → Hp → Prop := fun b H' =>
  ∃ F' as' μ', Same F F' ∧ as <+: as' ∧ Agree K C F' H' as' σ δ μ' ∧ Q b μ'
abbrev VOkA (K : PySem.W.Frag) (F : Hp) (as : List Addr) : List V → List SV → Prop := Paired (VOk K F as)
def PostA (K : PySem.W.Frag) (C : DX) (F : Hp) (as : List Addr) (σ : L2.St) (δ : De) (Q : List SV → Mu → Prop) : List V → Hp → Prop := fun vs H' =>
  ∃ F' as' μ' svs, Same F F' ∧ as <+: as' ∧ Agree K C F' H' as' σ δ μ' ∧ VOkA K F' as' vs svs ∧ Q svs μ'
structure DE where
  nx : De → Mu → Prop
  rt : SV → Mu → Prop
  bk : De → Mu → Prop := fun _ _ => False
  ct : De → Mu → Prop := fun _ _ => False
def cN (K : PySem.W.Frag) (C : DX) (q : De → Mu → Prop) : L2.St → Hp → Prop := fun σ H => ∃ F as δ μ, Agree K C F H as σ δ μ ∧ q δ μ
def cR (K : PySem.W.Frag) (C : DX) (q : SV → Mu → Prop) : VK := fun v H => ∃ F as σ δ μ sv, Agree K C F H as σ δ μ ∧ VOk K F as v sv ∧ q sv μ
def conc (K : PySem.W.Frag) (C : DX) (E : DE) : Ends := { nx := cN K C E.nx, rt := cR K C E.rt, bk := cN K C E.bk, ct := cN K C E.ct }
/-- e, from the names δ and the store μ, gives what Q says -/
def WE (C : DX) (X : Cx) (e : Expr) (δ : De) (μ : Mu) (Q : SV → Mu → Prop) : Prop := ∀ F0 F H as σ, Agree X.K (C.w F0) F H as σ δ μ → tm X e σ H (Post X.K (C.w F0) F as σ δ Q)
def WT (C : DX) (X : Cx) (e : Expr) (δ : De) (μ : Mu) (Q : Bool → Mu → Prop) : Prop := ∀ F0 F H as σ, Agree X.K (C.w F0) F H as σ δ μ → tmT X e σ H (PostB X.K (C.w F0) F as σ δ Q)
def WW (C : DX) (X : Cx) (e : Expr) (δ : De) (μ : Mu) (Q : Bool → Mu → Prop) : Prop := ∀ F0 F H as σ, Agree X.K (C.w F0) F H as σ δ μ → tmW X e σ H (PostB X.K (C.w F0) F as σ δ Q)
def WA (C : DX) (X : Cx) (es : List Expr) (δ : De) (μ : Mu) (Q : List SV → Mu → Prop) : Prop := ∀ F0 F H as σ, Agree X.K (C.w F0) F H as σ δ μ → tmA X es σ H (PostA X.K (C.w F0) F as σ δ Q)
def WS (C : DX) (X : Cx) (st : Stmt) (δ : De) (μ : Mu) (E : DE) : Prop := ∀ F0 F H as σ, Agree X.K (C.w F0) F H as σ δ μ → tmS X st (conc X.K (C.w F0) E) σ H
def WSs (C : DX) (X : Cx) (st : List Stmt) (δ : De) (μ : Mu) (E : DE) : Prop := ∀ F0 F H as σ, Agree X.K (C.w F0) F H as σ δ μ → tmSs X st (conc X.K (C.w F0) E) σ H
def WG (C : DX) (X : Cx) (tg : Expr) (sv : SV) (δ : De) (μ : Mu) (Q : De → Mu → Prop) : Prop := ∀ F0 F H as σ v, Agree X.K (C.w F0) F H as σ δ μ → VOk X.K F as v sv → tmG X tg v σ H (cN X.K (C.w F0) Q)

section
variable {K : PySem.W.Frag} {C : DX} {F F' H H' : Hp} {as as' : List Addr} {σ : L2.St} {δ : De} {μ μ' : Mu}
theorem Post.back {Q : SV → Mu → Prop} (e : Same F F') (p : as <+: as') {v : V} (h : Post K C F' as' σ δ Q v H) : Post K C F as σ δ Q v H := by
  obtain ⟨F2, as2, μ2, sv, e2, p2, A, r, q⟩ := h
  exact ⟨F2, as2, μ2, sv, e.trans e2, p.trans p2, A, r, q⟩
theorem PostB.back {Q : Bool → Mu → Prop} (e : Same F F') (p : as <+: as') {v : Bool} (h : PostB K C F' as' σ δ Q v H) : PostB K C F as σ δ Q v H := by
  obtain ⟨F2, as2, μ2, e2, p2, A, q⟩ := h
  exact ⟨F2, as2, μ2, e.trans e2, p.trans p2, A, q⟩
theorem PostA.back {Q : List SV → Mu → Prop} (e : Same F F') (p : as <+: as') {v : List V} (h : PostA K C F' as' σ δ Q v H) : PostA K C F as σ δ Q v H := by
  obtain ⟨F2, as2, μ2, sv, e2, p2, A, r, q⟩ := h
  exact ⟨F2, as2, μ2, sv, e.trans e2, p.trans p2, A, r, q⟩
/-- a new unchanging thing -/
theorem Agree.newF (A : Agree K C F H as σ δ μ) {p : Addr} (o : HO) (hp : H p = none) (ho : nt o := by intro q z; cases z) : Same F (upd F p o) ∧ Agree K C (upd F p o) (upd H p o) as σ δ μ := by
  have hF : F p = none := A.fH.free hp
  have hR : C.R p = none := A.rH.free hp
  have eF : Same F (upd F p o) := fun b u e => by rw [upd_ne (ne_of_none e hF)]; exact e
  refine ⟨eF, A.f0.trans eF, fun a u e => ?_, fun b u e => ?_, fun b u e => ?_, A.las, A.pre, A.nd, fun k m a h1 h2 h3 => ?_, fun k xs a h1 h2 => (A.frz k xs a h1 h2).mono eF, A.lσ, fun i sv h => ?_, ?_, A.rT, A.tb.ext fun b u e => by rw [upd_ne (ne_of_none e hp)]; exact e⟩
  · by_cases hb : a = p
    · subst hb; exact .inr hR
    · rw [upd_ne hb] at e; exact A.fr a u e
  · rw [upd_ne (ne_of_none (A.rH b u e) hp)]; exact A.rH b u e
  · by_cases hb : b = p
    · subst hb; rw [upd_same] at e ⊢; exact e
    · rw [upd_ne hb] at e ⊢; exact A.fH b u e
  · obtain ⟨q1, q2, u, q3, q4⟩ := A.own k m a h1 h2 h3
    have ne : a ≠ p := ne_of_none q3 hp
    exact ⟨by rw [upd_ne ne]; exact q1, q2, u, by rw [upd_ne ne]; exact q3, q4.mono eF⟩
  · obtain ⟨v, q1, q2⟩ := A.val i sv h
    exact ⟨v, q1, q2.mono eF (List.prefix_refl _)⟩
  · intro a u e
    by_cases hb : a = p
    · subst hb; rw [upd_same] at e; cases e; exact ho
    · rw [upd_ne hb] at e; exact A.fT a u e
/-- a new thing of the store -/
theorem Agree.newM (A : Agree K C F H as σ δ μ) {p : Addr} {o : HO} {m : MO} (hp : H p = none) (lm : live m = true) (hm : MC K F o m) : Agree K C F (upd H p o) (as ++ [p]) σ δ (μ ++ [m]) := by
  have hF : F p = none := A.fH.free hp
  have hR : C.R p = none := A.rH.free hp
  have pf : as <+: as ++ [p] := List.prefix_append _ _
  have cases : ∀ {α β : Type} (xs : List α) (ys : List β) (x : α) (y : β) (k : Nat) (u : α) (v : β), xs.length = ys.length → (xs ++ [x])[k]? = some u → (ys ++ [y])[k]? = some v → (xs[k]? = some u ∧ ys[k]? = some v) ∨ (k = xs.length ∧ u = x ∧ v = y) := by
    intro α β xs ys x y k u v hl h1 h2
    by_cases hk : k < xs.length
    · rw [List.getElem?_append_left hk] at h1
      rw [List.getElem?_append_left (by omega)] at h2
      exact .inl ⟨h1, h2⟩
    · have : k < (xs ++ [x]).length := (List.getElem?_eq_some_iff.mp h1).1
      rw [List.length_append, List.length_singleton] at this
      have e : k = xs.length := by omega
      subst e
      rw [List.getElem?_append_right (Nat.le_refl _), Nat.sub_self] at h1
      rw [List.getElem?_append_right (by omega)] at h2
      rw [hl, Nat.sub_self] at h2
      exact .inr ⟨rfl, (Option.some.inj h1).symm, (Option.some.inj h2).symm⟩
  refine ⟨A.f0, A.fr, fun b u e => ?_, fun b u e => ?_, ?_, A.pre.trans pf, ?_, ?_, ?_, A.lσ, fun i sv h => ?_, A.fT, A.rT, A.tb.ext fun b u e => by rw [upd_ne (ne_of_none e hp)]; exact e⟩
  · rw [upd_ne (ne_of_none (A.rH b u e) hp)]; exact A.rH b u e
  · rw [upd_ne (ne_of_none (A.fH b u e) hp)]; exact A.fH b u e
  · rw [List.length_append, List.length_append, A.las]; rfl
  · intro i j a m1 m2 a1 a2 b1 b2 l1 l2
    rcases cases as μ p m i a m1 A.las a1 b1 with ⟨x1, y1⟩ | ⟨e1, x1, y1⟩
    · rcases cases as μ p m j a m2 A.las a2 b2 with ⟨x2, y2⟩ | ⟨e2, x2, y2⟩
      · exact A.nd i j a m1 m2 x1 x2 y1 y2 l1 l2
      · obtain ⟨_, _, u, q, _⟩ := A.own i m1 a y1 x1 l1
        rw [x2, hp] at q; cases q
    · rcases cases as μ p m j a m2 A.las a2 b2 with ⟨x2, y2⟩ | ⟨e2, x2, y2⟩
      · obtain ⟨_, _, u, q, _⟩ := A.own j m2 a y2 x2 l2
        rw [x1, hp] at q; cases q
      · rw [e1, e2]
  · intro k m1 a b1 a1 l1
    rcases cases as μ p m k a m1 A.las a1 b1 with ⟨x1, y1⟩ | ⟨e1, x1, y1⟩
    · obtain ⟨q1, q2, u, q3, q4⟩ := A.own k m1 a y1 x1 l1
      have ne : a ≠ p := ne_of_none q3 hp
      exact ⟨q1, q2, u, by rw [upd_ne ne]; exact q3, q4⟩
    · subst x1 y1
      exact ⟨hF, hR, o, upd_same, hm⟩
  · intro k xs a b1 a1
    rcases cases as μ p m k a _ A.las a1 b1 with ⟨x1, y1⟩ | ⟨e1, x1, y1⟩
    · exact A.frz k xs a y1 x1
    · subst y1; cases lm
  · obtain ⟨v, q1, q2⟩ := A.val i sv h
    exact ⟨v, q1, q2.mono (Same.refl _) pf⟩
/-- a thing of the store changes -/
theorem Agree.write (A : Agree K C F H as σ δ μ) {k : Nat} {a : Addr} {m m' : MO} {o : HO} (hk : μ[k]? = some m) (ha : as[k]? = some a) (lm : live m = true) (lm' : live m' = true) (hm : MC K F o m') : Agree K C F (upd H a o) as σ δ (μ.set k m') := by
  obtain ⟨hF, hR, u0, hH, hM0⟩ := A.own k m a hk ha lm
  obtain ⟨nt0, nx0⟩ := mc_nt hM0 lm
  have hkl : k < μ.length := (List.getElem?_eq_some_iff.mp hk).1
  have get : ∀ j x, (μ.set k m')[j]? = some x → (j = k ∧ x = m') ∨ (j ≠ k ∧ μ[j]? = some x) := fun j x h => by
    by_cases e : j = k
    · subst e; rw [List.getElem?_set_self hkl] at h; exact .inl ⟨rfl, (Option.some.inj h).symm⟩
    · rw [List.getElem?_set_ne (Ne.symm e)] at h; exact .inr ⟨e, h⟩
  have lv : ∀ j x, (μ.set k m')[j]? = some x → live x = true → ∃ y, μ[j]? = some y ∧ live y = true := fun j x h l => by
    rcases get j x h with ⟨e, q⟩ | ⟨e, q⟩
    · subst e; exact ⟨m, hk, lm⟩
    · exact ⟨x, q, l⟩
  refine ⟨A.f0, A.fr, fun b u e => ?_, fun b u e => ?_, by rw [List.length_set]; exact A.las, A.pre, ?_, ?_, ?_, A.lσ, A.val, A.fT, A.rT, tabs_write A.tb hH nt0 nx0⟩
  · rw [upd_ne (ne_of_none e hR)]; exact A.rH b u e
  · rw [upd_ne (ne_of_none e hF)]; exact A.fH b u e
  · intro i j b m1 m2 a1 a2 b1 b2 l1 l2
    obtain ⟨y1, c1, d1⟩ := lv i m1 b1 l1
    obtain ⟨y2, c2, d2⟩ := lv j m2 b2 l2
    exact A.nd i j b y1 y2 a1 a2 c1 c2 d1 d2
  · intro j m1 b b1 a1 l1
    rcases get j m1 b1 with ⟨e, q⟩ | ⟨e, q⟩
    · subst e q
      rw [ha] at a1; cases a1
      exact ⟨hF, hR, o, upd_same, hm⟩
    · obtain ⟨q1, q2, u, q3, q4⟩ := A.own j m1 b q a1 l1
      have ne : b ≠ a := fun z => e (by subst z; exact A.nd j k b m1 m a1 ha q hk l1 lm)
      exact ⟨q1, q2, u, by rw [upd_ne ne]; exact q3, q4⟩
  · intro j xs b b1 a1
    rcases get j _ b1 with ⟨e, q⟩ | ⟨e, q⟩
    · subst q; cases lm'
    · exact A.frz j xs b q a1
/-- a list of the store is frozen: from now on data -/
theorem Agree.freeze (A : Agree K C F H as σ δ μ) {k : Nat} {a : Addr} {xs : List D} (hk : μ[k]? = some (.lst xs)) (ha : as[k]? = some a) :
    ∃ F', Same F F' ∧ Agree K C F' H as σ δ (μ.set k (.frz xs)) ∧ Rep K F' (.ref a) (.lst xs) := by
  obtain ⟨hF, hR, o, hH, vs, rfl, r⟩ := A.own k _ a hk ha rfl
  have hkl : k < μ.length := (List.getElem?_eq_some_iff.mp hk).1
  have eF : Same F (upd F a (.lst vs)) := fun b u e => by rw [upd_ne (ne_of_none e hF)]; exact e
  refine ⟨upd F a (.lst vs), eF, ⟨A.f0.trans eF, fun b u e => ?_, A.rH, fun b u e => ?_, by rw [List.length_set]; exact A.las, A.pre, ?_, ?_, ?_, A.lσ, fun i sv h => ?_, ?_, A.rT, A.tb⟩, .lst (SqL.of upd_same) (r.mono eF)⟩
  · by_cases hb : b = a
    · subst hb; exact .inr hR
    · rw [upd_ne hb] at e; exact A.fr b u e
  · by_cases hb : b = a
    · subst hb; rw [upd_same] at e; cases e; exact hH
    · rw [upd_ne hb] at e; exact A.fH b u e
  all_goals
    have get : ∀ j x, (μ.set k (.frz xs))[j]? = some x → live x = true → j ≠ k ∧ μ[j]? = some x := fun j x h l => by
      by_cases e : j = k
      · subst e; rw [List.getElem?_set_self hkl] at h; cases h; cases l
      · rw [List.getElem?_set_ne (Ne.symm e)] at h; exact ⟨e, h⟩
  · intro i j b m1 m2 a1 a2 b1 b2 l1 l2
    exact A.nd i j b m1 m2 a1 a2 (get i m1 b1 l1).2 (get j m2 b2 l2).2 l1 l2
  · intro j m1 b b1 a1 l1
    obtain ⟨e, q⟩ := get j m1 b1 l1
    obtain ⟨q1, q2, u, q3, q4⟩ := A.own j m1 b q a1 l1
    have ne : b ≠ a := fun z => e (by subst z; exact A.nd j k b m1 _ a1 ha q hk l1 rfl)
    exact ⟨by rw [upd_ne ne]; exact q1, q2, u, q3, q4.mono eF⟩
  · intro j ys b b1 a1
    by_cases e : j = k
    · subst e
      rw [List.getElem?_set_self hkl] at b1
      cases b1
      rw [ha] at a1; cases a1
      exact .lst (SqL.of upd_same) (r.mono eF)
    · rw [List.getElem?_set_ne (Ne.symm e)] at b1
      exact (A.frz j ys b b1 a1).mono eF
  · obtain ⟨v, q1, q2⟩ := A.val i sv h
    exact ⟨v, q1, q2.mono eF (List.prefix_refl _)⟩
  · intro b u e
    by_cases hb : b = a
    · subst hb; rw [upd_same] at e; cases e; intro q z; cases z
    · rw [upd_ne hb] at e; exact A.fT b u e
end
end DS

/-! DSem1: the rules of expressions over DSem0. -/
namespace DS
open PySem PySem.Spec PyProof.Rows L2
variable [Tbs]

/-! ### what a value holds, read through the store -/
def cnt (μ : Mu) : SV → Option D
  | .d x => some x
  | .loc k => match μ[k]? with
    | some (.lst xs) => some (.lst xs)
    | some (.frz xs) => some (.lst xs)
    | _ => none
def cnts (μ : Mu) : List SV → Option (List D)
  | [] => some []
  | s :: ss => match cnt μ s, cnts μ ss with
    | some d, some ds => some (d :: ds)
    | _, _ => none
/-- v is d in H, its items in F -/
def RepX (K : PySem.W.Frag) (F H : Hp) (v : V) : D → Prop
  | .lst xs => ∃ a vs, v = .ref a ∧ SqL K H a vs ∧ RepA K F vs xs
  | d => Rep K F v d
theorem RepX.of {K : PySem.W.Frag} {F H : Hp} {v : V} {d : D} (e : Same F H) (r : Rep K F v d) : RepX K F H v d := by
  cases d with
  | lst xs => cases r with | lst s q => exact ⟨_, _, rfl, e.seq s, q⟩
  | non => exact r
  | bl b => exact r
  | int i => exact r
  | str x => exact r
  | tup xs => exact r
  | raw v => exact r
theorem RepX.rep {K : PySem.W.Frag} {F H : Hp} {v : V} {d : D} (e : Same F H) (r : RepX K F H v d) : Rep K H v d := by
  cases d with
  | lst xs => obtain ⟨a, vs, rfl, s, q⟩ := r; exact .lst s (q.mono e)
  | non => exact Rep.mono e r
  | bl b => exact Rep.mono e r
  | int i => exact Rep.mono e r
  | str x => exact Rep.mono e r
  | tup xs => exact Rep.mono e r
  | raw v => exact Rep.mono e r
theorem RepX.tup {K : PySem.W.Frag} {F H : Hp} {v : V} {xs : List D} (e : Same F H) (r : RepX K F H v (.tup xs)) : ∃ a vs, v = .ref a ∧ SqT K F a vs ∧ SqT K H a vs ∧ RepA K F vs xs := by
  have r' : Rep K F v (.tup xs) := r
  cases r' with | tup s q => exact ⟨_, _, rfl, s, SameT e s, q⟩

/-- a result: data, or a new thing -/
inductive Res where
  | dat (d : D)
  | new (m : MO)
def putR (r : Res) (μ : Mu) (Q : SV → Mu → Prop) : Prop := match r with
  | .dat d => Q (.d d) μ
  | .new m => Q (.loc μ.length) (μ ++ [m])
/-- frozen where it is a list of the store -/
def fz (μ : Mu) : SV → Option (D × Mu)
  | .d x => some (x, μ)
  | .loc k => match μ[k]? with
    | some (.lst xs) => some (.lst xs, μ.set k (.frz xs))
    | some (.frz xs) => some (.lst xs, μ)
    | _ => none
def fzs (μ : Mu) : List SV → Option (List D × Mu)
  | [] => some ([], μ)
  | s :: ss => match fz μ s with
    | some (d, μ1) => match fzs μ1 ss with
      | some (ds, μ2) => some (d :: ds, μ2)
      | none => none
    | none => none

section
variable {K : PySem.W.Frag} {C : DX} {F F' H H' : Hp} {as as' : List Addr} {σ : L2.St} {δ : De} {μ μ' : Mu} {v : V} {sv : SV}
theorem Agree.get (A : Agree K C F H as σ δ μ) {k : Nat} {m : MO} (h : μ[k]? = some m) : ∃ a, as[k]? = some a := by
  have hk := (List.getElem?_eq_some_iff.mp h).1
  rw [← A.las] at hk
  exact ⟨as[k], List.getElem?_eq_getElem hk⟩
theorem Agree.rd (A : Agree K C F H as σ δ μ) (r : VOk K F as v sv) {d : D} (h : cnt μ sv = some d) : RepX K F H v d := by
  cases sv with
  | d x => cases h; exact .of A.fH r
  | loc k =>
    obtain ⟨a, ha, rfl⟩ := r
    dsimp only [cnt] at h
    split at h
    · rename_i xs hk
      cases h
      obtain ⟨_, _, o, hH, vs, rfl, q⟩ := A.own k _ a hk ha rfl
      exact ⟨a, vs, rfl, SqL.of hH, q⟩
    · rename_i xs hk
      cases h
      exact .of A.fH (A.frz k xs a hk ha)
    · cases h
theorem Agree.rds (A : Agree K C F H as σ δ μ) : ∀ {vs : List V} {svs : List SV} {ds : List D}, VOkA K F as vs svs → cnts μ svs = some ds → RepA K H vs ds
  | [], _, ds, .nil, h => by cases h; exact .nil
  | v :: vs, s :: ss, ds, .cons r t, h => by
    unfold cnts at h
    split at h
    · rename_i d ds' h1 h2
      cases h
      exact .cons ((A.rd r h1).rep A.fH) (A.rds t h2)
    · cases h
theorem Agree.fz (A : Agree K C F H as σ δ μ) (r : VOk K F as v sv) {d : D} (h : fz μ sv = some (d, μ')) : ∃ F', Same F F' ∧ Agree K C F' H as σ δ μ' ∧ Rep K F' v d := by
  cases sv with
  | d x => cases h; exact ⟨F, Same.refl _, A, r⟩
  | loc k =>
    obtain ⟨a, ha, rfl⟩ := r
    dsimp only [DS.fz] at h
    split at h
    · rename_i xs hk
      cases h
      exact A.freeze hk ha
    · rename_i xs hk
      cases h
      exact ⟨F, Same.refl _, A, A.frz k xs a hk ha⟩
    · cases h
theorem VOkA.mono (e : Same F F') (p : as <+: as') : ∀ {vs : List V} {svs : List SV}, VOkA K F as vs svs → VOkA K F' as' vs svs
  | _, _, .nil => .nil
  | _, _, .cons r t => .cons (r.mono e p) (VOkA.mono e p t)
theorem Agree.fzs : ∀ {vs : List V} {svs : List SV} {ds : List D} {F : Hp} {μ : Mu}, Agree K C F H as σ δ μ → VOkA K F as vs svs → fzs μ svs = some (ds, μ') → ∃ F', Same F F' ∧ Agree K C F' H as σ δ μ' ∧ RepA K F' vs ds
  | [], _, ds, F, μ, A, .nil, h => by cases h; exact ⟨F, Same.refl _, A, .nil⟩
  | v :: vs, s :: ss, ds, F, μ, A, .cons r t, h => by
    unfold DS.fzs at h
    split at h
    · rename_i d μ1 h1
      obtain ⟨F1, e1, A1, r1⟩ := A.fz r h1
      split at h
      · rename_i ds' μ2 h2
        cases h
        obtain ⟨F2, e2, A2, r2⟩ := Agree.fzs A1 (VOkA.mono e1 (List.prefix_refl _) t) h2
        exact ⟨F2, e1.trans e2, A2, .cons (r1.mono e2) r2⟩
      · cases h
    · cases h
/-- nothing changed -/
theorem Agree.post {Q : SV → Mu → Prop} (A : Agree K C F H as σ δ μ) (r : VOk K F as v sv) (q : Q sv μ) : Post K C F as σ δ Q v H := ⟨F, as, μ, sv, Same.refl _, List.prefix_refl _, A, r, q⟩
theorem Agree.dat {Q : SV → Mu → Prop} {d : D} (A : Agree K C F H as σ δ μ) (r : Rep K F v d) (q : Q (.d d) μ) : Post K C F as σ δ Q v H := A.post (sv := .d d) r q
/-- a new tuple -/
theorem Agree.tupP {Q : SV → Mu → Prop} {p : Addr} {vs : List V} {ds : List D} (A : Agree K C F H as σ δ μ) (hp : H p = none) (r : RepA K F vs ds) (q : Q (.d (.tup ds)) μ) : Post K C F as σ δ Q (.ref p) (upd H p (.tup vs)) := by
  obtain ⟨e, A'⟩ := A.newF (.tup vs) hp
  exact ⟨_, as, μ, .d (.tup ds), e, List.prefix_refl _, A', .tup (SqT.of upd_same) (r.mono e), q⟩
/-- a new list -/
theorem Agree.lstP {Q : SV → Mu → Prop} {p : Addr} {vs : List V} {ds : List D} (A : Agree K C F H as σ δ μ) (hp : H p = none) (r : RepA K F vs ds) (q : Q (.loc μ.length) (μ ++ [.lst ds])) : Post K C F as σ δ Q (.ref p) (upd H p (.lst vs)) := by
  refine ⟨F, as ++ [p], _, .loc μ.length, Same.refl _, List.prefix_append _ _, A.newM (m := .lst ds) hp rfl ⟨vs, rfl, r⟩, ⟨p, ?_, rfl⟩, q⟩
  rw [← A.las, List.getElem?_append_right (Nat.le_refl _), Nat.sub_self]
  rfl
end

/-! ### expressions: names, constants -/
section
variable {C : DX} {X : Cx} {δ : De} {μ : Mu} {Q : SV → Mu → Prop} {pos : Pos}
theorem we_mono {e : Expr} {Q' : SV → Mu → Prop} (h : WE C X e δ μ Q) (f : ∀ s μ', Q s μ' → Q' s μ') : WE C X e δ μ Q' := fun F0 F H as σ A =>
  tm_mono (h F0 F H as σ A) fun _ _ ⟨F', as', μ', sv, e, p, A', r, q⟩ => ⟨F', as', μ', sv, e, p, A', r, f _ _ q⟩
theorem wt_mono {e : Expr} {Q Q' : Bool → Mu → Prop} (h : WT C X e δ μ Q) (f : ∀ s μ', Q s μ' → Q' s μ') : WT C X e δ μ Q' := fun F0 F H as σ A =>
  tmT_mono (h F0 F H as σ A) fun _ _ ⟨F', as', μ', e, p, A', q⟩ => ⟨F', as', μ', e, p, A', f _ _ q⟩
theorem we_name {x : Str} {sv : SV} (i : Nat) (hN : X.N[i]? = some x := by rfl) (hv : Vis X.env.scope x := by first | exact Or.inl rfl | exact Or.inr (Or.inl rfl) | exact Or.inr (Or.inr rfl)) (hs : δ[i]? = some (some sv) := by rfl) (q : Q sv μ)
    (hd : (x == ("__debug__" : Str)) = false := by decide) (hcd : (x == ("__classdict__" : Str)) = false := by decide) : WE C X (.Name x pos) δ μ Q := fun F0 F H as σ A => by
  obtain ⟨v, h1, h2⟩ := A.val i sv hs
  exact tm_of (pe_var hN hv hd hcd) ⟨v, h1, A.post h2 q⟩
theorem we_int {i : Int} {j : Nat} (q : Q (.d (.int i)) μ) : WE C X (.Constant (.int i) j pos) δ μ Q := fun F0 F H as σ A => tm_of pe_int (A.dat (.int i) q)
theorem we_bl {i : Bool} {j : Nat} (q : Q (.d (.bl i)) μ) : WE C X (.Constant (.bool i) j pos) δ μ Q := fun F0 F H as σ A => tm_of pe_bl (A.dat (.bl i) q)
theorem we_non {j : Nat} (q : Q (.d .non) μ) : WE C X (.Constant .none j pos) δ μ Q := fun F0 F H as σ A => tm_of pe_non (A.dat .non q)
theorem we_str {x : Str} {j : Nat} (q : Q (.d (.str x)) μ) : WE C X (.Constant (.str x) j pos) δ μ Q := fun F0 F H as σ A => tm_of pe_str (A.dat (.str x) q)
/-- a constant int of the module -/
theorem we_gint {x : Str} {i : Int} {t : Tok} (hm : X.mg x = some (.int i t)) (q : Q (.d (.int i)) μ) (hg : Gl X x := by rfl) (hd : (x == ("__debug__" : Str)) = false := by decide) : WE C X (.Name x pos) δ μ Q := fun F0 F H as σ A =>
  tm_of (pe_glob (v := .int i) hg hm ⟨_, rfl⟩ hd) (A.dat (.int i) q)
/-- a def or class of the module as a value -/
theorem we_gref {x : Str} {a : Addr} (hm : X.mg x = some (.ref a)) (q : Q (.d (.raw (.ref a))) μ) (hg : Gl X x := by rfl) (hd : (x == ("__debug__" : Str)) = false := by decide) : WE C X (.Name x pos) δ μ Q := fun F0 F H as σ A =>
  tm_of (pe_glob (v := .ref a) hg hm rfl hd) (A.dat (.raw _) q)
/-- a built-in class as a value -/
theorem we_bty {x : Str} {T : String} (hm : X.mg x = none) (hv : bootBuiltins x = some (.type T)) (q : Q (.d (.raw (.ty T))) μ) (hg : Gl X x := by rfl) (hn : x ≠ "__name__" := by decide) (hd : (x == ("__debug__" : Str)) = false := by decide) : WE C X (.Name x pos) δ μ Q := fun F0 F H as σ A =>
  tm_of (pe_bltn (v := .ty T) hg hm hv rfl hn hd) (A.dat (.raw _) q)

/-! ### two in a row -/
theorem two {e1 e2 : Expr} {k : SV → SV → Mu → Prop} (h : WE C X e1 δ μ fun x μ1 => WE C X e2 δ μ1 fun y μ2 => k x y μ2) {F0 F H : Hp} {as : List Addr} {σ : L2.St} (A : Agree X.K (C.w F0) F H as σ δ μ) {R : V → V → Hp → Prop}
    (f : ∀ F' H' as' μ' v w x y, Same F F' → as <+: as' → Agree X.K (C.w F0) F' H' as' σ δ μ' → VOk X.K F' as' v x → VOk X.K F' as' w y → k x y μ' → R v w H') : tm X e1 σ H fun v H1 => tm X e2 σ H1 fun w H2 => R v w H2 :=
  tm_mono (h F0 F H as σ A) fun v H1 ⟨F1, as1, μ1, x, e1, p1, A1, r1, q1⟩ => tm_mono (q1 F0 F1 H1 as1 σ A1) fun w H2 ⟨F2, as2, μ2, y, e2, p2, A2, r2, q2⟩ =>
    f F2 H2 as2 μ2 v w x y (e1.trans e2) (p1.trans p2) A2 (r1.mono e2 p2) r2 q2

/-- an operation of two values, as the library has it (r) and over data (k) -/
def OpD (K : PySem.W.Frag) (C : DX) (r : R2) (k : SV → SV → Mu → (SV → Mu → Prop) → Prop) : Prop :=
  ∀ F H as σ δ μ v w x y Q Q', Agree K C F H as σ δ μ → VOk K F as v x → VOk K F as w y → k x y μ Q → (∀ z H', Post K C F as σ δ Q z H' → Q' z H') → r v w H Q'
theorem we_bin {op : Operator} {a b : Expr} {r : R2} {k : SV → SV → Mu → (SV → Mu → Prop) → Prop} (ho : OpR X (binaryOp op) r) (hd : ∀ C, OpD X.K C r k) (h : WE C X a δ μ fun x μ1 => WE C X b δ μ1 fun y μ2 => k x y μ2 Q) : WE C X (.BinOp a op b pos) δ μ Q :=
  fun F0 F H as σ A => tm_of (pe_op ho pe_tm pe_tm) (two h A fun F' H' as' μ' v w x y e p A' r1 r2 q => hd _ F' H' as' σ δ μ' v w x y Q _ A' r1 r2 q fun _ _ z => z.back e p)
theorem we_cmp {op : CmpOp} {a b : Expr} {r : R2} {k : SV → SV → Mu → (SV → Mu → Prop) → Prop} (ho : OpR X (compareOp op) r) (hd : ∀ C, OpD X.K C r k) (hm : behindInMarks op b = false) (h : WE C X a δ μ fun x μ1 => WE C X b δ μ1 fun y μ2 => k x y μ2 Q) : WE C X (.Compare a [op] [b] pos) δ μ Q :=
  fun F0 F H as σ A => tm_of (pe_cmpR ho pe_tm pe_tm hm) (two h A fun F' H' as' μ' v w x y e p A' r1 r2 q => hd _ F' H' as' σ δ μ' v w x y Q _ A' r1 r2 q fun _ _ z => z.back e p)
end
end DS

/-! DSem2: operators over data. -/
namespace DS
open PySem PySem.Spec PyProof.Rows L2
variable [Tbs]

abbrev KK2 := SV → SV → Mu → (SV → Mu → Prop) → Prop
section
variable {K : PySem.W.Frag} {C : DX}
theorem OpD.or {r r' : R2} {k k' : KK2} (h : OpD K C r k) (h' : OpD K C r' k') : OpD K C (fun x y H Q => r x y H Q ∨ r' x y H Q) (fun x y μ Q => k x y μ Q ∨ k' x y μ Q) :=
  fun F H as σ δ μ v w x y Q Q' A r1 r2 q f => q.elim (fun z => .inl (h F H as σ δ μ v w x y Q Q' A r1 r2 z f)) (fun z => .inr (h' F H as σ δ μ v w x y Q Q' A r1 r2 z f))
/-- ints -/
def kI (P : Int → Int → Prop) (g : Int → Int → Int) : KK2 := fun x y μ Q => ∃ i j, cnt μ x = some (.int i) ∧ cnt μ y = some (.int j) ∧ P i j ∧ Q (.d (.int (g i j))) μ
def kI0 (g : Int → Int → Int) : KK2 := fun x y μ Q => ∃ i j, cnt μ x = some (.int i) ∧ cnt μ y = some (.int j) ∧ Q (.d (.int (g i j))) μ
def kB (g : Int → Int → Bool) : KK2 := fun x y μ Q => ∃ i j, cnt μ x = some (.int i) ∧ cnt μ y = some (.int j) ∧ Q (.d (.bl (g i j))) μ
section
variable {F H : Hp} {as : List Addr} {σ : L2.St} {δ : De} {μ : Mu} {v : V} {sv : SV}
theorem Agree.rdI (A : Agree K C F H as σ δ μ) (r : VOk K F as v sv) {i : Int} (h : cnt μ sv = some (.int i)) : v = .int i := Rep.inv_int (K := K) (F := F) (A.rd r h)
theorem Agree.rdB (A : Agree K C F H as σ δ μ) (r : VOk K F as v sv) {i : Bool} (h : cnt μ sv = some (.bl i)) : v = .bl i := Rep.inv_bl (K := K) (F := F) (A.rd r h)
theorem Agree.rdS (A : Agree K C F H as σ δ μ) (r : VOk K F as v sv) {i : Str} (h : cnt μ sv = some (.str i)) : v = .str i := Rep.inv_str (K := K) (F := F) (A.rd r h)
end
theorem opD_I {P : Int → Int → Prop} {g : Int → Int → Int} : OpD K C (rI P fun i j => .int (g i j)) (kI P g) := fun F H as σ δ μ v w x y Q Q' A r1 r2 ⟨i, j, h1, h2, p, q⟩ f =>
  ⟨i, j, A.rdI r1 h1, A.rdI r2 h2, p, f _ _ (A.dat (.int _) q)⟩
theorem opD_I0 {g : Int → Int → Int} : OpD K C (rI0 fun i j => .int (g i j)) (kI0 g) := fun F H as σ δ μ v w x y Q Q' A r1 r2 ⟨i, j, h1, h2, q⟩ f =>
  ⟨i, j, A.rdI r1 h1, A.rdI r2 h2, f _ _ (A.dat (.int _) q)⟩
theorem opD_B {g : Int → Int → Bool} : OpD K C (rI0 fun i j => .bl (g i j)) (kB g) := fun F H as σ δ μ v w x y Q Q' A r1 r2 ⟨i, j, h1, h2, q⟩ f =>
  ⟨i, j, A.rdI r1 h1, A.rdI r2 h2, f _ _ (A.dat (.bl _) q)⟩

/-! ### + -/
def kCatS : KK2 := fun x y μ Q => ∃ i j, cnt μ x = some (.str i) ∧ cnt μ y = some (.str j) ∧ i.length + j.length ≤ sizeLine ∧ Q (.d (.str (i ++ j))) μ
def kCatT : KK2 := fun x y μ Q => ∃ a b, cnt μ x = some (.tup a) ∧ cnt μ y = some (.tup b) ∧ a.length + b.length ≤ sizeLine ∧ Q (.d (.tup (a ++ b))) μ
def kCatL : KK2 := fun x y μ Q => ∃ a b, cnt μ x = some (.lst a) ∧ cnt μ y = some (.lst b) ∧ a.length + b.length ≤ sizeLine ∧ Q (.loc μ.length) (μ ++ [.lst (a ++ b)])
def kAdd : KK2 := fun x y μ Q => kI0 (fun i j => i + j) x y μ Q ∨ kCatS x y μ Q ∨ kCatT x y μ Q ∨ kCatL x y μ Q
theorem opD_catS : OpD K C (fun x y H Q => ∃ i j, x = .str i ∧ y = .str j ∧ i.length + j.length ≤ sizeLine ∧ Q (.str (i ++ j)) H) kCatS := fun F H as σ δ μ v w x y Q Q' A r1 r2 ⟨i, j, h1, h2, z, q⟩ f =>
  ⟨i, j, A.rdS r1 h1, A.rdS r2 h2, z, f _ _ (A.dat (.str _) q)⟩
theorem opD_catT : OpD K C (rCatA K) kCatT := fun F H as σ δ μ v w x y Q Q' A r1 r2 ⟨a, b, h1, h2, z, q⟩ f => by
  obtain ⟨p, vs, rfl, s1, t1, u1⟩ := RepX.tup A.fH (A.rd r1 h1)
  obtain ⟨p', vs', rfl, s2, t2, u2⟩ := RepX.tup A.fH (A.rd r2 h2)
  refine ⟨p, p', vs, vs', rfl, rfl, t1, t2, by rw [u1.length, u2.length]; exact z, fun e => ?_, fun e e2 => ?_, fun e e2 l hl => ?_⟩
  · subst e
    cases u1
    exact f _ _ (A.dat (.tup s2 u2) q)
  · subst e2
    cases u2
    rw [List.append_nil] at q
    exact f _ _ (A.dat (.tup s1 u1) q)
  · exact f _ _ (A.tupP hl (u1.append u2) q)
/-- list + list, whatever lists they are -/
def rCatL (K : PySem.W.Frag) : R2 := fun x y H Q => ∃ l b xs zs, x = .ref l ∧ y = .ref b ∧ SqL K H l xs ∧ SqL K H b zs ∧ xs.length + zs.length ≤ sizeLine ∧ ∀ p, H p = none → Q (.ref p) (upd H p (.lst (xs ++ zs)))
theorem op_catL {X : Cx} : OpR X (binaryOp .Add) (rCatL X.K) := by
  intro pins s σ H x y v u Q I rx ry h
  obtain ⟨l, b, xs, zs, rfl, rfl, hH, hB, hz, q⟩ := h
  cases rx
  cases ry
  obtain ⟨its, r, ⟨⟨cls, dd, data, sl⟩, ho, hc, hdd, n, hd⟩, z⟩ := (show ∃ its : List Value, Vals xs its ∧ (∃ o, s.heap.get? l = some o ∧ o.cls = .type "list" ∧ o.dict = none ∧ ∃ n, o.data = .seq its.toArray n) ∧ xs.length ≤ sizeLine from by
    obtain ⟨its, r, ⟨o, n, ho, hc, hdd, hd⟩, z⟩ := I.list hH
    exact ⟨its, r, ⟨o, ho, hc, hdd, n, hd⟩, z⟩)
  obtain ⟨its2, r2, ⟨⟨cls2, dd2, data2, sl2⟩, ho2, hc2, hdd2, n2, hd2⟩, z2⟩ := (show ∃ its : List Value, Vals zs its ∧ (∃ o, s.heap.get? b = some o ∧ o.cls = .type "list" ∧ o.dict = none ∧ ∃ n, o.data = .seq its.toArray n) ∧ zs.length ≤ sizeLine from by
    obtain ⟨its, r, ⟨o, n, ho, hc, hdd, hd⟩, z⟩ := I.list hB
    exact ⟨its, r, ⟨o, ho, hc, hdd, n, hd⟩, z⟩)
  simp only at hc hd hdd hc2 hd2 hdd2
  subst hc hd hdd hc2 hd2 hdd2
  have e : its.toArray ++ its2.toArray = (its ++ its2).toArray := by simp
  have hl := r.length
  have hl2 := r2.length
  refine concat_meets ⟨_, ho, rfl⟩ ⟨_, ho2, rfl⟩ noFill_list_add seq_list_add PySem.F.slot_list_add PySem.F.entry_list_add (PySem.F.args_list_add_2 _ _) (list_addW l b its.toArray its2.toArray n n2 none none sl sl2 (by rw [List.size_toArray, List.size_toArray, ← hl, ← hl2]; exact hz)) ⟨ho, ho2, ?_⟩
  rw [e]
  exact ⟨.ref _, _, I.lnew (t' := s.toks) (r.append r2) (by rw [List.length_append]; exact hz), rfl, q _ I.fresh⟩
theorem RepX.lst {F H : Hp} {v : V} {xs : List D} (r : RepX K F H v (.lst xs)) : ∃ a vs, v = .ref a ∧ SqL K H a vs ∧ RepA K F vs xs := r
theorem opD_catL : OpD K C (rCatL K) kCatL := fun F H as σ δ μ v w x y Q Q' A r1 r2 ⟨a, b, h1, h2, z, q⟩ f => by
  obtain ⟨p, vs, rfl, s1, u1⟩ := (A.rd r1 h1).lst
  obtain ⟨p', vs', rfl, s2, u2⟩ := (A.rd r2 h2).lst
  exact ⟨p, p', vs, vs', rfl, rfl, s1, s2, by rw [u1.length, u2.length]; exact z, fun l hl => f _ _ (A.lstP hl (u1.append u2) q)⟩

/-! ### * -/
def kRepL : KK2 := fun x y μ Q => ∃ k xs n, x = .loc k ∧ μ[k]? = some (.lst xs) ∧ cnt μ y = some (.int n) ∧ -1000000 ≤ n ∧ n ≤ 1000000 ∧ xs.length * n.toNat ≤ sizeLine ∧ Q (.loc μ.length) (μ ++ [.lst (List.replicate n.toNat xs).flatten])
def kRepT : KK2 := fun x y μ Q => ∃ xs n, cnt μ x = some (.tup xs) ∧ cnt μ y = some (.int n) ∧ -1000 ≤ n ∧ n ≤ 1000 ∧ xs.length ≤ 1000 ∧ Q (.d (.tup (List.replicate n.toNat xs).flatten)) μ
def kMul : KK2 := fun x y μ Q => kI CMul (fun i j => i * j) x y μ Q ∨ kRepL x y μ Q ∨ kRepT x y μ Q
theorem opD_repL : OpD K C rRep kRepL := fun F H as σ δ μ v w x y Q Q' A r1 r2 ⟨k, xs, n, h0, h1, h2, h3, h4, z, q⟩ f => by
  subst h0
  obtain ⟨a, ha, rfl⟩ := r1
  obtain ⟨_, _, o, hH, vs, rfl, u1⟩ := A.own k _ a h1 ha rfl
  exact ⟨a, n, vs, rfl, A.rdI r2 h2, hH, by omega, by omega, by rw [u1.length]; exact z, fun l hl => f _ _ (A.lstP hl (u1.rep _) q)⟩
theorem tuple_mulW1 (l : Addr) (items : Array Value) (n : Nat) (dd : Option Addr) (sl : Array (Option Value)) (x : Int) (u : Tok) (c0 : (decide (x < -(2 ^ 63)) || decide (x ≥ 2 ^ 63)) = false) (c1 : (items.isEmpty || x == 1) = true) :
    Meets (Builtin.«tuple.__mul__» ⟨[.ref l, .int x u], []⟩) (fun _ R s => s.heap.get? l = some { cls := .type "tuple", dict := dd, data := .seq items n, slots := sl } ∧
      R (.ok (.ret (Value.ref l))) { s with heap := s.heap, toks := s.toks }) :=
  .of_wp fun prog w A R s h => by
    obtain ⟨hp, g, d, tk, os⟩ := s
    obtain ⟨hl, h⟩ := h
    have f1 := AutoSeq1.idx_int
    wp_walk using wpAny_loadPart' hl
    repeat (first
      | (refine wpAny_ite_false (decide_eq_false (by rw [c0]; exact Bool.false_ne_true)) ?_; wp_walk using wpAny_loadPart' hl)
      | (refine wpAny_ite_true (decide_eq_true c1) ?_; wp_walk using wpAny_loadPart' hl))
    exact ⟨_, rfl, h⟩
theorem tuple_mulW0 (l : Addr) (items : Array Value) (n : Nat) (dd : Option Addr) (sl : Array (Option Value)) (x : Int) (u : Tok) (c0 : (decide (x < -(2 ^ 63)) || decide (x ≥ 2 ^ 63)) = false) (c1 : (items.isEmpty || x == 1) = false) (c2 : (decide (x ≤ 0) || items.isEmpty) = true) :
    Meets (Builtin.«tuple.__mul__» ⟨[.ref l, .int x u], []⟩) (fun _ R s => s.heap.get? l = some { cls := .type "tuple", dict := dd, data := .seq items n, slots := sl } ∧
      R (.ok (.ret (Value.ref s.heap.objs.size))) { s with heap := s.heap.push { cls := Value.type "tuple", data := Data.seq #[] }, toks := s.toks }) :=
  .of_wp fun prog w A R s h => by
    obtain ⟨hp, g, d, tk, os⟩ := s
    obtain ⟨hl, h⟩ := h
    have f1 := AutoSeq1.idx_int
    wp_walk using wpAny_loadPart' hl
    repeat (first
      | (refine wpAny_ite_false (decide_eq_false (by rw [c0]; exact Bool.false_ne_true)) ?_; wp_walk using wpAny_loadPart' hl)
      | (refine wpAny_ite_false (decide_eq_false (by rw [c1]; exact Bool.false_ne_true)) ?_; wp_walk using wpAny_loadPart' hl)
      | (refine wpAny_ite_true (decide_eq_true c2) ?_; wp_walk using wpAny_loadPart' hl))
    exact ⟨_, rfl, h⟩
end
end DS

/-! DSem3: more operators, comparisons. -/
namespace DS
open PySem PySem.Spec PyProof.Rows L2
variable [Tbs]
section
variable {K : PySem.W.Frag} {C : DX}
/-- tuple * int -/
def rRepTA (K : PySem.W.Frag) : R2 := fun x y H Q => ∃ l k xs, x = .ref l ∧ y = .int k ∧ SqT K H l xs ∧ -1000 ≤ k ∧ k ≤ 1000 ∧ xs.length ≤ 1000 ∧
  ((xs = [] ∨ k = 1) → Q (.ref l) H) ∧ (¬ (xs = [] ∨ k = 1) → ∀ p, H p = none → Q (.ref p) (upd H p (.tup (List.replicate k.toNat xs).flatten)))
theorem op_repTA {X : Cx} : OpR X (binaryOp .Mult) (rRepTA X.K) := by
  intro pins s σ H x y v u Q I rx ry h
  obtain ⟨l, k, xs, rfl, rfl, hT, h1, h2, hz, q1, q2⟩ := h
  cases rx
  obtain ⟨t, rfl⟩ := ry
  obtain ⟨its, r, ⟨⟨cls, dd, data, sl⟩, ho, hc, n, hd⟩, hs⟩ := I.tuple hT
  simp only at hc hd
  subst hc hd
  have hle : its.length = xs.length := r.length.symm
  have c0 : (decide (k < -(2 ^ 63)) || decide (k ≥ 2 ^ 63)) = false := by
    rw [decide_eq_false (by omega), decide_eq_false (by omega)] <;> rfl
  by_cases hw : xs = [] ∨ k = 1
  · have c1 : (its.toArray.isEmpty || k == 1) = true := by
      rcases hw with e | e
      · rw [e] at hle
        rw [List.eq_nil_of_length_eq_zero hle]
        rfl
      · rw [e]; simp
    refine wpAny_binaryOp_repeat_ref (T := "tuple") (U := "int") (by decide) ⟨_, ho, rfl⟩ (fun s' => typeIs_int s' k t) noFill_tuple_mul F.fills_int_mul F.slot_int_rmul repeat_tuple F.slot_int_index.lookup
      (call_meets F.slot_int_rmul (typeIs_int s k t) F.entry_int_rmul (F.args_int_rmul_2 _ _) (int_rmul_tuple k t l its.toArray n dd sl)
        ⟨ho, rfl, ⟨_, ho, rfl⟩, call_meets F.slot_tuple_mul ⟨_, ho, rfl⟩ F.entry_tuple_mul (F.args_tuple_mul_2 _ _) (tuple_mulW1 l its.toArray n dd sl k t c0 c1) ⟨ho, ?_⟩⟩)
    exact ⟨.ref l, H, I, rfl, q1 hw⟩
  · have hne : xs ≠ [] := fun e => hw (.inl e)
    have hk : k ≠ 1 := fun e => hw (.inr e)
    by_cases hk2 : 2 ≤ k
    · exact op_repT pins s σ H (.ref l) (.int k) _ _ Q I (show RelV (.ref l) (.ref l) from rfl) (show RelV (.int k) (.int k t) from ⟨t, rfl⟩) ⟨l, k, xs, rfl, rfl, hT, hne, hk2, h2, hz, q2 hw⟩
    · have hi : its.toArray.isEmpty = false := by
        cases its with
        | nil => exact absurd (List.eq_nil_of_length_eq_zero hle.symm) hne
        | cons a b => rfl
      have c1 : (its.toArray.isEmpty || k == 1) = false := by
        rw [hi, Bool.false_or]
        exact beq_eq_false_iff_ne.mpr hk
      have c2 : (decide (k ≤ 0) || its.toArray.isEmpty) = true := by
        rw [decide_eq_true (by omega)]; rfl
      refine wpAny_binaryOp_repeat_ref (T := "tuple") (U := "int") (by decide) ⟨_, ho, rfl⟩ (fun s' => typeIs_int s' k t) noFill_tuple_mul F.fills_int_mul F.slot_int_rmul repeat_tuple F.slot_int_index.lookup
        (call_meets F.slot_int_rmul (typeIs_int s k t) F.entry_int_rmul (F.args_int_rmul_2 _ _) (int_rmul_tuple k t l its.toArray n dd sl)
          ⟨ho, rfl, ⟨_, ho, rfl⟩, call_meets F.slot_tuple_mul ⟨_, ho, rfl⟩ F.entry_tuple_mul (F.args_tuple_mul_2 _ _) (tuple_mulW0 l its.toArray n dd sl k t c0 c1 c2) ⟨ho, ?_⟩⟩)
      have e0 : (List.replicate k.toNat xs).flatten = [] := by
        rw [show k.toNat = 0 from by omega]; rfl
      have q2' := q2 hw
      rw [e0] at q2'
      refine ⟨.ref s.heap.objs.size, _, I.laid (t' := s.toks) (o := .tup []) (fun b ob q => Heap.get?_push_of_some _ q) (Nat.le_refl _) ?_, rfl, q2' _ (I.hok.fresh (Nat.le_refl _))⟩
      exact ⟨Nat.zero_le _, _, .nil, IsTup.new _ _⟩
theorem flat1 {α : Type} (xs : List α) : (List.replicate 1 xs).flatten = xs := by simp
theorem opD_repT : OpD K C (rRepTA K) kRepT := fun F H as σ δ μ v w x y Q Q' A r1 r2 ⟨xs, n, h1, h2, h3, h4, h5, q⟩ f => by
  obtain ⟨p, vs, rfl, s1, t1, u1⟩ := RepX.tup A.fH (A.rd r1 h1)
  refine ⟨p, n, vs, rfl, A.rdI r2 h2, t1, h3, h4, by rw [u1.length]; exact h5, fun e => ?_, fun e l hl => f _ _ (A.tupP hl (u1.rep _) q)⟩
  rcases e with e | e
  · subst e
    cases u1
    have e0 : (List.replicate n.toNat ([] : List D)).flatten = [] := by simp
    rw [e0] at q
    exact f _ _ (A.dat (.tup s1 .nil) q)
  · subst e
    have e1 : (List.replicate (1 : Int).toNat xs).flatten = xs := flat1 xs
    rw [e1] at q
    exact f _ _ (A.dat (.tup s1 u1) q)

/-! ### equality of data -/
mutual
def toPy : D → PyData
  | .non => .none
  | .bl b => .bool b
  | .int i => .int i
  | .str x => .str x
  | .tup xs => .tuple (toPys xs)
  | .lst xs => .list (toPys xs)
  | .raw _ => .none
def toPys : List D → List PyData
  | [] => []
  | d :: ds => toPy d :: toPys ds
end
/-- no bare reference within, valid texts, at most n deep -/
def Fit : Nat → D → Prop
  | _, .non => True
  | _, .bl _ => True
  | _, .int _ => True
  | _, .str x => PyData.strOk x = true
  | n + 1, .tup xs => ∀ x ∈ xs, Fit n x
  | n + 1, .lst xs => ∀ x ∈ xs, Fit n x
  | _, _ => False
theorem Fit.mono : ∀ {n : Nat} {d : D}, Fit n d → Fit (n + 1) d
  | _, .non, h => by unfold Fit; trivial
  | _, .bl _, h => by unfold Fit; trivial
  | _, .int _, h => by unfold Fit; trivial
  | 0, .str x, h => by unfold Fit at h ⊢; exact h
  | _ + 1, .str x, h => by unfold Fit at h ⊢; exact h
  | 0, .tup xs, h => by unfold Fit at h; exact h.elim
  | 0, .lst xs, h => by unfold Fit at h; exact h.elim
  | 0, .raw xs, h => by unfold Fit at h; exact h.elim
  | n + 1, .raw xs, h => by unfold Fit at h; exact h.elim
  | n + 1, .tup xs, h => by
    unfold Fit at h ⊢
    exact fun x hx => Fit.mono (h x hx)
  | n + 1, .lst xs, h => by
    unfold Fit at h ⊢
    exact fun x hx => Fit.mono (h x hx)
theorem Fit.le {n m : Nat} {d : D} (h : Fit n d) (e : n ≤ m) : Fit m d := by
  induction m with
  | zero => rw [Nat.le_zero.mp e] at h; exact h
  | succ m ih =>
    by_cases q : n = m + 1
    · rw [← q]; exact h
    · exact (ih (by omega)).mono
theorem fit_tup {n : Nat} {xs : List D} (h : ∀ x ∈ xs, Fit n x) : Fit (n + 1) (.tup xs) := by unfold Fit; exact h
theorem fit_lst {n : Nat} {xs : List D} (h : ∀ x ∈ xs, Fit n x) : Fit (n + 1) (.lst xs) := by unfold Fit; exact h
theorem fit_int {n : Nat} {i : Int} : Fit n (.int i) := by unfold Fit; trivial
theorem fit_bl {n : Nat} {i : Bool} : Fit n (.bl i) := by unfold Fit; trivial
theorem fit_non {n : Nat} : Fit n .non := by unfold Fit; trivial
theorem fit_str {n : Nat} {x : Str} (h : PyData.strOk x = true) : Fit n (.str x) := by
  cases n <;> (unfold Fit; exact h)
theorem fit_all_int {n : Nat} (ns : List Int) : ∀ x ∈ ns.map D.int, Fit n x := fun x hx => by
  obtain ⟨i, _, rfl⟩ := List.mem_map.mp hx
  exact fit_int
theorem fit_nil {n : Nat} : ∀ x ∈ ([] : List D), Fit n x := fun _ h => by cases h
theorem fit_cons {n : Nat} {x : D} {xs : List D} (h : Fit n x) (t : ∀ y ∈ xs, Fit n y) : ∀ y ∈ x :: xs, Fit n y := fun y hy => by
  rcases List.mem_cons.mp hy with e | e
  · rw [e]; exact h
  · exact t y e
theorem Fit.inv_tup {n : Nat} {xs : List D} (h : Fit n (.tup xs)) : ∃ m, n = m + 1 ∧ ∀ x ∈ xs, Fit m x := by
  cases n with
  | zero => unfold Fit at h; exact h.elim
  | succ m => unfold Fit at h; exact ⟨m, rfl, h⟩
theorem Fit.inv_lst {n : Nat} {xs : List D} (h : Fit n (.lst xs)) : ∃ m, n = m + 1 ∧ ∀ x ∈ xs, Fit m x := by
  cases n with
  | zero => unfold Fit at h; exact h.elim
  | succ m => unfold Fit at h; exact ⟨m, rfl, h⟩
mutual
theorem Fit.py : ∀ {n : Nat} (d : D), Fit n d → (toPy d).canLay0 = true ∧ (toPy d).depth ≤ n
  | n, .non, h => ⟨by simp [toPy, PyData.canLay0], by simp [toPy, PyData.depth]⟩
  | n, .bl b, h => ⟨by simp [toPy, PyData.canLay0], by simp [toPy, PyData.depth]⟩
  | n, .int i, h => ⟨by simp [toPy, PyData.canLay0], by simp [toPy, PyData.depth]⟩
  | n, .str x, h => ⟨by
      have : PyData.strOk x = true := by cases n <;> (unfold Fit at h; exact h)
      simpa [toPy, PyData.canLay0] using this, by simp [toPy, PyData.depth]⟩
  | n, .raw x, h => by cases n <;> (unfold Fit at h; exact h.elim)
  | n, .tup xs, h => by
    obtain ⟨m, rfl, h⟩ := h.inv_tup
    obtain ⟨a, b⟩ := FitAll.py xs h
    exact ⟨by simpa [toPy, PyData.canLay0] using a, by simp [toPy, PyData.depth]; exact b⟩
  | n, .lst xs, h => by
    obtain ⟨m, rfl, h⟩ := h.inv_lst
    obtain ⟨a, b⟩ := FitAll.py xs h
    exact ⟨by simpa [toPy, PyData.canLay0] using a, by simp [toPy, PyData.depth]; exact b⟩
theorem FitAll.py : ∀ {n : Nat} (xs : List D), (∀ x ∈ xs, Fit n x) → PyData.canLayAll0 (toPys xs) = true ∧ PyData.depthAll (toPys xs) ≤ n
  | n, [], h => ⟨by simp [toPys, PyData.canLayAll0], by simp [toPys, PyData.depthAll]⟩
  | n, x :: xs, h => by
    obtain ⟨a, b⟩ := Fit.py x (h x (List.mem_cons_self ..))
    obtain ⟨c, d⟩ := FitAll.py xs fun y hy => h y (List.mem_cons_of_mem _ hy)
    exact ⟨by simp [toPys, PyData.canLayAll0, a, c], by simp [toPys, PyData.depthAll]; omega⟩
end
theorem Fit.shaped {d : D} (h : Fit 64 d) : SeqAt.shaped (toPy d) = true := by
  obtain ⟨a, b⟩ := Fit.py d h
  unfold SeqAt.shaped
  rw [a, decide_eq_true b]
  rfl
mutual
theorem Rep.dp {H : Hp} : ∀ {n : Nat} {v : V} (d : D), Fit n d → Rep K H v d → Dp K H v (toPy d)
  | _, _, .non, _, r => by cases r; unfold toPy; exact .non
  | _, _, .bl b, _, r => by cases r; unfold toPy; exact .bl b
  | _, _, .int i, _, r => by cases r; unfold toPy; exact .int i
  | _, _, .str x, _, r => by cases r; unfold toPy; exact .str x
  | n, _, .raw x, h, r => by cases n <;> (unfold Fit at h; exact h.elim)
  | n, _, .tup xs, h, r => by
    obtain ⟨m, rfl, h⟩ := h.inv_tup
    cases r with | tup s q => unfold toPy; exact .tup s (RepA.dp xs h q)
  | n, _, .lst xs, h, r => by
    obtain ⟨m, rfl, h⟩ := h.inv_lst
    cases r with | lst s q => unfold toPy; exact .lst s (RepA.dp xs h q)
theorem RepA.dp {H : Hp} : ∀ {n : Nat} {vs : List V} (ds : List D), (∀ x ∈ ds, Fit n x) → RepA K H vs ds → DpAll K H vs (toPys ds)
  | _, _, [], _, r => by cases r; unfold toPys; exact .nil
  | _, _, d :: ds, h, r => by
    cases r with | cons r t => unfold toPys; exact .cons (Rep.dp d (h d (List.mem_cons_self ..)) r) (RepA.dp ds (fun y hy => h y (List.mem_cons_of_mem _ hy)) t)
end
def eqD (d e : D) : Bool := PyData.eqv (toPy d) (toPy e)
def kEq (neg : Bool) : KK2 := fun x y μ Q => ∃ d e, cnt μ x = some d ∧ cnt μ y = some e ∧ Fit 64 d ∧ Fit 64 e ∧ Q (.d (.bl (if neg then !eqD d e else eqD d e))) μ
theorem opD_eq : OpD K C (rEqD K) (kEq false) := fun F H as σ δ μ v w x y Q Q' A r1 r2 ⟨d, e, h1, h2, z1, z2, q⟩ f =>
  ⟨toPy d, toPy e, Rep.dp d z1 ((A.rd r1 h1).rep A.fH), Rep.dp e z2 ((A.rd r2 h2).rep A.fH), z1.shaped, z2.shaped, f _ _ (A.dat (.bl _) q)⟩
theorem opD_ne : OpD K C (rNeD K) (kEq true) := fun F H as σ δ μ v w x y Q Q' A r1 r2 ⟨d, e, h1, h2, z1, z2, q⟩ f =>
  ⟨toPy d, toPy e, Rep.dp d z1 ((A.rd r1 h1).rep A.fH), Rep.dp e z2 ((A.rd r2 h2).rep A.fH), z1.shaped, z2.shaped, f _ _ (A.dat (.bl _) q)⟩

/-! ### is, in -/
def isNon : D → Bool
  | .non => true
  | _ => false
def noRaw : D → Bool
  | .raw _ => false
  | _ => true
def kIsN (neg : Bool) : KK2 := fun x y μ Q => ∃ d, cnt μ x = some d ∧ cnt μ y = some .non ∧ noRaw d = true ∧ Q (.d (.bl (if neg then !isNon d else isNon d))) μ
theorem Agree.rdN {F H : Hp} {as : List Addr} {σ : L2.St} {δ : De} {μ : Mu} {v : V} {sv : SV} (A : Agree K C F H as σ δ μ) (r : VOk K F as v sv) {d : D} (h : cnt μ sv = some d) (n : noRaw d = true) : decide (v = .non) = isNon d := by
  have q := (A.rd r h).rep A.fH
  cases q <;> first | rfl | cases n
theorem opD_isN : OpD K C (fun x y H Q => y = .non ∧ Q (.bl (decide (x = .non))) H) (kIsN false) := fun F H as σ δ μ v w x y Q Q' A r1 r2 ⟨d, h1, h2, n, q⟩ f =>
  ⟨Rep.inv_non (K := K) (F := F) (A.rd r2 h2), f _ _ (A.dat (by rw [A.rdN r1 h1 n]; exact .bl _) q)⟩
theorem opD_notN : OpD K C (fun x y H Q => y = .non ∧ Q (.bl (!decide (x = .non))) H) (kIsN true) := fun F H as σ δ μ v w x y Q Q' A r1 r2 ⟨d, h1, h2, n, q⟩ f =>
  ⟨Rep.inv_non (K := K) (F := F) (A.rd r2 h2), f _ _ (A.dat (by rw [A.rdN r1 h1 n]; exact .bl _) q)⟩
def kIsB : KK2 := fun x y μ Q => ∃ a b, cnt μ x = some (.bl a) ∧ cnt μ y = some (.bl b) ∧ Q (.d (.bl (decide (a = b)))) μ
theorem opD_isB : OpD K C rIsB kIsB := fun F H as σ δ μ v w x y Q Q' A r1 r2 ⟨a, b, h1, h2, q⟩ f =>
  ⟨a, b, A.rdB r1 h1, A.rdB r2 h2, f _ _ (A.dat (.bl _) q)⟩
/-- an int in a list or tuple of ints -/
def kIn (neg : Bool) : KK2 := fun x y μ Q => ∃ (i : Int) (ns : List Int), cnt μ x = some (.int i) ∧ (cnt μ y = some (.lst (ns.map D.int)) ∨ cnt μ y = some (.tup (ns.map D.int))) ∧ Q (.d (.bl (if neg then !decide (i ∈ ns) else decide (i ∈ ns)))) μ
theorem inV_ints (i : Int) (ns : List Int) : inV (.int i) (ns.map V.int) = decide (i ∈ ns) := by
  unfold inV
  induction ns with
  | nil => rfl
  | cons n ns ih =>
    rw [List.map_cons, List.any_cons, ih]
    by_cases e : i = n
    · subst e; simp [eqV]
    · have : eqV (.int n) (.int i) = false := by simp [eqV]; omega
      rw [this, Bool.false_or]
      simp [e]
theorem flat_ints (ns : List Int) : (ns.map V.int).all flatV = true := by
  induction ns with
  | nil => rfl
  | cons n ns ih => rw [List.map_cons, List.all_cons, ih]; rfl
theorem opD_in {neg : Bool} : OpD K C (rIn K neg) (kIn neg) := fun F H as σ δ μ v w x y Q Q' A r1 r2 ⟨i, ns, h1, h2, q⟩ f => by
  have ev := A.rdI r1 h1
  subst ev
  rcases h2 with h2 | h2
  · obtain ⟨p, vs, rfl, s, u⟩ := (A.rd r2 h2).lst
    have e := u.inv_ints
    subst e
    refine ⟨p, _, rfl, .inl s, rfl, flat_ints ns, ?_⟩
    rw [inV_ints]
    exact f _ _ (A.dat (.bl _) q)
  · obtain ⟨p, vs, rfl, _, s, u⟩ := RepX.tup A.fH (A.rd r2 h2)
    have e := u.inv_ints
    subst e
    refine ⟨p, _, rfl, .inr s, rfl, flat_ints ns, ?_⟩
    rw [inV_ints]
    exact f _ _ (A.dat (.bl _) q)
end

/-! ### the rules -/
section
variable {C : DX} {X : Cx} {δ : De} {μ : Mu} {Q : SV → Mu → Prop} {pos : Pos} {a b c : Expr}
/-! the same, written out -/
def kIntB2 (P : Int → Int → Prop) (g : Int → Int → D) : KK2 := fun x y μ Q => ∃ i j, cnt μ x = some (.int i) ∧ cnt μ y = some (.int j) ∧ P i j ∧ Q (.d (g i j)) μ
def kSub : KK2 := fun x y μ Q => ∃ i j, cnt μ x = some (.int i) ∧ cnt μ y = some (.int j) ∧ Q (.d (.int (i - j))) μ
def kFdiv : KK2 := fun x y μ Q => ∃ i j, cnt μ x = some (.int i) ∧ cnt μ y = some (.int j) ∧ (0 < j ∧ j < 1073741824) ∧ Q (.d (.int (i / j))) μ
def kMod : KK2 := fun x y μ Q => ∃ i j, cnt μ x = some (.int i) ∧ cnt μ y = some (.int j) ∧ 0 < j ∧ Q (.d (.int (i % j))) μ
def kPow : KK2 := fun x y μ Q => ∃ i j, cnt μ x = some (.int i) ∧ cnt μ y = some (.int j) ∧ (0 ≤ j ∧ j ≤ 1000000 ∧ i.natAbs < 2 ^ 64) ∧ Q (.d (.int (i ^ j.toNat))) μ
def kLt : KK2 := fun x y μ Q => ∃ i j, cnt μ x = some (.int i) ∧ cnt μ y = some (.int j) ∧ Q (.d (.bl (decide (i < j)))) μ
def kLe : KK2 := fun x y μ Q => ∃ i j, cnt μ x = some (.int i) ∧ cnt μ y = some (.int j) ∧ Q (.d (.bl (decide (i ≤ j)))) μ
def kGt : KK2 := fun x y μ Q => ∃ i j, cnt μ x = some (.int i) ∧ cnt μ y = some (.int j) ∧ Q (.d (.bl (decide (j < i)))) μ
def kGe : KK2 := fun x y μ Q => ∃ i j, cnt μ x = some (.int i) ∧ cnt μ y = some (.int j) ∧ Q (.d (.bl (decide (j ≤ i)))) μ
def kEqD : KK2 := fun x y μ Q => ∃ d e, cnt μ x = some d ∧ cnt μ y = some e ∧ Fit 64 d ∧ Fit 64 e ∧ Q (.d (.bl (eqD d e))) μ
def kNeD : KK2 := fun x y μ Q => ∃ d e, cnt μ x = some d ∧ cnt μ y = some e ∧ Fit 64 d ∧ Fit 64 e ∧ Q (.d (.bl (!eqD d e))) μ
def kIsNon : KK2 := fun x y μ Q => ∃ d, cnt μ x = some d ∧ cnt μ y = some .non ∧ noRaw d = true ∧ Q (.d (.bl (isNon d))) μ
def kNotNon : KK2 := fun x y μ Q => ∃ d, cnt μ x = some d ∧ cnt μ y = some .non ∧ noRaw d = true ∧ Q (.d (.bl (!isNon d))) μ
def kInI : KK2 := fun x y μ Q => ∃ (i : Int) (ns : List Int), cnt μ x = some (.int i) ∧ (cnt μ y = some (.lst (ns.map D.int)) ∨ cnt μ y = some (.tup (ns.map D.int))) ∧ Q (.d (.bl (decide (i ∈ ns)))) μ
def kNotInI : KK2 := fun x y μ Q => ∃ (i : Int) (ns : List Int), cnt μ x = some (.int i) ∧ (cnt μ y = some (.lst (ns.map D.int)) ∨ cnt μ y = some (.tup (ns.map D.int))) ∧ Q (.d (.bl (!decide (i ∈ ns)))) μ
def kAddI : KK2 := fun x y μ Q => ∃ i j, cnt μ x = some (.int i) ∧ cnt μ y = some (.int j) ∧ Q (.d (.int (i + j))) μ
def kMulI : KK2 := fun x y μ Q => ∃ i j, cnt μ x = some (.int i) ∧ cnt μ y = some (.int j) ∧ ((-(2 ^ 64) < i ∧ i < 2 ^ 64) ∨ (-(2 ^ 64) < j ∧ j < 2 ^ 64)) ∧ Q (.d (.int (i * j))) μ
theorem we_add (h : WE C X a δ μ fun x μ1 => WE C X b δ μ1 fun y μ2 => kAddI x y μ2 Q ∨ kCatS x y μ2 Q ∨ kCatT x y μ2 Q ∨ kCatL x y μ2 Q) : WE C X (.BinOp a .Add b pos) δ μ Q :=
  we_bin (op_add.or (op_add_str.or (op_catA.or op_catL))) (fun _ => opD_I0.or (opD_catS.or (opD_catT.or opD_catL))) h
theorem we_sub (h : WE C X a δ μ fun x μ1 => WE C X b δ μ1 fun y μ2 => kSub x y μ2 Q) : WE C X (.BinOp a .Sub b pos) δ μ Q := we_bin op_sub (fun _ => opD_I0) h
theorem we_mul (h : WE C X a δ μ fun x μ1 => WE C X b δ μ1 fun y μ2 => kMulI x y μ2 Q ∨ kRepL x y μ2 Q ∨ kRepT x y μ2 Q) : WE C X (.BinOp a .Mult b pos) δ μ Q :=
  we_bin (op_mul.or (op_rep.or op_repTA)) (fun _ => opD_I.or (opD_repL.or opD_repT)) h
theorem we_fdiv (h : WE C X a δ μ fun x μ1 => WE C X b δ μ1 fun y μ2 => kFdiv x y μ2 Q) : WE C X (.BinOp a .FloorDiv b pos) δ μ Q := we_bin op_fdiv (fun _ => opD_I) h
theorem we_mod (h : WE C X a δ μ fun x μ1 => WE C X b δ μ1 fun y μ2 => kMod x y μ2 Q) : WE C X (.BinOp a .Mod b pos) δ μ Q := we_bin op_mod (fun _ => opD_I) h
theorem we_pow (h : WE C X a δ μ fun x μ1 => WE C X b δ μ1 fun y μ2 => kPow x y μ2 Q) : WE C X (.BinOp a .Pow b pos) δ μ Q := we_bin op_pow (fun _ => opD_I) h
theorem we_lt (h : WE C X a δ μ fun x μ1 => WE C X b δ μ1 fun y μ2 => kLt x y μ2 Q) : WE C X (.Compare a [.Lt] [b] pos) δ μ Q := we_cmp op_lt (fun _ => opD_B) (nomark _) h
theorem we_le (h : WE C X a δ μ fun x μ1 => WE C X b δ μ1 fun y μ2 => kLe x y μ2 Q) : WE C X (.Compare a [.LtE] [b] pos) δ μ Q := we_cmp op_le (fun _ => opD_B) (nomark _) h
theorem we_gt (h : WE C X a δ μ fun x μ1 => WE C X b δ μ1 fun y μ2 => kGt x y μ2 Q) : WE C X (.Compare a [.Gt] [b] pos) δ μ Q := we_cmp op_gt (fun _ => opD_B) (nomark _) h
theorem we_ge (h : WE C X a δ μ fun x μ1 => WE C X b δ μ1 fun y μ2 => kGe x y μ2 Q) : WE C X (.Compare a [.GtE] [b] pos) δ μ Q := we_cmp op_ge (fun _ => opD_B) (nomark _) h
theorem we_eq (hu : X.A.units + 64 < cLine) (h : WE C X a δ μ fun x μ1 => WE C X b δ μ1 fun y μ2 => kEqD x y μ2 Q) : WE C X (.Compare a [.Eq] [b] pos) δ μ Q := we_cmp (op_eqD hu) (fun _ => opD_eq) (nomark _) h
theorem we_ne (hu : X.A.units + 64 < cLine) (h : WE C X a δ μ fun x μ1 => WE C X b δ μ1 fun y μ2 => kNeD x y μ2 Q) : WE C X (.Compare a [.NotEq] [b] pos) δ μ Q := we_cmp (op_neD hu) (fun _ => opD_ne) (nomark _) h
theorem we_is (h : WE C X a δ μ fun x μ1 => WE C X b δ μ1 fun y μ2 => kIsNon x y μ2 Q ∨ kIsB x y μ2 Q) : WE C X (.Compare a [.Is] [b] pos) δ μ Q := we_cmp (op_isN.or op_isBl) (fun _ => opD_isN.or opD_isB) (nomark _) h
theorem we_isnot (h : WE C X a δ μ fun x μ1 => WE C X b δ μ1 fun y μ2 => kNotNon x y μ2 Q) : WE C X (.Compare a [.IsNot] [b] pos) δ μ Q := we_cmp op_notN (fun _ => opD_notN) (nomark _) h
theorem we_in (h : WE C X a δ μ fun x μ1 => WE C X b δ μ1 fun y μ2 => kInI x y μ2 Q) (hm : behindInMarks .In b = false := by rfl) : WE C X (.Compare a [.In] [b] pos) δ μ Q := we_cmp op_in_seq (fun _ => opD_in) hm h
theorem we_notin (h : WE C X a δ μ fun x μ1 => WE C X b δ μ1 fun y μ2 => kNotInI x y μ2 Q) (hm : behindInMarks .NotIn b = false := by rfl) : WE C X (.Compare a [.NotIn] [b] pos) δ μ Q := we_cmp op_notIn_seq (fun _ => opD_in) hm h
def kNeg (x : SV) (μ : Mu) (Q : SV → Mu → Prop) : Prop := ∃ i, cnt μ x = some (.int i) ∧ Q (.d (.int (-i))) μ
theorem we_neg (h : WE C X a δ μ fun x μ1 => kNeg x μ1 Q) : WE C X (.UnaryOp .USub a pos) δ μ Q := fun F0 F H as σ A =>
  tm_of (pe_un un_neg pe_tm) (tm_mono (h F0 F H as σ A) fun v H1 ⟨F1, as1, μ1, x, e1, p1, A1, r1, i, h1, q1⟩ => ⟨i, A1.rdI r1 h1, (A1.dat (.int _) q1).back e1 p1⟩)
/-- lo op v op' hi, ints -/
theorem we_chain {op op' : CmpOp} {g g' : Int → Int → Bool} (ho : OpR X (compareOp op) (rI0 fun i j => .bl (g i j))) (ho' : OpR X (compareOp op') (rI0 fun i j => .bl (g' i j)))
    (h : WE C X a δ μ fun x μ1 => WE C X b δ μ1 fun y μ2 => ∃ i j, cnt μ2 x = some (.int i) ∧ cnt μ2 y = some (.int j) ∧ (g i j = false → Q (.d (.bl false)) μ2) ∧ (g i j = true → WE C X c δ μ2 fun z μ3 => ∃ k, cnt μ3 z = some (.int k) ∧ Q (.d (.bl (g' j k))) μ3))
    (h1 : lastMarks [op, op'] [b, c] = false := by with_unfolding_all rfl) : WE C X (.Compare a [op, op'] [b, c] pos) δ μ Q := fun F0 F H as σ A =>
  tm_of (pe_chain ho ho' pe_tm pe_tm pe_tm h1) (two h A fun F1 H1 as1 μ1 v w x y e p A1 r1 r2 ⟨i, j, c1, c2, q0, q1⟩ => by
    refine ⟨i, j, A1.rdI r1 c1, A1.rdI r2 c2, g i j, rfl, ?_⟩
    cases hg : g i j with
    | false => exact iteF ((A1.dat (.bl _) (q0 hg)).back e p)
    | true =>
      refine iteT ?_
      refine tm_mono (q1 hg F0 F1 H1 as1 σ A1) fun u H2 ⟨F2, as2, μ2, z, e2, p2, A2, r3, k, c3, q3⟩ => ?_
      exact ⟨j, k, A1.rdI r2 c2, A2.rdI r3 c3, ((A2.dat (.bl _) q3).back e2 p2).back e p⟩)
end
end DS

/-! DSem4: truth, displays, subscripts, built-ins, methods. -/
namespace DS
open PySem PySem.Spec PyProof.Rows L2
variable [Tbs]
section
variable {C : DX} {X : Cx} {δ : De} {μ : Mu} {Q : SV → Mu → Prop} {QB : Bool → Mu → Prop} {pos : Pos} {a b c : Expr} {es : List Expr}
/-! ### truth -/
theorem wt_val (h : WE C X a δ μ fun x μ1 => ∃ k, cnt μ1 x = some (.bl k) ∧ QB k μ1) (he : ∀ whole, isTrue a X.env whole = (do let v ← whole; standAt a.pos; holding [v] (truthy v)) := by intro _; rfl) : WT C X a δ μ QB := fun F0 F H as σ A =>
  tmT_of (pt_val pe_tm he) (tm_mono (h F0 F H as σ A) fun v H1 ⟨F1, as1, μ1, x, e1, p1, A1, r1, k, h1, q1⟩ => ⟨k, A1.rdB r1 h1, F1, as1, μ1, e1, p1, A1, q1⟩)
theorem wt_ww (h : WW C X a δ μ QB) : WT C X a δ μ QB := fun F0 F H as σ A => tmT_of (PW.pt pw_tm) (h F0 F H as σ A)
theorem ww_and1 (h : WT C X a δ μ QB) : WW C X (.BoolOp .And [a] pos) δ μ QB := fun F0 F H as σ A => tmW_of (pw_and1 pt_tm) (h F0 F H as σ A)
theorem ww_or1 (h : WT C X a δ μ QB) : WW C X (.BoolOp .Or [a] pos) δ μ QB := fun F0 F H as σ A => tmW_of (pw_or1 pt_tm) (h F0 F H as σ A)
theorem ww_and (h : WT C X a δ μ fun k μ1 => (k = false → QB false μ1) ∧ (k = true → WW C X (.BoolOp .And (b :: es) pos) δ μ1 QB)) : WW C X (.BoolOp .And (a :: b :: es) pos) δ μ QB := fun F0 F H as σ A =>
  tmW_of (pw_and pt_tm pw_tm) (tmT_mono (h F0 F H as σ A) fun k H1 ⟨F1, as1, μ1, e1, p1, A1, q0, q1⟩ => by
    cases k with
    | false => exact iteF ⟨F1, as1, μ1, e1, p1, A1, q0 rfl⟩
    | true => exact iteT (tmW_mono (q1 rfl F0 F1 H1 as1 σ A1) fun _ _ z => z.back e1 p1))
theorem ww_or (h : WT C X a δ μ fun k μ1 => (k = true → QB true μ1) ∧ (k = false → WW C X (.BoolOp .Or (b :: es) pos) δ μ1 QB)) : WW C X (.BoolOp .Or (a :: b :: es) pos) δ μ QB := fun F0 F H as σ A =>
  tmW_of (pw_or pt_tm pw_tm) (tmT_mono (h F0 F H as σ A) fun k H1 ⟨F1, as1, μ1, e1, p1, A1, q0, q1⟩ => by
    cases k with
    | true => exact iteT ⟨F1, as1, μ1, e1, p1, A1, q0 rfl⟩
    | false => exact iteF (tmW_mono (q1 rfl F0 F1 H1 as1 σ A1) fun _ _ z => z.back e1 p1))
theorem wt_not (h : WT C X a δ μ fun k μ1 => QB (!k) μ1) : WT C X (.UnaryOp .Not a pos) δ μ QB := fun F0 F H as σ A =>
  tmT_of (pt_not pt_tm) (tmT_mono (h F0 F H as σ A) fun k H1 q => q)
/-- as values -/
theorem we_one {op : BoolOp} (h : WE C X a δ μ Q) : WE C X (.BoolOp op [a] pos) δ μ Q := fun F0 F H as σ A => tm_of (pe_one pe_tm) (h F0 F H as σ A)
theorem we_and (h : WE C X a δ μ fun x μ1 => ∃ k, cnt μ1 x = some (.bl k) ∧ (k = false → Q (.d (.bl false)) μ1) ∧ (k = true → WE C X (.BoolOp .And (b :: es) pos) δ μ1 Q)) : WE C X (.BoolOp .And (a :: b :: es) pos) δ μ Q := fun F0 F H as σ A =>
  tm_of (pe_and pe_tm pe_tm) (tm_mono (h F0 F H as σ A) fun v H1 ⟨F1, as1, μ1, x, e1, p1, A1, r1, k, h1, q0, q1⟩ => ⟨k, A1.rdB r1 h1, by
    cases k with
    | false => exact iteF ((A1.dat (.bl _) (q0 rfl)).back e1 p1)
    | true => exact iteT (tm_mono (q1 rfl F0 F1 H1 as1 σ A1) fun _ _ z => z.back e1 p1)⟩)
theorem we_or (h : WE C X a δ μ fun x μ1 => ∃ k, cnt μ1 x = some (.bl k) ∧ (k = true → Q (.d (.bl true)) μ1) ∧ (k = false → WE C X (.BoolOp .Or (b :: es) pos) δ μ1 Q)) : WE C X (.BoolOp .Or (a :: b :: es) pos) δ μ Q := fun F0 F H as σ A =>
  tm_of (pe_or pe_tm pe_tm) (tm_mono (h F0 F H as σ A) fun v H1 ⟨F1, as1, μ1, x, e1, p1, A1, r1, k, h1, q0, q1⟩ => ⟨k, A1.rdB r1 h1, by
    cases k with
    | true => exact iteT ((A1.dat (.bl _) (q0 rfl)).back e1 p1)
    | false => exact iteF (tm_mono (q1 rfl F0 F1 H1 as1 σ A1) fun _ _ z => z.back e1 p1)⟩)
theorem we_not (h : WE C X a δ μ fun x μ1 => ∃ k, cnt μ1 x = some (.bl k) ∧ Q (.d (.bl (!k))) μ1) : WE C X (.UnaryOp .Not a pos) δ μ Q := fun F0 F H as σ A =>
  tm_of (pe_not pe_tm) (tm_mono (h F0 F H as σ A) fun v H1 ⟨F1, as1, μ1, x, e1, p1, A1, r1, k, h1, q1⟩ => ⟨k, A1.rdB r1 h1, (A1.dat (.bl _) q1).back e1 p1⟩)
theorem we_ifexp (h : WT C X c δ μ fun k μ1 => (k = true → WE C X a δ μ1 Q) ∧ (k = false → WE C X b δ μ1 Q)) : WE C X (.IfExp c a b pos) δ μ Q := fun F0 F H as σ A =>
  tm_of (pe_ifExp pt_tm pe_tm pe_tm) (tmT_mono (h F0 F H as σ A) fun k H1 ⟨F1, as1, μ1, e1, p1, A1, q1, q2⟩ => by
    cases k with
    | true => exact iteT (tm_mono (q1 rfl F0 F1 H1 as1 σ A1) fun _ _ z => z.back e1 p1)
    | false => exact iteF (tm_mono (q2 rfl F0 F1 H1 as1 σ A1) fun _ _ z => z.back e1 p1))

/-! ### arguments, displays -/
theorem wa_nil {R : List SV → Mu → Prop} (q : R [] μ) : WA C X [] δ μ R := fun F0 F H as σ A => tmA_of pa_nil ⟨F, as, μ, [], Same.refl _, List.prefix_refl _, A, .nil, q⟩
theorem wa_cons {R : List SV → Mu → Prop} (h : WE C X a δ μ fun x μ1 => WA C X es δ μ1 fun xs μ2 => R (x :: xs) μ2) (hs : starEach (a :: es) X.env = (false, eval a X.env) :: starEach es X.env := by rfl) : WA C X (a :: es) δ μ R := fun F0 F H as σ A =>
  tmA_of (pa_cons pe_tm pa_tm hs) (tm_mono (h F0 F H as σ A) fun v H1 ⟨F1, as1, μ1, x, e1, p1, A1, r1, q1⟩ => tmA_mono (q1 F0 F1 H1 as1 σ A1) fun vs H2 ⟨F2, as2, μ2, xs, e2, p2, A2, r2, q2⟩ =>
    ⟨F2, as2, μ2, x :: xs, e1.trans e2, p1.trans p2, A2, .cons (r1.mono e2 p2) r2, q2⟩)
def kTup (xs : List SV) (μ : Mu) (Q : SV → Mu → Prop) : Prop := ∃ ds μ', fzs μ xs = some (ds, μ') ∧ ds.length ≤ sizeLine ∧ Q (.d (.tup ds)) μ'
def kLst (xs : List SV) (μ : Mu) (Q : SV → Mu → Prop) : Prop := ∃ ds μ', fzs μ xs = some (ds, μ') ∧ ds.length ≤ sizeLine ∧ Q (.loc μ'.length) (μ' ++ [.lst ds])
theorem we_tup {k : Nat} (h : WA C X es δ μ fun xs μ1 => kTup xs μ1 Q) : WE C X (.Tuple es k pos) δ μ Q := fun F0 F H as σ A =>
  tm_of (pe_tup pa_tm) (tmA_mono (h F0 F H as σ A) fun vs H1 ⟨F1, as1, μ1, xs, e1, p1, A1, r1, ds, μ', hz, hl, q⟩ => by
    obtain ⟨F2, e2, A2, r2⟩ := Agree.fzs A1 r1 hz
    exact ⟨by rw [r2.length]; exact hl, fun p hp => (A2.tupP hp r2 q).back (e1.trans e2) p1⟩)
theorem we_lst (h : WA C X es δ μ fun xs μ1 => kLst xs μ1 Q) : WE C X (.List es pos) δ μ Q := fun F0 F H as σ A =>
  tm_of (pe_lst pa_tm) (tmA_mono (h F0 F H as σ A) fun vs H1 ⟨F1, as1, μ1, xs, e1, p1, A1, r1, ds, μ', hz, hl, q⟩ => by
    obtain ⟨F2, e2, A2, r2⟩ := Agree.fzs A1 r1 hz
    exact ⟨by rw [r2.length]; exact hl, fun p hp => (A2.lstP hp r2 q).back (e1.trans e2) p1⟩)

/-! ### subscripts -/
theorem RepA.atI {K : PySem.W.Frag} {F : Hp} {vs : List V} {ds : List D} (r : RepA K F vs ds) {i : Int} {d : D} (h : L2.atI ds i = some d) : ∃ v, L2.atI vs i = some v ∧ Rep K F v d := by
  unfold L2.atI at h ⊢
  rw [r.length]
  cases e : ixN ds.length i with
  | none => rw [e] at h; cases h
  | some j =>
    rw [e] at h
    exact r.get h
def kIx : KK2 := fun x y μ Q => ∃ xs i d, (cnt μ x = some (.lst xs) ∨ cnt μ x = some (.tup xs)) ∧ cnt μ y = some (.int i) ∧ L2.atI xs i = some d ∧ Q (.d d) μ
def rIxA (K : PySem.W.Frag) : R2 := fun x y H Q => rIxL K x y H Q ∨ rIxT K x y H Q
theorem opD_ix {K : PySem.W.Frag} : OpD K C (rIxA K) kIx := fun F H as σ  δ μ v w x y Q Q' A r1 r2 ⟨xs, i, d, h1, h2, h3, q⟩ f => by
  rcases h1 with h1 | h1
  · obtain ⟨p, vs, rfl, s, u⟩ := (A.rd r1 h1).lst
    obtain ⟨z, hz, rz⟩ := u.atI h3
    exact .inl ⟨p, vs, i, z, rfl, A.rdI r2 h2, s, hz, f _ _ (A.dat rz q)⟩
  · obtain ⟨p, vs, rfl, _, s, u⟩ := RepX.tup A.fH (A.rd r1 h1)
    obtain ⟨z, hz, rz⟩ := u.atI h3
    exact .inr ⟨p, vs, i, z, rfl, A.rdI r2 h2, s, hz, f _ _ (A.dat rz q)⟩
theorem we_ix (h : WE C X a δ μ fun x μ1 => WE C X b δ μ1 fun y μ2 => kIx x y μ2 Q) (hs : PlainIx b := by intro _ _; rfl) : WE C X (.Subscript a b pos) δ μ Q := fun F0 F H as σ A =>
  tm_of (pe_ix (r := rIxA X.K) (ix_list.or ix_tup) pe_tm pe_tm hs) (two h A fun F' H' as' μ' v w x y e p A' r1 r2 q => opD_ix (C := C.w F0) F' H' as' σ δ μ' v w x y Q _ A' r1 r2 q fun _ _ z => z.back e p)
/-- a part of a slice -/
def WO (C : DX) (X : Cx) (e : Option Expr) (δ : De) (μ : Mu) (Q : Option Int → Mu → Prop) : Prop := ∀ F0 F H as σ, Agree X.K (C.w F0) F H as σ δ μ → tmO X e σ H fun o H' => ∃ F' as' μ', Same F F' ∧ as <+: as' ∧ Agree X.K (C.w F0) F' H' as' σ δ μ' ∧ Q o μ'
theorem wo_none {R : Option Int → Mu → Prop} (q : R none μ) : WO C X none δ μ R := fun F0 F H as σ A => tmO_of po_none ⟨F, as, μ, Same.refl _, List.prefix_refl _, A, q⟩
theorem wo_some {R : Option Int → Mu → Prop} (h : WE C X a δ μ fun x μ1 => ∃ i, cnt μ1 x = some (.int i) ∧ R (some i) μ1) : WO C X (some a) δ μ R := fun F0 F H as σ A =>
  tmO_of (po_some pe_tm) (tm_mono (h F0 F H as σ A) fun v H1 ⟨F1, as1, μ1, x, e1, p1, A1, r1, i, h1, q1⟩ => ⟨i, A1.rdI r1 h1, F1, as1, μ1, e1, p1, A1, q1⟩)
def cutA {α : Type} (xs : List α) (lo hi : Option Int) : List α := (xs.drop (HT.sIx xs.length 0 lo)).take (HT.sIx xs.length xs.length hi - HT.sIx xs.length 0 lo)
theorem RepA.cut {K : PySem.W.Frag} {F : Hp} {vs : List V} {ds : List D} (r : RepA K F vs ds) (lo hi : Option Int) : RepA K F (cutV vs lo hi) (cutA ds lo hi) := by
  unfold cutV cutA
  rw [r.length]
  exact (r.drop _).take _
theorem cut_whole (xs : List D) {lo hi : Option Int} (h : HT.sIx xs.length 0 lo = 0 ∧ HT.sIx xs.length xs.length hi = xs.length) : cutA xs lo hi = xs := by
  unfold cutA
  rw [h.1, h.2, List.drop_zero, Nat.sub_zero, List.take_length]
def kSl (x : SV) (lo hi : Option Int) (μ : Mu) (Q : SV → Mu → Prop) : Prop := (∃ xs, cnt μ x = some (.lst xs) ∧ Q (.loc μ.length) (μ ++ [.lst (cutA xs lo hi)])) ∨ (∃ xs, cnt μ x = some (.tup xs) ∧ Q (.d (.tup (cutA xs lo hi))) μ)
theorem we_slice {lo hi : Option Expr} {p2 : Pos} (h : WE C X a δ μ fun x μ1 => WO C X lo δ μ1 fun l μ2 => WO C X hi δ μ2 fun u μ3 => kSl x l u μ3 Q) : WE C X (.Subscript a (.Slice lo hi none p2) pos) δ μ Q := fun F0 F H as σ A =>
  tm_of (pe_slice (sl_list.or sl_tupA) pe_tm po_tm po_tm) (tm_mono (h F0 F H as σ A) fun v H1 ⟨F1, as1, μ1, x, e1, p1, A1, r1, q1⟩ => tmO_mono (q1 F0 F1 H1 as1 σ A1) fun l H2 ⟨F2, as2, μ2, e2, p2, A2, q2⟩ =>
    tmO_mono (q2 F0 F2 H2 as2 σ A2) fun u H3 ⟨F3, as3, μ3, e3, p3, A3, q3⟩ => by
      have r3 := r1.mono (e2.trans e3) (p2.trans p3)
      have eF := (e1.trans e2).trans e3
      have pF := (p1.trans p2).trans p3
      rcases q3 with ⟨xs, h1, q⟩ | ⟨xs, h1, q⟩
      · obtain ⟨p, vs, rfl, s, w⟩ := (A3.rd r3 h1).lst
        exact .inl ⟨p, vs, rfl, s, fun l' hl => (A3.lstP hl (w.cut l u) q).back eF pF⟩
      · obtain ⟨p, vs, rfl, sF, s, w⟩ := RepX.tup A3.fH (A3.rd r3 h1)
        refine .inr ⟨p, vs, rfl, s, fun e => ?_, fun e l' hl => (A3.tupP hl (w.cut l u) q).back eF pF⟩
        rw [w.length] at e
        rw [cut_whole xs e] at q
        exact (A3.dat (.tup sF w) q).back eF pF)
/-- xs[::-1], a list -/
theorem we_revl {k : Nat} {p1 p2 p3 : Pos} (h : WE C X a δ μ fun x μ1 => ∃ xs, cnt μ1 x = some (.lst xs) ∧ Q (.loc μ1.length) (μ1 ++ [.lst xs.reverse])) : WE C X (.Subscript a (.Slice none none (some (.UnaryOp .USub (.Constant (.int 1) k p1) p2)) p3) pos) δ μ Q := fun F0 F H as σ A =>
  tm_of (pe_revL pe_tm) (tm_mono (h F0 F H as σ A) fun v H1 ⟨F1, as1, μ1, x, e1, p1, A1, r1, xs, h1, q1⟩ => by
    obtain ⟨p, vs, rfl, s, w⟩ := (A1.rd r1 h1).lst
    exact ⟨p, vs, rfl, s, fun l hl => (A1.lstP hl w.reverse q1).back e1 p1⟩)

/-! ### built-ins -/
abbrev KC := List SV → Mu → (SV → Mu → Prop) → Prop
def CallD (K : PySem.W.Frag) (C : DX) (r : List V → Hp → VK → Prop) (k : KC) : Prop :=
  ∀ F H as σ δ μ vs xs Q Q', Agree K C F H as σ δ μ → VOkA K F as vs xs → k xs μ Q → (∀ z H', Post K C F as σ δ Q z H' → Q' z H') → r vs H Q'
theorem CallD.or {K : PySem.W.Frag} {r r' : List V → Hp → VK → Prop} {k k' : KC} (h : CallD K C r k) (h' : CallD K C r' k') : CallD K C (fun xs H Q => r xs H Q ∨ r' xs H Q) (fun xs μ Q => k xs μ Q ∨ k' xs μ Q) :=
  fun F H as σ δ μ vs xs Q Q' A r1 q f => q.elim (fun z => .inl (h F H as σ δ μ vs xs Q Q' A r1 z f)) (fun z => .inr (h' F H as σ δ μ vs xs Q Q' A r1 z f))
theorem we_callB {x : Str} {id : String} {r : List V → Hp → VK → Prop} {k : KC} {p : Pos} {e : Expr} (hc : CallR X (.builtin id) r) (hd : ∀ C, CallD X.K C r k) (hm : X.mg x = none) (hv : bootBuiltins x = some (.builtin id)) (h : WA C X (e :: es) δ μ fun xs μ1 => k xs μ1 Q)
    (hg : Gl X x := by rfl) (hn : x ≠ "__name__" := by decide) (hdb : (x == ("__debug__" : Str)) = false := by decide)
    (he : starEach (e :: es) X.env = (false, eval e X.env) :: starEach es X.env := by rfl) (hpl : (backTo pos (starEach es X.env)).any (·.1) = false := by rfl) : WE C X (.Call (.Name x p) (e :: es) [] pos) δ μ Q := fun F0 F H as σ A =>
  tm_of (pe_callB hc hg hm hv pa_tm hn hdb he hpl) (tmA_mono (h F0 F H as σ A) fun vs H1 ⟨F1, as1, μ1, xs, e1, p1, A1, r1, q1⟩ => hd _ F1 H1 as1 σ δ μ1 vs xs Q _ A1 r1 q1 fun _ _ z => z.back e1 p1)
theorem we_callTy {x : Str} {T : String} {r : List V → Hp → VK → Prop} {k : KC} {p : Pos} {e : Expr} (hc : CallR X (.type T) r) (hd : ∀ C, CallD X.K C r k) (hm : X.mg x = none) (hv : bootBuiltins x = some (.type T)) (h : WA C X (e :: es) δ μ fun xs μ1 => k xs μ1 Q)
    (hg : Gl X x := by rfl) (hn : x ≠ "__name__" := by decide) (hdb : (x == ("__debug__" : Str)) = false := by decide)
    (he : starEach (e :: es) X.env = (false, eval e X.env) :: starEach es X.env := by rfl) (hpl : (backTo pos (starEach es X.env)).any (·.1) = false := by rfl) : WE C X (.Call (.Name x p) (e :: es) [] pos) δ μ Q := fun F0 F H as σ A =>
  tm_of (pe_callTy hc hg hm hv pa_tm hn hdb he hpl) (tmA_mono (h F0 F H as σ A) fun vs H1 ⟨F1, as1, μ1, xs, e1, p1, A1, r1, q1⟩ => hd _ F1 H1 as1 σ δ μ1 vs xs Q _ A1 r1 q1 fun _ _ z => z.back e1 p1)
end
end DS

/-! DSem5: built-ins and methods over data. -/
namespace SrtO
open PySem PySem.Spec PyProof.Rows
section
variable {prog : Program} {w : World} {A : Around} {E : Value → Shared → Prop} {s : Shared}
theorem collect_tuple {l : Addr} {vs : List Value} {Q : List Value → Shared → Prop} (hl : s.heap.IsTuple l vs.toArray)
    (h : Q vs { s with heap := (s.heap.push (seqObj "list" #[] 0)).update s.heap.objs.size (Obj.mapSeq (· ++ vs.toArray)) }) (hsz : vs.length ≤ sizeLine := by size_fits) :
    wpAny (model prog w) A (collect (.ref l)) Q E s := by
  obtain ⟨o, ho, hc, n, hd⟩ := id hl
  unfold collect
  refine wpAny_bind (wpAny_runValue (codeAny_builtin entry_proto_collect' ?_))
  show wpAny _ _ (do again (.builtin "list.__iadd__" ⟨[← newList [], .ref l], []⟩)) _ _ s
  refine wpAny_bind (wpAny_newList (wpAny_pure ⟨Code.quiet_builtin _ (by decide +kernel), codeAny_builtin entry_list_iadd' ?_⟩))
  show wpAny _ _ (Builtin.List.listExtendWith (.ref s.heap.objs.size) (.ref l) (.ref s.heap.objs.size)) _ _ { s with heap := s.heap.push (seqObj "list" #[] 0) }
  unfold Builtin.List.listExtendWith
  have ho' : (s.heap.push (seqObj "list" #[] 0)).get? l = some o := Heap.get?_push_of_some _ ho
  refine wpAny_bind (wpAny_typeOf (T := "tuple") ⟨o, ho', hc⟩ ?_)
  have ht : (Value.type "tuple" == Value.type "tuple") = true := by rfl
  rw [if_pos (by rw [ht]; simp)]
  refine wpAny_bind (listItems_at ho' hd ?_)
  refine wpAny_bind (listItems_at (xs := #[]) (n := 0) (Heap.get?_push_size _ rfl) rfl ?_)
  rw [if_neg (by simp)]
  refine wpAny_bind (listUpdate_at (xs := #[]) (n := 0) (Heap.get?_push_size _ rfl) rfl ?_ (Nat.zero_le _) (by show (#[] ++ vs.toArray).size ≤ sizeLine + 1; simp only [Array.size_append, List.size_toArray, List.length_nil]; omega))
  refine wpAny_pure ?_
  show wpAny (model prog w) A (do
      let o ← load s.heap.objs.size
      match o.data with
      | .seq xs _ => pure xs.toList
      | _ => unsupported "internal:collect") Q E { s with heap := (s.heap.push (seqObj "list" #[] 0)).update s.heap.objs.size (Obj.mapSeq (· ++ vs.toArray)) }
  refine wpAny_bind (wpAny_load (get?_update_seq (Heap.get?_push_size _ rfl) _) ?_)
  show wpAny _ _ (pure ((#[] : Array Value) ++ vs.toArray).toList) Q E _
  rw [show ((#[] : Array Value) ++ vs.toArray).toList = vs by simp]
  exact wpAny_pure h
theorem sorted_ordT {l : Addr} {vs : List Value} {ltv : Value → Value → Bool} {Q : Value → Shared → Prop} (O : Swo ltv) (hl : s.heap.IsTuple l vs.toArray) (hz : vs.length ≤ sizeLine)
    (hS : 2 ≤ vs.length → ∀ (h₁ : Heap) (a : Addr), h₁.get? a = some (seqObj "list" vs.toArray 0) → (∀ b o, s.heap.get? b = some o → b ≠ a ∧ h₁.get? b = some o) → SortableO prog w A.in1.in1 { s with heap := h₁ } a vs ltv)
    (h : ∀ out : List Value, Srtd ltv out → Stb ltv out vs → Q (.ref (s.heap.objs.size + 1)) { s with heap := sortedAll s.heap vs out.toArray }) :
    wpAny (model prog w) A (call (.builtin "sorted") [.ref l]) Q E s := by
  refine Calls.call_function_entry kind_sorted plain_sorted entry_sorted (args_sorted1 _) ?_
  unfold Builtin.«sorted»
  refine wpAny_bind (m := checkCount "sorted" 1 1 _) (wpAny_pure ?_)
  refine wpAny_bind (collect_tuple hl ?_ hz)
  refine wpAny_bind (wpAny_newList ?_ hz)
  have hsz : ((s.heap.push (seqObj "list" #[] 0)).update s.heap.objs.size (Obj.mapSeq (· ++ vs.toArray))).objs.size = s.heap.objs.size + 1 := by
    rw [Heap.size_update, size_push']
  have hoL : (((s.heap.push (seqObj "list" #[] 0)).update s.heap.objs.size (Obj.mapSeq (· ++ vs.toArray))).push (seqObj "list" vs.toArray 0)).get? (s.heap.objs.size + 1) = some (seqObj "list" vs.toArray 0) := by
    rw [← hsz]; exact Heap.get?_push_size _ rfl
  have keep : ∀ b o, s.heap.get? b = some o → b ≠ s.heap.objs.size + 1 ∧ (((s.heap.push (seqObj "list" #[] 0)).update s.heap.objs.size (Obj.mapSeq (· ++ vs.toArray))).push (seqObj "list" vs.toArray 0)).get? b = some o := fun b o q => by
    have hlt : b < s.heap.objs.size := Heap.lt_size q
    refine ⟨Nat.ne_of_lt (Nat.lt_succ_of_lt hlt), Heap.get?_push_of_some _ ?_⟩
    rw [Heap.get?_update_ne _ _ _ _ (Nat.ne_of_lt hlt)]
    exact Heap.get?_push_of_some _ q
  show wpAny _ _ _ _ _ { s with heap := ((s.heap.push (seqObj "list" #[] 0)).update s.heap.objs.size (Obj.mapSeq (· ++ vs.toArray))).push (seqObj "list" vs.toArray 0) }
  rw [hsz]
  refine wpAny_bind (wpAny_holding (wpAny_call_entry slot_list_sort ⟨_, hoL, rfl⟩ entry_list_sort (list_sort_ord O hoL hz (fun h2 => hS h2 _ _ hoL keep) fun out hs hb => ⟨_, rfl, ?_⟩) (args_list_sort _)))
  exact wpAny_pure ⟨_, rfl, h out hs hb⟩
end
end SrtO

namespace DS
open PySem PySem.Spec PyProof.Rows L2
variable [Tbs]
/-! ### library rules for tuples of ints -/
def rSortedT (K : PySem.W.Frag) : List V → Hp → VK → Prop := fun vs H Q => ∃ (a : Addr) (ns : List Int), vs = [V.ref a] ∧ SqT K H a (ns.map V.int) ∧
  ∀ (ns' : List Int) (p : Addr), ns'.Perm ns → ns'.Pairwise (· ≤ ·) → H p = none → Q (.ref p) (upd H p (.lst (ns'.map V.int)))
theorem isTup_isTuple {h : Heap} {a : Addr} {its : Array Value} (t : IsTup h a its) : h.IsTuple a its := t
theorem cr_sortedT' {X : Cx} : CallR X (.builtin "sorted") (rSortedT X.K) := by
  intro pins s σ H vs us Q I r h
  obtain ⟨a, ns, rfl, hs, q⟩ := h
  obtain ⟨its, rv, hl, hz⟩ := I.tuple hs
  rw [Vals.ref1 r]
  have hi := rv.ints
  refine SrtO.sorted_ordT SrtO.swo_int (isTup_isTuple hl) (by rw [← rv.length]; exact hz) (fun h2 h₁ a' _ _ => SrtO.ints_sortable hi h2) fun out h1 h2 => ?_
  obtain ⟨k1, k2, k3⟩ := SrtO.ints_out hi h1 h2
  obtain ⟨ep, he'⟩ := PyProof.Rows.sortedAll_at s.heap its out.toArray
  have hlen : ((out.map SrtO.iv).map V.int).length ≤ sizeLine := by
    rw [List.length_map, k2.length_eq]
    rw [List.length_map] at hz
    exact hz
  exact ⟨.ref _, upd H (s.heap.objs.size + 1) (.lst ((out.map SrtO.iv).map V.int)), I.laid (t' := s.toks) (fun _ _ => PyProof.Rows.sortedAll_old) (Nat.le_succ _) ⟨hlen, out, ep, vals_of_ints k1, he'⟩, rfl, q _ _ k2 k3 (I.hok.fresh (Nat.le_succ _))⟩
def rSumT (K : PySem.W.Frag) : List V → Hp → VK → Prop := fun vs H Q => ∃ (a : Addr) (ns : List Int), vs = [V.ref a] ∧ SqT K H a (ns.map V.int) ∧ Q (.int ns.sum) H
theorem sum_rawT {prog : Program} {w : World} {A : Around} {E : Value → Shared → Prop} {s : Shared} {l : Addr} {its : List Value} {ns : List Int} {Q : Value → Shared → Prop} (hh : A.handled = none) (hl : s.heap.IsTuple l its.toArray) (hi : IntsAre its ns)
    (h : ∀ h' tk t', (∀ b o, s.heap.get? b = some o → h'.get? b = some o) → Q (.int ns.sum t') { s with heap := h', toks := tk }) : wpAny (model prog w) A (call (.builtin "sum") [.ref l]) Q E s := by
  obtain ⟨xs, e⟩ := hi.allInts.items
  have hn : numsOf (intItems xs).toList = ns := by rw [← e]; exact hi.numsOf
  rw [nums_intItems] at hn
  rw [e] at hl
  refine PySem.W.ktm_sumG hh hl fun h' tk t' hk => ?_
  have := h h' tk t' hk
  rw [preSum_eq, List.take_of_length_le (by simp), hn]; exact this
theorem cr_sumT {X : Cx} (hc : X.calm = true) : CallR X (.builtin "sum") (rSumT X.K) := by
  intro pins s σ H vs us Q I r h
  obtain ⟨a, ns, rfl, hs, q⟩ := h
  obtain ⟨its, rv, hl, hz⟩ := I.tuple hs
  rw [Vals.ref1 r]
  exact sum_rawT (I.ok.hd hc) (isTup_isTuple hl) rv.ints fun h' tk t' hk => ⟨.int _, H, I.kept (t' := tk) hk, ⟨_, rfl⟩, q⟩

/-! ### sorting, as a function -/
def insr (x : Int) : List Int → List Int
  | [] => [x]
  | y :: ys => if x ≤ y then x :: y :: ys else y :: insr x ys
def srt : List Int → List Int
  | [] => []
  | x :: xs => insr x (srt xs)
theorem insr_perm (x : Int) : ∀ ys : List Int, (insr x ys).Perm (x :: ys)
  | [] => List.Perm.refl _
  | y :: ys => by
    unfold insr
    split
    · exact List.Perm.refl _
    · exact ((insr_perm x ys).cons y).trans (List.Perm.swap x y ys)
theorem srt_perm : ∀ xs : List Int, (srt xs).Perm xs
  | [] => List.Perm.refl _
  | x :: xs => (insr_perm x (srt xs)).trans ((srt_perm xs).cons x)
theorem insr_le (x : Int) : ∀ {ys : List Int}, ys.Pairwise (· ≤ ·) → (insr x ys).Pairwise (· ≤ ·)
  | [], _ => List.pairwise_singleton _ _
  | y :: ys, h => by
    unfold insr
    obtain ⟨h1, h2⟩ := List.pairwise_cons.mp h
    split
    · rename_i e
      refine List.pairwise_cons.mpr ⟨fun z hz => ?_, h⟩
      rcases List.mem_cons.mp hz with q | q
      · rw [q]; exact e
      · exact Int.le_trans e (h1 z q)
    · rename_i e
      refine List.pairwise_cons.mpr ⟨fun z hz => ?_, insr_le x h2⟩
      rcases List.mem_cons.mp ((insr_perm x ys).mem_iff.mp hz) with q | q
      · rw [q]; omega
      · exact h1 z q
theorem srt_sorted : ∀ xs : List Int, (srt xs).Pairwise (· ≤ ·)
  | [] => List.Pairwise.nil
  | x :: xs => insr_le x (srt_sorted xs)
theorem srt_unique {xs ys : List Int} (hp : ys.Perm xs) (hs : ys.Pairwise (· ≤ ·)) : ys = srt xs := PySem.W.ksm_same (hp.trans (srt_perm xs).symm) hs (srt_sorted xs)
theorem srt_len (xs : List Int) : (srt xs).length = xs.length := (srt_perm xs).length_eq

section
variable {K : PySem.W.Frag} {C : DX}
theorem pair1 {K : PySem.W.Frag} {F : Hp} {as : List Addr} {vs : List V} {x : SV} (r : VOkA K F as vs [x]) : ∃ v, vs = [v] ∧ VOk K F as v x := by
  cases r with | cons r t => cases t; exact ⟨_, rfl, r⟩
theorem pair2 {K : PySem.W.Frag} {F : Hp} {as : List Addr} {vs : List V} {x y : SV} (r : VOkA K F as vs [x, y]) : ∃ v w, vs = [v, w] ∧ VOk K F as v x ∧ VOk K F as w y := by
  cases r with | cons r t => cases t with | cons r2 t2 => cases t2; exact ⟨_, _, rfl, r, r2⟩
/-! ### len, sum, sorted, max, min, abs, all, list, tuple -/
def lenD : D → Option Nat
  | .lst xs => some xs.length
  | .tup xs => some xs.length
  | .str x => if x.length ≤ 100000 then some x.length else none
  | _ => none
def kLen : KC := fun xs μ Q => ∃ x d n, xs = [x] ∧ cnt μ x = some d ∧ lenD d = some n ∧ Q (.d (.int (n : Nat))) μ
theorem cd_len : CallD K C (fun xs H Q => (∃ p ys, xs = [.ref p] ∧ (SqL K H p ys ∨ SqT K H p ys) ∧ Q (.int ys.length) H) ∨ (∃ z, xs = [.str z] ∧ z.length ≤ sizeLine ∧ Q (.int z.length) H)) kLen :=
  fun F H as σ δ μ vs xs Q Q' A r1 ⟨x, d, n, h0, h1, h2, q⟩ f => by
    subst h0
    obtain ⟨v, rfl, r⟩ := pair1 r1
    cases d with
    | lst ys =>
      cases h2
      obtain ⟨p, ws, rfl, s, u⟩ := (A.rd r h1).lst
      exact .inl ⟨p, ws, rfl, .inl s, by rw [u.length]; exact f _ _ (A.dat (.int _) q)⟩
    | tup ys =>
      cases h2
      obtain ⟨p, ws, rfl, _, s, u⟩ := RepX.tup A.fH (A.rd r h1)
      exact .inl ⟨p, ws, rfl, .inr s, by rw [u.length]; exact f _ _ (A.dat (.int _) q)⟩
    | str z =>
      dsimp only [lenD] at h2
      split at h2
      · rename_i hz
        cases h2
        cases A.rdS r h1
        exact .inr ⟨z, rfl, Nat.le_trans hz (by decide), f _ _ (A.dat (.int _) q)⟩
      · cases h2
    | _ => cases h2
def intsD (μ : Mu) (x : SV) (ns : List Int) : Prop := cnt μ x = some (.lst (ns.map D.int)) ∨ cnt μ x = some (.tup (ns.map D.int))
def kSum : KC := fun xs μ Q => ∃ x ns, xs = [x] ∧ intsD μ x ns ∧ Q (.d (.int ns.sum)) μ
theorem Agree.ints {F H : Hp} {as : List Addr} {σ : L2.St} {δ : De} {μ : Mu} {v : V} {sv : SV} {ns : List Int} (A : Agree K C F H as σ δ μ) (r : VOk K F as v sv) (h : intsD μ sv ns) : ∃ a, v = .ref a ∧ (SqL K H a (ns.map V.int) ∨ SqT K H a (ns.map V.int)) := by
  rcases h with h | h
  · obtain ⟨p, ws, rfl, s, u⟩ := (A.rd r h).lst
    rw [u.inv_ints] at s
    exact ⟨p, rfl, .inl s⟩
  · obtain ⟨p, ws, rfl, _, s, u⟩ := RepX.tup A.fH (A.rd r h)
    rw [u.inv_ints] at s
    exact ⟨p, rfl, .inr s⟩
theorem cd_sum : CallD K C (fun xs H Q => rSum K xs H Q ∨ rSumT K xs H Q) kSum := fun F H as σ δ μ vs xs Q Q' A r1 ⟨x, ns, h0, h1, q⟩ f => by
  subst h0
  obtain ⟨v, rfl, r⟩ := pair1 r1
  obtain ⟨p, rfl, s | s⟩ := A.ints r h1
  · exact .inl ⟨p, ns, rfl, s, f _ _ (A.dat (.int _) q)⟩
  · exact .inr ⟨p, ns, rfl, s, f _ _ (A.dat (.int _) q)⟩
def kSorted : KC := fun xs μ Q => ∃ x ns, xs = [x] ∧ intsD μ x ns ∧ Q (.loc μ.length) (μ ++ [.lst ((srt ns).map D.int)])
theorem cd_sorted : CallD K C (fun xs H Q => rSortedI K xs H Q ∨ rSortedT K xs H Q) kSorted := fun F H as σ δ μ vs xs Q Q' A r1 ⟨x, ns, h0, h1, q⟩ f => by
  subst h0
  obtain ⟨v, rfl, r⟩ := pair1 r1
  have fin : ∀ (ns' : List Int) (p : Addr), ns'.Perm ns → ns'.Pairwise (· ≤ ·) → H p = none → Q' (.ref p) (upd H p (.lst (ns'.map V.int))) := fun ns' p h2 h3 hp => by
    rw [srt_unique h2 h3]
    exact f _ _ (A.lstP hp (RepA.ints _) q)
  obtain ⟨p, rfl, s | s⟩ := A.ints r h1
  · exact .inl ⟨p, ns, rfl, s, fin⟩
  · exact .inr ⟨p, ns, rfl, s, fin⟩
def kMax : KC := fun xs μ Q => (∃ (x : SV) (ns : List Int), xs = [x] ∧ cnt μ x = some (.lst (ns.map D.int)) ∧ 0 < ns.length ∧ ∀ m, m ∈ ns → (∀ y, y ∈ ns → y ≤ m) → Q (.d (.int m)) μ) ∨
  (∃ x y i j, xs = [x, y] ∧ cnt μ x = some (.int i) ∧ cnt μ y = some (.int j) ∧ Q (.d (.int (max i j))) μ)
theorem cd_max : CallD K C (fun xs H Q => rMax K xs H Q ∨ (∃ i j, xs = [.int i, .int j] ∧ Q (.int (if j > i then j else i)) H)) kMax := fun F H as σ δ μ vs xs Q Q' A r1 q f => by
  rcases q with ⟨x, ns, h0, h1, h2, q⟩ | ⟨x, y, i, j, h0, h1, h2, q⟩
  · subst h0
    obtain ⟨v, rfl, r⟩ := pair1 r1
    obtain ⟨p, ws, rfl, s, u⟩ := (A.rd r h1).lst
    rw [u.inv_ints] at s
    exact .inl ⟨p, ns, rfl, s, h2, fun m hm hy => f _ _ (A.dat (.int _) (q m hm hy))⟩
  · subst h0
    obtain ⟨v, w, rfl, r, r'⟩ := pair2 r1
    refine .inr ⟨i, j, by rw [A.rdI r h1, A.rdI r' h2], ?_⟩
    rw [show (if j > i then j else i) = max i j from by
      rw [Int.max_def]
      split <;> split <;> omega]
    exact f _ _ (A.dat (.int _) q)
def kMin : KC := fun xs μ Q => (∃ (x : SV) (ns : List Int), xs = [x] ∧ cnt μ x = some (.lst (ns.map D.int)) ∧ 0 < ns.length ∧ ∀ m, m ∈ ns → (∀ y, y ∈ ns → m ≤ y) → Q (.d (.int m)) μ) ∨
  (∃ x y i j, xs = [x, y] ∧ cnt μ x = some (.int i) ∧ cnt μ y = some (.int j) ∧ Q (.d (.int (min i j))) μ)
theorem cd_min : CallD K C (fun xs H Q => rMin K xs H Q ∨ (∃ i j, xs = [.int i, .int j] ∧ Q (.int (if j < i then j else i)) H)) kMin := fun F H as σ δ μ vs xs Q Q' A r1 q f => by
  rcases q with ⟨x, ns, h0, h1, h2, q⟩ | ⟨x, y, i, j, h0, h1, h2, q⟩
  · subst h0
    obtain ⟨v, rfl, r⟩ := pair1 r1
    obtain ⟨p, ws, rfl, s, u⟩ := (A.rd r h1).lst
    rw [u.inv_ints] at s
    exact .inl ⟨p, ns, rfl, s, h2, fun m hm hy => f _ _ (A.dat (.int _) (q m hm hy))⟩
  · subst h0
    obtain ⟨v, w, rfl, r, r'⟩ := pair2 r1
    refine .inr ⟨i, j, by rw [A.rdI r h1, A.rdI r' h2], ?_⟩
    rw [show (if j < i then j else i) = min i j from by
      rw [Int.min_def]
      split <;> split <;> omega]
    exact f _ _ (A.dat (.int _) q)
def kAbs : KC := fun xs μ Q => ∃ x i, xs = [x] ∧ cnt μ x = some (.int i) ∧ Q (.d (.int (if i < 0 then -i else i))) μ
theorem cd_abs : CallD K C (fun xs H Q => ∃ i, xs = [.int i] ∧ Q (.int (if i < 0 then -i else i)) H) kAbs := fun F H as σ δ μ vs xs Q Q' A r1 ⟨x, i, h0, h1, q⟩ f => by
  subst h0
  obtain ⟨v, rfl, r⟩ := pair1 r1
  exact ⟨i, by rw [A.rdI r h1], f _ _ (A.dat (.int _) q)⟩
def kAll : KC := fun xs μ Q => ∃ (x : SV) (bs : List Bool), xs = [x] ∧ cnt μ x = some (.lst (bs.map D.bl)) ∧ Q (.d (.bl (bs.all id))) μ
theorem cd_all : CallD K C (rAll K) kAll := fun F H as σ δ μ vs xs Q Q' A r1 ⟨x, bs, h0, h1, q⟩ f => by
  subst h0
  obtain ⟨v, rfl, r⟩ := pair1 r1
  obtain ⟨p, ws, rfl, s, u⟩ := (A.rd r h1).lst
  rw [u.inv_bls] at s
  exact ⟨p, bs, rfl, s, f _ _ (A.dat (.bl _) q)⟩
def seqD (μ : Mu) (x : SV) (ds : List D) : Prop := cnt μ x = some (.lst ds) ∨ cnt μ x = some (.tup ds)
def kList : KC := fun xs μ Q => ∃ x ds, xs = [x] ∧ seqD μ x ds ∧ Q (.loc μ.length) (μ ++ [.lst ds])
theorem cd_list : CallD K C (fun xs H Q => ∃ p ys, xs = [.ref p] ∧ (SqL K H p ys ∨ SqT K H p ys) ∧ ∀ l, H l = none → Q (.ref l) (upd H l (.lst ys))) kList := fun F H as σ δ μ vs xs Q Q' A r1 ⟨x, ds, h0, h1, q⟩ f => by
  subst h0
  obtain ⟨v, rfl, r⟩ := pair1 r1
  rcases h1 with h1 | h1
  · obtain ⟨p, ws, rfl, s, u⟩ := (A.rd r h1).lst
    exact ⟨p, ws, rfl, .inl s, fun l hl => f _ _ (A.lstP hl u q)⟩
  · obtain ⟨p, ws, rfl, _, s, u⟩ := RepX.tup A.fH (A.rd r h1)
    exact ⟨p, ws, rfl, .inr s, fun l hl => f _ _ (A.lstP hl u q)⟩
def kTuple : KC := fun xs μ Q => ∃ x ds, xs = [x] ∧ seqD μ x ds ∧ Q (.d (.tup ds)) μ
theorem cd_tuple : CallD K C (fun xs H Q => ∃ p ys, xs = [.ref p] ∧ ((SqL K H p ys ∧ ∀ l, H l = none → Q (.ref l) (upd H l (.tup ys))) ∨ (SqT K H p ys ∧ Q (.ref p) H))) kTuple := fun F H as σ δ μ vs xs Q Q' A r1 ⟨x, ds, h0, h1, q⟩ f => by
  subst h0
  obtain ⟨v, rfl, r⟩ := pair1 r1
  rcases h1 with h1 | h1
  · obtain ⟨p, ws, rfl, s, u⟩ := (A.rd r h1).lst
    exact ⟨p, ws, rfl, .inl ⟨s, fun l hl => f _ _ (A.tupP hl u q)⟩⟩
  · obtain ⟨p, ws, rfl, sF, s, u⟩ := RepX.tup A.fH (A.rd r h1)
    exact ⟨p, ws, rfl, .inr ⟨s, f _ _ (A.dat (.tup sF u) q)⟩⟩
/-! ### isinstance of built-in classes -/
def tyD : D → Option String
  | .non => some "NoneType"
  | .bl _ => some "bool"
  | .int _ => some "int"
  | .str _ => some "str"
  | .tup _ => some "tuple"
  | .lst _ => some "list"
  | .raw _ => none
def isD (t T : String) : Bool := t == T || (t == "bool" && T == "int")
theorem kitD {t T : String} (ht : t ∈ ["NoneType", "bool", "int", "str", "tuple", "list"]) (hT : T ∈ ["bool", "int", "str", "tuple", "list"]) : kitB t T = some (isD t T) := by
  simp only [List.mem_cons, List.not_mem_nil, or_false] at ht hT
  rcases ht with rfl | rfl | rfl | rfl | rfl | rfl <;> rcases hT with rfl | rfl | rfl | rfl | rfl <;> decide +kernel
theorem tyX_of {H : Hp} {v : V} {d : D} {t : String} (r : Rep K H v d) (h : tyD d = some t) : TyX K H v (.type t) := by
  cases r with
  | non => cases h; exact .base .non
  | bl b => cases h; exact .base (.bl b)
  | int i => cases h; exact .base (.int i)
  | str x => cases h; exact .base (.str x)
  | raw v => cases h
  | lst s q =>
    cases h
    rcases s with (s | ⟨o, s⟩) | ⟨o, its, n, e, c, _⟩
    · exact .base (.lst s)
    · exact .base (.frz s)
    · exact .kList e c
  | tup s q =>
    cases h
    rcases s with (s | ⟨o, s⟩) | ⟨o, its, n, e, c, _⟩
    · exact .base (.tup s)
    · exact .fTuple s
    · exact .kTuple e c
theorem tyD_mem {d : D} {t : String} (h : tyD d = some t) : t ∈ ["NoneType", "bool", "int", "str", "tuple", "list"] := by
  cases d <;> first | (cases h; decide) | cases h
def kIsi : KC := fun xs μ Q => ∃ x T d t, xs = [x, .d (.raw (.ty T))] ∧ T ∈ ["bool", "int", "str", "tuple", "list"] ∧ cnt μ x = some d ∧ tyD d = some t ∧ Q (.d (.bl (isD t T))) μ
theorem cd_isi : CallD K C (rIsi K) kIsi := fun F H as σ δ μ vs xs Q Q' A r1 ⟨x, T, d, t, h0, hT, h1, h2, q⟩ f => by
  subst h0
  obtain ⟨v, w, rfl, r, r'⟩ := pair2 r1
  have e : w = .ty T := by
    have : Rep K F w (.raw (.ty T)) := r'
    cases this; rfl
  subst e
  exact ⟨v, _, _, _, isD t T, rfl, .ty T, tyX_of ((A.rd r h1).rep A.fH) h2, kit_ty (kitD (tyD_mem h2) hT), f _ _ (A.dat (.bl _) q)⟩
def kStrI : KC := fun xs μ Q => ∃ x i, xs = [x] ∧ cnt μ x = some (.int i) ∧ i.natAbs.log2 < 1920 ∧ Q (.d (.str (toString i))) μ
theorem cd_strI : CallD K C (fun xs H Q => ∃ i, xs = [.int i] ∧ i.natAbs.log2 < 1920 ∧ Q (.str (toString i)) H) kStrI := fun F H as σ δ μ vs xs Q Q' A r1 ⟨x, i, h0, h1, z, q⟩ f => by
  subst h0
  obtain ⟨v, rfl, r⟩ := pair1 r1
  exact ⟨i, by rw [A.rdI r h1], z, f _ _ (A.dat (.str _) q)⟩
def kIntB : KC := fun xs μ Q => ∃ x b, xs = [x] ∧ cnt μ x = some (.bl b) ∧ Q (.d (.int (if b then 1 else 0))) μ
theorem cd_intB : CallD K C (fun xs H Q => (∃ i, xs = [.int i] ∧ Q (.int i) H) ∨ ∃ k, xs = [.bl k] ∧ Q (.int (if k then 1 else 0)) H) kIntB := fun F H as σ δ μ vs xs Q Q' A r1 ⟨x, b, h0, h1, q⟩ f => by
  subst h0
  obtain ⟨v, rfl, r⟩ := pair1 r1
  exact .inr ⟨b, by rw [A.rdB r h1], f _ _ (A.dat (.int _) q)⟩
end

/-! ### the rules -/
section
variable {C : DX} {X : Cx} {δ : De} {μ : Mu} {Q : SV → Mu → Prop} {pos p : Pos} {a b c e : Expr} {es : List Expr}
theorem we_len (hm : X.mg "len" = none) (h : WA C X [e] δ μ fun xs μ1 => kLen xs μ1 Q) (hg : Gl X "len" := by rfl) (he : starEach [e] X.env = (false, eval e X.env) :: starEach [] X.env := by rfl) (hpl : (backTo pos (starEach [] X.env)).any (·.1) = false := by rfl) : WE C X (.Call (.Name "len" p) [e] [] pos) δ μ Q :=
  we_callB (call_len_seq.or call_len_str) (fun _ => cd_len) hm PySem.boot_len h hg (by decide) (by decide) he hpl
theorem we_sum (hc : X.calm = true) (hm : X.mg "sum" = none) (h : WA C X [e] δ μ fun xs μ1 => kSum xs μ1 Q) (hg : Gl X "sum" := by rfl) (he : starEach [e] X.env = (false, eval e X.env) :: starEach [] X.env := by rfl) (hpl : (backTo pos (starEach [] X.env)).any (·.1) = false := by rfl) : WE C X (.Call (.Name "sum" p) [e] [] pos) δ μ Q :=
  we_callB ((cr_sum hc).or (cr_sumT hc)) (fun _ => cd_sum) hm (by decide +kernel) h hg (by decide) (by decide) he hpl
theorem we_sorted (hm : X.mg "sorted" = none) (h : WA C X [e] δ μ fun xs μ1 => kSorted xs μ1 Q) (hg : Gl X "sorted" := by rfl) (he : starEach [e] X.env = (false, eval e X.env) :: starEach [] X.env := by rfl) (hpl : (backTo pos (starEach [] X.env)).any (·.1) = false := by rfl) : WE C X (.Call (.Name "sorted" p) [e] [] pos) δ μ Q :=
  we_callB (cr_sortedI.or cr_sortedT') (fun _ => cd_sorted) hm (by decide +kernel) h hg (by decide) (by decide) he hpl
theorem we_max (hc : X.calm = true) (hm : X.mg "max" = none) (h : WA C X (e :: es) δ μ fun xs μ1 => kMax xs μ1 Q) (hg : Gl X "max" := by rfl) (he : starEach (e :: es) X.env = (false, eval e X.env) :: starEach es X.env := by rfl) (hpl : (backTo pos (starEach es X.env)).any (·.1) = false := by rfl) : WE C X (.Call (.Name "max" p) (e :: es) [] pos) δ μ Q :=
  we_callB ((cr_max hc).or (call_max2 hc)) (fun _ => cd_max) hm (by decide +kernel) h hg (by decide) (by decide) he hpl
theorem we_min (hc : X.calm = true) (hm : X.mg "min" = none) (h : WA C X (e :: es) δ μ fun xs μ1 => kMin xs μ1 Q) (hg : Gl X "min" := by rfl) (he : starEach (e :: es) X.env = (false, eval e X.env) :: starEach es X.env := by rfl) (hpl : (backTo pos (starEach es X.env)).any (·.1) = false := by rfl) : WE C X (.Call (.Name "min" p) (e :: es) [] pos) δ μ Q :=
  we_callB ((cr_min hc).or (call_min2 hc)) (fun _ => cd_min) hm (by decide +kernel) h hg (by decide) (by decide) he hpl
theorem we_abs (hm : X.mg "abs" = none) (h : WA C X [e] δ μ fun xs μ1 => kAbs xs μ1 Q) (hg : Gl X "abs" := by rfl) (he : starEach [e] X.env = (false, eval e X.env) :: starEach [] X.env := by rfl) (hpl : (backTo pos (starEach [] X.env)).any (·.1) = false := by rfl) : WE C X (.Call (.Name "abs" p) [e] [] pos) δ μ Q :=
  we_callB call_abs (fun _ => cd_abs) hm (by decide +kernel) h hg (by decide) (by decide) he hpl
theorem we_all (hc : X.calm = true) (hm : X.mg "all" = none) (h : WA C X [e] δ μ fun xs μ1 => kAll xs μ1 Q) (hg : Gl X "all" := by rfl) (he : starEach [e] X.env = (false, eval e X.env) :: starEach [] X.env := by rfl) (hpl : (backTo pos (starEach [] X.env)).any (·.1) = false := by rfl) : WE C X (.Call (.Name "all" p) [e] [] pos) δ μ Q :=
  we_callB (cr_all hc) (fun _ => cd_all) hm (by decide +kernel) h hg (by decide) (by decide) he hpl
theorem we_list (hm : X.mg "list" = none) (h : WA C X [e] δ μ fun xs μ1 => kList xs μ1 Q) (hg : Gl X "list" := by rfl) (he : starEach [e] X.env = (false, eval e X.env) :: starEach [] X.env := by rfl) (hpl : (backTo pos (starEach [] X.env)).any (·.1) = false := by rfl) : WE C X (.Call (.Name "list" p) [e] [] pos) δ μ Q :=
  we_callTy call_list_of (fun _ => cd_list) hm (by decide +kernel) h hg (by decide) (by decide) he hpl
theorem we_tuple (hm : X.mg "tuple" = none) (h : WA C X [e] δ μ fun xs μ1 => kTuple xs μ1 Q) (hg : Gl X "tuple" := by rfl) (he : starEach [e] X.env = (false, eval e X.env) :: starEach [] X.env := by rfl) (hpl : (backTo pos (starEach [] X.env)).any (·.1) = false := by rfl) : WE C X (.Call (.Name "tuple" p) [e] [] pos) δ μ Q :=
  we_callTy call_tuple_of (fun _ => cd_tuple) hm (by decide +kernel) h hg (by decide) (by decide) he hpl
theorem we_str1 (hm : X.mg "str" = none) (h : WA C X [e] δ μ fun xs μ1 => kStrI xs μ1 Q) (hg : Gl X "str" := by rfl) (he : starEach [e] X.env = (false, eval e X.env) :: starEach [] X.env := by rfl) (hpl : (backTo pos (starEach [] X.env)).any (·.1) = false := by rfl) : WE C X (.Call (.Name "str" p) [e] [] pos) δ μ Q :=
  we_callTy call_str_int (fun _ => cd_strI) hm (by decide +kernel) h hg (by decide) (by decide) he hpl
theorem we_int1 (hm : X.mg "int" = none) (h : WA C X [e] δ μ fun xs μ1 => kIntB xs μ1 Q) (hg : Gl X "int" := by rfl) (he : starEach [e] X.env = (false, eval e X.env) :: starEach [] X.env := by rfl) (hpl : (backTo pos (starEach [] X.env)).any (·.1) = false := by rfl) : WE C X (.Call (.Name "int" p) [e] [] pos) δ μ Q :=
  we_callTy call_int1 (fun _ => cd_intB) hm (by decide +kernel) h hg (by decide) (by decide) he hpl
theorem we_isi (hm : X.mg "isinstance" = none) (h : WA C X (e :: es) δ μ fun xs μ1 => kIsi xs μ1 Q) (hg : Gl X "isinstance" := by rfl) (he : starEach (e :: es) X.env = (false, eval e X.env) :: starEach es X.env := by rfl) (hpl : (backTo pos (starEach es X.env)).any (·.1) = false := by rfl) : WE C X (.Call (.Name "isinstance" p) (e :: es) [] pos) δ μ Q :=
  we_callB call_isi (fun _ => cd_isi) hm (by decide +kernel) h hg (by decide) (by decide) he hpl
end
end DS

/-! DSem6: methods of lists, defs of the text: calls and bodies. -/
namespace DS
open PySem PySem.Spec PyProof.Rows L2
variable [Tbs]

/-! ### methods of lists -/
abbrev KM := SV → List SV → Mu → (SV → Mu → Prop) → Prop
def MtD (K : PySem.W.Frag) (C : DX) (r : V → List V → Hp → VK → Prop) (k : KM) : Prop :=
  ∀ F H as σ δ μ v vs x xs Q Q', Agree K C F H as σ δ μ → VOk K F as v x → VOkA K F as vs xs → k x xs μ Q → (∀ z H', Post K C F as σ δ Q z H' → Q' z H') → r v vs H Q'
section
variable {C : DX} {X : Cx} {δ : De} {μ : Mu} {Q : SV → Mu → Prop} {pos : Pos} {o e : Expr} {es : List Expr} {name : Str} {apos cpos : Pos} {id : String} {r : V → List V → Hp → VK → Prop} {k : KM}
def isL (μ : Mu) (x : SV) : Prop := ∃ j xs, x = .loc j ∧ (μ[j]? = some (.lst xs) ∨ μ[j]? = some (.frz xs))
theorem Agree.tyL {K : PySem.W.Frag} {F H : Hp} {as : List Addr} {σ : L2.St} {v : V} {x : SV} (A : Agree K C F H as σ δ μ) (r : VOk K F as v x) {xs : List D} (h : cnt μ x = some (.lst xs)) : tyV K "list" v H := by
  obtain ⟨a, vs, rfl, s, u⟩ := (A.rd r h).lst
  exact .inl ⟨rfl, vs, s⟩
theorem we_bm (slot : Slot "list" name id) (hty : typeOf (.builtin id) = pure (.type "method_descriptor")) (hm : MtR X id r) (hd : ∀ C, MtD X.K C r k)
    (h : WE C X o δ μ fun x μ1 => (∃ xs, cnt μ1 x = some (.lst xs)) ∧ WA C X (e :: es) δ μ1 fun xs μ2 => k x xs μ2 Q)
    (hbase : attributeBase o name X.env (eval o X.env) = eval o X.env := by rfl)
    (hfew : ((backTo cpos (starEach (e :: es) X.env)).all (fun x => !x.1) && (backToKw cpos (keywordEach [] X.env)).all (fun x => x.1.isSome)
      && decide ((e :: es).length + ([] : List Keyword).length + (if ([] : List Keyword).isEmpty then 0 else 1) < 30)) = true := by rfl)
    (hline : (apos.endLine == cpos.line) = true := by rfl) (hs : starEach (e :: es) X.env = (false, eval e X.env) :: starEach es X.env := by rfl) (hplain : (backTo cpos (starEach es X.env)).any (·.1) = false := by rfl) :
    WE C X (.Call (.Attribute o name apos) (e :: es) [] cpos) δ μ Q := fun F0 F H as σ A =>
  tm_of (pe_bm PySem.F.plainAttrs_list slot hty hm pe_tm pa_tm hbase hfew hline hs hplain) (tm_mono (h F0 F H as σ A) fun v H1 ⟨F1, as1, μ1, x, e1, p1, A1, r1, ⟨ys, hy⟩, q1⟩ =>
    ⟨A1.tyL r1 hy, tmA_mono (q1 F0 F1 H1 as1 σ A1) fun vs H2 ⟨F2, as2, μ2, xs, e2, p2, A2, r2, q2⟩ =>
      hd _ F2 H2 as2 σ δ μ2 v vs x xs Q _ A2 (r1.mono e2 p2) r2 q2 fun _ _ z => z.back (e1.trans e2) (p1.trans p2)⟩)
theorem we_bm0 (slot : Slot "list" name id) (hty : typeOf (.builtin id) = pure (.type "method_descriptor")) (hm : MtR X id r) (hd : ∀ C, MtD X.K C r k)
    (h : WE C X o δ μ fun x μ1 => (∃ xs, cnt μ1 x = some (.lst xs)) ∧ k x [] μ1 Q)
    (hbase : attributeBase o name X.env (eval o X.env) = eval o X.env := by rfl) (hline : (apos.endLine == cpos.line) = true := by rfl) :
    WE C X (.Call (.Attribute o name apos) [] [] cpos) δ μ Q := fun F0 F H as σ A =>
  tm_of (pe_bm0 PySem.F.plainAttrs_list slot hty hm pe_tm hbase hline) (tm_mono (h F0 F H as σ A) fun v H1 ⟨F1, as1, μ1, x, e1, p1, A1, r1, ⟨ys, hy⟩, q1⟩ =>
    ⟨A1.tyL r1 hy, hd _ F1 H1 as1 σ δ μ1 v [] x [] Q _ A1 r1 .nil q1 fun _ _ z => z.back e1 p1⟩)
end
section
variable {K : PySem.W.Frag} {C : DX}
theorem pairA0 {F : Hp} {as : List Addr} {vs : List V} (r : VOkA K F as vs []) : vs = [] := by cases r; rfl
/-- a list of the store: where it stands -/
theorem Agree.at {F H : Hp} {as : List Addr} {σ : L2.St} {δ : De} {μ : Mu} {v : V} {k : Nat} {xs : List D} (A : Agree K C F H as σ δ μ) (r : VOk K F as v (.loc k)) (h : μ[k]? = some (.lst xs)) : ∃ a vs, as[k]? = some a ∧ v = .ref a ∧ H a = some (.lst vs) ∧ RepA K F vs xs := by
  obtain ⟨a, ha, rfl⟩ := r
  obtain ⟨_, _, o, hH, vs, rfl, u⟩ := A.own k _ a h ha rfl
  exact ⟨a, vs, ha, rfl, hH, u⟩
theorem Agree.setL {F H : Hp} {as : List Addr} {σ : L2.St} {δ : De} {μ : Mu} {k : Nat} {a : Addr} {xs ys : List D} {ws : List V} (A : Agree K C F H as σ δ μ) (h : μ[k]? = some (.lst xs)) (ha : as[k]? = some a) (u : RepA K F ws ys) : Agree K C F (upd H a (.lst ws)) as σ δ (μ.set k (.lst ys)) :=
  A.write h ha rfl rfl ⟨ws, rfl, u⟩
def kAppend : KM := fun x args μ Q => ∃ k s d μ' ys, x = .loc k ∧ args = [s] ∧ fz μ s = some (d, μ') ∧ μ'[k]? = some (.lst ys) ∧ ys.length < sizeLine ∧ Q (.d .non) (μ'.set k (.lst (ys ++ [d])))
theorem md_append : MtD K C rAppend kAppend := fun F H as σ δ μ v vs x xs Q Q' A rx r1 ⟨k, s, d, μ', ys, h0, h1, h2, h3, hz, q⟩ f => by
  subst h0 h1
  obtain ⟨w, rfl, r⟩ := pair1 r1
  obtain ⟨F', e, A', rd⟩ := A.fz r h2
  obtain ⟨a, vs, ha, rfl, hH, u⟩ := A'.at (rx.mono e (List.prefix_refl _)) h3
  refine ⟨a, vs, w, rfl, rfl, hH, by rw [u.length]; exact hz, f _ _ (Post.back e (List.prefix_refl _) ((A'.setL h3 ha (u.append (.cons rd .nil))).dat .non q))⟩
def kRemove : KM := fun x args μ Q => ∃ (k : Nat) (s : SV) (i : Int) (ns : List Int), x = .loc k ∧ args = [s] ∧ cnt μ s = some (.int i) ∧ μ[k]? = some (.lst (ns.map D.int)) ∧ i ∈ ns ∧ Q (.d .non) (μ.set k (.lst ((ns.erase i).map D.int)))
theorem first_at (i : Int) : ∀ {ns : List Int}, i ∈ ns → ∃ j, ns[j]? = some i ∧ (∀ m : Nat, m < j → ns[m]? ≠ some i) ∧ ns.eraseIdx j = ns.erase i
  | [], h => by cases h
  | n :: ns, h => by
    by_cases e : n = i
    · subst e
      exact ⟨0, rfl, fun m hm => absurd hm (Nat.not_lt_zero _), by simp⟩
    · have h' : i ∈ ns := by
        rcases List.mem_cons.mp h with q | q
        · exact absurd q.symm e
        · exact q
      obtain ⟨j, a, b, c⟩ := first_at i h'
      refine ⟨j + 1, by simpa using a, fun m hm => ?_, ?_⟩
      · cases m with
        | zero => simpa using e
        | succ m => simpa using b m (by omega)
      · rw [List.eraseIdx_cons_succ, c, List.erase_cons_tail (by simpa using e)]
theorem md_remove : MtD K C rRemI kRemove := fun F H as σ δ μ v vs x xs Q Q' A rx r1 ⟨k, s, i, ns, h0, h1, h2, h3, hi, q⟩ f => by
  subst h0 h1
  obtain ⟨w, rfl, r⟩ := pair1 r1
  obtain ⟨a, vs, ha, rfl, hH, u⟩ := A.at rx h3
  rw [u.inv_ints] at hH
  obtain ⟨j, a1, a2, a3⟩ := first_at i hi
  refine ⟨a, ns, i, j, rfl, by rw [A.rdI r h2], hH, a1, a2, ?_⟩
  rw [a3]
  exact f _ _ ((A.setL h3 ha (RepA.ints _)).dat .non q)
def kPopAt : KM := fun x args μ Q => ∃ (k : Nat) (s : SV) (i : Nat) (xs : List D) (d : D), x = .loc k ∧ args = [s] ∧ cnt μ s = some (.int (i : Int)) ∧ μ[k]? = some (.lst xs) ∧ xs.length ≤ sizeLine ∧ xs[i]? = some d ∧ Q (.d d) (μ.set k (.lst (xs.eraseIdx i)))
theorem md_popAt : MtD K C rPopAt kPopAt := fun F H as σ δ μ v vs x xs Q Q' A rx r1 ⟨k, s, i, xs', d, h0, h1, h2, h3, hz, hd, q⟩ f => by
  subst h0 h1
  obtain ⟨w, rfl, r⟩ := pair1 r1
  obtain ⟨a, vs, ha, rfl, hH, u⟩ := A.at rx h3
  obtain ⟨y, hy, ry⟩ := u.get hd
  have hl : i < vs.length := (List.getElem?_eq_some_iff.mp hy).1
  have hb : (vs.length : Int) ≤ 16777216 := by
    rw [u.length]
    rw [sizeLine_eq] at hz
    omega
  refine ⟨a, vs, (i : Int), i, y, rfl, by rw [A.rdI r h2], hH, by omega, by omega, ?_, hy, f _ _ ((A.setL h3 ha (u.erase i)).dat ry q)⟩
  have := (ixN_seq (n := vs.length) (i := (i : Int)) (j := i) (by unfold ixN; rw [if_pos (by omega), if_pos (by omega)]; rfl)).1
  exact this
def kPop : KM := fun x args μ Q => ∃ (k : Nat) (xs : List D) (d : D), x = .loc k ∧ args = [] ∧ μ[k]? = some (.lst xs) ∧ xs[xs.length - 1]? = some d ∧ Q (.d d) (μ.set k (.lst xs.dropLast))
theorem RepA.dropLast {F : Hp} {vs : List V} {ds : List D} (h : RepA K F vs ds) : RepA K F vs.dropLast ds.dropLast := by
  rw [List.dropLast_eq_take, List.dropLast_eq_take, h.length]
  exact h.take _
theorem md_pop : MtD K C rPop kPop := fun F H as σ δ μ v vs x xs Q Q' A rx r1 ⟨k, xs', d, h0, h1, h3, hd, q⟩ f => by
  subst h0 h1
  cases pairA0 r1
  obtain ⟨a, vs, ha, rfl, hH, u⟩ := A.at rx h3
  obtain ⟨y, hy, ry⟩ := u.get hd
  exact ⟨a, vs, y, rfl, rfl, hH, by rw [u.length]; exact hy, f _ _ ((A.setL h3 ha u.dropLast).dat ry q)⟩
def kIndex : KM := fun x args μ Q => ∃ (s : SV) (i : Int) (ns : List Int) (j : Nat), args = [s] ∧ cnt μ s = some (.int i) ∧ cnt μ x = some (.lst (ns.map D.int)) ∧ ns[j]? = some i ∧ (∀ m : Nat, m < j → ns[m]? ≠ some i) ∧ Q (.d (.int (j : Nat))) μ
theorem md_index : MtD K C (rIndex K) kIndex := fun F H as σ δ μ v vs x xs Q Q' A rx r1 ⟨s, i, ns, j, h1, h2, h3, hj, hf, q⟩ f => by
  subst h1
  obtain ⟨w, rfl, r⟩ := pair1 r1
  obtain ⟨a, ws, rfl, hs, u⟩ := (A.rd rx h3).lst
  rw [u.inv_ints] at hs
  refine ⟨a, _, .int i, j, .int i, rfl, by rw [A.rdI r h2], hs, rfl, flat_ints ns, by rw [List.getElem?_map, hj]; rfl, by simp [eqV], fun m z' hm hz' => ?_, f _ _ (A.dat (.int _) q)⟩
  rw [List.getElem?_map] at hz'
  cases e : ns[m]? with
  | none => rw [e] at hz'; cases hz'
  | some y =>
    rw [e] at hz'
    cases hz'
    have : y ≠ i := fun z => hf m hm (by rw [e, z])
    simp [eqV]
    omega
end
section
variable {C : DX} {X : Cx} {δ : De} {μ : Mu} {Q : SV → Mu → Prop} {pos : Pos} {o e : Expr} {es : List Expr} {name : Str} {apos cpos : Pos}
theorem we_append (h : WE C X o δ μ fun x μ1 => (∃ xs, cnt μ1 x = some (.lst xs)) ∧ WA C X [e] δ μ1 fun xs μ2 => kAppend x xs μ2 Q)
    (hbase : attributeBase o "append" X.env (eval o X.env) = eval o X.env := by rfl)
    (hfew : ((backTo cpos (starEach [e] X.env)).all (fun x => !x.1) && (backToKw cpos (keywordEach [] X.env)).all (fun x => x.1.isSome)
      && decide ([e].length + ([] : List Keyword).length + (if ([] : List Keyword).isEmpty then 0 else 1) < 30)) = true := by rfl)
    (hline : (apos.endLine == cpos.line) = true := by rfl) (hs : starEach [e] X.env = (false, eval e X.env) :: starEach [] X.env := by rfl) (hplain : (backTo cpos (starEach [] X.env)).any (·.1) = false := by rfl) :
    WE C X (.Call (.Attribute o "append" apos) [e] [] cpos) δ μ Q := we_bm PySem.F.slot_list_append PySem.F.type_list_append mt_append (fun _ => md_append) h hbase hfew hline hs hplain
theorem we_remove (h : WE C X o δ μ fun x μ1 => (∃ xs, cnt μ1 x = some (.lst xs)) ∧ WA C X [e] δ μ1 fun xs μ2 => kRemove x xs μ2 Q)
    (hbase : attributeBase o "remove" X.env (eval o X.env) = eval o X.env := by rfl)
    (hfew : ((backTo cpos (starEach [e] X.env)).all (fun x => !x.1) && (backToKw cpos (keywordEach [] X.env)).all (fun x => x.1.isSome)
      && decide ([e].length + ([] : List Keyword).length + (if ([] : List Keyword).isEmpty then 0 else 1) < 30)) = true := by rfl)
    (hline : (apos.endLine == cpos.line) = true := by rfl) (hs : starEach [e] X.env = (false, eval e X.env) :: starEach [] X.env := by rfl) (hplain : (backTo cpos (starEach [] X.env)).any (·.1) = false := by rfl) :
    WE C X (.Call (.Attribute o "remove" apos) [e] [] cpos) δ μ Q := we_bm PySem.F.slot_list_remove PySem.F.type_list_remove mt_remove (fun _ => md_remove) h hbase hfew hline hs hplain
theorem we_popAt (h : WE C X o δ μ fun x μ1 => (∃ xs, cnt μ1 x = some (.lst xs)) ∧ WA C X [e] δ μ1 fun xs μ2 => kPopAt x xs μ2 Q)
    (hbase : attributeBase o "pop" X.env (eval o X.env) = eval o X.env := by rfl)
    (hfew : ((backTo cpos (starEach [e] X.env)).all (fun x => !x.1) && (backToKw cpos (keywordEach [] X.env)).all (fun x => x.1.isSome)
      && decide ([e].length + ([] : List Keyword).length + (if ([] : List Keyword).isEmpty then 0 else 1) < 30)) = true := by rfl)
    (hline : (apos.endLine == cpos.line) = true := by rfl) (hs : starEach [e] X.env = (false, eval e X.env) :: starEach [] X.env := by rfl) (hplain : (backTo cpos (starEach [] X.env)).any (·.1) = false := by rfl) :
    WE C X (.Call (.Attribute o "pop" apos) [e] [] cpos) δ μ Q := we_bm PySem.F.slot_list_pop PySem.F.type_list_pop mt_popAt (fun _ => md_popAt) h hbase hfew hline hs hplain
theorem we_index (h : WE C X o δ μ fun x μ1 => (∃ xs, cnt μ1 x = some (.lst xs)) ∧ WA C X [e] δ μ1 fun xs μ2 => kIndex x xs μ2 Q)
    (hbase : attributeBase o "index" X.env (eval o X.env) = eval o X.env := by rfl)
    (hfew : ((backTo cpos (starEach [e] X.env)).all (fun x => !x.1) && (backToKw cpos (keywordEach [] X.env)).all (fun x => x.1.isSome)
      && decide ([e].length + ([] : List Keyword).length + (if ([] : List Keyword).isEmpty then 0 else 1) < 30)) = true := by rfl)
    (hline : (apos.endLine == cpos.line) = true := by rfl) (hs : starEach [e] X.env = (false, eval e X.env) :: starEach [] X.env := by rfl) (hplain : (backTo cpos (starEach [] X.env)).any (·.1) = false := by rfl) :
    WE C X (.Call (.Attribute o "index" apos) [e] [] cpos) δ μ Q := we_bm PySem.F.slot_list_index PySem.F.type_list_index mt_index (fun _ => md_index) h hbase hfew hline hs hplain
theorem we_pop (h : WE C X o δ μ fun x μ1 => (∃ xs, cnt μ1 x = some (.lst xs)) ∧ kPop x [] μ1 Q)
    (hbase : attributeBase o "pop" X.env (eval o X.env) = eval o X.env := by rfl) (hline : (apos.endLine == cpos.line) = true := by rfl) :
    WE C X (.Call (.Attribute o "pop" apos) [] [] cpos) δ μ Q := we_bm0 PySem.F.slot_list_pop PySem.F.type_list_pop mt_pop (fun _ => md_pop) h hbase hline
end

/-! ### defs of the text -/
inductive Exc where
  | own (C : Addr)
  | fld (C : Addr) (fs : List (Str × D))
def ExOk (K : PySem.W.Frag) (x : Exc) (cls : Value) (d : Option Addr) (H : Hp) : Prop := match x with
  | .own C => cls = .ref C ∧ d = none
  | .fld C fs => cls = .ref C ∧ ∃ dx gs, d = some dx ∧ H dx = some (.xd gs) ∧ Paired (fun (p : Str × V) (q : Str × D) => p.1 = q.1 ∧ Rep K H p.2 q.2) gs fs
/-- what a def promises: the mutable arguments first (their contents), then data; what follows from the result and the contents behind; what is raised -/
abbrev Pr := List MO → List D → (Res → List MO → Prop) → (Exc → Prop) → Prop
def Own (K : PySem.W.Frag) (F H : Hp) (ps : List Addr) (os : List MO) : Prop := ps.length = os.length ∧ ps.Nodup ∧ ∀ (k : Nat) (m : MO) (a : Addr), os[k]? = some m → ps[k]? = some a → live m = true ∧ F a = none ∧ ∃ o, H a = some o ∧ MC K F o m
/-- nothing, or a table -/
def Fr (H : Hp) (a : Addr) : Prop := ∀ o, H a = some o → ∃ q, o = .tbl q
structure Ret (K : PySem.W.Frag) (F H : Hp) (ps : List Addr) (os' : List MO) (F' H' : Hp) : Prop where
  sF : Same F F'
  sH : Same F' H'
  nw : ∀ (a : Addr) (o : HO), F' a = some o → F a = some o ∨ Fr H a
  own : Own K F' H' ps os'
  keep : ∀ (a : Addr) (o : HO), H a = some o → nt o → a ∉ ps → H' a = some o
  fT : ∀ (a : Addr) (o : HO), F' a = some o → nt o
  tb : LamX.Tabs Tbs.tabs H'
def RetV (K : PySem.W.Frag) (F' H H' : Hp) (v : V) : Res → Prop
  | .dat d => Rep K F' v d
  | .new m => ∃ l o, v = .ref l ∧ live m = true ∧ F' l = none ∧ Fr H l ∧ H' l = some o ∧ MC K F' o m
def spOf (K : PySem.W.Frag) (pr : Pr) : Sp := fun vs H Q E => ∃ (F : Hp) (ps : List Addr) (os : List MO) (ds : List D) (ws : List V), vs = ps.map V.ref ++ ws ∧ RepA K F ws ds ∧ Same F H ∧ Own K F H ps os ∧ (∀ (a : Addr) (o : HO), F a = some o → nt o) ∧ LamX.Tabs Tbs.tabs H ∧
  pr os ds (fun r os' => ∀ v F' H', Ret K F H ps os' F' H' → RetV K F' H H' v r → Q v H') (fun x => ∀ cls d H', (∀ (a : Addr) (o : HO), H a = some o → nt o → a ∉ ps → H' a = some o) → LamX.Tabs Tbs.tabs H' → ExOk K x cls d H' → E cls d H')
/-- what this body may raise is wished for -/
def TakesD (X : Cx) (C : DX) (ex : Exc → Prop) : Prop := Takes X (fun cls d _ H' => ∃ x, ex x ∧ Same C.R H' ∧ LamX.Tabs Tbs.tabs H' ∧ ExOk X.K x cls d H')
theorem takesF {X : Cx} {C : DX} : TakesD X C (fun _ => False) := fun u s' ⟨_, _, _, _, _, _, _, _, _, _, _, _, _, _, _, _, x, z, _⟩ => z.elim

section
variable {K : PySem.W.Frag} {C : DX} {F F' H H' : Hp} {as : List Addr} {σ : L2.St} {δ : De} {μ : Mu}
theorem Agree.after (A : Agree K C F H as σ δ μ) (sF : Same F F') (sH : Same F' H') (nw : ∀ a o, F' a = some o → F a = some o ∨ Fr H a) (keep : ∀ a o, H a = some o → nt o → H' a = some o) (fT : ∀ (a : Addr) (o : HO), F' a = some o → nt o) (tb : LamX.Tabs Tbs.tabs H') : Agree K C F' H' as σ δ μ := by
  refine ⟨A.f0.trans sF, fun a o e => ?_, fun a o e => keep a o (A.rH a o e) (A.rT a o e), sH, A.las, A.pre, A.nd, fun k m a h1 h2 h3 => ?_, fun k xs a h1 h2 => (A.frz k xs a h1 h2).mono sF, A.lσ, fun i sv h => ?_, fT, A.rT, tb⟩
  · rcases nw a o e with q | q
    · exact A.fr a o q
    · refine .inr ?_
      cases z : C.R a with
      | none => rfl
      | some u =>
        obtain ⟨q', e'⟩ := q u (A.rH a u z)
        exact absurd e' (A.rT a u z q')
  · obtain ⟨q1, q2, o, q3, q4⟩ := A.own k m a h1 h2 h3
    have n3 := (mc_nt q4 h3).1
    refine ⟨?_, q2, o, keep a o q3 n3, q4.mono sF⟩
    cases e : F' a with
    | none => rfl
    | some u =>
      rcases nw a u e with q | q
      · rw [q1] at q; cases q
      · obtain ⟨q', e'⟩ := q o q3
        exact absurd e' (n3 q')
  · obtain ⟨v, q1, q2⟩ := A.val i sv h
    exact ⟨v, q1, q2.mono sF (List.prefix_refl _)⟩
theorem Agree.after1 (A : Agree K C F H as σ δ μ) {k : Nat} {b : Addr} {m m' : MO} {ob : HO} (hk : μ[k]? = some m) (ha : as[k]? = some b) (lm : live m = true) (lm' : live m' = true) (sF : Same F F') (sH : Same F' H') (nw : ∀ a o, F' a = some o → F a = some o ∨ Fr H a)
    (keep : ∀ a o, H a = some o → nt o → a ≠ b → H' a = some o) (fT : ∀ (a : Addr) (o : HO), F' a = some o → nt o) (tb : LamX.Tabs Tbs.tabs H') (fb : F' b = none) (hb : H' b = some ob) (hm : MC K F' ob m') : Agree K C F' H' as σ δ (μ.set k m') := by
  obtain ⟨hF, hR, u0, hH, _⟩ := A.own k m b hk ha lm
  have hkl : k < μ.length := (List.getElem?_eq_some_iff.mp hk).1
  have get : ∀ j x, (μ.set k m')[j]? = some x → (j = k ∧ x = m') ∨ (j ≠ k ∧ μ[j]? = some x) := fun j x h => by
    by_cases e : j = k
    · subst e; rw [List.getElem?_set_self hkl] at h; exact .inl ⟨rfl, (Option.some.inj h).symm⟩
    · rw [List.getElem?_set_ne (Ne.symm e)] at h; exact .inr ⟨e, h⟩
  have lv : ∀ j x, (μ.set k m')[j]? = some x → live x = true → ∃ y, μ[j]? = some y ∧ live y = true := fun j x h l => by
    rcases get j x h with ⟨e, q⟩ | ⟨e, q⟩
    · subst e; exact ⟨m, hk, lm⟩
    · exact ⟨x, q, l⟩
  refine ⟨A.f0.trans sF, fun a o e => ?_, fun a o e => keep a o (A.rH a o e) (A.rT a o e) (ne_of_none e hR), sH, by rw [List.length_set]; exact A.las, A.pre, ?_, ?_, ?_, A.lσ, fun i sv h => ?_, fT, A.rT, tb⟩
  · rcases nw a o e with q | q
    · exact A.fr a o q
    · refine .inr ?_
      cases z : C.R a with
      | none => rfl
      | some u =>
        obtain ⟨q', e'⟩ := q u (A.rH a u z)
        exact absurd e' (A.rT a u z q')
  · intro i j c m1 m2 a1 a2 b1 b2 l1 l2
    obtain ⟨y1, c1, d1⟩ := lv i m1 b1 l1
    obtain ⟨y2, c2, d2⟩ := lv j m2 b2 l2
    exact A.nd i j c y1 y2 a1 a2 c1 c2 d1 d2
  · intro j m1 c b1 a1 l1
    rcases get j m1 b1 with ⟨e, q⟩ | ⟨e, q⟩
    · subst e q
      rw [ha] at a1; cases a1
      exact ⟨fb, hR, ob, hb, hm⟩
    · obtain ⟨q1, q2, u, q3, q4⟩ := A.own j m1 c q a1 l1
      have ne : c ≠ b := fun z => e (by subst z; exact A.nd j k c m1 m a1 ha q hk l1 lm)
      have n3 := (mc_nt q4 l1).1
      refine ⟨?_, q2, u, keep c u q3 n3 ne, q4.mono sF⟩
      cases e2 : F' c with
      | none => rfl
      | some u2 =>
        rcases nw c u2 e2 with q' | q'
        · rw [q1] at q'; cases q'
        · obtain ⟨q'', e'⟩ := q' u q3
          exact absurd e' (n3 q'')
  · intro j xs c b1 a1
    rcases get j _ b1 with ⟨e, q⟩ | ⟨e, q⟩
    · subst q; cases lm'
    · exact (A.frz j xs c q a1).mono sF
  · obtain ⟨v, q1, q2⟩ := A.val i sv h
    exact ⟨v, q1, q2.mono sF (List.prefix_refl _)⟩
/-- a thing that has come is taken into the store -/
theorem Agree.adopt (A : Agree K C F H as σ δ μ) {p : Addr} {o : HO} {m : MO} (hne : ∀ (k : Nat) (m' : MO) (a : Addr), μ[k]? = some m' → as[k]? = some a → live m' = true → a ≠ p) (hF : F p = none) (hR : C.R p = none) (hp : H p = some o) (lm : live m = true) (hm : MC K F o m) : Agree K C F H (as ++ [p]) σ δ (μ ++ [m]) := by
  have pf : as <+: as ++ [p] := List.prefix_append _ _
  have cases : ∀ {α β : Type} (xs : List α) (ys : List β) (x : α) (y : β) (k : Nat) (u : α) (v : β), xs.length = ys.length → (xs ++ [x])[k]? = some u → (ys ++ [y])[k]? = some v → (xs[k]? = some u ∧ ys[k]? = some v) ∨ (k = xs.length ∧ u = x ∧ v = y) := by
    intro α β xs ys x y k u v hl h1 h2
    by_cases hk : k < xs.length
    · rw [List.getElem?_append_left hk] at h1
      rw [List.getElem?_append_left (by omega)] at h2
      exact .inl ⟨h1, h2⟩
    · have : k < (xs ++ [x]).length := (List.getElem?_eq_some_iff.mp h1).1
      rw [List.length_append, List.length_singleton] at this
      have e : k = xs.length := by omega
      subst e
      rw [List.getElem?_append_right (Nat.le_refl _), Nat.sub_self] at h1
      rw [List.getElem?_append_right (by omega)] at h2
      rw [hl, Nat.sub_self] at h2
      exact .inr ⟨rfl, (Option.some.inj h1).symm, (Option.some.inj h2).symm⟩
  refine ⟨A.f0, A.fr, A.rH, A.fH, ?_, A.pre.trans pf, ?_, ?_, ?_, A.lσ, fun i sv h => ?_, A.fT, A.rT, A.tb⟩
  · rw [List.length_append, List.length_append, A.las]; rfl
  · intro i j a m1 m2 a1 a2 b1 b2 l1 l2
    rcases cases as μ p m i a m1 A.las a1 b1 with ⟨x1, y1⟩ | ⟨e1, x1, y1⟩
    · rcases cases as μ p m j a m2 A.las a2 b2 with ⟨x2, y2⟩ | ⟨e2, x2, y2⟩
      · exact A.nd i j a m1 m2 x1 x2 y1 y2 l1 l2
      · exact absurd x2 (hne i m1 a y1 x1 l1)
    · rcases cases as μ p m j a m2 A.las a2 b2 with ⟨x2, y2⟩ | ⟨e2, x2, y2⟩
      · exact absurd x1 (hne j m2 a y2 x2 l2)
      · rw [e1, e2]
  · intro k m1 a b1 a1 l1
    rcases cases as μ p m k a m1 A.las a1 b1 with ⟨x1, y1⟩ | ⟨e1, x1, y1⟩
    · exact A.own k m1 a y1 x1 l1
    · subst x1 y1
      exact ⟨hF, hR, o, hp, hm⟩
  · intro k xs a b1 a1
    rcases cases as μ p m k a _ A.las a1 b1 with ⟨x1, y1⟩ | ⟨e1, x1, y1⟩
    · exact A.frz k xs a y1 x1
    · subst y1; cases lm
  · obtain ⟨v, q1, q2⟩ := A.val i sv h
    exact ⟨v, q1, q2.mono (Same.refl _) pf⟩
/-- the result behind a call -/
theorem Agree.putR {Q : SV → Mu → Prop} {H0 : Hp} {r : Res} {v : V} (A : Agree K C F H as σ δ μ) (hne : ∀ (k : Nat) (m' : MO) (a : Addr), μ[k]? = some m' → as[k]? = some a → live m' = true → ∃ o, H0 a = some o ∧ nt o) (h0 : Same C.R H0) (rv : RetV K F H0 H v r) (q : putR r μ Q) : Post K C F as σ δ Q v H := by
  cases r with
  | dat d => exact A.dat rv q
  | new m =>
    obtain ⟨l, o, rfl, lm, f1, h1, h2, hm⟩ := rv
    refine ⟨F, as ++ [l], _, .loc μ.length, Same.refl _, List.prefix_append _ _, A.adopt (fun k m' a x y z => ?_) f1 (by
      cases z : C.R l with
      | none => rfl
      | some u =>
        obtain ⟨q', e'⟩ := h1 u (h0 l u z)
        exact absurd e' (A.rT l u z q')) h2 lm hm, ⟨l, ?_, rfl⟩, q⟩
    · obtain ⟨o', e, en⟩ := hne k m' a x y z
      intro e2
      rw [e2] at e
      obtain ⟨q', e'⟩ := h1 o' e
      exact en q' e'
    · rw [← A.las, List.getElem?_append_right (Nat.le_refl _), Nat.sub_self]
      rfl
end

def flatD : D → Bool
  | .non => true
  | .bl _ => true
  | .int _ => true
  | .str _ => true
  | _ => false
def flatR : Res → Prop
  | .dat d => flatD d = true
  | .new (.lst xs) => ∀ x ∈ xs, flatD x = true
  | _ => False
theorem Rep.flat {K : PySem.W.Frag} {F F' : Hp} {v : V} {d : D} (r : Rep K F v d) (h : flatD d = true) : Rep K F' v d := by
  cases r <;> first | (exact Bool.noConfusion h) | constructor
theorem RepA.flat {K : PySem.W.Frag} {F F' : Hp} : ∀ {vs : List V} {ds : List D}, RepA K F vs ds → (∀ x ∈ ds, flatD x = true) → RepA K F' vs ds
  | _, _, .nil, _ => .nil
  | _, _, .cons r t, h => .cons (r.flat (h _ (List.mem_cons_self ..))) (t.flat fun x hx => h x (List.mem_cons_of_mem _ hx))
def noT : Option HO → Option HO
  | some (.tbl _) => none
  | o => o
theorem noT_some {o : Option HO} {u : HO} (h : noT o = some u) : o = some u ∧ nt u := by
  cases o with
  | none => cases h
  | some v => cases v <;> first | (cases h; done) | (cases h; exact ⟨rfl, fun q z => by cases z⟩)
theorem noT_nt {o : Option HO} {u : HO} (h : o = some u) (n : nt u) : noT o = some u := by
  subst h
  cases u <;> first | rfl | exact absurd rfl (n _)
/-- the heap without its tables -/
def ntp (H : Hp) : Hp := fun a => noT (H a)
theorem ntp_same (H : Hp) : Same (ntp H) H := fun a o h => (noT_some h).1
theorem ntp_nt (H : Hp) : ∀ (a : Addr) (o : HO), ntp H a = some o → nt o := fun a o h => (noT_some h).2
theorem sqL_ntp {K : PySem.W.Frag} {H : Hp} {a : Addr} {xs : List V} (h : SqL K H a xs) : SqL K (ntp H) a xs := by
  rcases h with (h | ⟨o, h⟩) | h
  · exact .inl (.inl (noT_nt h fun q z => by cases z))
  · exact .inl (.inr ⟨o, noT_nt h fun q z => by cases z⟩)
  · exact .inr h
theorem sqT_ntp {K : PySem.W.Frag} {H : Hp} {a : Addr} {xs : List V} (h : SqT K H a xs) : SqT K (ntp H) a xs := by
  rcases h with (h | ⟨o, h⟩) | h
  · exact .inl (.inl (noT_nt h fun q z => by cases z))
  · exact .inl (.inr ⟨o, noT_nt h fun q z => by cases z⟩)
  · exact .inr h
mutual
theorem Rep.ntp {K : PySem.W.Frag} {H : Hp} : ∀ {v : V} {d : D}, Rep K H v d → Rep K (ntp H) v d
  | _, _, .non => .non
  | _, _, .bl b => .bl b
  | _, _, .int i => .int i
  | _, _, .str x => .str x
  | _, _, .lst s a => .lst (sqL_ntp s) (RepA.ntp a)
  | _, _, .tup s a => .tup (sqT_ntp s) (RepA.ntp a)
  | _, _, .raw v => .raw v
theorem RepA.ntp {K : PySem.W.Frag} {H : Hp} : ∀ {vs : List V} {ds : List D}, RepA K H vs ds → RepA K (ntp H) vs ds
  | _, _, .nil => .nil
  | _, _, .cons h t => .cons (Rep.ntp h) (RepA.ntp t)
end
/-- the three ways of a call: all arguments data (lists are frozen); the first a mutable thing of the store; lists lent, a flat answer -/
def kCall (pr : Pr) (ex : Exc → Prop) : KC := fun svs μ Q =>
  (∃ ds μ', fzs μ svs = some (ds, μ') ∧ pr [] ds (fun r _ => putR r μ' Q) ex) ∨
  (∃ k xs ds μ' m, svs = .loc k :: xs ∧ fzs μ xs = some (ds, μ') ∧ μ'[k]? = some m ∧ live m = true ∧ pr [m] ds (fun r os' => ∃ m', os' = [m'] ∧ live m' = true ∧ putR r (μ'.set k m') Q) ex) ∨
  (∃ ds, cnts μ svs = some ds ∧ pr [] ds (fun r _ => flatR r ∧ putR r μ Q) ex)
theorem own0 {K : PySem.W.Frag} {F H : Hp} : Own K F H [] [] := ⟨rfl, List.nodup_nil, fun k m a h => by simp at h⟩
theorem vok_nil {K : PySem.W.Frag} {F : Hp} {as : List Addr} {vs : List V} {x : SV} {xs : List SV} (r : VOkA K F as vs (x :: xs)) : ∃ v ws, vs = v :: ws ∧ VOk K F as v x ∧ VOkA K F as ws xs := by
  cases r with | cons a b => exact ⟨_, _, rfl, a, b⟩
section
variable {C : DX} {X : Cx} {δ : De} {μ : Mu} {Q : SV → Mu → Prop}
theorem call_core {pr : Pr} {ex : Exc → Prop} {F H : Hp} {as : List Addr} {σ : L2.St} {vs : List V} {svs : List SV} {Q' : VK} (A : Agree X.K C F H as σ δ μ) (r : VOkA X.K F as vs svs) (h : kCall pr ex svs μ Q) (f : ∀ z H', Post X.K C F as σ δ Q z H' → Q' z H')
    (mono : ∀ os ds (p p' : Res → List MO → Prop) (x x' : Exc → Prop), (∀ r o, p r o → p' r o) → (∀ y, x y → x' y) → pr os ds p x → pr os ds p' x') : spOf X.K pr vs H Q' (fun cls d H' => ∃ x, ex x ∧ Same C.R H' ∧ LamX.Tabs Tbs.tabs H' ∧ ExOk X.K x cls d H') := by
  rcases h with ⟨ds, μ', hz, h⟩ | ⟨k, xs, ds, μ', m, rfl, hz, hk, lm, h⟩ | ⟨ds, hz, h⟩
  · obtain ⟨F1, e1, A1, ra⟩ := Agree.fzs A r hz
    refine ⟨F1, [], [], ds, vs, rfl, ra, A1.fH, own0, A1.fT, A1.tb, mono _ _ _ _ _ _ (fun r' o q v F' H' R rv => ?_) (fun y hy cls d H' kp tbs eo => ⟨y, hy, fun a o e => kp a o (A1.rH a o e) (A1.rT a o e) (by simp), tbs, eo⟩) h⟩
    have A2 := A1.after R.sF R.sH R.nw (fun a o e n => R.keep a o e n (by simp)) R.fT R.tb
    refine f _ _ ((Agree.putR (H0 := H) A2 (fun k m' a x y z => ?_) A1.rH rv q).back (e1.trans R.sF) (List.prefix_refl _))
    obtain ⟨_, _, o, e, hmc⟩ := A1.own k m' a x y z
    exact ⟨o, e, (mc_nt hmc z).1⟩
  · obtain ⟨v0, ws, rfl, r0, rr⟩ := vok_nil r
    obtain ⟨b, hb, rfl⟩ := r0
    obtain ⟨F1, e1, A1, ra⟩ := Agree.fzs A rr hz
    obtain ⟨bF, bR, ob, bH, bm⟩ := A1.own k m b hk hb lm
    refine ⟨F1, [b], [m], ds, ws, rfl, ra, A1.fH, ⟨rfl, by simp, fun j m' a x y => ?_⟩, A1.fT, A1.tb, mono _ _ _ _ _ _ (fun r' o q v F' H' R rv => ?_) (fun y hy cls d H' kp tbs eo => ⟨y, hy, fun a o e => kp a o (A1.rH a o e) (A1.rT a o e) (by simp; exact ne_of_none e bR), tbs, eo⟩) h⟩
    · cases j with
      | zero => cases x; cases y; exact ⟨lm, bF, ob, bH, bm⟩
      | succ j => simp at x
    obtain ⟨m', rfl, lm', q⟩ := q
    obtain ⟨_, fb, ob', hb', mb'⟩ := R.own.2.2 0 m' b rfl rfl
    have A2 := A1.after1 hk hb lm lm' R.sF R.sH R.nw (fun a o e n ne => R.keep a o e n (by simpa using ne)) R.fT R.tb fb hb' mb'
    refine f _ _ ((Agree.putR (H0 := H) A2 (fun j m2 a x y z => ?_) A1.rH rv q).back (e1.trans R.sF) (List.prefix_refl _))
    by_cases e : j = k
    · subst e; rw [hb] at y; cases y; exact ⟨ob, bH, (mc_nt bm lm).1⟩
    · rw [List.getElem?_set_ne (Ne.symm e)] at x
      obtain ⟨_, _, o, e, hmc⟩ := A1.own j m2 a x y z
      exact ⟨o, e, (mc_nt hmc z).1⟩
  · refine ⟨ntp H, [], [], ds, vs, rfl, RepA.ntp (A.rds r hz), ntp_same H, own0, ntp_nt H, A.tb, mono _ _ _ _ _ _ (fun r' o q v F' H' R rv => ?_) (fun y hy cls d H' kp tbs eo => ⟨y, hy, fun a o e => kp a o (A.rH a o e) (A.rT a o e) (by simp), tbs, eo⟩) h⟩
    have kp : ∀ a o, H a = some o → nt o → H' a = some o := fun a o e n => R.keep a o e n (by simp)
    have A2 := A.after (Same.refl F) (fun a o e => kp a o (A.fH a o e) (A.fT a o e)) (fun a o e => .inl e) kp A.fT R.tb
    refine f _ _ (Agree.putR (H0 := H) A2 (fun k m' a x y z => ?_) A.rH ?_ q.2)
    · obtain ⟨_, _, o, e, hmc⟩ := A.own k m' a x y z
      exact ⟨o, e, (mc_nt hmc z).1⟩
    · obtain ⟨fl, _⟩ := q
      cases r' with
      | dat d => exact Rep.flat (K := X.K) (F := F') rv fl
      | new m =>
        obtain ⟨l, o, e1, lm, e2, e3, e4, hm⟩ := rv
        refine ⟨l, o, e1, lm, ?_, e3, e4, ?_⟩
        · cases z : F l with
          | none => rfl
          | some u =>
            obtain ⟨q', e'⟩ := e3 u (A.fH l u z)
            exact absurd e' (A.fT l u z q')
        cases m with
        | lst xs => obtain ⟨ws, e5, u⟩ := hm; exact ⟨ws, e5, u.flat fl⟩
        | dct kvs => exact fl.elim
        | ins C fs => exact fl.elim
        | frz xs => exact fl.elim
        | dead => exact fl.elim
end
/-- promises grow with what follows -/
def Pr.Mono (pr : Pr) : Prop := ∀ os ds (p p' : Res → List MO → Prop) (x x' : Exc → Prop), (∀ r o, p r o → p' r o) → (∀ y, x y → x' y) → pr os ds p x → pr os ds p' x'
section
variable {C : DX} {X : Cx} {δ : De} {μ : Mu} {Q : SV → Mu → Prop} {pos p : Pos} {e : Expr} {es : List Expr}
theorem we_call {pr : Pr} {ex : Exc → Prop} {k : Nat} {f : Addr} {fd : FuncData} {ps : List Str} {x : Str} (G : FnOk X.prog X.w X.K X.mg X.base (L2.CX X.prog X.w) k f fd ps (spOf X.K pr)) (mono : pr.Mono) (hr : Room k X.A) (hm : X.mg x = some (.ref f)) (hk : PySem.W.keepIn X.K (.ref f) = true)
    (hb : Binds X.K fd ps []) (tk : TakesD X C ex) (h : WA C X (e :: es) δ μ fun xs μ1 => kCall pr ex xs μ1 Q) (hg : Gl X x := by rfl) (hdb : (x == ("__debug__" : Str)) = false := by decide)
    (he : starEach (e :: es) X.env = (false, eval e X.env) :: starEach es X.env := by rfl) (hpl : (backTo pos (starEach es X.env)).any (·.1) = false := by rfl) : WE C X (.Call (.Name x p) (e :: es) [] pos) δ μ Q := fun F0 F H as σ A =>
  tm_of (pe_call G hr hg hm hk hb .nil (E := fun cls d H' => ∃ x, ex x ∧ Same C.R H' ∧ LamX.Tabs Tbs.tabs H' ∧ ExOk X.K x cls d H') (passes_call tk fun _ _ _ _ h => h) pa_tm hdb he hpl) (tmA_mono (h F0 F H as σ A) fun vs H1 ⟨F1, as1, μ1, xs, e1, p1, A1, r1, q1⟩ => by
    rw [List.append_nil]
    exact call_core (C := C.w F0) A1 r1 q1 (fun _ _ z => z.back e1 p1) mono)
end

/-! ### a def's body -/
def locsD (n : Nat) : De := (List.range n).map fun k => some (.loc k)
def startD (N : List Str) (n : Nat) (ds : List D) : De := locsD n ++ ds.map (fun d => some (.d d)) ++ List.replicate (N.length - (n + ds.length)) none
def retQ (n : Nat) (post : Res → List MO → Prop) (sv : SV) (μ : Mu) : Prop := n ≤ μ.length ∧ (∀ m ∈ μ.take n, live m = true) ∧ match sv with
  | .d d => post (.dat d) (μ.take n)
  | .loc k => n ≤ k ∧ ∃ m, μ[k]? = some m ∧ ((∃ xs, m = .frz xs ∧ post (.dat (.lst xs)) (μ.take n)) ∨ (live m = true ∧ post (.new m) (μ.take n)))
def dxOf (ps : List Addr) (F H : Hp) : DX := ⟨fun a => if a ∈ ps then none else noT (H a), F, ps⟩
section
variable {P : Program} {w : World} {K : PySem.W.Frag} {mg : Str → Option Value} {base : Heap}
theorem agree_start {F H : Hp} {ps : List Addr} {os : List MO} {ds : List D} {ws : List V} {N : List Str} (r : RepA K F ws ds) (sH : Same F H) (ow : Own K F H ps os) (fT : ∀ (a : Addr) (o : HO), F a = some o → nt o) (tb : LamX.Tabs Tbs.tabs H) : Agree K (dxOf ps F H) F H ps (L2.start N (ps.map V.ref ++ ws)) (startD N os.length ds) os := by
  obtain ⟨hl, nd, ow⟩ := ow
  have ol : ∀ (k : Nat) (m : MO), os[k]? = some m → ∃ a, ps[k]? = some a := fun k m h => by
    have hk := (List.getElem?_eq_some_iff.mp h).1
    rw [← hl] at hk
    exact ⟨ps[k], List.getElem?_eq_getElem hk⟩
  refine ⟨Same.refl _, fun a o e => .inl e, fun a o e => ?_, sH, hl, List.prefix_refl _, ?_, fun k m a h1 h2 h3 => ?_, fun k xs a h1 h2 => ?_, ?_, fun i sv h => ?_, fT, fun a o e => ?_, tb⟩
  · unfold dxOf at e
    simp only at e
    split at e
    · cases e
    · exact (noT_some e).1
  · intro i j a m1 m2 a1 a2 _ _ _ _
    exact nodup_ix' nd a1 a2
  · obtain ⟨_, q1, q2⟩ := ow k m a h1 h2
    exact ⟨q1, if_pos (List.mem_of_getElem? h2), q2⟩
  · obtain ⟨z, _⟩ := ow k _ a h1 h2
    cases z
  · unfold L2.start startD locsD
    simp only [List.length_append, List.length_map, List.length_replicate, List.length_range, r.length, hl]
  · unfold startD at h
    by_cases c1 : i < os.length
    · rw [List.append_assoc, List.getElem?_append_left (by unfold locsD; simpa using c1)] at h
      unfold locsD at h
      rw [List.getElem?_map, List.getElem?_range c1] at h
      cases h
      have hi : i < ps.length := by rw [hl]; exact c1
      refine ⟨.ref ps[i], ?_, ps[i], List.getElem?_eq_getElem hi, rfl⟩
      unfold L2.start
      rw [List.map_append, List.append_assoc, List.getElem?_append_left (by simpa using hi), List.getElem?_map, List.getElem?_map, List.getElem?_eq_getElem hi]
      rfl
    · by_cases c2 : i < os.length + ds.length
      · have hL : (locsD os.length).length = os.length := by unfold locsD; simp
        rw [List.getElem?_append_left (by rw [List.length_append, List.length_map, hL]; exact c2), List.getElem?_append_right (by rw [hL]; omega), hL, List.getElem?_map] at h
        cases e : ds[i - os.length]? with
        | none => rw [e] at h; cases h
        | some d =>
          rw [e] at h
          cases h
          obtain ⟨v, hv, rv⟩ := r.get e
          refine ⟨v, ?_, rv⟩
          unfold L2.start
          rw [List.map_append, List.append_assoc, List.getElem?_append_right (by simp [hl]; omega), List.length_map, List.length_map, hl, List.getElem?_append_left (by rw [List.length_map, r.length]; omega), List.getElem?_map, hv]
          rfl
      · have hL : (locsD os.length).length = os.length := by unfold locsD; simp
        rw [List.getElem?_append_right (by rw [List.length_append, List.length_map, hL]; omega), List.getElem?_replicate] at h
        split at h <;> cases h
  · unfold dxOf at e
    simp only at e
    split at e
    · cases e
    · exact (noT_some e).2
where
  nodup_ix' {N : List Addr} (hN : N.Nodup) {i j : Nat} {x : Addr} (a : N[i]? = some x) (b : N[j]? = some x) : i = j := by
    obtain ⟨h1, e1⟩ := List.getElem?_eq_some_iff.mp a
    obtain ⟨h2, e2⟩ := List.getElem?_eq_some_iff.mp b
    exact (List.getElem_inj hN).mp (e1.trans e2.symm)
theorem ret_of {F H F' H' : Hp} {ps as : List Addr} {os os0 : List MO} {σ : L2.St} {δ : De} {μ : Mu} {v : V} {sv : SV} {post : Res → List MO → Prop} {Q : VK} (ow : Own K F H ps os) (A : Agree K (dxOf ps F H) F' H' as σ δ μ) (r : VOk K F' as v sv) (h : retQ os.length post sv μ)
    (q : ∀ res os', post res os' → ∀ v F' H', Ret K F H ps os' F' H' → RetV K F' H H' v res → Q v H') : Q v H' := by
  obtain ⟨hn, hlv, h⟩ := h
  obtain ⟨hl, nd, ow⟩ := ow
  have atP : ∀ (k : Nat) (a : Addr), ps[k]? = some a → as[k]? = some a := fun k a e => pfx_get A.pre e
  have own : Own K F' H' ps (μ.take os.length) := by
    refine ⟨by rw [List.length_take, Nat.min_eq_left hn]; exact hl, nd, fun k m a h1 h2 => ?_⟩
    have lm := hlv m (List.mem_of_getElem? h1)
    have h1' : μ[k]? = some m := by
      rw [List.getElem?_take] at h1
      split at h1
      · exact h1
      · cases h1
    obtain ⟨q1, _, q3⟩ := A.own k m a h1' (atP k a h2) lm
    exact ⟨lm, q1, q3⟩
  have psH : ∀ a, a ∈ ps → ∃ o, H a = some o := fun a ha => by
    obtain ⟨k, hk, e⟩ := List.mem_iff_getElem.mp ha
    have hk' : k < os.length := by rw [← hl]; exact hk
    obtain ⟨_, _, o, e2, _⟩ := ow k os[k] a (List.getElem?_eq_getElem hk') (by rw [List.getElem?_eq_getElem hk, e])
    exact ⟨o, e2⟩
  have psF : ∀ a, a ∈ ps → F' a = none := fun a ha => by
    obtain ⟨k, hk, e⟩ := List.mem_iff_getElem.mp ha
    have hk' : k < (μ.take os.length).length := by rw [List.length_take, Nat.min_eq_left hn, ← hl]; exact hk
    exact (own.2.2 k _ a (List.getElem?_eq_getElem hk') (by rw [List.getElem?_eq_getElem hk, e])).2.1
  have nR : ∀ a, (dxOf ps F H).R a = none → a ∉ ps → Fr H a := fun a e n o ho => by
    unfold dxOf at e
    simp only at e
    rw [if_neg n] at e
    cases o <;> first | exact ⟨_, rfl⟩ | (rw [noT_nt ho (fun q z => by cases z)] at e; cases e)
  have R : Ret K F H ps (μ.take os.length) F' H' := by
    refine ⟨A.f0, A.fH, fun a o e => ?_, own, fun a o e t n => A.rH a o ?_, A.fT, A.tb⟩
    · rcases A.fr a o e with z | z
      · exact .inl z
      · refine .inr (nR a z fun hm => ?_)
        rw [psF a hm] at e
        cases e
    · unfold dxOf
      simp only
      rw [if_neg n]
      exact noT_nt e t
  cases sv with
  | d d => exact q _ _ h v F' H' R r
  | loc k =>
    obtain ⟨hk, m, hm, h⟩ := h
    obtain ⟨a, ha, rfl⟩ := r
    rcases h with ⟨xs, rfl, h⟩ | ⟨lm, h⟩
    · exact q _ _ h _ F' H' R (A.frz k xs a hm ha)
    · obtain ⟨q1, q2, o, q3, q4⟩ := A.own k m a hm ha lm
      refine q _ _ h _ F' H' R ⟨a, o, rfl, lm, q1, nR a q2 fun hmem => ?_, q3, q4⟩
      obtain ⟨j, hj, e⟩ := List.mem_iff_getElem.mp hmem
      have hj' : j < os.length := by rw [← hl]; exact hj
      have hjμ : j < μ.length := Nat.lt_of_lt_of_le hj' hn
      have e1 : as[j]? = some a := atP j a (by rw [List.getElem?_eq_getElem hj, e])
      have l2 : live μ[j] = true := hlv _ (List.mem_iff_getElem.mpr ⟨j, by rw [List.length_take]; omega, by rw [List.getElem_take]⟩)
      have := A.nd j k a μ[j] m e1 ha (List.getElem?_eq_getElem hjμ) hm l2 lm
      omega
/-- THE RULE for a def over data: its body shows its promise -/
theorem fn_ok {x qual : Str} {st : Stmt} {f : Addr} {fd : FuncData} {N prm : List Str} {k : Nat} {pr : Pr} (n : Nat) (F : Fun K x qual st f fd) (S : FnScope N prm (defScope st)) (len : ∀ os ds post ex, pr os ds post ex → os.length = n ∧ n + ds.length = prm.length)
    (body : ∀ (cdv : Value) (A : Around) (outer : List Env) (s : Shared) (H : Hp) (E : XK) (C : DX) (os : List MO) (ds : List D) (post : Res → List MO → Prop) (ex : Exc → Prop), Room k (A.deeper (envOfC qual (defScope st) s.heap.objs.size f cdv)) →
      TakesD (cxOf (L2.CX P w) P w K mg base N qual (defScope st) f cdv A outer s H E) C ex → C.ps.length = n → pr os ds post ex →
      WSs C (cxOf (L2.CX P w) P w K mg base N qual (defScope st) f cdv A outer s H E) (defBody st) (startD N n ds) os ⟨fun _ μ => retQ n post (.d .non) μ, retQ n post, fun _ _ => False, fun _ _ => False⟩) : FnOk P w K mg base (L2.CX P w) (k + 1) f fd prm (spOf K pr) := by
  refine F.okX S (fun vs H Q E h => ?_) (fun cdv A outer s H vs Q E hr h => ?_)
  · obtain ⟨F0, ps, os, ds, ws, rfl, r, sH, ow, fT0, tb0, h⟩ := h
    obtain ⟨a, b⟩ := len _ _ _ _ h
    rw [List.length_append, List.length_map, r.length, ow.1, a, b]
  · obtain ⟨F0, ps, os, ds, ws, rfl, r, sH, ow, fT0, tb0, h⟩ := h
    obtain ⟨a, b⟩ := len _ _ _ _ h
    refine ⟨_, pss_tm, ?_⟩
    have tk : Takes (cxOf (L2.CX P w) P w K mg base N qual (defScope st) f cdv A outer s H E) (fun cls d _ H => E cls d H) := takes_of rfl rfl rfl rfl
    have B := body cdv A outer s H E (dxOf ps F0 H) os ds _ _ hr (tk.imp fun cls d σ H' ⟨x, hx, sm, tbs, eo⟩ => hx cls d H' (fun b o e t n => sm b o (by unfold dxOf; simp only; rw [if_neg n]; exact noT_nt e t)) tbs eo) (ow.1.trans a) h
    subst a
    have A0 := agree_start (N := N) r sH ow fT0 tb0
    refine tmSs_mono (B F0 F0 H ps _ A0) (fun σ' H' q => ?_) (fun v H' q => ?_) (fun σ' H' q => ?_) (fun σ' H' q => ?_)
    · obtain ⟨F', as, δ, μ, A', q⟩ := q
      exact ret_of (os0 := os) ow A' (v := .non) (sv := .d .non) .non q fun _ _ z => z
    · obtain ⟨F', as, σ', δ, μ, sv, A', rv, q⟩ := q
      exact ret_of (os0 := os) ow A' rv q fun _ _ z => z
    · obtain ⟨_, _, _, _, _, q⟩ := q
      exact q
    · obtain ⟨_, _, _, _, _, q⟩ := q
      exact q
end
end DS

/-! DSem7: what is walked. -/
namespace PySem
open Sem (wp)
open AutoSeq1 (wpAny_loadPart')
theorem meets_enumerate_newT (l : Addr) (items : Array Value) :
    Meets (Builtin.«enumerate.__new__» ⟨[.type "enumerate", .ref l], []⟩) (fun _ R s => s.heap.IsTuple l items ∧
      R (.ok (.ret (.ref (s.heap.push { cls := .type "tuple_iterator", data := .fields #[.ref l, .int 0 0] }).objs.size)))
        { s with heap := (s.heap.push { cls := .type "tuple_iterator", data := .fields #[.ref l, .int 0 0] }).push { cls := .type "enumerate", data := .fields #[.none, .bool false, .ref s.heap.objs.size, rawInt 0, .none, .none] } }) :=
  .of_wp fun prog w A R s h => by
    obtain ⟨hp, g, d, tk, os⟩ := s; obtain ⟨hL, h⟩ := h
    have hsub := sub_enumerate
    have q1 : ∀ {A' : Around} {E : Value → Shared → Prop} {Q : Value → Shared → Prop}, Q (.ref hp.objs.size) ⟨hp.push { cls := .type "tuple_iterator", data := .fields #[.ref l, .int 0 0] }, g, d, tk, os⟩ → wpAny (model prog w) A' (pyIter (.ref l)) Q E ⟨hp, g, d, tk, os⟩ :=
      fun q => wpAny_pyIter_tuple hL q
    wp_walk using q1
    refine wpAny_stack_any fun st => wpAny_pure ?_
    split
    · rename_i c _ _ _ _ _
      cases (c == Value.type "enumerate")
      · wp_walk using q1
        exact ⟨_, rfl, h⟩
      · wp_walk using q1
        exact ⟨_, rfl, h⟩
    · wp_walk using q1
      exact ⟨_, rfl, h⟩
section
variable {prog : Program} {w : World} {A : Around} {E : Value → Shared → Prop} {s : Shared}
theorem call_enumerate_tuple {l : Addr} {items : Array Value} {Q : Value → Shared → Prop} (hL : s.heap.IsTuple l items)
    (h : ∀ h', IsEnum h' (s.heap.objs.size + 1) s.heap.objs.size 0 .none → h'.IsTupleIter s.heap.objs.size l 0 → h'.objs.size = s.heap.objs.size + 2 →
      (∀ b o, s.heap.get? b = some o → h'.get? b = some o) → Q (.ref (s.heap.objs.size + 1)) { s with heap := h' }) :
    wpAny (model prog w) A (call (.type "enumerate") [.ref l]) Q E s := by
  refine callType_new F.called_enumerate (by decide) (F.typeCall_enumerate_1 _) (F.newCall_enumerate_1 _) (fun obj => F.args_object_init_2 obj _) F.entry_enumerate_new
    (meets_enumerate_newT l items) ⟨hL, ?_⟩
  have hz : (s.heap.push { cls := .type "tuple_iterator", data := .fields #[.ref l, .int 0 0] }).objs.size = s.heap.objs.size + 1 := Heap.size_push ..
  show _ ∧ _
  rw [hz]
  have he : IsEnum ((s.heap.push { cls := .type "tuple_iterator", data := .fields #[.ref l, .int 0 0] }).push
      { cls := .type "enumerate", data := .fields #[.none, .bool false, .ref s.heap.objs.size, rawInt 0, .none, .none] }) (s.heap.objs.size + 1) s.heap.objs.size 0 .none := by
    have := Heap.get?_push_size (s.heap.push { cls := .type "tuple_iterator", data := .fields #[.ref l, .int 0 0] })
      (o := { cls := .type "enumerate", data := .fields #[.none, .bool false, .ref s.heap.objs.size, rawInt 0, .none, .none] }) rfl
    rw [hz] at this; exact this
  refine ⟨⟨_, he, rfl⟩, h _ he ⟨_, Heap.get?_push_of_some _ (Heap.get?_push_size _ rfl), rfl, rfl⟩ (by rw [Heap.size_push, hz]) fun b o x => Heap.get?_push_of_some _ (Heap.get?_push_of_some _ x)⟩
theorem wpAny_pyNext_enum_endT {e it l : Addr} {i : Nat} {items : Array Value} {old : Value} {Q : Option Value → Shared → Prop} (hh : A.handled = none)
    (he : IsEnum s.heap e it i old) (hit : s.heap.IsTupleIter it l i) (hl : s.heap.IsTuple l items) (hx : items[i]? = none)
    (hQ : ∀ h', Heap.ExtBut it s.heap h' → Q none { s with heap := h' }) : wpAny (model prog w) A (pyNext (.ref e)) Q E s := by
  have hT : s.TypeIs (.ref e) "enumerate" := ⟨_, he, rfl⟩
  unfold pyNext
  refine wpAny_bind (wpAny_attempt (wpAny_callSpecial?_slot (name := Str.ofString "__next__") hT F.slot_enumerate_next
    (wpAny_call_entry F.slot_enumerate_next hT F.entry_enumerate_next ?_ (F.args_enumerate_next_1 _))))
  show wpAny _ _ (field (.ref e) 2 >>= _) _ _ _
  refine wpAny_bind (wpAny_field he rfl (x := .ref it) rfl ?_)
  refine wpAny_bind (wpAny_nextOf_tuple_end hh hit hl hx fun h' x he' hx' => ?_)
  obtain ⟨o, ho, hc⟩ := hx'
  refine wpAny_bind (wpAny_isInstance (T := "StopIteration") (b := true) ⟨o, ho, hc⟩ isSubtype_stop ?_)
  exact wpAny_pure (hQ _ he')
end
end PySem

namespace DS
open PySem PySem.Spec PyProof.Rows L2
variable [Tbs]
def IteT (K : PySem.W.Frag) (a : Addr) : It :=
  ⟨fun i H => ∃ (xs : List V) (x : V), SqT K H a xs ∧ xs[i]? = some x, fun i H v H' => ∃ T x, v = .ref T ∧ H T = none ∧ H' = upd H T (.tup [.int (i : Nat), x]) ∧ ∀ xs, SqT K H a xs → xs[i]? = some x, fun i H => ∃ xs : List V, SqT K H a xs ∧ xs.length ≤ i⟩
theorem turn_enumT {P : Program} {w : World} {K : PySem.W.Frag} {elts : List Expr} {kk : Nat} {tpos : Pos} (a e it : Addr) :
    Turn P w K (.Tuple elts kk tpos) (IteT K a) [e, it] e (fun i h => (∃ old, IsEnum h e it ((i : Nat) : Int) old) ∧ h.IsTupleIter it a i ∧ e ≠ it) where
  mem := by simp
  obj := fun i h st b hb => by
    obtain ⟨⟨old, he⟩, ⟨o, ho, hc, hd⟩, _⟩ := st
    have e' : b = e ∨ b = it := by simpa using hb
    rcases e' with z | z
    · rw [z]; exact ⟨_, he, fun v q => nomatch q⟩
    · rw [z]; exact ⟨o, ho, fun v q => by rw [hd] at q; cases q⟩
  keep := fun i h h' st k => let ⟨⟨old, he⟩, hi, hne⟩ := st; ⟨⟨old, k e (by simp) _ he⟩, hi.at fun o q => k it (by simp) o q, hne⟩
  item := by
    intro X hP hw hK hc i pins s σ H E I hf st hg
    subst hP hw hK
    obtain ⟨⟨old, he⟩, hit, hne⟩ := st
    obtain ⟨xs, x, hq, hx⟩ := hg
    obtain ⟨its, rv, p, hz⟩ := I.tuple hq
    obtain ⟨u, hu, ru⟩ := rv.get hx
    have hel : e < s.heap.objs.size := Heap.lt_size he
    have hil : it < s.heap.objs.size := by obtain ⟨_, q, _⟩ := hit; exact Heap.lt_size q
    have hI : s.heap.IsTuple a its.toArray := isTup_isTuple p
    obtain ⟨oa, hoa, hca, _⟩ := id hI
    have nai : a ≠ it := fun z => by
      obtain ⟨o, ho, hc', _⟩ := id hit
      rw [← z, hoa] at ho; cases ho
      rw [hca] at hc'; exact absurd hc' (by decide)
    have nae : e ≠ a := fun z => by
      have he' : s.heap.get? e = _ := he
      rw [z, hoa] at he'
      cases he'
      exact absurd hca (by show ¬ (Value.type "enumerate" = Value.type "tuple"); decide)
    have Dr := Draws.tuple (prog := X.prog) (w := X.w) (A := X.A.in1) (by exact (I.ok.hd hc)) it a nai its.toArray
    have hlt : i < its.toArray.size := by rw [List.size_toArray]; exact (List.getElem?_eq_some_iff.mp hu).1
    refine wpAny_pyNext_enum_itemD Dr he ⟨hit, hI⟩ hlt hne (by simp [hne, nae]) fun x' h' tk hx' ho hst' hT hsz hk => ?_
    have ex : x' = u := by
      have q : its.toArray[i]? = some x' := hx'
      rw [show its.toArray[i]? = its[i]? by simp, hu] at q
      exact (Option.some.inj q).symm
    subst ex
    refine ⟨_, rfl, wpAny_letOwnedTupleGo_enum (s := { s with heap := h', toks := tk + 1 }) ho fun h'' he' sb => ?_⟩
    have hT2 : h''.get? s.heap.objs.size = some { cls := .type "tuple", data := .seq #[.int i tk, x'] } := (sb.2 _ (Nat.ne_of_gt hel)).trans hT
    have new : ObjOk X.prog X.w (upd H s.heap.objs.size (.tup [.int (i : Nat), x])) h'' s.heap.objs.size (.tup [.int (i : Nat), x]) :=
      ⟨by show 2 ≤ sizeLine; decide, [.int i tk, x'], .cons ⟨_, rfl⟩ (.cons ru .nil), ⟨_, hT2, rfl, _, rfl⟩⟩
    have I1 : Inv X pins σ (upd H s.heap.objs.size (.tup [.int (i : Nat), x])) { s with heap := h'', toks := tk + 1 } :=
      I.turnedNew (ch := [e, it]) (fun b ob hb q => (sb.2 b (fun z => hb (by simp [z]))).trans (hk b ob (fun z => hb (by simp [z])) (fun z => hb (by simp [z])) q)) hf (Nat.le_refl _) new
    refine ⟨.ref s.heap.objs.size, _, I1, rfl, ⟨_, x, rfl, I.hok.fresh (Nat.le_refl _), rfl, fun ys hy => by rw [I.tuple_inj hy hq]; exact hx⟩, ⟨⟨x', ?_⟩, hst'.1.at fun o q => (sb.2 it (Ne.symm hne)).trans q, hne⟩, fun b hb => ?_⟩
    · have e1 : ((i + 1 : Nat) : Int) = (i : Int) + 1 := by omega
      rw [e1]; exact he'
    · have hb' : b < s.heap.objs.size := by
        have e' : b = e ∨ b = it := by simpa using hb
        rcases e' with z | z
        · rw [z]; exact hel
        · rw [z]; exact hil
      rw [upd_ne (Nat.ne_of_lt hb')]
      exact (hf b hb).1
  done := by
    intro X hP hw hK hc i pins s σ H E I hf st hg
    subst hP hw hK
    obtain ⟨⟨old, he⟩, hit, hne⟩ := st
    obtain ⟨xs, hq, hx⟩ := hg
    obtain ⟨its, rv, p, hz⟩ := I.tuple hq
    obtain ⟨f0, f1, f2, f3, f4, f5⟩ := hf it (by simp)
    have hl := rv.length
    exact wpAny_pyNext_enum_endT (I.ok.hd hc) he hit (isTup_isTuple p) (by simp; omega) fun h' eb => ⟨rfl, I.turned (t' := s.toks) (fun b o hb q => eb b o hb q) f0 f1 f3 f4 f5⟩
  self := fun A i s Q E st h => let ⟨⟨_, he⟩, _⟩ := st; wpAny_pyIter_enum he h
def iEnumT (K : PySem.W.Frag) (ta : TA) : TI := fun σ H R => ta σ H fun vs H1 => ∃ a, vs = [.ref a] ∧ ((∃ xs, SqL K H1 a xs ∧ R (Ite K a) H1) ∨ (∃ xs, SqT K H1 a xs ∧ R (IteT K a) H1))
theorem pi_enumT {X : Cx} {e : Expr} {ta : TA} {p pos tpos : Pos} {elts : List Expr} {kk : Nat} (hg : Gl X "enumerate") (hm : X.mg "enumerate" = none) (ha : PA X [e] ta) (hs : starEach [e] X.env = [(false, eval e X.env)] := by rfl) :
    PI X (.Tuple elts kk tpos) (.Call (.Name "enumerate" p) [e] [] pos) (iEnumT X.K ta) := by
  refine ⟨fun pins s σ H R I h => ?_⟩
  refine Call_ (ld_blt I hg hm boot_enumerate (PyProof.Rows.callWith_type1 (thn (ha.run pos pins s σ H _ I h) fun us s1 ⟨vs, H1, I1, r1, q1⟩ => ?_) hs rfl))
  obtain ⟨a, ex, q1⟩ := q1
  subst ex
  cases r1 with
  | cons r rr =>
    cases rr
    cases r
    rcases q1 with ⟨xs, hq, q⟩ | ⟨xs, hq, q⟩
    · obtain ⟨its, rv, p', hz⟩ := I1.list hq
      refine call_enumerate_list p'.isList fun h' he hit hsz hk => wpAny_pyIter_enum he ?_
      have I2 : Inv X pins σ H1 { s1 with heap := h' } := I1.kept (t' := s1.toks) hk
      refine ⟨s1.heap.objs.size + 1, [s1.heap.objs.size + 1, s1.heap.objs.size], _, _, H1, rfl, I2, turn_enum a (s1.heap.objs.size + 1) s1.heap.objs.size, ⟨⟨.none, he⟩, hit, Nat.succ_ne_self _⟩, fun b hb => ?_, q⟩
      have e' : b = s1.heap.objs.size + 1 ∨ b = s1.heap.objs.size := by simpa using hb
      have hle : s1.heap.objs.size ≤ b := by
        rcases e' with z | z
        · rw [z]; exact Nat.le_add_right _ _
        · rw [z]; exact Nat.le_refl _
      exact I1.fpOk hle (I1.hok.fresh hle)
    · obtain ⟨its, rv, p', hz⟩ := I1.tuple hq
      refine call_enumerate_tuple (isTup_isTuple p') fun h' he hit hsz hk => wpAny_pyIter_enum he ?_
      have I2 : Inv X pins σ H1 { s1 with heap := h' } := I1.kept (t' := s1.toks) hk
      refine ⟨s1.heap.objs.size + 1, [s1.heap.objs.size + 1, s1.heap.objs.size], _, _, H1, rfl, I2, turn_enumT a (s1.heap.objs.size + 1) s1.heap.objs.size, ⟨⟨.none, he⟩, hit, Nat.succ_ne_self _⟩, fun b hb => ?_, q⟩
      have e' : b = s1.heap.objs.size + 1 ∨ b = s1.heap.objs.size := by simpa using hb
      have hle : s1.heap.objs.size ≤ b := by
        rcases e' with z | z
        · rw [z]; exact Nat.le_add_right _ _
        · rw [z]; exact Nat.le_refl _
      exact I1.fpOk hle (I1.hok.fresh hle)
/-- a list or a tuple walked -/
def iSeq (K : PySem.W.Frag) (tl : TE) : TI := fun σ H R => tl σ H fun x H1 => ∃ a, x = .ref a ∧ (((∃ xs, SqL K H1 a xs) ∧ R (Itl K a) H1) ∨ ((∃ xs, SqT K H1 a xs) ∧ R (Itt K a) H1))
theorem pi_seq {X : Cx} {l tg : Expr} {tl : TE} (hl : PE X l tl) : PI X tg l (iSeq X.K tl) := by
  refine ⟨fun pins s σ H R I h => ?_⟩
  refine thn (hl.run pins s σ H _ I h) fun v s1 ⟨x, H1, I1, r1, q1⟩ => ?_
  obtain ⟨a, e, q1⟩ := q1
  subst e
  cases r1
  rcases q1 with ⟨⟨xs, hq⟩, q⟩ | ⟨⟨xs, hq⟩, q⟩
  · obtain ⟨its, rv, p, hz⟩ := I1.list hq
    refine wpAny_pyIter_list p.isList ?_
    refine ⟨s1.heap.objs.size, [s1.heap.objs.size], _, _, H1, rfl, I1.kept (t' := s1.toks) fun b o e => Heap.get?_push_of_some _ e, turn_list a _, ⟨_, Heap.get?_push_size _ rfl, rfl, rfl⟩, fun b hb => ?_, q⟩
    have e : b = s1.heap.objs.size := by simpa using hb
    subst e
    exact I1.fpOk (Nat.le_refl _) (I1.hok.fresh (Nat.le_refl _))
  · obtain ⟨its, rv, p, hz⟩ := I1.tuple hq
    refine wpAny_pyIter_tuple (show s1.heap.IsTuple a its.toArray from p) ?_
    refine ⟨s1.heap.objs.size, [s1.heap.objs.size], _, _, H1, rfl, I1.kept (t' := s1.toks) fun b o e => Heap.get?_push_of_some _ e, turn_tuple a _, ⟨_, Heap.get?_push_size _ rfl, rfl, rfl⟩, fun b hb => ?_, q⟩
    have e : b = s1.heap.objs.size := by simpa using hb
    subst e
    exact I1.fpOk (Nat.le_refl _) (I1.hok.fresh (Nat.le_refl _))

/-! ### the items, known ahead -/
def ItOk (K : PySem.W.Frag) (F : Hp) (J : It) (ys : List D) : Prop := ∀ F1 H1, Same F F1 → Same F1 H1 → (∀ i, i < ys.length → J.go i H1) ∧ (∀ i, ys.length ≤ i → J.stop i H1) ∧
  (∀ i y v H2, ys[i]? = some y → J.yld i H1 v H2 → (H2 = H1 ∧ Rep K F1 v y) ∨ (∃ T o, nt o ∧ H1 T = none ∧ H2 = upd H1 T o ∧ Rep K (upd F1 T o) v y))
def WI (C : DX) (X : Cx) (tg iter : Expr) (δ : De) (μ : Mu) (Q : List D → Mu → Prop) : Prop := ∃ wi : TI, PI X tg iter wi ∧ ∀ F0 F H as σ (R : It → Hp → Prop), Agree X.K (C.w F0) F H as σ δ μ →
  (∀ J H', (∃ F' as' μ' ys, Same F F' ∧ as <+: as' ∧ Agree X.K (C.w F0) F' H' as' σ δ μ' ∧ ItOk X.K F' J ys ∧ Q ys μ') → R J H') → wi σ H R
theorem get_lt {α : Type} {xs : List α} {i : Nat} (h : i < xs.length) : ∃ x, xs[i]? = some x := ⟨xs[i], List.getElem?_eq_getElem h⟩
section
variable {K : PySem.W.Frag} {F : Hp} {a b : Addr} {vs ws : List V} {ds es : List D}
theorem itOk_list (s : SqL K F a vs) (r : RepA K F vs ds) : ItOk K F (Itl K a) ds := fun F1 H1 e1 e2 => by
  have s1 : SqL K H1 a vs := (e1.trans e2).seq s
  refine ⟨fun i hi => ?_, fun i hi => ⟨vs, s1, by rw [r.length]; exact hi⟩, fun i y v H2 hy hv => ?_⟩
  · obtain ⟨x, hx⟩ := get_lt (xs := vs) (i := i) (by rw [r.length]; exact hi)
    exact ⟨vs, x, s1, hx⟩
  · obtain ⟨rfl, q⟩ := hv
    obtain ⟨z, hz, rz⟩ := r.get hy
    have := q vs s1
    rw [hz] at this
    cases this
    exact .inl ⟨rfl, rz.mono e1⟩
theorem itOk_tup (s : SqT K F a vs) (r : RepA K F vs ds) : ItOk K F (Itt K a) ds := fun F1 H1 e1 e2 => by
  have s1 : SqT K H1 a vs := SameT (e1.trans e2) s
  refine ⟨fun i hi => ?_, fun i hi => ⟨vs, s1, by rw [r.length]; exact hi⟩, fun i y v H2 hy hv => ?_⟩
  · obtain ⟨x, hx⟩ := get_lt (xs := vs) (i := i) (by rw [r.length]; exact hi)
    exact ⟨vs, x, s1, hx⟩
  · obtain ⟨rfl, q⟩ := hv
    obtain ⟨z, hz, rz⟩ := r.get hy
    have := q vs s1
    rw [hz] at this
    cases this
    exact .inl ⟨rfl, rz.mono e1⟩
def rngD (lo : Int) (n : Nat) : List D := (List.range n).map fun i => D.int (lo + (i : Nat))
theorem rngD_len (lo : Int) (n : Nat) : (rngD lo n).length = n := by unfold rngD; simp
theorem rngD_get {lo : Int} {n i : Nat} {y : D} (h : (rngD lo n)[i]? = some y) : i < n ∧ y = .int (lo + (i : Nat)) := by
  have hi : i < n := by
    have := (List.getElem?_eq_some_iff.mp h).1
    rwa [rngD_len] at this
  unfold rngD at h
  rw [List.getElem?_map, List.getElem?_range hi] at h
  exact ⟨hi, (Option.some.inj h).symm⟩
theorem itOk_range {lo : Int} {n : Nat} : ItOk K F (Itr lo n) (rngD lo n) := fun F1 H1 e1 e2 => by
  refine ⟨fun i hi => by rwa [rngD_len] at hi, fun i hi => by rwa [rngD_len] at hi, fun i y v H2 hy hv => ?_⟩
  obtain ⟨rfl, rfl⟩ := hv
  obtain ⟨_, rfl⟩ := rngD_get hy
  exact .inl ⟨rfl, .int _⟩
def enumD (k : Nat) : List D → List D
  | [] => []
  | x :: xs => .tup [.int (k : Nat), x] :: enumD (k + 1) xs
theorem enumD_len : ∀ (k : Nat) (xs : List D), (enumD k xs).length = xs.length
  | _, [] => rfl
  | k, x :: xs => by unfold enumD; rw [List.length_cons, enumD_len, List.length_cons]
theorem enumD_get : ∀ (k : Nat) (xs : List D) {i : Nat} {y : D}, (enumD k xs)[i]? = some y → ∃ x, xs[i]? = some x ∧ y = .tup [.int ((k + i : Nat) : Int), x]
  | _, [], i, y, h => by simp [enumD] at h
  | k, x :: xs, 0, y, h => by
    simp [enumD] at h
    exact ⟨x, rfl, by rw [← h]; rfl⟩
  | k, x :: xs, i + 1, y, h => by
    unfold enumD at h
    rw [List.getElem?_cons_succ] at h
    obtain ⟨z, h1, h2⟩ := enumD_get (k + 1) xs h
    exact ⟨z, by rw [List.getElem?_cons_succ]; exact h1, by rw [h2, show k + 1 + i = k + (i + 1) from by omega]⟩
theorem itOk_enumL (s : SqL K F a vs) (r : RepA K F vs ds) : ItOk K F (Ite K a) (enumD 0 ds) := fun F1 H1 e1 e2 => by
  have s1 : SqL K H1 a vs := (e1.trans e2).seq s
  refine ⟨fun i hi => ?_, fun i hi => ⟨vs, s1, by rw [enumD_len] at hi; rw [r.length]; exact hi⟩, fun i y v H2 hy hv => ?_⟩
  · rw [enumD_len] at hi
    obtain ⟨x, hx⟩ := get_lt (xs := vs) (i := i) (by rw [r.length]; exact hi)
    exact ⟨vs, x, s1, hx⟩
  · obtain ⟨T, x, rfl, hT, rfl, q⟩ := hv
    obtain ⟨d, hd, rfl⟩ := enumD_get 0 ds hy
    obtain ⟨z, hz, rz⟩ := r.get hd
    have := q vs s1
    rw [hz] at this
    cases this
    have e3 : Same F1 (upd F1 T (.tup [.int (i : Nat), x])) := fun b u e => by rw [upd_ne (ne_of_none (e2 _ _ e) hT)]; exact e
    refine .inr ⟨T, _, (fun q z => by cases z), hT, rfl, .tup (SqT.of upd_same) (.cons ?_ (.cons (rz.mono (e1.trans e3)) .nil))⟩
    rw [Nat.zero_add]
    exact .int _
theorem itOk_enumT (s : SqT K F a vs) (r : RepA K F vs ds) : ItOk K F (IteT K a) (enumD 0 ds) := fun F1 H1 e1 e2 => by
  have s1 : SqT K H1 a vs := SameT (e1.trans e2) s
  refine ⟨fun i hi => ?_, fun i hi => ⟨vs, s1, by rw [enumD_len] at hi; rw [r.length]; exact hi⟩, fun i y v H2 hy hv => ?_⟩
  · rw [enumD_len] at hi
    obtain ⟨x, hx⟩ := get_lt (xs := vs) (i := i) (by rw [r.length]; exact hi)
    exact ⟨vs, x, s1, hx⟩
  · obtain ⟨T, x, rfl, hT, rfl, q⟩ := hv
    obtain ⟨d, hd, rfl⟩ := enumD_get 0 ds hy
    obtain ⟨z, hz, rz⟩ := r.get hd
    have := q vs s1
    rw [hz] at this
    cases this
    have e3 : Same F1 (upd F1 T (.tup [.int (i : Nat), x])) := fun b u e => by rw [upd_ne (ne_of_none (e2 _ _ e) hT)]; exact e
    refine .inr ⟨T, _, (fun q z => by cases z), hT, rfl, .tup (SqT.of upd_same) (.cons ?_ (.cons (rz.mono (e1.trans e3)) .nil))⟩
    rw [Nat.zero_add]
    exact .int _
def zipD : List D → List D → List D
  | x :: xs, y :: ys => .tup [x, y] :: zipD xs ys
  | _, _ => []
theorem zipD_len : ∀ (xs ys : List D), (zipD xs ys).length = min xs.length ys.length
  | [], _ => by simp [zipD]
  | _ :: _, [] => by simp [zipD]
  | x :: xs, y :: ys => by
    unfold zipD
    rw [List.length_cons, zipD_len, List.length_cons, List.length_cons]
    omega
theorem zipD_get : ∀ (xs ys : List D) {i : Nat} {z : D}, (zipD xs ys)[i]? = some z → ∃ x y, xs[i]? = some x ∧ ys[i]? = some y ∧ z = .tup [x, y]
  | [], _, i, z, h => by simp [zipD] at h
  | _ :: _, [], i, z, h => by simp [zipD] at h
  | x :: xs, y :: ys, 0, z, h => by
    simp [zipD] at h
    exact ⟨x, y, rfl, rfl, h.symm⟩
  | x :: xs, y :: ys, i + 1, z, h => by
    unfold zipD at h
    rw [List.getElem?_cons_succ] at h
    obtain ⟨a, b, h1, h2, h3⟩ := zipD_get xs ys h
    exact ⟨a, b, by rw [List.getElem?_cons_succ]; exact h1, by rw [List.getElem?_cons_succ]; exact h2, h3⟩
theorem itOk_zipL (s : SqL K F a vs) (r : RepA K F vs ds) (s' : SqL K F b ws) (r' : RepA K F ws es) : ItOk K F (Itz K a b) (zipD ds es) := fun F1 H1 e1 e2 => by
  have s1 : SqL K H1 a vs := (e1.trans e2).seq s
  have s2 : SqL K H1 b ws := (e1.trans e2).seq s'
  refine ⟨fun i hi => ?_, fun i hi => ⟨vs, ws, s1, s2, by rw [zipD_len] at hi; rw [r.length, r'.length]; omega⟩, fun i y v H2 hy hv => ?_⟩
  · rw [zipD_len] at hi
    obtain ⟨x, hx⟩ := get_lt (xs := vs) (i := i) (by rw [r.length]; omega)
    obtain ⟨y, hy⟩ := get_lt (xs := ws) (i := i) (by rw [r'.length]; omega)
    exact ⟨vs, ws, x, y, s1, s2, hx, hy⟩
  · obtain ⟨T, x, x', rfl, hT, rfl, q, q'⟩ := hv
    obtain ⟨d, d', hd, hd', rfl⟩ := zipD_get ds es hy
    obtain ⟨z, hz, rz⟩ := r.get hd
    obtain ⟨z', hz', rz'⟩ := r'.get hd'
    have t1 := q vs s1
    rw [hz] at t1
    cases t1
    have t2 := q' ws s2
    rw [hz'] at t2
    cases t2
    have e3 : Same F1 (upd F1 T (.tup [x, x'])) := fun b u e => by rw [upd_ne (ne_of_none (e2 _ _ e) hT)]; exact e
    exact .inr ⟨T, _, (fun q z => by cases z), hT, rfl, .tup (SqT.of upd_same) (.cons (rz.mono (e1.trans e3)) (.cons (rz'.mono (e1.trans e3)) .nil))⟩
theorem itOk_zipT (s : SqT K F a vs) (r : RepA K F vs ds) (s' : SqT K F b ws) (r' : RepA K F ws es) : ItOk K F (RZ.ItzT K a b) (zipD ds es) := fun F1 H1 e1 e2 => by
  have s1 : SqT K H1 a vs := SameT (e1.trans e2) s
  have s2 : SqT K H1 b ws := SameT (e1.trans e2) s'
  refine ⟨fun i hi => ?_, fun i hi => ⟨vs, ws, s1, s2, by rw [zipD_len] at hi; rw [r.length, r'.length]; omega⟩, fun i y v H2 hy hv => ?_⟩
  · rw [zipD_len] at hi
    obtain ⟨x, hx⟩ := get_lt (xs := vs) (i := i) (by rw [r.length]; omega)
    obtain ⟨y, hy⟩ := get_lt (xs := ws) (i := i) (by rw [r'.length]; omega)
    exact ⟨vs, ws, x, y, s1, s2, hx, hy⟩
  · obtain ⟨T, x, x', rfl, hT, rfl, q, q'⟩ := hv
    obtain ⟨d, d', hd, hd', rfl⟩ := zipD_get ds es hy
    obtain ⟨z, hz, rz⟩ := r.get hd
    obtain ⟨z', hz', rz'⟩ := r'.get hd'
    have t1 := q vs s1
    rw [hz] at t1
    cases t1
    have t2 := q' ws s2
    rw [hz'] at t2
    cases t2
    have e3 : Same F1 (upd F1 T (.tup [x, x'])) := fun b u e => by rw [upd_ne (ne_of_none (e2 _ _ e) hT)]; exact e
    exact .inr ⟨T, _, (fun q z => by cases z), hT, rfl, .tup (SqT.of upd_same) (.cons (rz.mono (e1.trans e3)) (.cons (rz'.mono (e1.trans e3)) .nil))⟩
end
section
variable {C : DX} {X : Cx} {δ : De} {μ : Mu} {Q : List D → Mu → Prop} {pos p tpos : Pos} {tg e e2 : Expr} {elts : List Expr} {kk : Nat}
theorem Agree.fzSeq {K : PySem.W.Frag} {F H : Hp} {as : List Addr} {σ : L2.St} {v : V} {sv : SV} {μ' : Mu} {xs : List D} (A : Agree K C F H as σ δ μ) (r : VOk K F as v sv) (h : DS.fz μ sv = some (.lst xs, μ') ∨ DS.fz μ sv = some (.tup xs, μ')) :
    ∃ F' a vs, Same F F' ∧ Agree K C F' H as σ δ μ' ∧ v = .ref a ∧ RepA K F' vs xs ∧ ((SqL K F' a vs ∧ DS.fz μ sv = some (.lst xs, μ')) ∨ (SqT K F' a vs ∧ DS.fz μ sv = some (.tup xs, μ'))) := by
  rcases h with h | h
  · obtain ⟨F', e, A', q⟩ := A.fz r h
    cases q with | lst s u => exact ⟨F', _, _, e, A', rfl, u, .inl ⟨s, h⟩⟩
  · obtain ⟨F', e, A', q⟩ := A.fz r h
    cases q with | tup s u => exact ⟨F', _, _, e, A', rfl, u, .inr ⟨s, h⟩⟩
/-- over a list or tuple -/
theorem wi_seq (h : WE C X e δ μ fun x μ1 => ∃ xs μ', (fz μ1 x = some (.lst xs, μ') ∨ fz μ1 x = some (.tup xs, μ')) ∧ Q xs μ') : WI C X tg e δ μ Q :=
  ⟨_, pi_seq pe_tm, fun F0 F H as σ R A f => tm_mono (h F0 F H as σ A) fun v H1 ⟨F1, as1, μ1, x, e1, p1, A1, r1, xs, μ', hz, q⟩ => by
    obtain ⟨F2, a, vs, e2, A2, rfl, u, z⟩ := A1.fzSeq r1 hz
    refine ⟨a, rfl, ?_⟩
    rcases z with ⟨s, _⟩ | ⟨s, _⟩
    · exact .inl ⟨⟨vs, A2.fH.seq s⟩, f _ _ ⟨F2, as1, μ', xs, e1.trans e2, p1, A2, itOk_list s u, q⟩⟩
    · exact .inr ⟨⟨vs, SameT A2.fH s⟩, f _ _ ⟨F2, as1, μ', xs, e1.trans e2, p1, A2, itOk_tup s u, q⟩⟩⟩
theorem wi_range1 (hm : X.mg "range" = none) (h : WA C X [e] δ μ fun xs μ1 => ∃ x j, xs = [x] ∧ cnt μ1 x = some (.int j) ∧ -1000000000 ≤ j ∧ j ≤ 1000000000 ∧ Q (rngD 0 j.toNat) μ1) (hg : Gl X "range" := by rfl) (hs : starEach [e] X.env = [(false, eval e X.env)] := by rfl) : WI C X tg (.Call (.Name "range" p) [e] [] pos) δ μ Q :=
  ⟨_, pi_range1 hg hm pa_tm hs, fun F0 F H as σ R A f => tmA_mono (h F0 F H as σ A) fun vs H1 ⟨F1, as1, μ1, xs, e1, p1, A1, r1, x, j, h0, h1, l1, l2, q⟩ => by
    subst h0
    obtain ⟨v, rfl, r⟩ := pair1 r1
    exact ⟨j, by rw [A1.rdI r h1], by omega, by omega, f _ _ ⟨F1, as1, μ1, _, e1, p1, A1, itOk_range, q⟩⟩⟩
theorem wi_range2 (hm : X.mg "range" = none) (h : WA C X [e, e2] δ μ fun xs μ1 => ∃ x y i j, xs = [x, y] ∧ cnt μ1 x = some (.int i) ∧ cnt μ1 y = some (.int j) ∧ (-1000000000 ≤ i ∧ i ≤ 1000000000 ∧ -1000000000 ≤ j ∧ j ≤ 1000000000) ∧ Q (rngD i (j - i).toNat) μ1) (hg : Gl X "range" := by rfl)
    (hs : starEach [e, e2] X.env = [(false, eval e X.env), (false, eval e2 X.env)] := by rfl) (hs2 : starEach [e2] X.env = [(false, eval e2 X.env)] := by rfl) : WI C X tg (.Call (.Name "range" p) [e, e2] [] pos) δ μ Q :=
  ⟨_, pi_range2 hg hm pa_tm hs hs2, fun F0 F H as σ R A f => tmA_mono (h F0 F H as σ A) fun vs H1 ⟨F1, as1, μ1, xs, e1, p1, A1, r1, x, y, i, j, h0, h1, h2, l, q⟩ => by
    subst h0
    obtain ⟨v, w, rfl, r, r'⟩ := pair2 r1
    exact ⟨i, j, by rw [A1.rdI r h1, A1.rdI r' h2], ⟨by omega, by omega, by omega, by omega⟩, f _ _ ⟨F1, as1, μ1, _, e1, p1, A1, itOk_range, q⟩⟩⟩
theorem wi_enum (hm : X.mg "enumerate" = none) (h : WA C X [e] δ μ fun xs μ1 => ∃ x ds μ', xs = [x] ∧ (fz μ1 x = some (.lst ds, μ') ∨ fz μ1 x = some (.tup ds, μ')) ∧ Q (enumD 0 ds) μ') (hg : Gl X "enumerate" := by rfl) (hs : starEach [e] X.env = [(false, eval e X.env)] := by rfl) : WI C X (.Tuple elts kk tpos) (.Call (.Name "enumerate" p) [e] [] pos) δ μ Q :=
  ⟨_, pi_enumT hg hm pa_tm hs, fun F0 F H as σ R A f => tmA_mono (h F0 F H as σ A) fun vs H1 ⟨F1, as1, μ1, xs, e1, p1, A1, r1, x, ds, μ', h0, hz, q⟩ => by
    subst h0
    obtain ⟨v, rfl, r⟩ := pair1 r1
    obtain ⟨F2, a, vs, e2, A2, rfl, u, z⟩ := A1.fzSeq r hz
    refine ⟨a, rfl, ?_⟩
    rcases z with ⟨s, _⟩ | ⟨s, _⟩
    · exact .inl ⟨vs, A2.fH.seq s, f _ _ ⟨F2, as1, μ', _, e1.trans e2, p1, A2, itOk_enumL s u, q⟩⟩
    · exact .inr ⟨vs, SameT A2.fH s, f _ _ ⟨F2, as1, μ', _, e1.trans e2, p1, A2, itOk_enumT s u, q⟩⟩⟩
theorem wi_zip (hm : X.mg "zip" = none) (h : WA C X [e, e2] δ μ fun xs μ1 => ∃ x y ds es μ2 μ', xs = [x, y] ∧ ((fz μ1 x = some (.lst ds, μ2) ∧ fz μ2 y = some (.lst es, μ')) ∨ (fz μ1 x = some (.tup ds, μ2) ∧ fz μ2 y = some (.tup es, μ'))) ∧ Q (zipD ds es) μ') (hg : Gl X "zip" := by rfl)
    (hs : starEach [e, e2] X.env = (false, eval e X.env) :: starEach [e2] X.env := by rfl) (hpl : (backTo pos (starEach [e2] X.env)).any (·.1) = false := by rfl) : WI C X (.Tuple elts kk tpos) (.Call (.Name "zip" p) [e, e2] [] pos) δ μ Q :=
  ⟨_, RZ.pi_zipA hg hm pa_tm hs hpl, fun F0 F H as σ R A f => tmA_mono (h F0 F H as σ A) fun vs H1 ⟨F1, as1, μ1, xs, e1, p1, A1, r1, x, y, ds, es, μ2, μ', h0, hz, q⟩ => by
    subst h0
    obtain ⟨v, w, rfl, r, r'⟩ := pair2 r1
    rcases hz with ⟨z1, z2⟩ | ⟨z1, z2⟩
    · obtain ⟨F2, e2, A2, q1⟩ := A1.fz r z1
      obtain ⟨F3, e3, A3, q2⟩ := A2.fz (r'.mono e2 (List.prefix_refl _)) z2
      cases q1 with | lst s u => cases q2 with | lst s' u' => exact ⟨_, _, _, _, rfl, .inl ⟨A2.fH.seq s, A3.fH.seq s', f _ _ ⟨F3, as1, μ', _, (e1.trans e2).trans e3, p1, A3, itOk_zipL (e3.seq s) (u.mono e3) s' u', q⟩⟩⟩
    · obtain ⟨F2, e2, A2, q1⟩ := A1.fz r z1
      obtain ⟨F3, e3, A3, q2⟩ := A2.fz (r'.mono e2 (List.prefix_refl _)) z2
      cases q1 with | tup s u => cases q2 with | tup s' u' => exact ⟨_, _, _, _, rfl, .inr ⟨SameT A2.fH s, SameT A3.fH s', f _ _ ⟨F3, as1, μ', _, (e1.trans e2).trans e3, p1, A3, itOk_zipT (SameT e3 s) (u.mono e3) s' u', q⟩⟩⟩⟩
end
end DS

/-! DSem8: targets, comprehensions, statements, loops. -/
namespace DS
open PySem PySem.Spec PyProof.Rows L2
variable [Tbs]

/-! ### less known -/
/-- μ' knows less than μ -/
def wkM (μ μ' : Mu) : Prop := μ'.length ≤ μ.length ∧ ∀ (k : Nat) (m : MO), μ'[k]? = some m → m = .dead ∨ μ[k]? = some m
def wkD (δ δ' : De) : Prop := δ'.length = δ.length ∧ ∀ (i : Nat) (sv : SV), δ'[i]? = some (some sv) → δ[i]? = some (some sv)
section
variable {K : PySem.W.Frag} {C : DX} {F F' H H' : Hp} {as as' : List Addr} {σ σ' : L2.St} {δ δ' : De} {μ μ' : Mu}
theorem Agree.reslot (A : Agree K C F H as σ δ μ) (hl : σ'.length = δ'.length) (val : ∀ (i : Nat) (sv : SV), δ'[i]? = some (some sv) → ∃ v, σ'[i]? = some (some v) ∧ VOk K F as v sv) : Agree K C F H as σ' δ' μ :=
  ⟨A.f0, A.fr, A.rH, A.fH, A.las, A.pre, A.nd, A.own, A.frz, hl, val, A.fT, A.rT, A.tb⟩
theorem Agree.set (A : Agree K C F H as σ δ μ) {v : V} {sv : SV} (r : VOk K F as v sv) (j : Nat) : Agree K C F H as (σ.set j (some v)) (δ.set j (some sv)) μ := by
  refine A.reslot (by rw [List.length_set, List.length_set]; exact A.lσ) fun i s h => ?_
  by_cases e : i = j
  · subst e
    have hi : i < δ.length := by
      have := (List.getElem?_eq_some_iff.mp h).1
      rwa [List.length_set] at this
    rw [List.getElem?_set_self hi] at h
    cases h
    exact ⟨v, List.getElem?_set_self (by rw [A.lσ]; exact hi), r⟩
  · rw [List.getElem?_set_ne (Ne.symm e)] at h
    obtain ⟨w, h1, h2⟩ := A.val i s h
    exact ⟨w, by rw [List.getElem?_set_ne (Ne.symm e)]; exact h1, h2⟩
theorem Agree.cut {as0 : List Addr} {μ0 : Mu} (A : Agree K C F H as σ δ μ) (p : as0 <+: as) (hl : as0.length = μ0.length) (pr : C.ps <+: as0) (h : ∀ (k : Nat) (m : MO), μ0[k]? = some m → m = .dead ∨ μ[k]? = some m)
    (hd : σ'.length = δ'.length) (val : ∀ (i : Nat) (sv : SV), δ'[i]? = some (some sv) → ∃ v, σ'[i]? = some (some v) ∧ VOk K F as0 v sv) : Agree K C F H as0 σ' δ' μ0 := by
  refine ⟨A.f0, A.fr, A.rH, A.fH, hl, pr, fun i j a m m' a1 a2 b1 b2 l1 l2 => ?_, fun k m a b1 a1 l1 => ?_, fun k xs a b1 a1 => ?_, hd, val, A.fT, A.rT, A.tb⟩
  · rcases h i m b1 with e | e
    · subst e; cases l1
    · rcases h j m' b2 with e' | e'
      · subst e'; cases l2
      · exact A.nd i j a m m' (pfx_get p a1) (pfx_get p a2) e e' l1 l2
  · rcases h k m b1 with e | e
    · subst e; cases l1
    · exact A.own k m a e (pfx_get p a1) l1
  · rcases h k _ b1 with e | e
    · cases e
    · exact A.frz k xs a e (pfx_get p a1)
theorem Agree.weak (A : Agree K C F H as σ δ μ) (hm : wkM μ μ') (hd : wkD δ δ') (hp : C.ps.length ≤ μ'.length) (hs : ∀ (i : Nat) (k : Nat), δ'[i]? = some (some (.loc k)) → k < μ'.length) : Agree K C F H (as.take μ'.length) σ δ' μ' := by
  have hl : μ'.length ≤ as.length := by rw [A.las]; exact hm.1
  refine A.cut (List.take_prefix _ _) (by rw [List.length_take, Nat.min_eq_left hl]) (List.prefix_take_iff.mpr ⟨A.pre, hp⟩) hm.2 (by rw [hd.1]; exact A.lσ) fun i sv h => ?_
  obtain ⟨v, h1, h2⟩ := A.val i sv (hd.2 i sv h)
  refine ⟨v, h1, ?_⟩
  cases sv with
  | d x => exact h2
  | loc k =>
    obtain ⟨a, ha, e⟩ := h2
    exact ⟨a, by rw [List.getElem?_take, if_pos (hs i k h)]; exact ha, e⟩
end

/-! ### targets in a comprehension -/
def setV : L2.St → List Nat → List V → L2.St
  | σ, j :: js, v :: vs => setV (σ.set j (some v)) js vs
  | σ, _, _ => σ
def setDs : De → List Nat → List D → De
  | δ, j :: js, d :: ds => setDs (δ.set j (some (.d d))) js ds
  | δ, _, _ => δ
def wipeD (δ : De) : List Nat → De
  | [] => δ
  | v :: vs => (wipeD δ vs).set v none
/-- g stores the parts un y of a value y into the slots js -/
structure Tgt (K : PySem.W.Frag) (g : TG) (js : List Nat) (un : D → Option (List D)) : Prop where
  len : ∀ y ds, un y = some ds → ds.length = js.length
  go : ∀ (F H : Hp) (v : V) (y : D) (ds : List D) (σ : L2.St) (Q : L2.St → Hp → Prop), Same F H → Rep K F v y → un y = some ds → (∀ vs, RepA K F vs ds → Q (setV σ js vs) H) → g v σ H Q
theorem tgt_name {K : PySem.W.Frag} (j : Nat) : Tgt K (gName j) [j] (fun y => some [y]) :=
  ⟨fun y ds h => by cases h; rfl, fun F H v y ds σ Q e r h q => by
    cases h
    exact q [v] (.cons r .nil)⟩
def un2 : D → Option (List D)
  | .tup [a, b] => some [a, b]
  | _ => none
theorem un2_eq {y : D} {ds : List D} (h : un2 y = some ds) : ∃ a b, y = .tup [a, b] ∧ ds = [a, b] := by
  unfold un2 at h
  split at h
  · cases h; exact ⟨_, _, rfl, rfl⟩
  · cases h
theorem tgt_pair {K : PySem.W.Frag} (i j : Nat) : Tgt K (gTup K 2 (gCons (gName i) (gCons (gName j) gNil))) [i, j] un2 := by
  refine ⟨fun y ds h => ?_, fun F H v y ds σ Q e r h q => ?_⟩
  · obtain ⟨a, b, rfl, rfl⟩ := un2_eq h
    rfl
  · obtain ⟨a, b, rfl, rfl⟩ := un2_eq h
    cases r with | tup s u => cases u with | cons r1 u => cases u with | cons r2 u => cases u; exact ⟨_, _, rfl, SameT e s, rfl, _, _, rfl, _, _, rfl, rfl, q _ (.cons r1 (.cons r2 .nil))⟩
theorem wipe_set_in (σ : L2.St) : ∀ {vs : List Nat} {j : Nat} {o : Option V}, j ∈ vs → wipe (σ.set j o) vs = wipe σ vs
  | [], j, o, h => by cases h
  | v :: vs, j, o, h => by
    unfold wipe
    by_cases hj : j ∈ vs
    · rw [wipe_set_in σ hj]
    · have e : j = v := by
        rcases List.mem_cons.mp h with e | e
        · exact e
        · exact absurd e hj
      subst e
      have comm : ∀ (us : List Nat), j ∉ us → wipe (σ.set j o) us = (wipe σ us).set j o := fun us => by
        induction us with
        | nil => intro _; rfl
        | cons u us ih =>
          intro hu
          unfold wipe
          rw [ih (fun z => hu (List.mem_cons_of_mem _ z))]
          exact List.set_comm _ _ (fun z => hu (by rw [z]; exact List.mem_cons_self ..))
      rw [comm vs hj, List.set_set]
theorem wipe_wipe (σ : L2.St) (vs : List Nat) : wipe (wipe σ vs) vs = wipe σ vs := by
  have gen : ∀ us : List Nat, (∀ u ∈ us, u ∈ vs) → wipe (wipe σ us) vs = wipe σ vs := fun us => by
    induction us with
    | nil => intro _; rfl
    | cons u us ih =>
      intro h
      show wipe ((wipe σ us).set u none) vs = _
      rw [wipe_set_in _ (h u (List.mem_cons_self ..))]
      exact ih fun x hx => h x (List.mem_cons_of_mem _ hx)
  exact gen vs fun _ h => h
theorem wipe_setV (σ : L2.St) (vs : List Nat) : ∀ (js : List Nat) (ws : List V), (∀ j ∈ js, j ∈ vs) → wipe (setV σ js ws) vs = wipe σ vs
  | [], _, _ => rfl
  | _ :: _, [], _ => rfl
  | j :: js, w :: ws, h => by
    unfold setV
    rw [wipe_setV _ vs js ws (fun x hx => h x (List.mem_cons_of_mem _ hx)), wipe_set_in _ (h j (List.mem_cons_self ..))]
theorem wipeD_some {δ : De} {i : Nat} {x : SV} : ∀ {vs : List Nat}, (wipeD δ vs)[i]? = some (some x) → δ[i]? = some (some x) ∧ i ∉ vs
  | [], h => ⟨h, by simp⟩
  | v :: vs, h => by
    unfold wipeD at h
    by_cases hi : v = i
    · subst hi
      by_cases hv : v < (wipeD δ vs).length
      · rw [List.getElem?_set_self hv] at h; cases h
      · rw [List.getElem?_eq_none (by simpa using hv)] at h; cases h
    · rw [List.getElem?_set_ne hi] at h
      obtain ⟨h1, h2⟩ := wipeD_some h
      exact ⟨h1, by simp only [List.mem_cons, not_or]; exact ⟨fun e => hi e.symm, h2⟩⟩
theorem wipeD_length (δ : De) : ∀ vs : List Nat, (wipeD δ vs).length = δ.length
  | [] => rfl
  | v :: vs => by unfold wipeD; rw [List.length_set, wipeD_length δ vs]
theorem wipe_get {σ : L2.St} {i : Nat} : ∀ {vs : List Nat}, i ∉ vs → (wipe σ vs)[i]? = σ[i]?
  | [], _ => rfl
  | v :: vs, h => by
    unfold wipe
    rw [List.getElem?_set_ne (fun e => h (by rw [e]; exact List.mem_cons_self ..))]
    exact wipe_get fun z => h (List.mem_cons_of_mem _ z)
section
variable {K : PySem.W.Frag} {C : DX} {F F' H H' : Hp} {as as' : List Addr} {σ σ' : L2.St} {δ δ' : De} {μ μ' : Mu}
theorem Agree.wipe (A : Agree K C F H as σ δ μ) (vs : List Nat) : Agree K C F H as (L2.wipe σ vs) (wipeD δ vs) μ := by
  refine A.reslot (by rw [wipe_length, wipeD_length]; exact A.lσ) fun i sv h => ?_
  obtain ⟨h1, h2⟩ := wipeD_some h
  obtain ⟨v, h3, h4⟩ := A.val i sv h1
  exact ⟨v, by rw [wipe_get h2]; exact h3, h4⟩
theorem Agree.setV : ∀ {js : List Nat} {vs : List V} {ds : List D} {σ : L2.St} {δ : De}, Agree K C F H as σ δ μ → RepA K F vs ds → Agree K C F H as (DS.setV σ js vs) (setDs δ js ds) μ
  | [], _, _, _, _, A, _ => by unfold DS.setV setDs; exact A
  | _ :: _, _, _, _, _, A, .nil => by unfold DS.setV setDs; exact A
  | j :: js, _, _, _, _, A, .cons r t => by
    unfold DS.setV setDs
    exact Agree.setV (A.set (sv := .d _) r j) t
end

/-! ### comprehensions -/
abbrev BX (X : Cx) (s : Shared) (H : Hp) (scope : Scope) (Cc : Addr) (cl : List (Str × Addr)) (fp : List Addr) : Cx := X.blk s H scope (compEnvC scope cl Cc X.env) fp
/-- the tests of a comprehension: none, or one -/
def WTs (C : DX) (X : Cx) : List Expr → De → Mu → (Bool → Mu → Prop) → Prop
  | [], _, μ, Q => Q true μ
  | [c], δ, μ, Q => WT C X c δ μ Q
  | _, _, _, _ => False
def ttI (X : Cx) (scope : Scope) : List Expr → TT
  | [] => tYes
  | [c] => fun σ H Q => ∀ s H0 Cc cl fp, tmT (BX X s H0 scope Cc cl fp) c σ H Q
  | _ => fun _ _ _ => False
def teI (X : Cx) (scope : Scope) (e : Expr) : TE := fun σ H Q => ∀ s H0 Cc cl fp, tm (BX X s H0 scope Cc cl fp) e σ H Q
theorem pts_I {X : Cx} {scope : Scope} : ∀ (ifs : List Expr) (s : Shared) (H0 : Hp) (Cc : Addr) (cl : List (Str × Addr)) (fp : List Addr), ifs.length ≤ 1 → PTs (BX X s H0 scope Cc cl fp) ifs (ttI X scope ifs)
  | [], _, _, _, _, _, _ => pts_nil
  | [c], s, H0, Cc, cl, fp, _ => pts_one ⟨fun pins s1 σ H Q I h => h s H0 Cc cl fp pins s1 I⟩
  | _ :: _ :: _, _, _, _, _, _, h => by simp at h
theorem pe_I {X : Cx} {scope : Scope} {e : Expr} (s : Shared) (H0 : Hp) (Cc : Addr) (cl : List (Str × Addr)) (fp : List Addr) : PE (BX X s H0 scope Cc cl fp) e (teI X scope e) := ⟨fun pins s1 σ H Q I h => h s H0 Cc cl fp pins s1 I⟩
/-- what a turn leaves: the new list so far, the store before it -/
def lcEnd (n : Nat) (acc : List D) (μ : Mu) (k : Mu → Prop) : Prop := ∃ μ', wkM (μ.take n) μ' ∧ μ'.length = n ∧ μ[n]? = some (.lst acc) ∧ k μ'
section
variable {C : DX} {X : Cx} {δ : De} {μ : Mu} {Q : SV → Mu → Prop} {pos : Pos}
theorem lc_all {elt : Expr} {ifs : List Expr} {scope : Scope} {own : List (Str × Nat)} {g : TG} {js : List Nat} {un : D → Option (List D)} {wi : TI}
    (tgt : Tgt X.K g js un) (hj : ∀ j ∈ js, j ∈ own.map (·.2)) (hif : ifs.length ≤ 1) {F0 F H : Hp} {as : List Addr} {σ : L2.St} {Q' : VK} (A : Agree X.K (C.w F0) F H as σ δ μ) (fQ : ∀ v H', Post X.K (C.w F0) F as σ δ Q v H' → Q' v H')
    (h : ∀ R : It → Hp → Prop, (∀ J H', (∃ F' as' μ' ys, Same F F' ∧ as <+: as' ∧ Agree X.K (C.w F0) F' H' as' σ δ μ' ∧ ItOk X.K F' J ys ∧ ∃ Iv : Nat → List D → Mu → Prop, (ys.length ≤ 100000 ∧ Iv 0 [] μ' ∧
      (∀ i y acc μ1, ys[i]? = some y → acc.length ≤ i → μ1.length = μ'.length → Iv i acc μ1 → ∃ ds, un y = some ds ∧ ∀ s H0 Cc cl fp, WTs C (BX X s H0 scope Cc cl fp) ifs (setDs (wipeD δ (own.map (·.2))) js ds) (μ1 ++ [.lst acc]) fun b μ2 =>
        (b = true → ∀ s H0 Cc cl fp, WE C (BX X s H0 scope Cc cl fp) elt (setDs (wipeD δ (own.map (·.2))) js ds) μ2 fun sv μ3 => ∃ d μ4, fz μ3 sv = some (d, μ4) ∧ lcEnd μ'.length acc μ4 fun μ5 => Iv (i + 1) (acc ++ [d]) μ5) ∧
        (b = false → lcEnd μ'.length acc μ2 fun μ5 => Iv (i + 1) acc μ5)) ∧
      (∀ acc μ1, acc.length ≤ ys.length → μ1.length = μ'.length → Iv ys.length acc μ1 → Q (.loc μ1.length) (μ1 ++ [.lst acc])))) → R J H') → wi σ H R) :
    tLc wi g (ttI X scope ifs) (teI X scope elt) (own.map (·.2)) σ H Q' := by
  refine h _ fun J H1 ⟨F1, as1, μ1, ys, e1, p1, A1, itok, Iv, hlen, iv0, turn, fin⟩ => ?_
  intro Dl hDl
  let n := μ1.length
  have as1n : as1.length = n := A1.las
  have pf : as1 <+: as1 ++ [Dl] := List.prefix_append _ _
  have atn : (as1 ++ [Dl])[n]? = some Dl := by
    rw [← as1n, List.getElem?_append_right (Nat.le_refl _), Nat.sub_self]; rfl
  -- the slots outside, at any later state
  have slots : ∀ F2, Same F1 F2 → ∀ (i : Nat) (sv : SV), δ[i]? = some (some sv) → ∃ v, σ[i]? = some (some v) ∧ VOk X.K F2 (as1 ++ [Dl]) v sv := fun F2 e i sv hs => by
    obtain ⟨v, h1, h2⟩ := A1.val i sv hs
    exact ⟨v, h1, h2.mono e pf⟩
  have W0 : ∃ W : Nat → Nat → Hp → Prop, W = fun i m H => m = ys.length - i ∧ i ≤ ys.length ∧ ∃ (F2 : Hp) (acc : List D) (μ2 : Mu), Same F1 F2 ∧ μ2.length = n ∧ acc.length ≤ i ∧ Agree X.K (C.w F0) F2 H (as1 ++ [Dl]) σ δ (μ2 ++ [MO.lst acc]) ∧ Iv i acc μ2 := ⟨_, rfl⟩
  obtain ⟨W, hW⟩ := W0
  -- cut back to the store outside and the new list
  have back : ∀ {F3 H3 : Hp} {as3 : List Addr} {σ2 : L2.St} {δ2 : De} {acc' : List D} {μ4 μ5 : Mu}, Same F1 F3 → (as1 ++ [Dl]) <+: as3 → Agree X.K (C.w F0) F3 H3 as3 σ2 δ2 μ4 → wkM (μ4.take n) μ5 → μ5.length = n → μ4[n]? = some (.lst acc') → Agree X.K (C.w F0) F3 H3 (as1 ++ [Dl]) σ δ (μ5 ++ [MO.lst acc']) := by
    intro F3 H3 as3 σ2 δ2 acc' μ4 μ5 e p A w hl hn
    refine A.cut p (by rw [List.length_append, List.length_append, hl, as1n]; rfl) (A1.pre.trans pf) (fun k m hk => ?_) A1.lσ (slots F3 e)
    by_cases hkn : k < n
    · rw [List.getElem?_append_left (by rw [hl]; exact hkn)] at hk
      rcases w.2 k m hk with q | q
      · exact .inl q
      · rw [List.getElem?_take, if_pos hkn] at q
        exact .inr q
    · have hk2 : k < (μ5 ++ [MO.lst acc']).length := (List.getElem?_eq_some_iff.mp hk).1
      rw [List.length_append, hl, List.length_singleton] at hk2
      have ek : k = n := by omega
      subst ek
      rw [List.getElem?_append_right (by rw [hl]; exact Nat.le_refl _), hl, Nat.sub_self] at hk
      cases hk
      exact .inr hn
  refine ⟨W, ⟨ys.length, ?_⟩, fun i m H2 w => ?_⟩
  · rw [hW]
    exact ⟨rfl, Nat.zero_le _, F1, [], μ1, Same.refl _, rfl, Nat.le_refl _, A1.newM (m := .lst []) hDl rfl ⟨[], rfl, .nil⟩, iv0⟩
  rw [hW] at w
  obtain ⟨rfl, hi, F2, acc, μ2, e2, hl2, hacc, A2, iv⟩ := w
  obtain ⟨go, stop, yld⟩ := itok F2 H2 e2 A2.fH
  by_cases hlt : i < ys.length
  · obtain ⟨y, hy⟩ := get_lt hlt
    refine .inr ⟨go i hlt, fun H' => W (i + 1) (ys.length - (i + 1)) H', fun H' q => ⟨_, by omega, q⟩, fun x H3 hx => ?_⟩
    obtain ⟨F3, e3, A3, rx⟩ : ∃ F3, Same F2 F3 ∧ Agree X.K (C.w F0) F3 H3 (as1 ++ [Dl]) σ δ (μ2 ++ [.lst acc]) ∧ Rep X.K F3 x y := by
      rcases yld i y x H3 hy hx with ⟨rfl, r⟩ | ⟨T, o, ho, hT, rfl, r⟩
      · exact ⟨F2, Same.refl _, A2, r⟩
      · obtain ⟨e, A⟩ := A2.newF o hT ho
        exact ⟨_, e, A, r⟩
    obtain ⟨ds, hun, tests⟩ := turn i y acc μ2 hy hacc hl2 iv
    refine tgt.go F3 H3 x y ds _ _ A3.fH rx hun fun ws rws => ⟨?_, ?_⟩
    · rw [wipe_setV _ _ _ _ hj, wipe_wipe]
    have A4 := Agree.setV (js := js) (A3.wipe (own.map (·.2))) rws
    -- behind the tests
    have behind : ∀ b H4, PostB X.K (C.w F0) F3 (as1 ++ [Dl]) (setV (wipe σ (own.map (·.2))) js ws) (setDs (wipeD δ (own.map (·.2))) js ds) (fun b μ2 =>
        (b = true → ∀ s H0 Cc cl fp, WE C (BX X s H0 scope Cc cl fp) elt (setDs (wipeD δ (own.map (·.2))) js ds) μ2 fun sv μ3 => ∃ d μ4, fz μ3 sv = some (d, μ4) ∧ lcEnd n acc μ4 fun μ5 => Iv (i + 1) (acc ++ [d]) μ5) ∧
        (b = false → lcEnd n acc μ2 fun μ5 => Iv (i + 1) acc μ5)) b H4 →
        if b = true then teI X scope elt (setV (wipe σ (own.map (·.2))) js ws) H4 fun y H5 => ∃ acc, H5 Dl = some (.lst acc) ∧ acc.length < sizeLine ∧ W (i + 1) (ys.length - (i + 1)) (upd H5 Dl (.lst (acc ++ [y]))) else W (i + 1) (ys.length - (i + 1)) H4 := by
      rintro b H4 ⟨F4, as4, μ4, e4, p4, A5, qt, qf⟩
      cases b with
      | false =>
        refine iteF ?_
        obtain ⟨μ5, w5, hl5, hn5, iv5⟩ := qf rfl
        rw [hW]
        exact ⟨rfl, hlt, F4, acc, μ5, (e2.trans e3).trans e4, hl5, Nat.le_succ_of_le hacc, back ((e2.trans e3).trans e4) p4 A5 w5 hl5 hn5, iv5⟩
      | true =>
        refine iteT ?_
        intro s H0 Cc cl fp
        refine tm_mono (qt rfl s H0 Cc cl fp F0 F4 H4 as4 _ A5) fun v H5 ⟨F5, as5, μ5, sv, e5, p5, A6, r6, d, μ6, hz, μ7, w7, hl7, hn7, iv7⟩ => ?_
        obtain ⟨F6, e6, A7, rd⟩ := A6.fz r6 hz
        have at6 : as5[n]? = some Dl := pfx_get (p4.trans p5) atn
        obtain ⟨_, _, o, hH, vs, rfl, u⟩ := A7.own n _ Dl hn7 at6 rfl
        have A8 := A7.setL hn7 at6 (u.append (.cons rd .nil))
        refine ⟨vs, hH, ?_, ?_⟩
        · rw [u.length]
          exact Nat.lt_of_lt_of_le (by omega : acc.length < 100000) (by decide)
        rw [hW]
        have nlt : n < μ6.length := (List.getElem?_eq_some_iff.mp hn7).1
        have eF : Same F1 F6 := (((e2.trans e3).trans e4).trans e5).trans e6
        refine ⟨rfl, hlt, F6, acc ++ [d], μ7, eF, hl7, by rw [List.length_append]; simp; omega, back eF (p4.trans p5) A8 ⟨?_, fun k m hk => ?_⟩ hl7 (List.getElem?_set_self nlt), iv7⟩
        · have := w7.1
          simp only [List.length_take, List.length_set] at this ⊢
          exact this
        · rcases w7.2 k m hk with q | q
          · exact .inl q
          · refine .inr ?_
            rw [List.getElem?_take] at q ⊢
            split at q
            · rename_i hkn
              rw [if_pos hkn, List.getElem?_set_ne (Nat.ne_of_gt hkn)]
              exact q
            · cases q
    cases ifs with
    | nil =>
      have t0 := tests X.s_0 X.H_0 0 [] []
      exact behind true H3 ⟨F3, _, _, Same.refl _, List.prefix_refl _, A4, t0.1, t0.2⟩
    | cons c cs =>
      cases cs with
      | cons _ _ => simp at hif
      | nil =>
        intro s H0 Cc cl fp
        exact tmT_mono (tests s H0 Cc cl fp F0 F3 H3 _ _ A4) behind
  · have ei : i = ys.length := by omega
    subst ei
    refine .inl ⟨stop _ (Nat.le_refl _), fQ _ _ ⟨F2, as1 ++ [Dl], _, .loc n, e1.trans e2, p1.trans pf, A2, ⟨Dl, atn, rfl⟩, ?_⟩⟩
    have := fin acc μ2 hacc hl2 iv
    rw [hl2] at this
    exact this

/-- a turn of a comprehension, as one wishes to see it -/
def LcTurn (C : DX) (X : Cx) (scope : Scope) (vs js : List Nat) (un : D → Option (List D)) (elt : Expr) (ifs : List Expr) (δ : De) (n : Nat) (Iv : Nat → List D → Mu → Prop) (ys : List D) : Prop :=
  ∀ i y acc μ1, ys[i]? = some y → acc.length ≤ i → μ1.length = n → Iv i acc μ1 → ∃ ds, un y = some ds ∧ ∀ s H0 Cc cl fp, WTs C (BX X s H0 scope Cc cl fp) ifs (setDs (wipeD δ vs) js ds) (μ1 ++ [.lst acc]) fun b μ2 =>
    (b = true → ∀ s H0 Cc cl fp, WE C (BX X s H0 scope Cc cl fp) elt (setDs (wipeD δ vs) js ds) μ2 fun sv μ3 => ∃ d μ4, fz μ3 sv = some (d, μ4) ∧ lcEnd n acc μ4 fun μ5 => Iv (i + 1) (acc ++ [d]) μ5) ∧
    (b = false → lcEnd n acc μ2 fun μ5 => Iv (i + 1) acc μ5)
theorem we_lc {elt tg iter : Expr} {ifs : List Expr} {scope : Scope} {own : List (Str × Nat)} {g : TG} {js : List Nat} {un : D → Option (List D)} (tgt : Tgt X.K g js un) (hc : X.calm = true) (hN : X.N.Nodup) (ok : BlkOk X.N X.env.scope scope own)
    (hg : ∀ (s : Shared) (H : Hp) (Cc : Addr) (cl : List (Str × Addr)) (fp : List Addr), PG (BX X s H scope Cc cl fp) tg g) (hj : ∀ j ∈ js, j ∈ own.map (·.2)) (hif : ifs.length ≤ 1)
    (h : WI C X tg iter δ μ fun ys μ' => ∃ Iv : Nat → List D → Mu → Prop, ys.length ≤ 100000 ∧ Iv 0 [] μ' ∧ LcTurn C X scope (own.map (·.2)) js un elt ifs δ μ'.length Iv ys ∧ (∀ acc μ1, acc.length ≤ ys.length → μ1.length = μ'.length → Iv ys.length acc μ1 → Q (.loc μ1.length) (μ1 ++ [.lst acc])))
    (hs : ∀ x, foldedSetIterable iter X.env x = pure x := by intro _; rfl) : WE C X (.ListComp elt [⟨tg, iter, ifs, 0⟩] scope pos) δ μ Q := fun F0 F H as σ A => by
  obtain ⟨wi, hp, h⟩ := h
  exact tm_of (pe_lc hc hN hp ok hg (fun s H0 Cc cl fp => pts_I ifs s H0 Cc cl fp hif) (fun s H0 Cc cl fp => pe_I s H0 Cc cl fp) hs) (lc_all tgt hj hif A (fun _ _ z => z) fun R f => h F0 F H as σ R A f)

/-! ### statements -/
theorem cN_mono {K : PySem.W.Frag} {q q' : De → Mu → Prop} {σ : L2.St} {H : Hp} (h : cN K C q σ H) (f : ∀ δ μ, q δ μ → q' δ μ) : cN K C q' σ H := by
  obtain ⟨F, as, δ, μ, A, q⟩ := h
  exact ⟨F, as, δ, μ, A, f _ _ q⟩
variable {E : DE} {a b c e tg : Expr} {st : Stmt} {sts sts2 : List Stmt}
theorem wss_nil (q : E.nx δ μ) : WSs C X [] δ μ E := fun F0 F H as σ A => tmSs_of pss_nil ⟨F, as, δ, μ, A, q⟩
theorem wss_cons (h : WS C X st δ μ { E with nx := fun δ1 μ1 => WSs C X sts δ1 μ1 E }) : WSs C X (st :: sts) δ μ E := fun F0 F H as σ A =>
  tmSs_of (pss_cons ps_tm pss_tm) (tmS_mono (h F0 F H as σ A) (fun σ1 H1 ⟨F1, as1, δ1, μ1, A1, q⟩ => q F0 F1 H1 as1 σ1 A1) (fun _ _ q => q) (fun _ _ q => q) (fun _ _ q => q))
theorem wss_one (h : WS C X st δ μ E) : WSs C X [st] δ μ E := fun F0 F H as σ A => tmSs_of (pss_one ps_tm) (h F0 F H as σ A)
theorem wss_mono {E' : DE} (h : WSs C X sts δ μ E) (h1 : ∀ δ μ, E.nx δ μ → E'.nx δ μ) (h2 : ∀ v μ, E.rt v μ → E'.rt v μ) (h3 : ∀ δ μ, E.bk δ μ → E'.bk δ μ) (h4 : ∀ δ μ, E.ct δ μ → E'.ct δ μ) : WSs C X sts δ μ E' := fun F0 F H as σ A =>
  tmSs_mono (h F0 F H as σ A) (fun _ _ q => cN_mono q h1) (fun v H ⟨F, as, σ, δ, μ, sv, A, r, q⟩ => ⟨F, as, σ, δ, μ, sv, A, r, h2 _ _ q⟩) (fun _ _ q => cN_mono q h3) (fun _ _ q => cN_mono q h4)
theorem ws_pass (q : E.nx δ μ) : WS C X (.Pass pos) δ μ E := fun F0 F H as σ A => tmS_of ps_pass ⟨F, as, δ, μ, A, q⟩
theorem ws_break (q : E.bk δ μ) : WS C X (.Break pos) δ μ E := fun F0 F H as σ A => tmS_of ps_break ⟨F, as, δ, μ, A, q⟩
theorem ws_continue (q : E.ct δ μ) : WS C X (.Continue pos) δ μ E := fun F0 F H as σ A => tmS_of ps_continue ⟨F, as, δ, μ, A, q⟩
theorem ws_never (h : False) : WS C X st δ μ E := h.elim
theorem wss_never (h : False) : WSs C X sts δ μ E := h.elim
theorem ws_expr (h : WE C X e δ μ fun _ μ1 => E.nx δ μ1) (hs : swapsWith e none pos.line X.env = pure false := by rfl) : WS C X (.Expr e pos) δ μ E := fun F0 F H as σ A =>
  tmS_of (ps_expr pe_tm hs) (tm_mono (h F0 F H as σ A) fun v H1 ⟨F1, as1, μ1, sv, e1, p1, A1, r1, q1⟩ => ⟨F1, as1, δ, μ1, A1, q1⟩)
theorem ws_ret (h : WE C X e δ μ fun sv μ1 => E.rt sv μ1) : WS C X (.Return (some e) pos) δ μ E := fun F0 F H as σ A =>
  tmS_of (ps_ret pe_tm) (tm_mono (h F0 F H as σ A) fun v H1 ⟨F1, as1, μ1, sv, e1, p1, A1, r1, q1⟩ => ⟨F1, as1, σ, δ, μ1, sv, A1, r1, q1⟩)
theorem ws_retN (q : E.rt (.d .non) μ) : WS C X (.Return none pos) δ μ E := fun F0 F H as σ A => tmS_of ps_retN ⟨F, as, σ, δ, μ, .d .non, A, .non, q⟩
theorem ws_if (h : WT C X c δ μ fun k μ1 => (k = true → WSs C X sts δ μ1 E) ∧ (k = false → WSs C X sts2 δ μ1 E)) : WS C X (.If c sts sts2 pos) δ μ E := fun F0 F H as σ A =>
  tmS_of (ps_if pt_tm pss_tm pss_tm) (tmT_mono (h F0 F H as σ A) fun k H1 ⟨F1, as1, μ1, e1, p1, A1, q1, q2⟩ => by
    cases k with
    | true => exact iteT (q1 rfl F0 F1 H1 as1 σ A1)
    | false => exact iteF (q2 rfl F0 F1 H1 as1 σ A1))
theorem ws_set {x : Str} {pos' : Pos} (i : Nat) (hN : X.N.Nodup) (hi : X.N[i]? = some x) (hx : Loc X.env.scope x) (h : WE C X e δ μ fun sv μ1 => E.nx (δ.set i (some sv)) μ1) (hs : swapsWith e (some (.Name x pos')) pos.line X.env = pure false := by rfl)
    (hf : X.fn x = true ∨ X.env.scope.names.lookup x = some .local := by first | exact .inl rfl | exact .inr rfl | assumption) : WS C X (.Assign [.Name x pos'] e pos) δ μ E := fun F0 F H as σ A =>
  tmS_of (ps_set hN hi hx pe_tm hs hf) (tm_mono (h F0 F H as σ A) fun v H1 ⟨F1, as1, μ1, sv, e1, p1, A1, r1, q1⟩ => ⟨F1, as1, _, μ1, A1.set r1 i, q1⟩)
/-- name = [..], the name a local -/
theorem ws_setLc {x : Str} {pos' spos : Pos} {elt iter : Expr} {ifs : List Expr} {scope : Scope} {own : List (Str × Nat)} {g : TG} {js : List Nat} {un : D → Option (List D)} (i : Nat) (tgt : Tgt X.K g js un) (hc : X.calm = true) (hN : X.N.Nodup) (hi : X.N[i]? = some x) (hxl : X.env.scope.names.lookup x = some .local)
    (hsw : swapsWith (.ListComp elt [⟨tg, iter, ifs, 0⟩] scope pos) (some (.Name x pos')) spos.line X.env = pure true) (ok : BlkOk X.N X.env.scope scope own)
    (hg : ∀ (s : Shared) (H : Hp) (Cc : Addr) (cl : List (Str × Addr)) (fp : List Addr), PG (BX X s H scope Cc cl fp) tg g) (hj : ∀ j ∈ js, j ∈ own.map (·.2)) (hif : ifs.length ≤ 1)
    (h : WI C X tg iter δ μ fun ys μ' => ∃ Iv : Nat → List D → Mu → Prop, ys.length ≤ 100000 ∧ Iv 0 [] μ' ∧ LcTurn C X scope (own.map (·.2)) js un elt ifs δ μ'.length Iv ys ∧ (∀ acc μ1, acc.length ≤ ys.length → μ1.length = μ'.length → Iv ys.length acc μ1 → E.nx (δ.set i (some (.loc μ1.length))) (μ1 ++ [.lst acc])))
    (hs : ∀ x, foldedSetIterable iter X.env x = pure x := by intro _; rfl) : WS C X (.Assign [.Name x pos'] (.ListComp elt [⟨tg, iter, ifs, 0⟩] scope pos) spos) δ μ E := fun F0 F H as σ A => by
  obtain ⟨wi, hp, h⟩ := h
  refine tmS_of (ps_setLc hc hN hi hxl hsw hp ok hg (fun s H0 Cc cl fp => pts_I ifs s H0 Cc cl fp hif) (fun s H0 Cc cl fp => pe_I s H0 Cc cl fp) hs) ?_
  exact lc_all (Q := fun sv μ1 => E.nx (δ.set i (some sv)) μ1) tgt hj hif A (fun v H1 ⟨F1, as1, μ1, sv, e1, p1, A1, r1, q1⟩ => ⟨F1, as1, _, μ1, A1.set r1 i, q1⟩) fun R f => h F0 F H as σ R A f
end
end DS

/-! DSem9: assignments to targets, for, while. -/
namespace DS
open PySem PySem.Spec PyProof.Rows L2
variable [Tbs]
def un3 : D → Option (List D)
  | .tup [a, b, c] => some [a, b, c]
  | _ => none
theorem un3_eq {y : D} {ds : List D} (h : un3 y = some ds) : ∃ a b c, y = .tup [a, b, c] ∧ ds = [a, b, c] := by
  unfold un3 at h
  split at h
  · cases h; exact ⟨_, _, _, rfl, rfl⟩
  · cases h
theorem tgt_triple {K : PySem.W.Frag} (i j l : Nat) : Tgt K (gTup K 3 (gCons (gName i) (gCons (gName j) (gCons (gName l) gNil)))) [i, j, l] un3 := by
  refine ⟨fun y ds h => ?_, fun F H v y ds σ Q e r h q => ?_⟩
  · obtain ⟨a, b, c, rfl, rfl⟩ := un3_eq h
    rfl
  · obtain ⟨a, b, c, rfl, rfl⟩ := un3_eq h
    cases r with | tup s u => cases u with | cons r1 u => cases u with | cons r2 u => cases u with | cons r3 u => cases u; exact ⟨_, _, rfl, SameT e s, rfl, _, _, rfl, _, _, rfl, _, _, rfl, rfl, q _ (.cons r1 (.cons r2 (.cons r3 .nil)))⟩
/-- ((a, b), c) -/
def un21 : D → Option (List D)
  | .tup [.tup [a, b], c] => some [a, b, c]
  | _ => none
theorem un21_eq {y : D} {ds : List D} (h : un21 y = some ds) : ∃ a b c, y = .tup [.tup [a, b], c] ∧ ds = [a, b, c] := by
  unfold un21 at h
  split at h
  · cases h; exact ⟨_, _, _, rfl, rfl⟩
  · cases h
theorem tgt_nest {K : PySem.W.Frag} (i j l : Nat) : Tgt K (gTup K 2 (gCons (gTup K 2 (gCons (gName i) (gCons (gName j) gNil))) (gCons (gName l) gNil))) [i, j, l] un21 := by
  refine ⟨fun y ds h => ?_, fun F H v y ds σ Q e r h q => ?_⟩
  · obtain ⟨a, b, c, rfl, rfl⟩ := un21_eq h
    rfl
  · obtain ⟨a, b, c, rfl, rfl⟩ := un21_eq h
    cases r with | tup s u => cases u with | cons r1 u => cases u with | cons r2 u => cases u; cases r1 with | tup s' u' => cases u' with | cons q1 u' => cases u' with | cons q2 u' => cases u'; exact ⟨_, _, rfl, SameT e s, rfl, _, _, rfl, ⟨_, _, rfl, SameT e s', rfl, _, _, rfl, _, _, rfl, rfl, _, _, rfl, rfl, q _ (.cons q1 (.cons q2 (.cons r2 .nil)))⟩⟩
section
variable {C : DX} {X : Cx} {δ : De} {μ : Mu} {Q : SV → Mu → Prop} {E : DE} {pos p2 pos' p pt : Pos} {a b c e o i tg iter : Expr} {es : List Expr} {st : Stmt} {body : List Stmt} {g : TG} {js : List Nat} {un : D → Option (List D)}
/-- a target of several names = e -/
theorem ws_asgT (tgt : Tgt X.K g js un) (hg : PG X tg g) (h : WE C X e δ μ fun sv μ1 => ∃ y μ' ds, fz μ1 sv = some (y, μ') ∧ un y = some ds ∧ E.nx (setDs δ js ds) μ')
    (hs : swapsWithSole [tg] e pos.line X.env = pure false := by rfl) (hw : swappedStores [tg] e X.env = pure none := by rfl) (h1 : (assignEach [tg] X.env).map (·.2) = [assign tg X.env] := by rfl) : WS C X (.Assign [tg] e pos) δ μ E := fun F0 F H as σ A =>
  tmS_of (ps_asg pe_tm hg hs hw h1) (tm_mono (h F0 F H as σ A) fun v H1 ⟨F1, as1, μ1, sv, e1, p1, A1, r1, y, μ', ds, hz, hu, q⟩ => by
    obtain ⟨F2, e2, A2, ry⟩ := A1.fz r1 hz
    exact tgt.go F2 H1 v y ds σ _ A2.fH ry hu fun vs rvs => ⟨F2, as1, _, μ', A2.setV rvs, q⟩)
/-- o[i] = e, a list -/
def kSet (so si sv : SV) (μ : Mu) (q : Mu → Prop) : Prop := ∃ k xs n j d μ', so = .loc k ∧ cnt μ si = some (.int n) ∧ fz μ sv = some (d, μ') ∧ μ'[k]? = some (.lst xs) ∧ ixN xs.length n = some j ∧ q (μ'.set k (.lst (xs.set j d)))
theorem ws_setL (h : WE C X e δ μ fun sv μ1 => WE C X o δ μ1 fun so μ2 => WE C X i δ μ2 fun si μ3 => kSet so si sv μ3 fun μ4 => E.nx δ μ4)
    (hs : swapsWithSole [.Subscript o i p2] e pos.line X.env = pure false := by rfl) (hw : swappedStores [.Subscript o i p2] e X.env = pure none := by rfl) (h1 : (assignEach [.Subscript o i p2] X.env).map (·.2) = [assign (.Subscript o i p2) X.env] := by rfl)
    (ha : ∀ v, assign (.Subscript o i p2) X.env v = (do
      let ov ← holding [v] (eval o X.env)
      let iv ← holding [v, ov] (eval i X.env)
      standAt p2
      holding [v, ov, iv] (setItem ov iv v)
      release [v, ov, iv] []) := by intro _; rfl) : WS C X (.Assign [.Subscript o i p2] e pos) δ μ E := fun F0 F H as σ A =>
  tmS_of (ps_asg pe_tm (pg_sub pe_tm pe_tm set_list ha) hs hw h1) (tm_mono (h F0 F H as σ A) fun v H1 ⟨F1, as1, μ1, sv, e1, p1, A1, r1, q1⟩ => tm_mono (q1 F0 F1 H1 as1 σ A1) fun w H2 ⟨F2, as2, μ2, so, e2, p2, A2, r2, q2⟩ =>
    tm_mono (q2 F0 F2 H2 as2 σ A2) fun z H3 ⟨F3, as3, μ3, si, e3, p3, A3, r3, k, xs, n, j, d, μ', h0, hn, hz, hk, hj, q⟩ => by
      subst h0
      obtain ⟨F4, e4, A4, rd⟩ := A3.fz (r1.mono (e2.trans e3) (p2.trans p3)) hz
      obtain ⟨ad, vs, ha, rfl, hH, u⟩ := A4.at ((r2.mono e3 p3).mono e4 (List.prefix_refl _)) hk
      exact ⟨ad, vs, n, j, rfl, A3.rdI r3 hn, hH, by rw [u.length]; exact hj, F4, as3, δ, _, A4.setL hk ha (u.set rd j), q⟩)
/-- name += e, name -= e; ints -/
theorem ws_augadd {x : Str} (i : Nat) (hN : X.N.Nodup) (hi : X.N[i]? = some x) (hx : Loc X.env.scope x) {n : Int} (hv : δ[i]? = some (some (.d (.int n)))) (h : WE C X e δ μ fun sv μ1 => ∃ k, cnt μ1 sv = some (.int k) ∧ E.nx (δ.set i (some (.d (.int (n + k))))) μ1)
    (hf : X.fn x = true ∨ X.env.scope.names.lookup x = some .local := by first | exact .inl rfl | exact .inr rfl | assumption) : WS C X (.AugAssign (.Name x pos') .Add e pos) δ μ E := fun F0 F H as σ A => by
  obtain ⟨v0, h1, h2⟩ := A.val i _ hv
  cases h2
  exact tmS_of (ps_aug hN hi hx pe_tm ip_add hf) ⟨_, h1, tm_mono (h F0 F H as σ A) fun v H1 ⟨F1, as1, μ1, sv, e1, p1, A1, r1, k, hk, q⟩ => ⟨n, k, rfl, A1.rdI r1 hk, F1, as1, _, μ1, A1.set (sv := .d _) (.int _) i, q⟩⟩
theorem ws_augsub {x : Str} (i : Nat) (hN : X.N.Nodup) (hi : X.N[i]? = some x) (hx : Loc X.env.scope x) {n : Int} (hv : δ[i]? = some (some (.d (.int n)))) (h : WE C X e δ μ fun sv μ1 => ∃ k, cnt μ1 sv = some (.int k) ∧ E.nx (δ.set i (some (.d (.int (n - k))))) μ1)
    (hf : X.fn x = true ∨ X.env.scope.names.lookup x = some .local := by first | exact .inl rfl | exact .inr rfl | assumption) : WS C X (.AugAssign (.Name x pos') .Sub e pos) δ μ E := fun F0 F H as σ A => by
  obtain ⟨v0, h1, h2⟩ := A.val i _ hv
  cases h2
  exact tmS_of (ps_aug hN hi hx pe_tm ip_sub hf) ⟨_, h1, tm_mono (h F0 F H as σ A) fun v H1 ⟨F1, as1, μ1, sv, e1, p1, A1, r1, k, hk, q⟩ => ⟨n, k, rfl, A1.rdI r1 hk, F1, as1, _, μ1, A1.set (sv := .d _) (.int _) i, q⟩⟩
/-- a, b = e1, e2, plain locals -/
theorem ws_par {x y : Str} {px py : Pos} {kt k2 : Nat} {pt2 : Pos} (i j : Nat) (hc : X.calm = true) (hN : X.N.Nodup) (hi : X.N[i]? = some x) (hj : X.N[j]? = some y) (hij : i ≠ j)
    (hx : X.env.scope.names.lookup x = some .local) (hy : X.env.scope.names.lookup y = some .local) (h : WA C X [a, b] δ μ fun xs μ1 => ∃ u v, xs = [u, v] ∧ E.nx ((δ.set i (some u)).set j (some v)) μ1)
    (hw : swappedStores [.Tuple [.Name x px, .Name y py] kt pt] (.Tuple [a, b] k2 pt2) X.env = pure (some [x, y]))
    (hs : swapsWithSole [.Tuple [.Name x px, .Name y py] kt pt] (.Tuple [a, b] k2 pt2) pos.line X.env = pure false := by rfl) :
    WS C X (.Assign [.Tuple [.Name x px, .Name y py] kt pt] (.Tuple [a, b] k2 pt2) pos) δ μ E := fun F0 F H as σ A =>
  tmS_of (ps_par hc hN hi hj hij hx hy pa_tm hw hs) (tmA_mono (h F0 F H as σ A) fun vs H1 ⟨F1, as1, μ1, xs, e1, p1, A1, r1, u, v, h0, q⟩ => by
    subst h0
    obtain ⟨v1, v2, rfl, r, r'⟩ := pair2 r1
    exact ⟨v1, v2, rfl, F1, as1, _, μ1, (A1.set r i).set r' j, q⟩)
theorem ws_par3 {x y z : Str} {px py pz : Pos} {kt k2 : Nat} {pt2 : Pos} (i j l : Nat) (hc : X.calm = true) (hN : X.N.Nodup) (hi : X.N[i]? = some x) (hj : X.N[j]? = some y) (hl : X.N[l]? = some z) (hij : i ≠ j) (hil : i ≠ l) (hjl : j ≠ l)
    (hx : X.env.scope.names.lookup x = some .local) (hy : X.env.scope.names.lookup y = some .local) (hz : X.env.scope.names.lookup z = some .local) (h : WA C X [a, b, c] δ μ fun xs μ1 => ∃ u v w, xs = [u, v, w] ∧ E.nx (((δ.set i (some u)).set j (some v)).set l (some w)) μ1)
    (hw : swappedStores [.Tuple [.Name x px, .Name y py, .Name z pz] kt pt] (.Tuple [a, b, c] k2 pt2) X.env = pure (some [x, y, z]))
    (hs : swapsWithSole [.Tuple [.Name x px, .Name y py, .Name z pz] kt pt] (.Tuple [a, b, c] k2 pt2) pos.line X.env = pure false := by rfl) :
    WS C X (.Assign [.Tuple [.Name x px, .Name y py, .Name z pz] kt pt] (.Tuple [a, b, c] k2 pt2) pos) δ μ E := fun F0 F H as σ A =>
  tmS_of (ps_par3 hc hN hi hj hl hij hil hjl hx hy hz pa_tm hw hs) (tmA_mono (h F0 F H as σ A) fun vs H1 ⟨F1, as1, μ1, xs, e1, p1, A1, r1, u, v, w, h0, q⟩ => by
    subst h0
    cases r1 with | cons r1 t => cases t with | cons r2 t => cases t with | cons r3 t => cases t; exact ⟨_, _, _, rfl, F1, as1, _, μ1, ((A1.set r1 i).set r2 j).set r3 l, q⟩)

/-! ### loops -/
/-- less known, then q -/
def Wk (C : DX) (q : De → Mu → Prop) (δ : De) (μ : Mu) : Prop := ∃ δ' μ', wkM μ μ' ∧ wkD δ δ' ∧ C.ps.length ≤ μ'.length ∧ (∀ (i k : Nat), δ'[i]? = some (some (.loc k)) → k < μ'.length) ∧ q δ' μ'
theorem Wk.of {q : De → Mu → Prop} (h : q δ μ) (hp : C.ps.length ≤ μ.length) (hs : ∀ (i k : Nat), δ[i]? = some (some (.loc k)) → k < μ.length) : Wk C q δ μ := ⟨δ, μ, ⟨Nat.le_refl _, fun _ _ h => .inr h⟩, ⟨rfl, fun _ _ h => h⟩, hp, hs, h⟩
theorem cN_wk {K : PySem.W.Frag} {F0 : Hp} {q : De → Mu → Prop} {σ : L2.St} {H : Hp} (h : cN K (C.w F0) (Wk C q) σ H) : cN K (C.w F0) q σ H := by
  obtain ⟨F, as, δ, μ, A, δ', μ', w1, w2, w3, w4, q⟩ := h
  exact ⟨F, _, δ', μ', A.weak w1 w2 w3 w4, q⟩
/-- the data at a later point as the data at the entry, and back -/
theorem Agree.up {K : PySem.W.Frag} {F0 F1 F2 H1 H2 : Hp} {as1 as2 : List Addr} {σ1 σ2 : L2.St} {δ1 δ2 : De} {μ1 μ2 : Mu} (A1 : Agree K (C.w F0) F1 H1 as1 σ1 δ1 μ1) (A2 : Agree K (C.w F0) F2 H2 as2 σ2 δ2 μ2) (e : Same F1 F2) : Agree K (C.w F1) F2 H2 as2 σ2 δ2 μ2 :=
  ⟨e, fun a o h => by
    rcases A2.fr a o h with q | q
    · exact .inl (A1.f0 a o q)
    · exact .inr q, A2.rH, A2.fH, A2.las, A2.pre, A2.nd, A2.own, A2.frz, A2.lσ, A2.val, A2.fT, A2.rT, A2.tb⟩
theorem Agree.down {K : PySem.W.Frag} {F0 F1 F2 H1 H2 : Hp} {as1 as2 : List Addr} {σ1 σ2 : L2.St} {δ1 δ2 : De} {μ1 μ2 : Mu} (A1 : Agree K (C.w F0) F1 H1 as1 σ1 δ1 μ1) (A2 : Agree K (C.w F1) F2 H2 as2 σ2 δ2 μ2) : Agree K (C.w F0) F2 H2 as2 σ2 δ2 μ2 :=
  ⟨A1.f0.trans A2.f0, fun a o h => by
    rcases A2.fr a o h with q | q
    · exact A1.fr a o q
    · exact .inr q, A2.rH, A2.fH, A2.las, A2.pre, A2.nd, A2.own, A2.frz, A2.lσ, A2.val, A2.fT, A2.rT, A2.tb⟩
theorem ws_for (tgt : Tgt X.K g js un) (hg : PG X tg g) (Iv : Nat → De → Mu → Prop) (hp : PassesOwn (model X.prog X.w) X.A X.env X.xe) (hc : X.calm = true)
    (h : WI C X tg iter δ μ fun ys μ1 => Wk C (Iv 0) δ μ1 ∧ (∀ i y δ' μ', ys[i]? = some y → Iv i δ' μ' → ∃ ds, un y = some ds ∧ WSs C X body (setDs δ' js ds) μ' { E with nx := Wk C (Iv (i + 1)), ct := Wk C (Iv (i + 1)), bk := E.nx }) ∧ (∀ δ' μ', Iv ys.length δ' μ' → E.nx δ' μ'))
    (hs : ∀ x, foldedSetIterable iter X.env x = pure x := by intro _; rfl) : WS C X (.For tg iter body [] pos) δ μ E := fun F0 F H as σ A => by
  obtain ⟨wi, hi, h⟩ := h
  refine tmS_of (ps_for hp hc hi hg pss_tm hs) (h F0 F H as σ _ A fun J H1 ⟨F1, as1, μ1, ys, e1, p1, A1, itok, ⟨δ0, μ0, w1, w2, w3, w4, iv0⟩, turn, fin⟩ => ?_)
  refine ⟨fun i m σ' H' => m = ys.length - i ∧ i ≤ ys.length ∧ ∃ F2 as2 δ2 μ2, Same F1 F2 ∧ Agree X.K (C.w F0) F2 H' as2 σ' δ2 μ2 ∧ Iv i δ2 μ2, ⟨ys.length, rfl, Nat.zero_le _, F1, _, δ0, μ0, Same.refl _, A1.weak w1 w2 w3 w4, iv0⟩, ?_⟩
  rintro i m σ2 H2 ⟨rfl, hi', F2, as2, δ2, μ2, e2, A2, iv⟩
  obtain ⟨go, stop, yld⟩ := itok F2 H2 e2 A2.fH
  by_cases hlt : i < ys.length
  · obtain ⟨y, hy⟩ := get_lt hlt
    refine .inr ⟨go i hlt, fun σ' H' => ∃ F3 as3 δ3 μ3, Same F1 F3 ∧ Agree X.K (C.w F0) F3 H' as3 σ' δ3 μ3 ∧ Iv (i + 1) δ3 μ3, fun σ' H' q => ⟨ys.length - (i + 1), by omega, rfl, hlt, q⟩, fun x H3 hx => ?_⟩
    obtain ⟨F3, e3, A3, rx⟩ : ∃ F3, Same F2 F3 ∧ Agree X.K (C.w F0) F3 H3 as2 σ2 δ2 μ2 ∧ Rep X.K F3 x y := by
      rcases yld i y x H3 hy hx with ⟨rfl, r⟩ | ⟨T, ob, ho, hT, rfl, r⟩
      · exact ⟨F2, Same.refl _, A2, r⟩
      · obtain ⟨e, A⟩ := A2.newF ob hT ho
        exact ⟨_, e, A, r⟩
    obtain ⟨ds, hun, b⟩ := turn i y δ2 μ2 hy iv
    refine tgt.go F3 H3 x y ds _ _ A3.fH rx hun fun ws rws => ?_
    have A4 := Agree.up A1 (Agree.setV (js := js) A3 rws) (e2.trans e3)
    have stepN : ∀ σ' H', cN X.K (C.w F1) (Wk C (Iv (i + 1))) σ' H' → ∃ F3 as3 δ3 μ3, Same F1 F3 ∧ Agree X.K (C.w F0) F3 H' as3 σ' δ3 μ3 ∧ Iv (i + 1) δ3 μ3 := fun σ' H' q => by
      obtain ⟨F5, as5, δ5, μ5, A5, q⟩ := cN_wk q
      exact ⟨F5, as5, δ5, μ5, A5.f0, A1.down A5, q⟩
    refine tmSs_mono (b F1 F3 H3 as2 _ A4) stepN (fun v H' q => ?_) (fun σ' H' q => ?_) stepN
    · obtain ⟨F5, as5, σ5, δ5, μ5, sv, A5, r, q⟩ := q
      exact ⟨F5, as5, σ5, δ5, μ5, sv, A1.down A5, r, q⟩
    · obtain ⟨F5, as5, δ5, μ5, A5, q⟩ := q
      exact ⟨F5, as5, δ5, μ5, A1.down A5, q⟩
  · have ei : i = ys.length := by omega
    subst ei
    exact .inl ⟨stop _ (Nat.le_refl _), F2, as2, δ2, μ2, A2, fin δ2 μ2 iv⟩
theorem ws_while (Iv : Nat → De → Mu → Prop) (m0 : Nat) (hp : PassesOwn (model X.prog X.w) X.A X.env X.xe) (h0 : Iv m0 δ μ)
    (h : ∀ m δ' μ', Iv m δ' μ' → WT C X c δ' μ' fun k μ1 => (k = true → WSs C X body δ' μ1 { E with nx := Wk C (fun δ2 μ2 => ∃ m', m' < m ∧ Iv m' δ2 μ2), ct := Wk C (fun δ2 μ2 => ∃ m', m' < m ∧ Iv m' δ2 μ2), bk := E.nx }) ∧ (k = false → E.nx δ' μ1)) : WS C X (.While c body [] pos) δ μ E := fun F0 F H as σ A => by
  refine tmS_of (ps_while hp pt_tm pss_tm) ⟨fun m σ' H' => cN X.K (C.w F0) (Iv m) σ' H', ⟨m0, F, as, δ, μ, A, h0⟩, fun m σ2 H2 ⟨F2, as2, δ2, μ2, A2, iv⟩ => ?_⟩
  refine tmT_mono (h m δ2 μ2 iv F0 F2 H2 as2 σ2 A2) fun k H3 ⟨F3, as3, μ3, e3, p3, A3, q1, q2⟩ => ?_
  cases k with
  | false => exact iteF ⟨F3, as3, δ2, μ3, A3, q2 rfl⟩
  | true =>
    refine iteT ⟨cN X.K (C.w F0) (fun δ2 μ2 => ∃ m', m' < m ∧ Iv m' δ2 μ2), fun σ' H' ⟨F5, as5, δ5, μ5, A5, m', hm, q⟩ => ⟨m', hm, F5, as5, δ5, μ5, A5, q⟩, ?_⟩
    exact tmSs_mono (q1 rfl F0 F3 H3 as3 σ2 A3) (fun _ _ q => cN_wk q) (fun _ _ q => q) (fun _ _ q => q) (fun _ _ q => cN_wk q)
/-- what follows is shown once -/
theorem wss_cut {sts sts1 : List Stmt} (M : De → Mu → Prop) (h : WS C X st δ μ { E with nx := Wk C M }) (k : ∀ δ' μ', M δ' μ' → WSs C X sts δ' μ' E) : WSs C X (st :: sts) δ μ E := fun F0 F H as σ A =>
  tmSs_of (pss_cons ps_tm pss_tm) (tmS_mono (h F0 F H as σ A) (fun σ1 H1 q => by
    obtain ⟨F1, as1, δ1, μ1, A1, q⟩ := cN_wk q
    exact k δ1 μ1 q F0 F1 H1 as1 σ1 A1) (fun _ _ q => q) (fun _ _ q => q) (fun _ _ q => q))
/-- list(range(n)) -/
theorem we_listRange1 {p1 pos1 : Pos} {Q : SV → Mu → Prop} (hc : X.calm = true) (hmL : X.mg "list" = none) (hm : X.mg "range" = none) (h : WE C X e δ μ fun x μ1 => ∃ j, cnt μ1 x = some (.int j) ∧ 0 ≤ j ∧ j ≤ 100000 ∧ Q (.loc μ1.length) (μ1 ++ [.lst (rngD 0 j.toNat)])) (hgL : Gl X "list" := by rfl) (hg : Gl X "range" := by rfl)
    (na : starEach [e] X.env = (false, eval e X.env) :: starEach [] X.env := by rfl) (na2 : starEach [.Call (.Name "range" p) [e] [] pos] X.env = (false, eval (.Call (.Name "range" p) [e] [] pos) X.env) :: starEach [] X.env := by rfl) : WE C X (.Call (.Name "list" p1) [.Call (.Name "range" p) [e] [] pos] [] pos1) δ μ Q := fun F0 F H as σ A =>
  tm_of (pe_listRg hc hgL hmL (prg_1 hg hm pe_tm na) na2) (tm_mono (h F0 F H as σ A) fun v H1 ⟨F1, as1, μ1, x, e1, p1, A1, r1, j, hj, l1, l2, q⟩ => by
    refine ⟨j, A1.rdI r1 hj, ⟨by omega, by omega, by omega, by omega, by omega⟩, fun l hl => (A1.lstP hl ?_ q).back e1 p1⟩
    have gen : ∀ ns : List Nat, RepA X.K F1 (ns.map fun (i : Nat) => V.int (0 + (i : Int))) (ns.map fun (i : Nat) => D.int (0 + (i : Int))) := fun ns => by
      induction ns with
      | nil => exact .nil
      | cons n ns ih => exact .cons (.int _) ih
    have := gen (List.range (j - 0).toNat)
    unfold rgV rngD
    rw [show (j - 0).toNat = j.toNat from by omega] at this ⊢
    exact this)
end
end DS

/-! DSemA: promises in their usual forms, small closers. -/
namespace DS
open PySem PySem.Spec PyProof.Rows L2
variable [Tbs]
/-- data in, one answer -/
def prV {α : Type} (ds : α → List D) (pre : α → Prop) (res : α → Res) : Pr := fun os dd post _ => ∃ a : α, os = [] ∧ dd = ds a ∧ pre a ∧ post (res a) []
/-- mutable things and data in, some answer and some contents behind -/
def prN {α : Type} (own : α → List MO) (ds : α → List D) (pre : α → Prop) (S : α → Res → List MO → Prop) : Pr := fun os dd post _ => ∃ a : α, os = own a ∧ dd = ds a ∧ pre a ∧ ∀ r os', S a r os' → post r os'
/-- data in, an answer or an error -/
def prX {α : Type} (ds : α → List D) (pre : α → Prop) (res : α → Except Exc Res) : Pr := fun os dd post ex => ∃ a : α, os = [] ∧ dd = ds a ∧ pre a ∧ match res a with
  | .ok r => post r []
  | .error x => ex x
theorem prV_mono {α : Type} {ds : α → List D} {pre : α → Prop} {res : α → Res} : (prV ds pre res).Mono := fun os dd p p' x x' hp hx ⟨a, h1, h2, h3, h4⟩ => ⟨a, h1, h2, h3, hp _ _ h4⟩
theorem prN_mono {α : Type} {own : α → List MO} {ds : α → List D} {pre : α → Prop} {S : α → Res → List MO → Prop} : (prN own ds pre S).Mono := fun os dd p p' x x' hp hx ⟨a, h1, h2, h3, h4⟩ => ⟨a, h1, h2, h3, fun r o s => hp _ _ (h4 r o s)⟩
theorem prX_mono {α : Type} {ds : α → List D} {pre : α → Prop} {res : α → Except Exc Res} : (prX ds pre res).Mono := fun os dd p p' x x' hp hx ⟨a, h1, h2, h3, h4⟩ => ⟨a, h1, h2, h3, by
  cases e : res a with
  | ok r => rw [e] at h4; exact hp _ _ h4
  | error y => rw [e] at h4; exact hx _ h4⟩
structure Def (K : PySem.W.Frag) (mg : Str → Option Value) (x qual : Str) (st : Stmt) (ps : List Str) (f : Addr) (fd : FuncData) : Prop where
  fn : Fun K x qual st f fd
  gl : mg x = some (.ref f)
  bd : Binds K fd ps []
/-- the module's x is a def that keeps pr -/
structure HasAt (P : Program) (w : World) (K : PySem.W.Frag) (mg : Str → Option Value) (base : Heap) (x : Str) (ps : List Str) (k : Nat) (pr : Pr) (f : Addr) (fd : FuncData) : Prop where
  ok : FnOk P w K mg base (L2.CX P w) k f fd ps (spOf K pr)
  gl : mg x = some (.ref f)
  kp : PySem.W.keepIn K (.ref f) = true
  bd : Binds K fd ps []
  mono : pr.Mono
def Has (P : Program) (w : World) (K : PySem.W.Frag) (mg : Str → Option Value) (base : Heap) (x : Str) (ps : List Str) (k : Nat) (pr : Pr) : Prop := ∃ f fd, HasAt P w K mg base x ps k pr f fd
theorem Def.has {P : Program} {w : World} {K : PySem.W.Frag} {mg : Str → Option Value} {base : Heap} {x qual : Str} {st : Stmt} {ps : List Str} {f : Addr} {fd : FuncData} (d : Def K mg x qual st ps f fd) {k : Nat} {pr : Pr} (h : FnOk P w K mg base (L2.CX P w) k f fd ps (spOf K pr)) (m : pr.Mono) : Has P w K mg base x ps k pr :=
  ⟨f, fd, h, d.gl, d.fn.kp, d.bd, m⟩
section
variable {C : DX} {X : Cx} {δ : De} {μ : Mu} {Q : SV → Mu → Prop} {pos p : Pos} {e : Expr} {es : List Expr}
theorem we_def {pr : Pr} {k : Nat} {ps : List Str} {x : Str} {ex : Exc → Prop} (G : Has X.prog X.w X.K X.mg X.base x ps k pr) (hr : Room k X.A) (tk : TakesD X C ex) (h : WA C X (e :: es) δ μ fun xs μ1 => kCall pr ex xs μ1 Q) (hg : Gl X x := by rfl) (hdb : (x == ("__debug__" : Str)) = false := by decide)
    (he : starEach (e :: es) X.env = (false, eval e X.env) :: starEach es X.env := by rfl) (hpl : (backTo pos (starEach es X.env)).any (·.1) = false := by rfl) : WE C X (.Call (.Name x p) (e :: es) [] pos) δ μ Q := by
  obtain ⟨f, fd, g⟩ := G
  exact we_call g.ok g.mono hr g.gl g.kp g.bd tk h hg hdb he hpl
theorem putR_dat {d : D} (h : Q (.d d) μ) : putR (.dat d) μ Q := h
theorem putR_new {m : MO} (h : Q (.loc μ.length) (μ ++ [m])) : putR (.new m) μ Q := h
end
section
variable {post : Res → List MO → Prop} {μ : Mu}
theorem ret0 {d : D} (h : post (.dat d) []) : retQ 0 post (.d d) μ := ⟨Nat.zero_le _, fun m hm => by simp at hm, h⟩
theorem ret0l {k : Nat} {xs : List D} (hk : μ[k]? = some (.lst xs)) (h : post (.new (.lst xs)) []) : retQ 0 post (.loc k) μ := ⟨Nat.zero_le _, fun m hm => by simp at hm, Nat.zero_le _, _, hk, .inr ⟨rfl, h⟩⟩
theorem ret1 {d : D} {m : MO} {ms : List MO} (l : live m = true) (h : post (.dat d) [m]) : retQ 1 post (.d d) (m :: ms) := ⟨by simp, fun x hx => by
  have : x = m := by simpa using hx
  rw [this]; exact l, h⟩
theorem ret1l {k : Nat} {xs : List D} {m : MO} {ms : List MO} (l : live m = true) (hk : (m :: ms)[k + 1]? = some (.lst xs)) (h : post (.new (.lst xs)) [m]) : retQ 1 post (.loc (k + 1)) (m :: ms) := ⟨by simp, fun x hx => by
  have : x = m := by simpa using hx
  rw [this]; exact l, by omega, _, hk, .inr ⟨rfl, h⟩⟩
end
/-- garbage of an expression's making is forgotten, when it gives data -/
theorem we_trunc {C : DX} {X : Cx} {e : Expr} {δ : De} {μ : Mu} {Q : SV → Mu → Prop} (h : WE C X e δ μ fun sv μ' => ∃ d, sv = .d d ∧ wkM μ' μ ∧ Q (.d d) μ) (hs : ∀ (i k : Nat), δ[i]? = some (some (.loc k)) → k < μ.length) : WE C X e δ μ Q := fun F0 F H as σ A =>
  tm_mono (h F0 F H as σ A) fun v H1 ⟨F1, as1, μ1, sv, e1, p1, A1, r1, d, hd, w, q⟩ => by
    subst hd
    have e3 : as1.take μ.length = as := by
      obtain ⟨t, rfl⟩ := p1
      rw [← A.las, List.take_left]
    have A2 := A1.weak w ⟨rfl, fun _ _ h => h⟩ (by rw [← A.las]; exact A.pre.length_le) hs
    rw [e3] at A2
    exact ⟨F1, as, μ, .d d, e1, List.prefix_refl _, A2, r1, q⟩
/-- a body from less known names and things -/
theorem wss_wk {C : DX} {X : Cx} {sts : List Stmt} {δ : De} {μ : Mu} {E : DE} (δ' : De) (μ' : Mu) (h : WSs C X sts δ' μ' E) (w1 : wkM μ μ') (w2 : wkD δ δ') (w3 : C.ps.length ≤ μ'.length) (w4 : ∀ (i k : Nat), δ'[i]? = some (some (.loc k)) → k < μ'.length) : WSs C X sts δ μ E := fun F0 F H as σ A =>
  h F0 F H _ σ (A.weak w1 w2 w3 w4)

/-! ### closers for what is less known -/
theorem wkM_refl {μ : Mu} : wkM μ μ := ⟨Nat.le_refl _, fun _ _ h => .inr h⟩
theorem wkM_app {μ ν : Mu} : wkM (μ ++ ν) μ := ⟨by simp, fun k m h => .inr (by rw [List.getElem?_append_left (List.getElem?_eq_some_iff.mp h).1]; exact h)⟩
theorem wkM_nil {μ : Mu} : wkM μ [] := ⟨Nat.zero_le _, fun k m h => by simp at h⟩
theorem wkM_cons {μ ν : Mu} {m m' : MO} (hm : m' = .dead ∨ m = m') (h : wkM μ ν) : wkM (m :: μ) (m' :: ν) := ⟨by simp; exact h.1, fun k x hk => by
  cases k with
  | zero =>
    simp at hk ⊢
    subst hk
    rcases hm with e | e
    · exact .inl e
    · exact .inr e
  | succ k =>
    rw [List.getElem?_cons_succ] at hk ⊢
    exact h.2 k x hk⟩
theorem wkM_trans {a b c : Mu} (h1 : wkM a b) (h2 : wkM b c) : wkM a c := ⟨Nat.le_trans h2.1 h1.1, fun k m h => by
  rcases h2.2 k m h with e | e
  · exact .inl e
  · exact h1.2 k m e⟩
theorem wkD_refl {δ : De} : wkD δ δ := ⟨rfl, fun _ _ h => h⟩
theorem wkD_nil : wkD [] [] := wkD_refl
theorem wkD_cons {δ ε : De} {s s' : Option SV} (hs : s' = none ∨ s = s') (h : wkD δ ε) : wkD (s :: δ) (s' :: ε) := ⟨by simp; exact h.1, fun i sv hi => by
  cases i with
  | zero =>
    simp at hi ⊢
    subst hi
    rcases hs with e | e
    · cases e
    · exact e
  | succ i =>
    rw [List.getElem?_cons_succ] at hi ⊢
    exact h.2 i sv hi⟩
theorem locs_nil {n : Nat} : ∀ (i k : Nat), ([] : De)[i]? = some (some (.loc k)) → k < n := fun i k h => by simp at h
theorem locs_none {n : Nat} {δ : De} (h : ∀ (i k : Nat), δ[i]? = some (some (.loc k)) → k < n) : ∀ (i k : Nat), (none :: δ)[i]? = some (some (.loc k)) → k < n := fun i k q => by
  cases i with
  | zero => simp at q
  | succ i => exact h i k (by simpa using q)
theorem locs_dat {n : Nat} {δ : De} {d : D} (h : ∀ (i k : Nat), δ[i]? = some (some (.loc k)) → k < n) : ∀ (i k : Nat), (some (SV.d d) :: δ)[i]? = some (some (.loc k)) → k < n := fun i k q => by
  cases i with
  | zero => simp at q
  | succ i => exact h i k (by simpa using q)
theorem locs_loc {n j : Nat} {δ : De} (hj : j < n) (h : ∀ (i k : Nat), δ[i]? = some (some (.loc k)) → k < n) : ∀ (i k : Nat), (some (SV.loc j) :: δ)[i]? = some (some (.loc k)) → k < n := fun i k q => by
  cases i with
  | zero => simp at q; omega
  | succ i => exact h i k (by simpa using q)
end DS

/-! DSemB: comprehensions that are a map, slices, items: the forms that are used. -/
namespace DS
open PySem PySem.Spec PyProof.Rows L2
variable [Tbs]
section
variable {C : DX} {X : Cx} {δ : De} {μ : Mu} {Q : SV → Mu → Prop} {pos : Pos}
/-- each turn gives g x, from the store as it stands (and the new list) -/
def MapTurn (C : DX) (X : Cx) (scope : Scope) (vs js : List Nat) (un : D → Option (List D)) (elt : Expr) (ifs : List Expr) (δ : De) (μ' : Mu) {α : Type} (xs : List α) (emb : α → D) (p : α → Bool) (f : α → D) : Prop :=
  ∀ x acc, x ∈ xs → ∃ ds, un (emb x) = some ds ∧ ∀ s H0 Cc cl fp, WTs C (BX X s H0 scope Cc cl fp) ifs (setDs (wipeD δ vs) js ds) (μ' ++ [.lst acc]) fun b μ2 =>
    b = p x ∧ wkM μ2 (μ' ++ [.lst acc]) ∧ (p x = true → ∀ s H0 Cc cl fp, WE C (BX X s H0 scope Cc cl fp) elt (setDs (wipeD δ vs) js ds) μ2 fun sv μ3 => ∃ μ4, fz μ3 sv = some (f x, μ4) ∧ wkM μ4 (μ' ++ [.lst acc]))
theorem lcEnd_of {n : Nat} {acc : List D} {μ μ' : Mu} {k : Mu → Prop} (hn : μ'.length = n) (w : wkM μ (μ' ++ [.lst acc])) (q : k μ') : lcEnd n acc μ k := by
  refine ⟨μ', ⟨?_, fun j m hj => ?_⟩, hn, ?_, q⟩
  · rw [List.length_take, hn]
    have := w.1
    rw [List.length_append, hn] at this
    omega
  · have hl := (List.getElem?_eq_some_iff.mp hj).1
    rcases w.2 j m (by rw [List.getElem?_append_left hl]; exact hj) with e | e
    · exact .inl e
    · refine .inr ?_
      rw [List.getElem?_take, if_pos (by omega)]
      exact e
  · have e1 : (μ' ++ [MO.lst acc])[n]? = some (.lst acc) := by
      rw [List.getElem?_append_right (by omega), hn, Nat.sub_self]; rfl
    rcases w.2 n _ e1 with e | e
    · cases e
    · exact e
theorem wts_mono {X' : Cx} {ifs : List Expr} {QB QB' : Bool → Mu → Prop} (h : WTs C X' ifs δ μ QB) (f : ∀ b μ', QB b μ' → QB' b μ') : WTs C X' ifs δ μ QB' := by
  match ifs, h with
  | [], h => exact f _ _ h
  | [c], h => exact wt_mono h f
  | _ :: _ :: _, h => exact h.elim
theorem mapTurn_lc {scope : Scope} {vs js : List Nat} {un : D → Option (List D)} {elt : Expr} {ifs : List Expr} {μ' : Mu} {α : Type} {xs : List α} {emb : α → D} {p : α → Bool} {f : α → D} (h : MapTurn C X scope vs js un elt ifs δ μ' xs emb p f) :
    LcTurn C X scope vs js un elt ifs δ μ'.length (fun i acc μ1 => μ1 = μ' ∧ acc = ((xs.take i).filter p).map f) (xs.map emb) := by
  rintro i y acc μ1 hy _ hl ⟨rfl, rfl⟩
  rw [List.getElem?_map] at hy
  cases e : xs[i]? with
  | none => rw [e] at hy; cases hy
  | some x =>
    rw [e] at hy
    cases hy
    have tk : xs.take (i + 1) = xs.take i ++ [x] := by
      rw [List.take_succ, e]
      rfl
    obtain ⟨ds, hu, t⟩ := h x (((xs.take i).filter p).map f) (List.mem_of_getElem? e)
    refine ⟨ds, hu, fun s H0 Cc cl fp => wts_mono (t s H0 Cc cl fp) fun b μ2 ⟨hb, w, q⟩ => ⟨fun hb1 s H0 Cc cl fp => we_mono (q (by rw [← hb]; exact hb1) s H0 Cc cl fp) fun sv μ3 ⟨μ4, hz, w4⟩ => ⟨f x, μ4, hz, lcEnd_of hl w4 ⟨rfl, ?_⟩⟩, fun hb0 => lcEnd_of hl w ⟨rfl, ?_⟩⟩⟩
    · rw [tk, List.filter_append, List.map_append, List.filter_cons, if_pos (by rw [← hb]; exact hb1)]
      rfl
    · rw [tk, List.filter_append, List.map_append, List.filter_cons, if_neg (by rw [← hb, hb0]; exact Bool.false_ne_true)]
      simp
theorem wi_mono {tg iter : Expr} {Q Q' : List D → Mu → Prop} (h : WI C X tg iter δ μ Q) (f : ∀ ys μ', Q ys μ' → Q' ys μ') : WI C X tg iter δ μ Q' := by
  obtain ⟨wi, hp, h⟩ := h
  exact ⟨wi, hp, fun F0 F H as σ R A g => h F0 F H as σ R A fun J H' ⟨F', as', μ', ys, e, p, A', i, q⟩ => g J H' ⟨F', as', μ', ys, e, p, A', i, f _ _ q⟩⟩
/-- [elt for target in iter if ..] as a map -/
theorem we_lcM {elt tg iter : Expr} {ifs : List Expr} {scope : Scope} {own : List (Str × Nat)} {g : TG} {js : List Nat} {un : D → Option (List D)} (tgt : Tgt X.K g js un) (hc : X.calm = true) (hN : X.N.Nodup) (ok : BlkOk X.N X.env.scope scope own)
    (hg : ∀ (s : Shared) (H : Hp) (Cc : Addr) (cl : List (Str × Addr)) (fp : List Addr), PG (BX X s H scope Cc cl fp) tg g) (hj : ∀ j ∈ js, j ∈ own.map (·.2)) (hif : ifs.length ≤ 1)
    (h : WI C X tg iter δ μ fun ys μ' => ∃ (α : Type) (xs : List α) (emb : α → D) (p : α → Bool) (f : α → D), ys = xs.map emb ∧ xs.length ≤ 100000 ∧ MapTurn C X scope (own.map (·.2)) js un elt ifs δ μ' xs emb p f ∧ Q (.loc μ'.length) (μ' ++ [.lst ((xs.filter p).map f)]))
    (hs : ∀ x, foldedSetIterable iter X.env x = pure x := by intro _; rfl) : WE C X (.ListComp elt [⟨tg, iter, ifs, 0⟩] scope pos) δ μ Q := by
  refine we_lc tgt hc hN ok hg hj hif (wi_mono h fun ys μ' ⟨α, xs, emb, p, f, hy, hl, t, q⟩ => ?_) hs
  subst hy
  refine ⟨_, by rw [List.length_map]; exact hl, ⟨rfl, rfl⟩, mapTurn_lc t, fun acc μ1 _ _ ⟨e1, e2⟩ => ?_⟩
  subst e1 e2
  rw [List.length_map, List.take_length]
  exact q
theorem ws_setLcM {x : Str} {pos' spos : Pos} {E : DE} {elt tg iter : Expr} {ifs : List Expr} {scope : Scope} {own : List (Str × Nat)} {g : TG} {js : List Nat} {un : D → Option (List D)} (i : Nat) (tgt : Tgt X.K g js un) (hc : X.calm = true) (hN : X.N.Nodup) (hi : X.N[i]? = some x) (hxl : X.env.scope.names.lookup x = some .local)
    (hsw : swapsWith (.ListComp elt [⟨tg, iter, ifs, 0⟩] scope pos) (some (.Name x pos')) spos.line X.env = pure true) (ok : BlkOk X.N X.env.scope scope own)
    (hg : ∀ (s : Shared) (H : Hp) (Cc : Addr) (cl : List (Str × Addr)) (fp : List Addr), PG (BX X s H scope Cc cl fp) tg g) (hj : ∀ j ∈ js, j ∈ own.map (·.2)) (hif : ifs.length ≤ 1)
    (h : WI C X tg iter δ μ fun ys μ' => ∃ (α : Type) (xs : List α) (emb : α → D) (p : α → Bool) (f : α → D), ys = xs.map emb ∧ xs.length ≤ 100000 ∧ MapTurn C X scope (own.map (·.2)) js un elt ifs δ μ' xs emb p f ∧ E.nx (δ.set i (some (.loc μ'.length))) (μ' ++ [.lst ((xs.filter p).map f)]))
    (hs : ∀ x, foldedSetIterable iter X.env x = pure x := by intro _; rfl) : WS C X (.Assign [.Name x pos'] (.ListComp elt [⟨tg, iter, ifs, 0⟩] scope pos) spos) δ μ E := by
  refine ws_setLc i tgt hc hN hi hxl hsw ok hg hj hif (wi_mono h fun ys μ' ⟨α, xs, emb, p, f, hy, hl, t, q⟩ => ?_) hs
  subst hy
  refine ⟨_, by rw [List.length_map]; exact hl, ⟨rfl, rfl⟩, mapTurn_lc t, fun acc μ1 _ _ ⟨e1, e2⟩ => ?_⟩
  subst e1 e2
  rw [List.length_map, List.take_length]
  exact q
end
/-! ### items and slices in the usual forms -/
theorem atI_map {α : Type} (f : α → D) (xs : List α) (d : α) {i : Int} (h0 : 0 ≤ i) (h1 : i < xs.length) : L2.atI (xs.map f) i = some (f (xs.getD i.toNat d)) := by
  have hi : i.toNat < xs.length := by omega
  have e : i = ((i.toNat : Nat) : Int) := by omega
  have q : L2.atI (xs.map f) ((i.toNat : Nat) : Int) = some (f (xs.getD i.toNat d)) := by
    refine atI_nat ?_
    rw [List.getElem?_map, List.getElem?_eq_getElem hi]
    simp [List.getD, hi]
  rwa [← e] at q
theorem atI_ints (ns : List Int) {i : Int} (h0 : 0 ≤ i) (h1 : i < ns.length) : L2.atI (ns.map D.int) i = some (.int (ns.getD i.toNat 0)) := atI_map D.int ns 0 h0 h1
theorem atI_lastI (ns : List Int) (h : 0 < ns.length) : L2.atI (ns.map D.int) (-1) = some (.int (ns.getD (ns.length - 1) 0)) := by
  unfold L2.atI ixN
  rw [List.length_map, if_neg (by omega), if_pos (by omega)]
  show (ns.map D.int)[((-1 : Int) + (ns.length : Int)).toNat]? = _
  rw [show ((-1 : Int) + (ns.length : Int)).toNat = ns.length - 1 from by omega, List.getElem?_map, List.getElem?_eq_getElem (by omega)]
  simp [List.getD, show ns.length - 1 < ns.length from by omega]
theorem cutA_map {α β : Type} (f : α → β) (xs : List α) (lo hi : Option Int) : cutA (xs.map f) lo hi = (cutA xs lo hi).map f := by
  unfold cutA
  rw [List.length_map, List.map_take, List.map_drop]
theorem sIx_nat' (n d : Nat) {i : Int} (h : 0 ≤ i) : HT.sIx n d (some i) = min i.toNat n := by
  have := HT.sIx_nat n d i.toNat
  rwa [show ((i.toNat : Nat) : Int) = i from by omega] at this
theorem cutA_two {α : Type} (xs : List α) {a b : Int} (h0 : 0 ≤ a) (h1 : a ≤ b) (h2 : b ≤ xs.length) : cutA xs (some a) (some b) = (xs.drop a.toNat).take (b - a).toNat := by
  unfold cutA
  rw [sIx_nat' _ _ h0, sIx_nat' _ _ (by omega), Nat.min_eq_left (by omega), Nat.min_eq_left (by omega), show b.toNat - a.toNat = (b - a).toNat from by omega]
theorem cutA_from {α : Type} (xs : List α) {a : Int} (h0 : 0 ≤ a) : cutA xs (some a) none = xs.drop a.toNat := by
  unfold cutA
  rw [sIx_nat' _ _ h0]
  show (xs.drop (min a.toNat xs.length)).take (xs.length - min a.toNat xs.length) = _
  by_cases h : a.toNat ≤ xs.length
  · rw [Nat.min_eq_left h, List.take_of_length_le (by rw [List.length_drop]; exact Nat.le_refl _)]
  · rw [Nat.min_eq_right (by omega), List.drop_of_length_le (by omega), List.drop_of_length_le (by omega)]
    simp
theorem cutA_to {α : Type} (xs : List α) {b : Int} (h0 : 0 ≤ b) : cutA xs none (some b) = xs.take b.toNat := by
  unfold cutA
  rw [sIx_nat' _ _ h0]
  show (xs.drop 0).take (min b.toNat xs.length - 0) = _
  rw [List.drop_zero, Nat.sub_zero]
  by_cases h : b.toNat ≤ xs.length
  · rw [Nat.min_eq_left h]
  · rw [Nat.min_eq_right (by omega), List.take_length, List.take_of_length_le (by omega)]
end DS

/-! DSemC: expressions that give data and leave the store (EvP, EvT), joined; normal forms. -/
namespace DS
open PySem PySem.Spec PyProof.Rows L2
variable [Tbs]
def LocsOk (δ : De) (μ : Mu) : Prop := ∀ (i k : Nat), δ[i]? = some (some (.loc k)) → k < μ.length
theorem lk_nil {μ : Mu} : LocsOk [] μ := locs_nil
theorem lk_none {δ : De} {μ : Mu} (h : LocsOk δ μ) : LocsOk (none :: δ) μ := locs_none h
theorem lk_dat {δ : De} {μ : Mu} {d : D} (h : LocsOk δ μ) : LocsOk (some (SV.d d) :: δ) μ := locs_dat h
theorem lk_loc {δ : De} {μ : Mu} {j : Nat} (hj : j < μ.length) (h : LocsOk δ μ) : LocsOk (some (SV.loc j) :: δ) μ := locs_loc hj h
section
variable {C : DX} {X : Cx} {δ δ' : De} {μ μ' : Mu} {Q : SV → Mu → Prop} {QB : Bool → Mu → Prop} {pos : Pos} {a b c e : Expr} {es : List Expr} {sts : List Stmt} {E : DE} {x y d : D} {k l : Bool}
/-- e gives the data d and leaves the store as it is -/
def EvP (C : DX) (X : Cx) (e : Expr) (δ : De) (μ : Mu) (d : D) : Prop := WE C X e δ μ fun sv μ' => sv = .d d ∧ wkM μ' μ
def EvT (C : DX) (X : Cx) (e : Expr) (δ : De) (μ : Mu) (k : Bool) : Prop := WT C X e δ μ fun b μ' => b = k ∧ wkM μ' μ
def EvW (C : DX) (X : Cx) (e : Expr) (δ : De) (μ : Mu) (k : Bool) : Prop := WW C X e δ μ fun b μ' => b = k ∧ wkM μ' μ
theorem ev_in (h : WE C X e δ μ fun sv μ' => sv = .d d ∧ wkM μ' μ) : EvP C X e δ μ d := h
theorem we_ev (hs : LocsOk δ μ) (h : EvP C X e δ μ d) (q : Q (.d d) μ) : WE C X e δ μ Q := we_trunc (we_mono h fun s μ' ⟨e, w⟩ => ⟨d, e, w, q⟩) hs
theorem postB_cut {F0 F H : Hp} {as : List Addr} {σ : L2.St} {b : Bool} (hs : LocsOk δ μ) (A : Agree X.K (C.w F0) F H as σ δ μ) {H' : Hp} (h : PostB X.K (C.w F0) F as σ δ (fun b μ' => b = k ∧ wkM μ' μ) b H') : b = k ∧ PostB X.K (C.w F0) F as σ δ (fun b' μ' => b' = k ∧ μ' = μ) b H' := by
  obtain ⟨F1, as1, μ1, e1, p1, A1, rfl, w⟩ := h
  have e3 : as1.take μ.length = as := by
    obtain ⟨t, rfl⟩ := p1
    rw [← A.las, List.take_left]
  have A2 := A1.weak w ⟨rfl, fun _ _ h => h⟩ (by rw [← A.las]; exact A.pre.length_le) hs
  rw [e3] at A2
  exact ⟨rfl, F1, as, μ, e1, List.prefix_refl _, A2, rfl, rfl⟩
theorem wt_ev (hs : LocsOk δ μ) (h : EvT C X e δ μ k) (q : QB k μ) : WT C X e δ μ QB := fun F0 F H as σ A =>
  tmT_mono (h F0 F H as σ A) fun b H' z => by
    obtain ⟨rfl, F1, as1, μ1, e1, p1, A1, _, rfl⟩ := postB_cut hs A z
    exact ⟨F1, as1, _, e1, p1, A1, q⟩
theorem ww_ev (hs : LocsOk δ μ) (h : EvW C X e δ μ k) (q : QB k μ) : WW C X e δ μ QB := fun F0 F H as σ A =>
  tmW_mono (h F0 F H as σ A) fun b H' z => by
    obtain ⟨rfl, F1, as1, μ1, e1, p1, A1, _, rfl⟩ := postB_cut hs A z
    exact ⟨F1, as1, _, e1, p1, A1, q⟩
theorem ev_is (h : EvP C X e δ μ x) (q : x = y) : EvP C X e δ μ y := q ▸ h
theorem ev_and (hs : LocsOk δ μ) (ha : EvP C X a δ μ (.bl k)) (hb : k = true → EvP C X (.BoolOp .And (b :: es) pos) δ μ (.bl l)) : EvP C X (.BoolOp .And (a :: b :: es) pos) δ μ (.bl (k && l)) :=
  we_and (we_ev hs ha ⟨k, rfl, fun z => ⟨by rw [z]; rfl, wkM_refl⟩, fun z => by rw [z, Bool.true_and]; exact hb z⟩)
theorem ev_or (hs : LocsOk δ μ) (ha : EvP C X a δ μ (.bl k)) (hb : k = false → EvP C X (.BoolOp .Or (b :: es) pos) δ μ (.bl l)) : EvP C X (.BoolOp .Or (a :: b :: es) pos) δ μ (.bl (k || l)) :=
  we_or (we_ev hs ha ⟨k, rfl, fun z => ⟨by rw [z]; rfl, wkM_refl⟩, fun z => by rw [z, Bool.false_or]; exact hb z⟩)
theorem ev_one {op : BoolOp} (ha : EvP C X a δ μ x) : EvP C X (.BoolOp op [a] pos) δ μ x := we_one ha
theorem ev_not (hs : LocsOk δ μ) (ha : EvP C X a δ μ (.bl k)) : EvP C X (.UnaryOp .Not a pos) δ μ (.bl (!k)) := we_not (we_ev hs ha ⟨k, rfl, rfl, wkM_refl⟩)
theorem ev_if (hs : LocsOk δ μ) (hc : EvT C X c δ μ k) (ha : k = true → EvP C X a δ μ x) (hb : k = false → EvP C X b δ μ y) : EvP C X (.IfExp c a b pos) δ μ (if k = true then x else y) :=
  we_ifexp (wt_ev hs hc ⟨fun z => by rw [if_pos z]; exact ha z, fun z => by rw [if_neg (by rw [z]; exact Bool.false_ne_true)]; exact hb z⟩)
theorem et_val (h : EvP C X e δ μ (.bl k)) (he : ∀ whole, isTrue e X.env whole = (do let v ← whole; standAt e.pos; holding [v] (truthy v)) := by intro _; rfl) : EvT C X e δ μ k :=
  wt_val (we_mono h fun s μ' ⟨q, w⟩ => by subst q; exact ⟨k, rfl, rfl, w⟩) he
theorem et_is (h : EvT C X e δ μ k) (q : k = l) : EvT C X e δ μ l := q ▸ h
theorem et_not (h : EvT C X a δ μ k) : EvT C X (.UnaryOp .Not a pos) δ μ (!k) := wt_not (wt_mono h fun s μ' ⟨q, w⟩ => ⟨by rw [q], w⟩)
theorem et_ww (h : EvW C X e δ μ k) : EvT C X e δ μ k := wt_ww h
theorem ew_and1 (h : EvT C X a δ μ k) : EvW C X (.BoolOp .And [a] pos) δ μ k := ww_and1 h
theorem ew_or1 (h : EvT C X a δ μ k) : EvW C X (.BoolOp .Or [a] pos) δ μ k := ww_or1 h
theorem ew_and (hs : LocsOk δ μ) (ha : EvT C X a δ μ k) (hb : k = true → EvW C X (.BoolOp .And (b :: es) pos) δ μ l) : EvW C X (.BoolOp .And (a :: b :: es) pos) δ μ (k && l) :=
  ww_and (wt_ev hs ha ⟨fun z => ⟨by rw [z]; rfl, wkM_refl⟩, fun z => by rw [z, Bool.true_and]; exact hb z⟩)
theorem ew_or (hs : LocsOk δ μ) (ha : EvT C X a δ μ k) (hb : k = false → EvW C X (.BoolOp .Or (b :: es) pos) δ μ l) : EvW C X (.BoolOp .Or (a :: b :: es) pos) δ μ (k || l) :=
  ww_or (wt_ev hs ha ⟨fun z => ⟨by rw [z]; rfl, wkM_refl⟩, fun z => by rw [z, Bool.false_or]; exact hb z⟩)
/-- lo op v op' hi, ints, joined -/
theorem ev_chain {op op' : CmpOp} {g g' : Int → Int → Bool} {i j m : Int} (ho : OpR X (compareOp op) (rI0 fun i j => .bl (g i j))) (ho' : OpR X (compareOp op') (rI0 fun i j => .bl (g' i j))) (hs : LocsOk δ μ)
    (ha : EvP C X a δ μ (.int i)) (hb : EvP C X b δ μ (.int j)) (hc : g i j = true → EvP C X c δ μ (.int m)) (h1 : lastMarks [op, op'] [b, c] = false := by with_unfolding_all rfl) : EvP C X (.Compare a [op, op'] [b, c] pos) δ μ (.bl (g i j && g' j m)) :=
  we_chain ho ho' (we_ev hs ha (we_ev hs hb ⟨i, j, rfl, rfl, fun z => ⟨by rw [z]; rfl, wkM_refl⟩, fun z => we_ev hs (hc z) ⟨m, rfl, by rw [z]; rfl, wkM_refl⟩⟩)) h1
theorem ev_lele {i j m : Int} (hs : LocsOk δ μ) (ha : EvP C X a δ μ (.int i)) (hb : EvP C X b δ μ (.int j)) (hc : i ≤ j → EvP C X c δ μ (.int m)) (h1 : lastMarks [.LtE, .LtE] [b, c] = false := by with_unfolding_all rfl) : EvP C X (.Compare a [.LtE, .LtE] [b, c] pos) δ μ (.bl (decide (i ≤ j) && decide (j ≤ m))) :=
  ev_chain op_le op_le hs ha hb (fun z => hc (of_decide_eq_true z)) h1
theorem ev_lelt {i j m : Int} (hs : LocsOk δ μ) (ha : EvP C X a δ μ (.int i)) (hb : EvP C X b δ μ (.int j)) (hc : i ≤ j → EvP C X c δ μ (.int m)) (h1 : lastMarks [.LtE, .Lt] [b, c] = false := by with_unfolding_all rfl) : EvP C X (.Compare a [.LtE, .Lt] [b, c] pos) δ μ (.bl (decide (i ≤ j) && decide (j < m))) :=
  ev_chain op_le op_lt hs ha hb (fun z => hc (of_decide_eq_true z)) h1
/-! ### comparisons as tests -/
theorem wt_cmp {op : CmpOp} {r : R2} {k : SV → SV → Mu → (SV → Mu → Prop) → Prop} (ho : OpR X (compareOp op) r) (hd : ∀ C, OpD X.K C r k) (hm : behindInMarks op b = false) (h : WE C X a δ μ fun x μ1 => WE C X b δ μ1 fun y μ2 => k x y μ2 fun sv μ3 => ∃ t, sv = .d (.bl t) ∧ QB t μ3) : WT C X (.Compare a [op] [b] pos) δ μ QB :=
  fun F0 F H as σ A => tmT_of (pt_cmpR ho pe_tm pe_tm hm) (two h A fun F' H' as' μ' v w x y e p A' r1 r2 q => hd _ F' H' as' σ δ μ' v w x y _ _ A' r1 r2 q fun z H'' ⟨F1, as1, μ1, sv, e1, p1, A1, rz, t, ht, q1⟩ => by
    subst ht
    exact ⟨t, A1.rdB rz rfl, F1, as1, μ1, e.trans e1, p.trans p1, A1, q1⟩)
theorem wt_lt (h : WE C X a δ μ fun x μ1 => WE C X b δ μ1 fun y μ2 => kLt x y μ2 fun sv μ3 => ∃ t, sv = .d (.bl t) ∧ QB t μ3) : WT C X (.Compare a [.Lt] [b] pos) δ μ QB := wt_cmp op_lt (fun _ => opD_B) (nomark _) h
theorem wt_le (h : WE C X a δ μ fun x μ1 => WE C X b δ μ1 fun y μ2 => kLe x y μ2 fun sv μ3 => ∃ t, sv = .d (.bl t) ∧ QB t μ3) : WT C X (.Compare a [.LtE] [b] pos) δ μ QB := wt_cmp op_le (fun _ => opD_B) (nomark _) h
theorem wt_gt (h : WE C X a δ μ fun x μ1 => WE C X b δ μ1 fun y μ2 => kGt x y μ2 fun sv μ3 => ∃ t, sv = .d (.bl t) ∧ QB t μ3) : WT C X (.Compare a [.Gt] [b] pos) δ μ QB := wt_cmp op_gt (fun _ => opD_B) (nomark _) h
theorem wt_ge (h : WE C X a δ μ fun x μ1 => WE C X b δ μ1 fun y μ2 => kGe x y μ2 fun sv μ3 => ∃ t, sv = .d (.bl t) ∧ QB t μ3) : WT C X (.Compare a [.GtE] [b] pos) δ μ QB := wt_cmp op_ge (fun _ => opD_B) (nomark _) h
theorem wt_eq (hu : X.A.units + 64 < cLine) (h : WE C X a δ μ fun x μ1 => WE C X b δ μ1 fun y μ2 => kEqD x y μ2 fun sv μ3 => ∃ t, sv = .d (.bl t) ∧ QB t μ3) : WT C X (.Compare a [.Eq] [b] pos) δ μ QB := wt_cmp (op_eqD hu) (fun _ => opD_eq) (nomark _) h
theorem wt_ne (hu : X.A.units + 64 < cLine) (h : WE C X a δ μ fun x μ1 => WE C X b δ μ1 fun y μ2 => kNeD x y μ2 fun sv μ3 => ∃ t, sv = .d (.bl t) ∧ QB t μ3) : WT C X (.Compare a [.NotEq] [b] pos) δ μ QB := wt_cmp (op_neD hu) (fun _ => opD_ne) (nomark _) h
theorem wt_is (h : WE C X a δ μ fun x μ1 => WE C X b δ μ1 fun y μ2 => kIsNon x y μ2 (fun sv μ3 => ∃ t, sv = .d (.bl t) ∧ QB t μ3) ∨ kIsB x y μ2 fun sv μ3 => ∃ t, sv = .d (.bl t) ∧ QB t μ3) : WT C X (.Compare a [.Is] [b] pos) δ μ QB := wt_cmp (op_isN.or op_isBl) (fun _ => opD_isN.or opD_isB) (nomark _) h
theorem wt_isnot (h : WE C X a δ μ fun x μ1 => WE C X b δ μ1 fun y μ2 => kNotNon x y μ2 fun sv μ3 => ∃ t, sv = .d (.bl t) ∧ QB t μ3) : WT C X (.Compare a [.IsNot] [b] pos) δ μ QB := wt_cmp op_notN (fun _ => opD_notN) (nomark _) h
theorem wt_in (h : WE C X a δ μ fun x μ1 => WE C X b δ μ1 fun y μ2 => kInI x y μ2 fun sv μ3 => ∃ t, sv = .d (.bl t) ∧ QB t μ3) (hm : behindInMarks .In b = false := by rfl) : WT C X (.Compare a [.In] [b] pos) δ μ QB := wt_cmp op_in_seq (fun _ => opD_in) hm h
theorem wt_notin (h : WE C X a δ μ fun x μ1 => WE C X b δ μ1 fun y μ2 => kNotInI x y μ2 fun sv μ3 => ∃ t, sv = .d (.bl t) ∧ QB t μ3) (hm : behindInMarks .NotIn b = false := by rfl) : WT C X (.Compare a [.NotIn] [b] pos) δ μ QB := wt_cmp op_notIn_seq (fun _ => opD_in) hm h
theorem wt_chain {op op' : CmpOp} {g g' : Int → Int → Bool} (ho : OpR X (compareOp op) (rI0 fun i j => .bl (g i j))) (ho' : OpR X (compareOp op') (rI0 fun i j => .bl (g' i j)))
    (h : WE C X a δ μ fun x μ1 => WE C X b δ μ1 fun y μ2 => ∃ i j, cnt μ2 x = some (.int i) ∧ cnt μ2 y = some (.int j) ∧ (g i j = false → QB false μ2) ∧ (g i j = true → WE C X c δ μ2 fun z μ3 => ∃ k, cnt μ3 z = some (.int k) ∧ QB (g' j k) μ3))
    (h1 : lastMarks [op, op'] [b, c] = false := by with_unfolding_all rfl) : WT C X (.Compare a [op, op'] [b, c] pos) δ μ QB := fun F0 F H as σ A =>
  tmT_of (pt_chain ho ho' pe_tm pe_tm pe_tm h1) (two h A fun F1 H1 as1 μ1 v w x y e p A1 r1 r2 ⟨i, j, c1, c2, q0, q1⟩ => by
    refine ⟨i, j, A1.rdI r1 c1, A1.rdI r2 c2, g i j, rfl, ?_⟩
    cases hg : g i j with
    | false => exact iteF ⟨false, rfl, F1, as1, μ1, e, p, A1, q0 hg⟩
    | true =>
      refine iteT ?_
      refine tm_mono (q1 hg F0 F1 H1 as1 σ A1) fun u H2 ⟨F2, as2, μ2, z, e2, p2, A2, r3, k, c3, q3⟩ => ?_
      exact ⟨j, k, A1.rdI r2 c2, A2.rdI r3 c3, _, rfl, F2, as2, μ2, e.trans e2, p.trans p2, A2, q3⟩)
theorem et_in (h : WT C X e δ μ fun b μ' => b = k ∧ wkM μ' μ) : EvT C X e δ μ k := h
theorem et_chain {op op' : CmpOp} {g g' : Int → Int → Bool} {i j m : Int} (ho : OpR X (compareOp op) (rI0 fun i j => .bl (g i j))) (ho' : OpR X (compareOp op') (rI0 fun i j => .bl (g' i j))) (hs : LocsOk δ μ)
    (ha : EvP C X a δ μ (.int i)) (hb : EvP C X b δ μ (.int j)) (hc : g i j = true → EvP C X c δ μ (.int m)) (h1 : lastMarks [op, op'] [b, c] = false := by with_unfolding_all rfl) : EvT C X (.Compare a [op, op'] [b, c] pos) δ μ (g i j && g' j m) :=
  wt_chain ho ho' (we_ev hs ha (we_ev hs hb ⟨i, j, rfl, rfl, fun z => ⟨by rw [z]; rfl, wkM_refl⟩, fun z => we_ev hs (hc z) ⟨m, rfl, by rw [z]; rfl, wkM_refl⟩⟩)) h1
theorem et_lele {i j m : Int} (hs : LocsOk δ μ) (ha : EvP C X a δ μ (.int i)) (hb : EvP C X b δ μ (.int j)) (hc : i ≤ j → EvP C X c δ μ (.int m)) (h1 : lastMarks [.LtE, .LtE] [b, c] = false := by with_unfolding_all rfl) : EvT C X (.Compare a [.LtE, .LtE] [b, c] pos) δ μ (decide (i ≤ j) && decide (j ≤ m)) :=
  et_chain op_le op_le hs ha hb (fun z => hc (of_decide_eq_true z)) h1
theorem et_lelt {i j m : Int} (hs : LocsOk δ μ) (ha : EvP C X a δ μ (.int i)) (hb : EvP C X b δ μ (.int j)) (hc : i ≤ j → EvP C X c δ μ (.int m)) (h1 : lastMarks [.LtE, .Lt] [b, c] = false := by with_unfolding_all rfl) : EvT C X (.Compare a [.LtE, .Lt] [b, c] pos) δ μ (decide (i ≤ j) && decide (j < m)) :=
  et_chain op_le op_lt hs ha hb (fun z => hc (of_decide_eq_true z)) h1
theorem atI_some {xs : List D} {i : Int} (h0 : 0 ≤ i) (h1 : i < xs.length) : L2.atI xs i = some (xs.getD i.toNat .non) := by
  have := atI_map (fun d => d) xs .non h0 h1
  rwa [List.map_id'] at this
theorem getD_mem {xs : List D} {i : Int} {d : D} (h0 : 0 ≤ i) (h1 : i < xs.length) : xs.getD i.toNat d ∈ xs := by
  have hi : i.toNat < xs.length := by omega
  rw [List.getD_eq_getElem?_getD, List.getElem?_eq_getElem hi]
  exact List.getElem_mem hi
/-! ### comprehensions without a condition -/
def MapTurn0 (C : DX) (X : Cx) (scope : Scope) (vs js : List Nat) (un : D → Option (List D)) (elt : Expr) (δ : De) (μ' : Mu) {α : Type} (xs : List α) (emb : α → D) (f : α → D) : Prop :=
  ∀ x acc, x ∈ xs → ∃ ds, un (emb x) = some ds ∧ ∀ s H0 Cc cl fp, WE C (BX X s H0 scope Cc cl fp) elt (setDs (wipeD δ vs) js ds) (μ' ++ [.lst acc]) fun sv μ3 => ∃ μ4, fz μ3 sv = some (f x, μ4) ∧ wkM μ4 (μ' ++ [.lst acc])
theorem filt_all {α : Type} (xs : List α) : xs.filter (fun _ => true) = xs := List.filter_eq_self.mpr fun _ _ => rfl
theorem MapTurn0.turn {scope : Scope} {vs js : List Nat} {un : D → Option (List D)} {elt : Expr} {α : Type} {xs : List α} {emb : α → D} {f : α → D} (h : MapTurn0 C X scope vs js un elt δ μ xs emb f) : MapTurn C X scope vs js un elt [] δ μ xs emb (fun _ => true) f := fun x acc hx => by
  obtain ⟨ds, h1, h2⟩ := h x acc hx
  exact ⟨ds, h1, fun s H0 Cc cl fp => ⟨rfl, wkM_refl, fun _ s H0 Cc cl fp => h2 s H0 Cc cl fp⟩⟩
theorem we_lc0 {elt tg iter : Expr} {scope : Scope} {own : List (Str × Nat)} {g : TG} {js : List Nat} {un : D → Option (List D)} (tgt : Tgt X.K g js un) (hc : X.calm = true) (hN : X.N.Nodup) (ok : BlkOk X.N X.env.scope scope own)
    (hg : ∀ (s : Shared) (H : Hp) (Cc : Addr) (cl : List (Str × Addr)) (fp : List Addr), PG (BX X s H scope Cc cl fp) tg g) (hj : ∀ j ∈ js, j ∈ own.map (·.2))
    (h : WI C X tg iter δ μ fun ys μ' => ∃ (α : Type) (xs : List α) (emb : α → D) (f : α → D), ys = xs.map emb ∧ xs.length ≤ 100000 ∧ MapTurn0 C X scope (own.map (·.2)) js un elt δ μ' xs emb f ∧ Q (.loc μ'.length) (μ' ++ [.lst (xs.map f)]))
    (hs : ∀ x, foldedSetIterable iter X.env x = pure x := by intro _; rfl) : WE C X (.ListComp elt [⟨tg, iter, [], 0⟩] scope pos) δ μ Q :=
  we_lcM tgt hc hN ok hg hj (by decide) (wi_mono h fun ys μ' ⟨α, xs, emb, f, hy, hl, t, q⟩ => ⟨α, xs, emb, _, f, hy, hl, t.turn, by rw [filt_all]; exact q⟩) hs
theorem ws_setLc0 {x : Str} {pos' spos : Pos} {elt tg iter : Expr} {scope : Scope} {own : List (Str × Nat)} {g : TG} {js : List Nat} {un : D → Option (List D)} (i : Nat) (tgt : Tgt X.K g js un) (hc : X.calm = true) (hN : X.N.Nodup) (hi : X.N[i]? = some x) (hxl : X.env.scope.names.lookup x = some .local)
    (hsw : swapsWith (.ListComp elt [⟨tg, iter, [], 0⟩] scope pos) (some (.Name x pos')) spos.line X.env = pure true) (ok : BlkOk X.N X.env.scope scope own)
    (hg : ∀ (s : Shared) (H : Hp) (Cc : Addr) (cl : List (Str × Addr)) (fp : List Addr), PG (BX X s H scope Cc cl fp) tg g) (hj : ∀ j ∈ js, j ∈ own.map (·.2))
    (h : WI C X tg iter δ μ fun ys μ' => ∃ (α : Type) (xs : List α) (emb : α → D) (f : α → D), ys = xs.map emb ∧ xs.length ≤ 100000 ∧ MapTurn0 C X scope (own.map (·.2)) js un elt δ μ' xs emb f ∧ E.nx (δ.set i (some (.loc μ'.length))) (μ' ++ [.lst (xs.map f)]))
    (hs : ∀ x, foldedSetIterable iter X.env x = pure x := by intro _; rfl) : WS C X (.Assign [.Name x pos'] (.ListComp elt [⟨tg, iter, [], 0⟩] scope pos) spos) δ μ E :=
  ws_setLcM i tgt hc hN hi hxl hsw ok hg hj (by decide) (wi_mono h fun ys μ' ⟨α, xs, emb, f, hy, hl, t, q⟩ => ⟨α, xs, emb, _, f, hy, hl, t.turn, by rw [filt_all]; exact q⟩) hs
/-- names and things as they are to be seen -/
theorem wss_norm (h : WSs C X sts δ' μ' E) (e1 : δ = δ') (e2 : μ = μ') : WSs C X sts δ μ E := by
  subst e1 e2
  exact h
theorem wss_wkN (h : WSs C X sts δ' μ' E) (w1 : wkM μ μ') (w2 : wkD δ δ') (w3 : C.ps.length ≤ μ'.length) (w4 : LocsOk δ' μ') : WSs C X sts δ μ E := wss_wk δ' μ' h w1 w2 w3 w4
theorem we_norm (e1 : δ = δ') (h : WE C X e δ' μ Q) : WE C X e δ μ Q := by
  subst e1
  exact h
theorem wt_norm (e1 : δ = δ') (h : WT C X e δ' μ QB) : WT C X e δ μ QB := by
  subst e1
  exact h
theorem we_gintE {x : Str} {i : Int} {p : Pos} (hm : ∃ t, X.mg x = some (.int i t)) (q : Q (.d (.int i)) μ) (hg : Gl X x := by rfl) (hd : (x == ("__debug__" : Str)) = false := by decide) : WE C X (.Name x p) δ μ Q := by
  obtain ⟨t, hm⟩ := hm
  exact we_gint hm q hg hd
/-- a test that is known -/
theorem ws_ifT {sts2 : List Stmt} (h : WT C X c δ μ fun k μ1 => k = true ∧ WSs C X sts δ μ1 E) : WS C X (.If c sts sts2 pos) δ μ E := ws_if (wt_mono h fun k μ1 ⟨e, q⟩ => ⟨fun _ => q, fun z => by rw [e] at z; cases z⟩)
theorem ws_ifF {sts2 : List Stmt} (h : WT C X c δ μ fun k μ1 => k = false ∧ WSs C X sts2 δ μ1 E) : WS C X (.If c sts sts2 pos) δ μ E := ws_if (wt_mono h fun k μ1 ⟨e, q⟩ => ⟨fun z => (by rw [e] at z; cases z), fun _ => q⟩)
theorem ws_ifE {sts2 : List Stmt} (hs : LocsOk δ μ) (hc : EvT C X c δ μ k) (h1 : k = true → WSs C X sts δ μ E) (h2 : k = false → WSs C X sts2 δ μ E) : WS C X (.If c sts sts2 pos) δ μ E := ws_if (wt_ev hs hc ⟨h1, h2⟩)
end
theorem Wk.in {C : DX} {q : De → Mu → Prop} {δ δ' : De} {μ μ' : Mu} (h : q δ' μ') (w1 : wkM μ μ') (w2 : wkD δ δ') (w3 : C.ps.length ≤ μ'.length) (w4 : LocsOk δ' μ') : Wk C q δ μ := ⟨δ', μ', w1, w2, w3, w4, h⟩
end DS

/-! Lam1: a lambda with one parameter. -/
namespace DS
open PySem PySem.Spec PyProof.Rows L2
/-- one parameter p; all other names are captured or global -/
structure LamP (N : List Str) (sc scope : Scope) (p : Str) : Prop where
  kind : scope.kind = .function
  co : scope.isCoroutine = false
  gen : scope.isGenerator = false
  loc : ∀ y k, scope.names.lookup y = some k → k = .local → y = p
  nocell : ∀ y ∈ scope.names, y.2 ≠ .cell
  par : scope.names.lookup p = some .local
  new : p ∉ N
  free : ∀ y ∈ scope.names, y.2 = .free → sc.names.lookup y.1 = some .cell ∨ sc.names.lookup y.1 = some .free
/-- the captured names' cells -/
abbrev cloOf (X : Cx) (scope : Scope) : List (Str × Addr) := cloFrom X.env.cells scope.names []
theorem cloOf_sub {X : Cx} {scope : Scope} (free : ∀ y ∈ scope.names, y.2 = .free → ∃ c, X.env.cells.lookup y.1 = some c) {y : Str} {c : Addr} (e : (cloOf X scope).lookup y = some c) : X.env.cells.lookup y = some c := by
  rcases cloFrom_mem (PySem.mem_of_lookup e) with q | ⟨q1, q2⟩
  · exact absurd q (by simp)
  · obtain ⟨c1, h1⟩ := free (y, .free) q1 rfl
    have h1 : X.env.cells.lookup y = some c1 := h1
    rw [q2, h1]
    rfl
theorem cloOf_has {X : Cx} {scope : Scope} {y : Str} (h : scope.names.lookup y = some .free) : ∃ c, (cloOf X scope).lookup y = some c :=
  mem_lookup (cloFrom_has (acc := []) (PySem.mem_of_lookup h))
/-- the context of the body of such a lambda -/
def lamC1 (X : Cx) (A : Around) (outer : List Env) (s : Shared) (H : Hp) (E : XK) (scope : Scope) (f c' : Addr) (p : Str) : Cx :=
  { LamX.lamCx X A outer s H E scope f c' with N := X.N ++ [p] }
section
variable {X : Cx} {pins : List (Addr × Obj)} {σ : L2.St} {H HZ : Hp} {s s1 : Shared}
theorem LamP.hasC {N : List Str} {scope : Scope} {p : Str} (L : LamP N X.env.scope scope p) (ok : X.Ok) : ∀ y ∈ scope.names, y.2 = .free → ∃ c, X.env.cells.lookup y.1 = some c := fun y hy e =>
  (L.free y hy e).elim (fun k => ok.has _ (.inl k)) fun k => ok.has _ (.inr k)
theorem lam1_inv {A : Around} {outer : List Env} {E : XK} {scope : Scope} {f c' : Addr} {p : Str} {h₁ : Heap} {tk : Nat} {u : Value} {v : V} (I : Inv X pins σ H s) (L : LamP X.N X.env.scope scope p)
    (e0 : Env0 X.prog X.w X.K X.mg X.base A outer s1 HZ) (hd : A.handled = none) (un : Un (frs X.stack) [] H HZ s.heap s1.heap)
    (hns : h₁.Ns s1.heap.objs.size fun y => ([(p, u)] : List (Str × Value)).reverse.lookup y) (kp : ∀ b o, s1.heap.get? b = some o → h₁.get? b = some o) (rv : RelV v u) :
    Inv (lamC1 X A outer s1 HZ E scope f c' p) [] (σ ++ [some v]) HZ { s1 with heap := h₁, toks := tk } := by
  have fr := L.hasC I.ok
  have keepC : ∀ {c : Addr} {x : Option Value}, H c = none → s.heap.IsCell c x → h₁.IsCell c x := by
    rintro c x n ⟨o, ho, hd'⟩
    obtain ⟨sl, q⟩ := un.any ho n (by simp)
    exact ⟨_, kp _ _ q, hd'⟩
  have nl : σ.length = X.N.length := I.len
  refine
    { ok := ?_, os := rfl, bare := e0.bare, base := Un.kept kp, loc := ⟨_, hns, ?_⟩, cell := ?_, free := e0.hok.fresh (Nat.le_refl _), freeC := ?_, pin := ?_, hok := e0.hok.kept kp, len := ?_ }
  · refine
      { mod := e0.mod, kind := L.kind, glob := rfl, blt := rfl, above := Nat.le_refl _, inj := ?_, has := ?_, cab := ?_, hd := fun _ => hd, frames := Around.frames_deeper e0.frames, stk := .inr ⟨rfl, rfl⟩, exf := ?_, bs := e0.bs, bsz := e0.bsz, noex := ?_, exfs := ?_, funs := e0.funs, frf := e0.frf }
    · intro y z c a b
      exact I.ok.inj y z c (cloOf_sub fr a) (cloOf_sub fr b)
    · intro y hy
      rcases (show scope.names.lookup y = some .cell ∨ scope.names.lookup y = some .free from hy) with k | k
      · exact absurd rfl (L.nocell _ (PySem.mem_of_lookup k))
      · exact cloOf_has k
    · intro y c z
      exact absurd (show false = true from z) (by decide)
    · intro b z
      exact absurd (show b ∈ ([] : List Addr) from z) (by simp)
    · intro b o _ z
      exact absurd (show b ∈ ([] : List Addr) from z) (by simp)
    · intro b z
      exact absurd (show b ∈ ([] : List Addr) from z) (by simp)
  · intro i y w e1 e2 e3
    have e1 : (X.N ++ [p])[i]? = some y := e1
    have e3 : Vis scope y := e3
    by_cases hi : i < X.N.length
    · rw [List.getElem?_append_left hi] at e1
      rw [List.getElem?_append_left (by omega)] at e2
      have hyp : y ≠ p := fun z => L.new (z ▸ List.mem_of_getElem? e1)
      have k : scope.names.lookup y = some .free := by
        rcases e3 with k | k | k
        · exact absurd (L.loc y _ k rfl) hyp
        · exact absurd rfl (L.nocell _ (PySem.mem_of_lookup k))
        · exact k
      obtain ⟨m, hn, hl⟩ := I.loc
      have vis : Vis X.env.scope y := by
        rcases L.free _ (PySem.mem_of_lookup k) rfl with q | q
        · exact .inr (.inl q)
        · exact .inr (.inr q)
      obtain ⟨w', r, q⟩ := hl i y w e1 e2 vis
      obtain ⟨c2, h2⟩ := cloOf_has (X := X) k
      refine ⟨w', r, .inr ⟨.inr k, c2, h2, ?_⟩⟩
      have c1 := cloOf_sub fr h2
      rcases q with ⟨k', _⟩ | ⟨_, c3, e', z⟩
      · have k' : X.env.scope.names.lookup y = some .local := k'
        rcases L.free _ (PySem.mem_of_lookup k) rfl with k2 | k2
        · have k2 : X.env.scope.names.lookup y = some .cell := k2
          rw [k'] at k2; cases k2
        · have k2 : X.env.scope.names.lookup y = some .free := k2
          rw [k'] at k2; cases k2
      · rw [c1] at e'
        cases e'
        exact keepC (I.freeC y _ c1) z
    · have hj : i = X.N.length := by
        have := (List.getElem?_eq_some_iff.mp e1).1
        rw [List.length_append, List.length_singleton] at this
        omega
      subst hj
      rw [List.getElem?_append_right (Nat.le_refl _), Nat.sub_self] at e1
      rw [List.getElem?_append_right (by omega), nl, Nat.sub_self] at e2
      cases e1
      cases e2
      exact ⟨u, rv, .inl ⟨L.par, by simp⟩⟩
  · intro y c e
    obtain ⟨w', z⟩ := I.cell y c (cloOf_sub fr e)
    exact ⟨w', keepC (I.freeC y c (cloOf_sub fr e)) z⟩
  · intro y c e
    obtain ⟨x, o, ho, _⟩ := I.cell y c (cloOf_sub fr e)
    exact un.free c o ho (I.freeC y c (cloOf_sub fr e)) (by simp)
  · intro q hq
    exact absurd (show q ∈ ([] : List (Addr × Obj)) ++ [] from hq) (by simp)
  · show (σ ++ [some v]).length = (X.N ++ [p]).length
    rw [List.length_append, List.length_append, nl]
    rfl
end
end DS

/-! Lam2: the call of such a lambda by the def that got it. -/
namespace DS
open PySem PySem.Spec PyProof.Rows L2
variable [Tbs]
/-- what is data among the names -/
def datS : Option SV → Option SV
  | some (.d x) => some (.d x)
  | _ => none
def datD (δ : De) : De := δ.map datS
theorem datD_get {δ : De} {i : Nat} {sv : SV} (h : (datD δ)[i]? = some (some sv)) : ∃ x, sv = .d x ∧ δ[i]? = some (some (.d x)) := by
  unfold datD at h
  rw [List.getElem?_map] at h
  cases e : δ[i]? with
  | none => rw [e] at h; cases h
  | some o =>
    rw [e] at h
    cases o with
    | none => cases h
    | some y =>
      cases y with
      | d x => cases h; exact ⟨x, rfl, rfl⟩
      | loc k => cases h
abbrev lamO (X : Cx) (params : Arguments) (body : Expr) (scope : Scope) (pm : Value) (c' : Addr) (ctv : Value) : Obj := PySem.W.kla_obj "<lambda>" (X.env.qual ++ "<lambda>") params body scope (cloOf X scope) pm c' ctv
/-- the lambda f stands: made in X at s, H -/
structure LamAt (X : Cx) (pins : List (Addr × Obj)) (C : DX) (F : Hp) (as : List Addr) (σ : L2.St) (δ : De) (μ : Mu) (H : Hp) (s : Shared) (params : Arguments) (body : Expr) (scope : Scope) (p : Str) (f c' : Addr) (pm ctv : Value) : Prop where
  inv : Inv X pins σ H s
  par : LamP X.N X.env.scope scope p
  obj : s.heap.get? f = some (lamO X params body scope pm c' ctv)
  fre : H f = none
  nfr : f ∉ frs X.stack
  bnd : ∀ u, bindArgs (PySem.W.kla_fn "<lambda>" (X.env.qual ++ "<lambda>") params body scope (cloOf X scope) pm (.ref c') ctv) ⟨[u], []⟩ = pure [(p, u)]
  cod : H c' = some (LamX.CodeO c' (X.env.qual ++ "<lambda>"))
  agr : Agree X.K C F H as σ δ μ
/-- the context of the def that got it -/
abbrev gotC (X : Cx) (Ng : List Str) (qg : Str) (sg : Scope) (g : Addr) (cdg : Value) (s : Shared) (H : Hp) (E : XK) : Cx := cxOf (L2.CX X.prog X.w) X.prog X.w X.K X.mg X.base Ng qg sg g cdg X.A X.stack s H E
/-- the body of the lambda, at any time -/
def LamDoes (X : Cx) (k : Nat) (body : Expr) (scope : Scope) (f c' : Addr) (p : Str) (δ : De) (pb : Int → D) : Prop :=
  ∀ (A : Around) (outer : List Env) (s2 : Shared) (H2 : Hp) (E : XK) (Cl : DX) (m : Int), Room k (A.deeper (LamX.lamEnv X scope s2.heap.objs.size f c')) → Cl.ps = [] → WE Cl (lamC1 X A outer s2 H2 E scope f c' p) body (datD δ ++ [some (.d (.int m))]) [] fun sv μ' => sv = .d (pb m) ∧ wkM μ' []
section
variable {X : Cx} {pins : List (Addr × Obj)} {C : DX} {F : Hp} {as : List Addr} {σ : L2.St} {δ : De} {μ : Mu} {H : Hp} {s : Shared} {params : Arguments} {body : Expr} {scope : Scope} {p : Str} {f c' : Addr} {pm ctv : Value}
theorem we_clo {Ng : List Str} {qg : Str} {sg : Scope} {g : Addr} {cdg : Value} {Eg : XK} {k : Nat} {pb : Int → D} (L : LamAt X pins C F as σ δ μ H s params body scope p f c' pm ctv) (hr : Room (k + 1) (X.A.deeper (envOfC qg sg s.heap.objs.size g cdg))) (does : LamDoes X k body scope f c' p δ pb) (hpb : ∀ m, flatD (pb m) = true)
    {C' : DX} (hC : C'.R = fun a => noT (H a)) {i : Nat} {a : Str} {e : Expr} {δ' : De} {μ' : Mu} {Q' : SV → Mu → Prop} {p1 p2 : Pos}
    (hN : Ng[i]? = some a) (hv : Vis sg a) (hs : δ'[i]? = some (some (.d (.raw (.ref f)))))
    (h : WA C' (gotC X Ng qg sg g cdg s H Eg) [e] δ' μ' fun xs μ1 => ∃ x m, xs = [x] ∧ cnt μ1 x = some (.int m) ∧ Q' (.d (pb m)) μ1)
    (tk : Takes (gotC X Ng qg sg g cdg s H Eg) (fun _ _ _ _ => False))
    (hd : (a == ("__debug__" : Str)) = false := by decide) (hcd : (a == ("__classdict__" : Str)) = false := by decide)
    (he : starEach [e] (gotC X Ng qg sg g cdg s H Eg).env = (false, eval e (gotC X Ng qg sg g cdg s H Eg).env) :: starEach [] (gotC X Ng qg sg g cdg s H Eg).env := by rfl) :
    WE C' (gotC X Ng qg sg g cdg s H Eg) (.Call (.Name a p1) [e] [] p2) δ' μ' Q' := by
  intro F0 FZ HZ asZ σZ AZ pinsZ sZ IZ
  obtain ⟨v, hv1, hv2⟩ := AZ.val i _ hs
  have ev : v = .ref f := by cases hv2; rfl
  subst ev
  refine wpAny_Call_Name_kw (thn ((pe_var (pos := p1) (i := i) hN hv hd hcd).run pinsZ sZ σZ HZ (fun v H1 => v = .ref f ∧ H1 = HZ) IZ ⟨.ref f, hv1, rfl, rfl⟩) fun u s1 ⟨v, H1, I1, r1, q1⟩ => ?_)
  obtain ⟨ev, eH⟩ := q1
  subst ev
  rw [eH] at I1
  obtain rfl : u = Value.ref f := r1
  have at_ : ∀ {H2 : Hp} {s2 : Shared}, Inv (gotC X Ng qg sg g cdg s H Eg) pinsZ σZ H2 s2 → s2.heap.get? f = some (lamO X params body scope pm c' ctv) := fun J => J.base.keep f _ L.obj L.fre L.nfr fun z => nomatch (show f ∈ ([] : List Addr) from z)
  refine PySem.W.callWith_F ⟨_, _, _, _, at_ I1⟩ ?_ he
  refine wpAny_mono (h F0 FZ HZ asZ σZ AZ p2 pinsZ s1 I1) (fun us s2 hq => ?_) fun _ _ x => x
  obtain ⟨vs, H2, I2, rvs, F2, as2, μ2, svs, e2, pp2, A2, rr, x, m, hx, hc, q⟩ := hq
  subst hx
  obtain ⟨v, evs, rx⟩ := pair1 rr
  subst evs
  have em : v = .int m := A2.rdI rx hc
  subst em
  refine ⟨⟨_, _, _, _, at_ I2⟩, ?_⟩
  have un : Un (frs X.stack) [] H H2 s.heap s2.heap := I2.base
  have kpH : ∀ b o, H b = some o → nt o → H2 b = some o := fun b o hb n => A2.rH b o (by rw [show ((C'.w F0).R b) = C'.R b from rfl, hC]; exact noT_nt hb n)
  obtain ⟨u1, rfl, ru⟩ : ∃ u1, us = [u1] ∧ RelV (.int m) u1 := by
    cases rvs with
    | cons r t => cases t; exact ⟨_, rfl, r⟩
  obtain ⟨⟨oc, xs, t, hoc, hdc, hvc⟩, _, _⟩ := I2.hok c' _ (kpH c' _ L.cod fun ps z => LamX.codeO_ne ps z)
  have FH2 : Same F H2 := fun b o hb => kpH b o (L.agr.fH b o hb) (L.agr.fT b o hb)
  have rc : codeAny (model X.prog X.w) (X.A.deeper (envOfC qg sg s.heap.objs.size g cdg)) (.call (.ref f) ⟨[u1], []⟩)
      (CR (L2.CX X.prog X.w) (envOfC qg sg s.heap.objs.size g cdg :: X.stack) X.prog X.w H2 s2 (Post X.K (C'.w F0) FZ asZ σZ δ' Q') (fun _ _ _ => False)) s2 := by
    refine PySem.W.kla_callFunE hr.depth (at_ I2) rfl L.par.co L.par.gen rfl ⟨c', oc, xs, t, rfl, hoc, hdc, hvc⟩ ?_
    rw [L.bnd]
    refine wpAny_pure (wpAny_newFunctionEnv (fun y hy => L.par.nocell y hy) (fun y hy => by rw [List.mem_singleton.mp hy]; exact L.par.par) (fun h₁ hns hsb => ⟨I2.nolimit.fresh _ hsb, ?_⟩) L.par.kind)
    show codeAny _ _ (.expr body (LamX.lamEnv X scope s2.heap.objs.size f c')) _ _
    have kp : ∀ b o, s2.heap.get? b = some o → h₁.get? b = some o := fun b o hb => hsb.extBut b o (Nat.ne_of_lt (Heap.lt_size hb)) (Heap.get?_push_of_some _ hb)
    have J : Inv (lamC1 X (X.A.deeper (envOfC qg sg s.heap.objs.size g cdg)) (envOfC qg sg s.heap.objs.size g cdg :: X.stack) s2 H2 (fun _ _ _ => False) scope f c' p) [] (σ ++ [some (.int m)]) H2 { s2 with heap := h₁, toks := s2.toks + ([(p, u1)] : List (Str × Value)).length } :=
      lam1_inv L.inv L.par I2.env0 hr.hd un hns kp ru
    have AL : Agree X.K ((dxOf [] (ntp H2) H2).w (ntp H2)) (ntp H2) H2 [] (σ ++ [some (.int m)]) (datD δ ++ [some (.d (.int m))]) [] := by
      refine ⟨Same.refl _, fun b o hb => .inl hb, fun b o hb => ?_, ntp_same H2, rfl, List.prefix_refl _, fun i j b m1 m2 z => by simp at z, fun k m1 b z => by simp at z, fun k ys b z => by simp at z, ?_, fun j sv hj => ?_, ntp_nt H2, fun b o hb => ?_, A2.tb⟩
      · have hb : (if b ∈ ([] : List Addr) then none else noT (H2 b)) = some o := hb
        rw [if_neg (by simp)] at hb
        exact (noT_some hb).1
      · unfold datD
        rw [List.length_append, List.length_append, List.length_map, L.agr.lσ]
        rfl
      · have ll : (datD δ).length = σ.length := by unfold datD; rw [List.length_map, L.agr.lσ]
        by_cases hlt : j < σ.length
        · rw [List.getElem?_append_left (by rw [ll]; exact hlt)] at hj
          obtain ⟨y, rfl, hy⟩ := datD_get hj
          obtain ⟨w, hw, rw'⟩ := L.agr.val j _ hy
          refine ⟨w, by rw [List.getElem?_append_left hlt]; exact hw, ?_⟩
          exact Rep.ntp (Rep.mono FH2 rw')
        · have hje : j = σ.length := by
            have := (List.getElem?_eq_some_iff.mp hj).1
            rw [List.length_append, ll, List.length_singleton] at this
            omega
          subst hje
          rw [List.getElem?_append_right (by rw [ll]; exact Nat.le_refl _), ll, Nat.sub_self] at hj
          cases hj
          exact ⟨.int m, by rw [List.getElem?_append_right (Nat.le_refl _), Nat.sub_self]; rfl, .int m⟩
      · have hb : (if b ∈ ([] : List Addr) then none else noT (H2 b)) = some o := hb
        rw [if_neg (by simp)] at hb
        exact (noT_some hb).2
    refine PySem.W.kla_codeExpr (wpAny_mono (does (X.A.deeper (envOfC qg sg s.heap.objs.size g cdg)) (envOfC qg sg s.heap.objs.size g cdg :: X.stack) s2 H2 (fun _ _ _ => False) (dxOf [] (ntp H2) H2) m (hr.deeper _) rfl (ntp H2) (ntp H2) H2 [] (σ ++ [some (V.int m)]) AL [] _ J) (fun w s' hq => ?_) fun e s' hq => hq)
    obtain ⟨w', H', J', rv, F3, as3, μ3, sv, e3, pp3, A3, r3, hsv, _⟩ := hq
    subst hsv
    refine ⟨w', H', J'.os, J'.bare, J'.base, J'.hok, rv, ?_⟩
    have kp3 : ∀ b o, H2 b = some o → nt o → H' b = some o := fun b o hb n => A3.rH b o (by show (if b ∈ ([] : List Addr) then none else noT (H2 b)) = some o; rw [if_neg (by simp)]; exact noT_nt hb n)
    exact ⟨F2, as2, μ2, .d (pb m), e2, pp2, A2.after (Same.refl F2) (fun b o hb => kp3 b o (A2.fH b o hb) (A2.fT b o hb)) (fun b o hb => .inl hb) kp3 A2.fT A3.tb, Rep.flat (K := X.K) (F := F3) r3 (hpb m), q⟩
  have hx : Passes (L2.CX X.prog X.w) (gotC X Ng qg sg g cdg s H Eg) (fun _ _ _ => False) := passes_call tk fun _ _ _ _ h => h
  refine wpAny_call (codeAny_mono rc fun r s' hq => ?_)
  cases r with
  | error e => exact hx pinsZ σZ H2 s2 e s' I2 hq
  | ok fl =>
    cases fl with
    | ret u => exact I2.after hq
    | next => exact False.elim hq
    | brk => exact False.elim hq
    | cont => exact False.elim hq
end
end DS

/-! Lam3: x(e1, e2, lambda p: body). -/
namespace DS
open PySem PySem.Spec PyProof.Rows L2
variable [Tbs]
theorem Agree.lam {K : PySem.W.Frag} {C : DX} {F H H1 : Hp} {as : List Addr} {σ : L2.St} {δ : De} {μ : Mu} (A : Agree K C F H as σ δ μ) (eN : LamX.ExtN H H1) (tb : LamX.Tabs Tbs.tabs H1) : Agree K C F H1 as σ δ μ :=
  A.after (Same.refl F) (fun a o e => eN a o (A.fH a o e) (A.fT a o e)) (fun a o e => .inl e) (fun a o e n => eN a o e n) A.fT tb
/-- what the lambda's call is, in the body of the def that got it -/
def CloRule (C' : DX) (Xg : Cx) (sg : Scope) (f : Addr) (pb : Int → D) : Prop :=
  ∀ (i : Nat) (a : Str) (e : Expr) (δ' : De) (μ' : Mu) (Q' : SV → Mu → Prop) (p1 p2 : Pos), Xg.N[i]? = some a → Vis sg a → δ'[i]? = some (some (.d (.raw (.ref f)))) →
    (a == ("__debug__" : Str)) = false → (a == ("__classdict__" : Str)) = false → starEach [e] Xg.env = (false, eval e Xg.env) :: starEach [] Xg.env →
    WA C' Xg [e] δ' μ' (fun xs μ1 => ∃ x m, xs = [x] ∧ cnt μ1 x = some (.int m) ∧ Q' (.d (pb m)) μ1) → WE C' Xg (.Call (.Name a p1) [e] [] p2) δ' μ' Q'
theorem we_lam3 {C : DX} {X : Cx} {δ : De} {μ : Mu} {Q : SV → Mu → Prop} {x q1 q2 q3 p : Str} {st : Stmt} {g c P : Addr} {fdg : FuncData} {Ng : List Str} {k : Nat} {params : Arguments} {body : Expr} {scope : Scope} {pb : Int → D} {e1 e2 : Expr} {d1 d2 res : D} {pp lpos pos : Pos}
    (Fg : Fun X.K x x st g fdg) (hm : X.mg x = some (.ref g)) (bd : Binds X.K fdg [q1, q2, q3] []) (Sg : FnScope Ng [q1, q2, q3] (defScope st))
    (L : LamP X.N X.env.scope scope p) (TB : LamX.TabB X.base X.mg c P) (hcode : X.env.code = .ref c) (hmT : (P, X.env.qual ++ "<lambda>") ∈ Tbs.tabs) (hu : ∀ t ∈ Tbs.tabs, t.1 = P → t.2 = X.env.qual ++ "<lambda>")
    (hdef : defaultsOf params X.env = ([], [])) (hbind : ∀ (q : Str) (cl : List (Str × Addr)) (pm cv ctv u : Value), bindArgs (PySem.W.kla_fn "<lambda>" q params body scope cl pm cv ctv) ⟨[u], []⟩ = pure [(p, u)])
    (hr : Room (k + 2) X.A) (hpb : ∀ m, flatD (pb m) = true) (does : ∀ f c', LamDoes X k body scope f c' p δ pb)
    (walk : ∀ (f : Addr) (cdv : Value) (s : Shared) (H : Hp) (E : XK) (C' : DX), Room (k + 1) (X.A.deeper (envOfC x (defScope st) s.heap.objs.size g cdv)) → C'.ps.length = 0 → CloRule C' (gotC X Ng x (defScope st) g cdv s H E) (defScope st) f pb →
      WSs C' (gotC X Ng x (defScope st) g cdv s H E) (defBody st) (startD Ng 0 [d1, d2, .raw (.ref f)]) [] ⟨fun _ _ => False, retQ 0 (fun r _ => r = .dat res), fun _ _ => False, fun _ _ => False⟩)
    (h : WE C X e1 δ μ fun x1 μ1 => x1 = .d d1 ∧ WE C X e2 δ μ1 fun x2 μ2 => x2 = .d d2 ∧ Q (.d res) μ2) (hg : Gl X x := by rfl) (hdb : (x == ("__debug__" : Str)) = false := by decide)
    (s1 : starEach [e1, e2, .Lambda params body scope lpos] X.env = [(false, eval e1 X.env), (false, eval e2 X.env), (false, eval (.Lambda params body scope lpos) X.env)] := by rfl) (sA : starEach [e1, e2, .Lambda params body scope lpos] X.env = (false, eval e1 X.env) :: starEach [e2, .Lambda params body scope lpos] X.env := by rfl)
    (sB : (backTo pos (starEach [e2, .Lambda params body scope lpos] X.env)).any (·.1) = false := by rfl) :
    WE C X (.Call (.Name x pp) [e1, e2, .Lambda params body scope lpos] [] pos) δ μ Q := by
  intro F0 F H as σ A pins s I
  have hk : PySem.W.keepIn X.K (.ref g) = true := Fg.kp
  refine wpAny_Call_Name_kw (ld_glob I hg hm ?_ hdb)
  refine PySem.W.callWith_K (h₀ := X.base) I.ok.mod.kin hk ?_ sA sB
  have bt : backTo pos (starEach [e1, e2, .Lambda params body scope lpos] X.env) = (false, eval e1 X.env) :: (false, eval e2 X.env) :: (false, eval (.Lambda params body scope lpos) X.env) :: [] := by
    rw [s1]
    rfl
  rw [bt]
  refine Calls.spliced_cons (wpAny_mono (h F0 F H as σ A pins s I) (fun u1 s2 hq1 => ?_) fun _ _ z => z)
  obtain ⟨v1, H2, I2, rv1, F2, as2, μ2, sv1, e2', pf2, A2, r1, hx1, h2⟩ := hq1
  refine Calls.spliced_cons (wpAny_mono (h2 F0 F2 H2 as2 σ A2 pins s2 I2) (fun u2 s3 hq2 => ?_) fun _ _ z => z)
  obtain ⟨v2, H3, I3, rv2, F3, as3, μ3, sv2, e3', pf3, A3, r2, hx2, q⟩ := hq2
  subst hx1 hx2
  refine Calls.spliced_cons (LamX.lam_make2 I3 TB hcode hmT hu A3.tb hdef (L.hasC I3.ok) fun f c' pm ctv H4 s4 I4 eN T4 hf hfn hfr hco => ?_)
  refine Calls.spliced_nil ⟨I4.kIn, ?_⟩
  have A4 := A3.lam eN T4
  obtain ⟨oc, od, kV, doc, pm0, an, cdv, ct, osl, rfl, lk, hcd⟩ := Fg.ex
  have LA : LamAt X pins (C.w F0) F3 as3 σ δ μ3 H4 s4 params body scope p f c' pm ctv := ⟨I4, L, hf, hfn, hfr, hbind _ _ _ _ _, hco, A4⟩
  have sp := call_core (X := X) (pr := fun os dd post _ => os = [] ∧ dd = [d1, d2, .raw (.ref f)] ∧ post (.dat res) []) (ex := fun _ => False) (Q := Q) (Q' := Post X.K (C.w F0) F as σ δ Q) A4 (vs := [v1, v2, .ref f]) (svs := [.d d1, .d d2, .d (.raw (.ref f))])
    (.cons (VOk.mono e3' pf3 r1) (.cons r2 (.cons (.raw _) .nil))) (.inl ⟨[d1, d2, .raw (.ref f)], μ3, rfl, rfl, rfl, q⟩) (fun z H' hz => (hz.back (e2'.trans e3') (pf2.trans pf3))) (fun os ds p0 p' x0 x' hp hx ⟨z1, z2, z3⟩ => ⟨z1, z2, hp _ _ z3⟩)
  have rc : codeAny (model X.prog X.w) X.A (.call (.ref g) ⟨[u1, u2, .ref f], []⟩) (CR (L2.CX X.prog X.w) X.stack X.prog X.w H4 s4 (Post X.K (C.w F0) F as σ δ Q) (fun _ _ _ => False)) s4 := by
    refine LamX.run_ofS (N := Ng) (ps := [q1, q2, q3]) (us := [u1, u2, .ref f]) (vs := [v1, v2, .ref f]) lk hcd Sg hr I4.env0 (bd s4 [u1, u2, .ref f] I4.kIn rfl) (.cons rv1 (.cons rv2 (.cons rfl .nil))) rfl fun hr' => ?_
    refine ⟨_, pss_tm, ?_⟩
    obtain ⟨Fs, ps, os, ds, ws, hvs, r, sH, ow, fT0, tb0, z1, z2, z3⟩ := sp
    subst z1 z2
    have hps : ps = [] := List.eq_nil_of_length_eq_zero ow.1
    subst hps
    have hws : ws = [v1, v2, .ref f] := hvs.symm
    subst hws
    have B := walk f cdv s4 H4 (fun _ _ _ => False) (dxOf [] Fs H4) hr' rfl (fun i a e δ' μ' Q' p1 p2 b1 b2 b3 b4 b5 b6 b7 =>
      we_clo (pb := pb) LA hr' (does f c') hpb (by unfold dxOf; funext b; simp) b1 b2 b3 b7 LamX.takes0 b4 b5 b6)
    have A0 := agree_start (N := Ng) (os := []) r sH ow fT0 tb0
    refine tmSs_mono (B Fs Fs H4 [] _ A0) (fun σ' H' q => ?_) (fun v H' q => ?_) (fun σ' H' q => ?_) (fun σ' H' q => ?_)
    · obtain ⟨_, _, _, _, _, q⟩ := q
      exact q.elim
    · obtain ⟨F', as', σ', δ', μ', sv, A', rv, q⟩ := q
      refine ret_of (os0 := []) (post := fun r os' => r = .dat res) (os := []) ow A' rv q (fun r' os' hr'' v F' H' R rv => ?_)
      subst hr''
      have : os' = [] := List.eq_nil_of_length_eq_zero (by have := R.own.1; simpa using this.symm)
      subst this
      exact z3 v F' H' R rv
    · obtain ⟨_, _, _, _, _, q⟩ := q
      exact q.elim
    · obtain ⟨_, _, _, _, _, q⟩ := q
      exact q.elim
  refine wpAny_call (codeAny_mono rc fun r s5 hq => ?_)
  cases r with
  | error e => exact absurd hq (fun ⟨_, _, _, _, _, _, _, _, _, _, _, _, z⟩ => z)
  | ok fl =>
    cases fl with
    | ret u => exact I4.after hq
    | next => exact False.elim hq
    | brk => exact False.elim hq
    | cont => exact False.elim hq
end DS

/-! Lam4: a def that makes lambdas; the loop's answer. -/
namespace DS
open PySem PySem.Spec PyProof.Rows L2
variable [Tbs]
def lamPB (N : List Str) (sc scope : Scope) (p : Str) : Bool :=
  decide (scope.kind = .function) && (!scope.isCoroutine && (!scope.isGenerator && (decide (scope.names.lookup p = some .local) && (!N.contains p && scope.names.all fun y => !decide (y.2 = .cell) && ((!decide (y.2 = .local) || decide (y.1 = p)) && (!decide (y.2 = .free) || (decide (sc.names.lookup y.1 = some .cell) || decide (sc.names.lookup y.1 = some .free))))))))
theorem lamP_by {N : List Str} {sc scope : Scope} {p : Str} (h : lamPB N sc scope p = true) : LamP N sc scope p := by
  unfold lamPB at h
  simp only [Bool.and_eq_true, Bool.or_eq_true, Bool.not_eq_true', decide_eq_true_eq, decide_eq_false_iff_not, List.all_eq_true] at h
  obtain ⟨h1, h2, h3, h4, h5, h6⟩ := h
  refine ⟨h1, h2, h3, fun y k hy hk => ?_, fun y hy => (h6 y hy).1, h4, fun hm => ?_, fun y hy e => ?_⟩
  · have := (h6 (y, k) (PySem.mem_of_lookup hy)).2.1
    rcases this with z | z
    · exact absurd hk z
    · exact z
  · rw [List.contains_iff_mem.mpr hm] at h5
    cases h5
  · rcases (h6 y hy).2.2 with z | z
    · exact absurd e z
    · exact z
section
variable {P : Program} {w : World} {K : PySem.W.Frag} {mg : Str → Option Value} {base : Heap}
/-- fn_ok, the code object told -/
theorem fn_okC {x qual : Str} {st : Stmt} {f : Addr} {fd : FuncData} {N prm : List Str} {k : Nat} {pr : Pr} (n : Nat) (F : Fun K x qual st f fd) (S : FnScope N prm (defScope st)) (len : ∀ os ds post ex, pr os ds post ex → os.length = n ∧ n + ds.length = prm.length)
    (body : ∀ (cdv : Value) (A : Around) (outer : List Env) (s : Shared) (H : Hp) (E : XK) (C : DX) (os : List MO) (ds : List D) (post : Res → List MO → Prop) (ex : Exc → Prop), fd.code = cdv → Room k (A.deeper (envOfC qual (defScope st) s.heap.objs.size f cdv)) →
      TakesD (cxOf (L2.CX P w) P w K mg base N qual (defScope st) f cdv A outer s H E) C ex → C.ps.length = n → pr os ds post ex →
      WSs C (cxOf (L2.CX P w) P w K mg base N qual (defScope st) f cdv A outer s H E) (defBody st) (startD N n ds) os ⟨fun _ μ => retQ n post (.d .non) μ, retQ n post, fun _ _ => False, fun _ _ => False⟩) : FnOk P w K mg base (L2.CX P w) (k + 1) f fd prm (spOf K pr) := by
  obtain ⟨oc, od, kV, doc, pm, an, cdv, ct, osl, rfl, lk, hcd⟩ := F.ex
  refine fn_of lk hcd S (fun vs H Q E h => ?_) fun A outer s H vs Q E hr h => ?_
  · obtain ⟨F0, ps, os, ds, ws, rfl, r, sH, ow, fT0, tb0, h⟩ := h
    obtain ⟨a, b⟩ := len _ _ _ _ h
    rw [List.length_append, List.length_map, r.length, ow.1, a, b]
  · obtain ⟨F0, ps, os, ds, ws, rfl, r, sH, ow, fT0, tb0, h⟩ := h
    obtain ⟨a, b⟩ := len _ _ _ _ h
    refine ⟨_, pss_tm, ?_⟩
    have tk : Takes (cxOf (L2.CX P w) P w K mg base N qual (defScope st) f cdv A outer s H E) (fun cls d _ H => E cls d H) := takes_of rfl rfl rfl rfl
    have B := body cdv A outer s H E (dxOf ps F0 H) os ds _ _ rfl hr (tk.imp fun cls d σ H' ⟨x, hx, sm, tbs, eo⟩ => hx cls d H' (fun b o e t n => sm b o (by unfold dxOf; simp only; rw [if_neg n]; exact noT_nt e t)) tbs eo) (ow.1.trans a) h
    subst a
    have A0 := agree_start (N := N) r sH ow fT0 tb0
    refine tmSs_mono (B F0 F0 H ps _ A0) (fun σ' H' q => ?_) (fun v H' q => ?_) (fun σ' H' q => ?_) (fun σ' H' q => ?_)
    · obtain ⟨F', as, δ, μ, A', q⟩ := q
      exact ret_of (os0 := os) ow A' (v := .non) (sv := .d .non) .non q fun _ _ z => z
    · obtain ⟨F', as, σ', δ, μ, sv, A', rv, q⟩ := q
      exact ret_of (os0 := os) ow A' rv q fun _ _ z => z
    · obtain ⟨_, _, _, _, _, q⟩ := q
      exact q
    · obtain ⟨_, _, _, _, _, q⟩ := q
      exact q
end
/-! ### first_of -/
def foN (t : Int → Bool) : Nat → Int → Int → Int
  | 0, lo, _ => lo
  | n + 1, lo, hi => if lo ≤ hi then (if t ((lo + hi) / 2) = true then foN t n lo ((lo + hi) / 2 - 1) else foN t n ((lo + hi) / 2 + 1) hi) else lo
def firstOf (t : Int → Bool) (lo hi : Int) : Int := foN t (hi - lo + 1).toNat lo hi
theorem foN_stop {t : Int → Bool} {lo hi : Int} (h : ¬ lo ≤ hi) : ∀ n, foN t n lo hi = lo
  | 0 => rfl
  | n + 1 => by
    unfold foN
    rw [if_neg h]
theorem foN_more {t : Int → Bool} : ∀ (n m : Nat) (lo hi : Int), (hi - lo + 1).toNat ≤ n → (hi - lo + 1).toNat ≤ m → foN t n lo hi = foN t m lo hi
  | 0, m, lo, hi, h, _ => (foN_stop (lo := lo) (hi := hi) (by omega) m).symm
  | n + 1, 0, lo, hi, _, h => foN_stop (lo := lo) (hi := hi) (by omega) (n + 1)
  | n + 1, m + 1, lo, hi, h1, h2 => by
    unfold foN
    split
    · split
      · exact foN_more n m _ _ (by omega) (by omega)
      · exact foN_more n m _ _ (by omega) (by omega)
    · rfl
theorem fo_t {t : Int → Bool} {lo hi R : Int} (h : ∀ n, (hi - lo + 1).toNat ≤ n → foN t n lo hi = R) (hle : lo ≤ hi) (ht : t ((lo + hi) / 2) = true) : ∀ n, ((lo + hi) / 2 - 1 - lo + 1).toNat ≤ n → foN t n lo ((lo + hi) / 2 - 1) = R := fun n hn => by
  have := h ((hi - lo + 1).toNat + 1) (by omega)
  rw [← this]
  show _ = if lo ≤ hi then _ else _
  rw [if_pos hle, if_pos ht]
  exact foN_more _ _ _ _ hn (by omega)
theorem fo_f {t : Int → Bool} {lo hi R : Int} (h : ∀ n, (hi - lo + 1).toNat ≤ n → foN t n lo hi = R) (hle : lo ≤ hi) (ht : t ((lo + hi) / 2) = false) : ∀ n, (hi - ((lo + hi) / 2 + 1) + 1).toNat ≤ n → foN t n ((lo + hi) / 2 + 1) hi = R := fun n hn => by
  have := h ((hi - lo + 1).toNat + 1) (by omega)
  rw [← this]
  show _ = if lo ≤ hi then _ else _
  rw [if_pos hle, if_neg (by rw [ht]; exact Bool.false_ne_true)]
  exact foN_more _ _ _ _ hn (by omega)
theorem fo_end {t : Int → Bool} {lo hi R : Int} (h : ∀ n, (hi - lo + 1).toNat ≤ n → foN t n lo hi = R) (hle : ¬ lo ≤ hi) : lo = R := by
  have := h _ (Nat.le_refl _)
  rwa [foN_stop hle] at this
/-- for what has nothing to do with tables -/
instance (priority := low) tbs0 : Tbs := ⟨[]⟩
end DS

/-! Gz1: a for loop in a generator's body. -/
namespace GZ
open PySem PySem.Spec PyProof.Rows
section
variable {M : Model} {A : Around} {R : GenEnd} {Y : Protocol} {n : Nat} {s0 : Shared} {c : Code} {fs : List Frame} {t : Shared} {env : Env}
  {K : Flow → Sem Fin} {J : Value → Sem Fin} {gd : Bool → Bool} {lv : List Value → List Value} {tg iter : Expr} {body : List Stmt} {pos : Pos}
theorem seg_For (hs : ∀ x, foldedSetIterable iter env x = pure x)
    (h : wpAny M (A.over c fs) (eval iter env) (fun x t1 => wpAny M (A.over c fs) (pyIter x) (fun it t2 => ∀ p, Seg M A R Y n s0 (.forLoop tg it body [] env) (M.den (.forLoop tg it body [] env))
      (.ret (fun r => ((match r with | .ok f => (.pure f : Sem Flow) | .error e => .raise e).onRaise (L2.cameBack env)).wrap K J gd lv) none (gd false) (lv []) c p [] :: fs) t2)
      (fun x t2 => Seg M A R Y n s0 c (J x) fs t2) t1) (fun x t1 => Seg M A R Y n s0 c (J x) fs t1) t) :
    Seg M A R Y n s0 c ((exec (.For tg iter body [] pos) env).wrap K J gd lv) fs t := by
  rw [exec_For]
  refine seg_bind_wrap (wpAny_standAt ?_)
  refine seg_bind_wrap (wpAny_mono h (fun x t1 h1 => ?_) fun _ _ z => z)
  refine seg_bind_wrap (wpAny_of_eq (hs x) ?_)
  refine seg_bind_wrap (wpAny_standAt ?_)
  refine seg_bind_wrap (wpAny_holding (wpAny_mono h1 (fun it t2 h2 => ?_) fun _ _ z => z))
  exact seg_call h2
end
section
variable {prog : Program} {w : World} {A : Around} {R : GenEnd} {Y : Protocol} {n : Nat} {s0 : Shared} {fs : List Frame} {t : Shared} {env : Env} {tg : Expr} {it : Value} {body : List Stmt}
theorem seg_forLoop
    (h : wpAny (model prog w) (A.over (.forLoop tg it body [] env) fs) (pyNext it) (fun r t1 => match r with
        | none => Seg (model prog w) A R Y n s0 (.forLoop tg it body [] env) (.pure (.again (.block [] env))) fs t1
        | some v => wpAny (model prog w) (A.over (.forLoop tg it body [] env) fs) (letOwnedTupleGo tg it v) (fun _ t2 => wpAny (model prog w) (A.over (.forLoop tg it body [] env) fs) (assign tg env v) (fun _ t3 =>
            Seg (model prog w) A R Y n s0 (.forLoop tg it body [] env) ((execs body env).wrap (fun f => match f with
              | .next | .cont => .pure (.again (.forLoop tg it body [] env))
              | .brk => .pure (.done .next)
              | .ret v => .pure (.done (.ret v))) (fun e => (do noteFrame e env; theTreesLotGoes e : Sem Unit).wrap (fun _ => .raise e) .raise id id) id id) fs t3)
            (fun x t3 => Seg (model prog w) A R Y n s0 (.forLoop tg it body [] env) ((do noteFrame x env; theTreesLotGoes x : Sem Unit).wrap (fun _ => .raise x) .raise id id) fs t3) t2)
            (fun x t2 => Seg (model prog w) A R Y n s0 (.forLoop tg it body [] env) ((do noteFrame x env; theTreesLotGoes x : Sem Unit).wrap (fun _ => .raise x) .raise id id) fs t2) t1)
      (fun x t1 => Seg (model prog w) A R Y n s0 (.forLoop tg it body [] env) ((do noteFrame x env; theTreesLotGoes x : Sem Unit).wrap (fun _ => .raise x) .raise id id) fs t1) t) :
    Seg (model prog w) A R Y n s0 (.forLoop tg it body [] env) ((model prog w).den (.forLoop tg it body [] env)) fs t := by
  have ex : ∀ x t1, Seg (model prog w) A R Y n s0 (.forLoop tg it body [] env) ((do noteFrame x env; theTreesLotGoes x : Sem Unit).wrap (fun _ => .raise x) .raise id id) fs t1 →
      Seg (model prog w) A R Y n s0 (.forLoop tg it body [] env) ((do noteFrame x env; theTreesLotGoes x : Sem Unit).bind fun _ => .raise x) fs t1 := fun x t1 z => by rw [Sem.bind_eq_wrap]; exact z
  show Seg _ A R Y n s0 _ ((forTurn tg it body [] env).onRaise (fun x => do noteFrame x env; theTreesLotGoes x)) fs t
  unfold forTurn
  rw [Sem.onRaise_eq_wrap]
  refine seg_bind_wrap (wpAny_standAt ?_)
  refine seg_bind_wrap (wpAny_onRaise (wpAny_mono h (fun r t1 h1 => ?_) fun x t1 hx => wpAny_standAt (by exact ex x t1 hx)))
  cases r with
  | none => exact h1
  | some v =>
    refine seg_bind_wrap (wpAny_mono h1 (fun _ t2 h2 => ?_) fun x t2 hx => (by exact ex x t2 hx))
    refine seg_bind_wrap (wpAny_mono h2 (fun _ t3 h3 => ?_) fun x t3 hx => (by exact ex x t3 hx))
    rw [Sem.bind_eq_wrap', Sem.wrap_wrap]
    rw [Sem.wrap_congr (execs body env) _ _ (K' := fun f => match f with
          | .next | .cont => .pure (.again (.forLoop tg it body [] env))
          | .brk => .pure (.done .next)
          | .ret v => .pure (.done (.ret v))) (H' := (fun e => (do noteFrame e env; theTreesLotGoes e : Sem Unit).wrap (fun _ => .raise e) .raise id id))
      (fun f => by cases f <;> rfl)
      (fun e => by first | exact Sem.bind_eq_wrap _ _ | (show (do noteFrame e env; theTreesLotGoes e : Sem Unit).bind (fun _ => .raise e) = _; rw [Sem.bind_eq_wrap]))]
    exact h3
end
end GZ

/-! Gz2: the rule of such a loop. -/
namespace GZ
open PySem PySem.Spec PyProof.Rows L2 GenW
def tGFor (wi : TI) (g : TG) (tb : TGn) : TGn := fun D ys σ H => wi σ H fun J H2 => ∃ W : Nat → Nat → List V → L2.St → Hp → Prop, (∃ m, W 0 m ys σ H2) ∧ ∀ i m zs τ G, W i m zs τ G →
  (J.stop i G ∧ D.nx zs τ G) ∨ (J.go i G ∧ ∃ N : List V → L2.St → Hp → Prop, (∀ zs1 τ1 G1, N zs1 τ1 G1 → ∃ m1, m1 < m ∧ W (i + 1) m1 zs1 τ1 G1) ∧ ∀ x G1, J.yld i G x G1 → g x τ G1 fun τ2 G2 => tb { D with nx := N, ct := N, bk := D.nx } zs τ2 G2)
section
variable {X : Cx}
theorem gs_for {tg iter : Expr} {body : List Stmt} {wi : TI} {g : TG} {tb : TGn} {pos : Pos} (hp : PassesOwn (model X.prog X.w) X.A X.env X.xe) (cal : X.calm = true) (hi : PI X tg iter wi) (hg : PG X tg g) (hb : GSs X body tb)
    (hs : ∀ x, foldedSetIterable iter X.env x = pure x := by intro _; rfl) : GS X (.For tg iter body [] pos) (tGFor wi g tb) := by
  refine ⟨fun A S ip R n ys t0 c fs K J gd lv t σ H D gc hn k hI ht => ?_⟩
  obtain ⟨acc, cc, r, I⟩ := hI
  refine seg_For hs ?_
  rw [gc.over]
  refine wpAny_mono (hi.run _ t σ H _ I ht) (fun v t1 h1 => wpAny_mono h1 (fun itv t2 h2 => ?_) fun x u hx => k.exc n t0 x u hx) fun x u hx => k.exc n t0 x u hx
  obtain ⟨it, fp, tn, Jt, H2, e, I2, T, st2, f2, W, ⟨m0, w0⟩, turn⟩ := h2
  subst e
  intro p
  have fpS : ∀ b ∈ fp, b ≠ S := fun b hb z => by
    obtain ⟨_, _, _, _, _, q⟩ := f2 b hb
    exact q (S, lstObj acc cc) (List.mem_append_right _ List.mem_cons_self) z.symm
  have stat : ∀ {ac : Array Value} {cn : Nat} {G : Hp}, (∀ b ∈ fp, G b = none) → ∀ b ∈ fp, FpOk X ((S, lstObj ac cn) :: ip) G b := fun {ac cn G} hn b hb => by
    obtain ⟨_, q1, q2, q3, q4, q5⟩ := f2 b hb
    refine ⟨hn b hb, q1, q2, q3, q4, fun z hz => ?_⟩
    rcases List.mem_append.mp hz with y | y
    · exact q5 z (List.mem_append_left _ y)
    · rcases List.mem_cons.mp y with y | y
      · rw [y]
        exact fun w => fpS b hb w.symm
      · exact q5 z (List.mem_append_right _ (List.mem_cons_of_mem _ y))
  have gl := fun (kk : Result → Sem PySem.Fin) => gc_loop (k := kk) (c' := .forLoop tg (.ref it) body [] X.env) (l := lv []) (kp := []) (p := p) gc rfl rfl
  have loop : ∀ (m n i : Nat) (zs : List V) (u0 u : Shared) (τ : L2.St) (G : Hp), n + zs.length = sizeLine → W i m zs τ G → tn i u.heap → (∀ b ∈ fp, G b = none) → GI X S ip zs τ G u →
      Seg (model X.prog X.w) A R (GY X S) n u0 (.forLoop tg (.ref it) body [] X.env) ((model X.prog X.w).den (.forLoop tg (.ref it) body [] X.env))
        (.ret (fun r => ((match r with | .ok f => (.pure f : Sem Flow) | .error e => .raise e).onRaise (cameBack X.env)).wrap K J gd lv) none (gd false) (lv []) c p [] :: fs) u := by
    intro m
    induction m using Nat.strongRecOn with
    | ind m ih =>
      intro n i zs u0 u τ G hn w st fr hI
      have ee : ∀ (n : Nat) (u0 : Shared) (x : Value) (u1 : Shared), X.xe x u1 → Seg (model X.prog X.w) A R (GY X S) n u0 (.forLoop tg (.ref it) body [] X.env)
          ((do noteFrame x X.env; theTreesLotGoes x : Sem Unit).wrap (fun _ => .raise x) .raise id id)
          (.ret (fun r => ((match r with | .ok f => (.pure f : Sem Flow) | .error e => .raise e).onRaise (cameBack X.env)).wrap K J gd lv) none (gd false) (lv []) c p [] :: fs) u1 := fun n u0 x u1 hx => by
        refine seg_wrap ?_
        rw [(gl _).over]
        refine wpAny_bind (wpAny_mono (hp x u1 hx) (fun _ u2 hc => wpAny_theTreesLotGoes ?_) fun y u2 hc => ?_)
        · exact seg_leaf (.error x) (seg_cameBack gc k hc)
        · exact seg_leaf (.error y) (seg_cameBack gc k hc)
      refine seg_forLoop ?_
      rw [(gl _).over]
      obtain ⟨ac, cn, ra, I⟩ := hI
      rcases turn i m zs τ G w with ⟨stop, qn⟩ | ⟨go, N, hN, step⟩
      · refine wpAny_mono (T.done X rfl rfl rfl cal i _ u τ G X.xe I (stat fr) st stop) (fun r u4 ⟨hr, I4⟩ => ?_) fun x u1 hx => ee n u0 x u1 hx
        subst hr
        refine seg_again rfl ?_
        exact seg_leaf (.ok .next) (k.ok n zs u0 u4 .next hn ⟨τ, G, ⟨ac, cn, ra, I4⟩, qn⟩)
      · refine wpAny_mono (T.item X rfl rfl rfl cal i _ u τ G X.xe I (stat fr) st go) (fun r u4 ⟨v, hr, h4⟩ => ?_) fun x u1 hx => ee n u0 x u1 hx
        subst hr
        refine wpAny_mono h4 (fun _ u5 ⟨x, G5, I5, r5, y5, st5, fr5⟩ => ?_) fun x u1 hx => ee n u0 x u1 hx
        have I5p := I5.pinned (stat fr5) (T.obj _ _ st5)
        refine wpAny_mono (hg.run _ u5 τ G5 x v _ I5p r5 (step x G5 y5)) (fun _ u6 ⟨τ6, G6, I6, q6⟩ => ?_) fun x u1 hx => ee n u0 x u1 hx
        have GB := gl (fun r => ((match r with | .ok f => (.pure f : Sem Flow) | .error e => .raise e).onRaise (cameBack X.env)).wrap K J gd lv)
        have GC2 : GC X S (ip ++ pinsAt fp u5.heap) A (.forLoop tg (.ref it) body [] X.env) (.ret (fun r => ((match r with | .ok f => (.pure f : Sem Flow) | .error e => .raise e).onRaise (cameBack X.env)).wrap K J gd lv) none (gd false) (lv []) c p [] :: fs) id :=
          ⟨GB.pn, fun z hz => (List.mem_append.mp hz).elim (GB.ip z) (fun y => by
            obtain ⟨b, hb, e⟩ := pins_at y
            rw [e]
            exact fpS b hb), GB.apart, GB.over, GB.split, GB.guard, GB.gd⟩
        have again : ∀ {n1 : Nat} {zs1 : List V} {u01 u7 : Shared} {τ7 : L2.St} {G7 : Hp}, n1 + zs1.length = sizeLine → GI X S (ip ++ pinsAt fp u5.heap) zs1 τ7 G7 u7 → N zs1 τ7 G7 →
            Seg (model X.prog X.w) A R (GY X S) n1 u01 (.forLoop tg (.ref it) body [] X.env) (.pure (.again (.forLoop tg (.ref it) body [] X.env)))
              (.ret (fun r => ((match r with | .ok f => (.pure f : Sem Flow) | .error e => .raise e).onRaise (cameBack X.env)).wrap K J gd lv) none (gd false) (lv []) c p [] :: fs) u7 := fun {n1 zs1 u01 u7 τ7 G7} hn1 hG n7 => by
          obtain ⟨m1, hm, w7⟩ := hN zs1 τ7 G7 n7
          obtain ⟨ac7, cn7, ra7, I7⟩ := hG
          have J7 : Inv X (((S, lstObj ac7 cn7) :: ip) ++ pinsAt fp u5.heap) τ7 G7 u7 := I7
          have pin7 : ∀ b ∈ fp, ∀ o, u5.heap.get? b = some o → u7.heap.get? b = some o ∧ G7 b = none := fun b hb o e =>
            let z := J7.pin (b, o) (List.mem_append_right _ (List.mem_append_right _ (mem_pinsAt hb e)))
            ⟨z.1, z.2.1⟩
          refine seg_again rfl (ih m1 hm n1 (i + 1) zs1 u01 u7 τ7 G7 hn1 w7 (T.keep _ _ _ st5 fun b hb o e => (pin7 b hb o e).1) (fun b hb => ?_) ⟨ac7, cn7, ra7, J7.unpinned⟩)
          obtain ⟨o, e, _⟩ := T.obj _ _ st5 b hb
          exact (pin7 b hb o e).2
        refine hb.run A S (ip ++ pinsAt fp u5.heap) R n zs u0 _ _ _ _ id id u6 τ6 G6 { D with nx := N, ct := N, bk := D.nx } GC2 hn ⟨fun n1 zs1 u01 u7 f hn1 hq => ?_, fun n1 u01 x u7 hx => ee n1 u01 x u7 hx⟩ ⟨ac, cn, ra, I6⟩ q6
        cases f with
        | next => obtain ⟨τ7, G7, I7, n7⟩ := hq; exact again hn1 I7 n7
        | cont => obtain ⟨τ7, G7, I7, n7⟩ := hq; exact again hn1 I7 n7
        | brk =>
          obtain ⟨τ7, G7, ⟨ac7, cn7, ra7, I7⟩, q7⟩ := hq
          have J7 : Inv X (((S, lstObj ac7 cn7) :: ip) ++ pinsAt fp u5.heap) τ7 G7 u7 := I7
          exact seg_leaf (.ok .next) (k.ok n1 zs1 u01 u7 .next hn1 ⟨τ7, G7, ⟨ac7, cn7, ra7, J7.unpinned⟩, q7⟩)
        | ret v =>
          obtain ⟨x7, τ7, G7, ⟨ac7, cn7, ra7, I7⟩, r7, q7⟩ := hq
          have J7 : Inv X (((S, lstObj ac7 cn7) :: ip) ++ pinsAt fp u5.heap) τ7 G7 u7 := I7
          exact seg_leaf (.ok (.ret v)) (k.ok n1 zs1 u01 u7 (.ret v) hn1 ⟨x7, τ7, G7, ⟨ac7, cn7, ra7, J7.unpinned⟩, r7, q7⟩)
  exact loop m0 n 0 ys t0 t2 σ H2 hn w0 st2 (fun b hb => (f2 b hb).1) ⟨acc, cc, r, I2⟩
where
  pins_at {fp : List Addr} {h : Heap} {z : Addr × Obj} (hz : z ∈ pinsAt fp h) : ∃ b ∈ fp, z.1 = b := by
    unfold pinsAt at hz
    obtain ⟨b, hb, e⟩ := List.mem_filterMap.mp hz
    refine ⟨b, hb, ?_⟩
    cases q : h.get? b with
    | none => simp [q] at e
    | some o => simp [q] at e; rw [← e]
end
end GZ

/-! Gz3: generators over data. -/
namespace DS
open PySem PySem.Spec PyProof.Rows L2 GenW GZ
variable [Tbs]
section
variable (X : Cx)
def tmGn (st : Stmt) : TGn := fun D ys σ H => ∀ (A : Around) (S : Addr) (ip : List (Addr × Obj)) (R : GenEnd) (n : Nat) (t0 : Shared) (c : Code) (fs : List Frame) (K : Flow → Sem PySem.Fin) (J : Value → Sem PySem.Fin) (gd : Bool → Bool) (lv : List Value → List Value) (t : Shared),
  GC X S ip A c fs gd → n + ys.length = sizeLine → GK X S ip A R c fs K J D → GI X S ip ys σ H t → Seg (model X.prog X.w) A R (GY X S) n t0 c ((exec st X.env).wrap K J gd lv) fs t
def tmGns (sts : List Stmt) : TGn := fun D ys σ H => ∀ (A : Around) (S : Addr) (ip : List (Addr × Obj)) (R : GenEnd) (n : Nat) (t0 : Shared) (c : Code) (fs : List Frame) (K : Flow → Sem PySem.Fin) (J : Value → Sem PySem.Fin) (gd : Bool → Bool) (lv : List Value → List Value) (t : Shared),
  GC X S ip A c fs gd → n + ys.length = sizeLine → GK X S ip A R c fs K J D → GI X S ip ys σ H t → Seg (model X.prog X.w) A R (GY X S) n t0 c ((execs sts X.env).wrap K J gd lv) fs t
end
section
variable {X : Cx} {st : Stmt} {sts : List Stmt} {ys : List V} {σ : L2.St} {H : Hp} {D : GEnds}
theorem gn_tm : GS X st (tmGn X st) := ⟨fun A S ip R n ys t0 c fs K J gd lv t σ H D g hn k hI h => h A S ip R n t0 c fs K J gd lv t g hn k hI⟩
theorem gns_tm : GSs X sts (tmGns X sts) := ⟨fun A S ip R n ys t0 c fs K J gd lv t σ H D g hn k hI h => h A S ip R n t0 c fs K J gd lv t g hn k hI⟩
theorem tmGn_of {t : TGn} (h : GS X st t) (q : t D ys σ H) : tmGn X st D ys σ H := fun A S ip R n t0 c fs K J gd lv u g hn k hI => h.run A S ip R n ys t0 c fs K J gd lv u σ H D g hn k hI q
theorem tmGns_of {t : TGn} (h : GSs X sts t) (q : t D ys σ H) : tmGns X sts D ys σ H := fun A S ip R n t0 c fs K J gd lv u g hn k hI => h.run A S ip R n ys t0 c fs K J gd lv u σ H D g hn k hI q
end
theorem gsp_mono {X : Cx} {S : Addr} {ip : List (Addr × Obj)} {D D' : GEnds} {ys : List V} {f : Flow} {t : Shared} (h : GSP X S ip D ys f t) (h1 : ∀ ys σ H, D.nx ys σ H → D'.nx ys σ H) (h2 : ∀ ys v H, D.rt ys v H → D'.rt ys v H) (h3 : ∀ ys σ H, D.bk ys σ H → D'.bk ys σ H) (h4 : ∀ ys σ H, D.ct ys σ H → D'.ct ys σ H) : GSP X S ip D' ys f t := by
  cases f with
  | next => obtain ⟨σ, H, I, q⟩ := h; exact ⟨σ, H, I, h1 _ _ _ q⟩
  | brk => obtain ⟨σ, H, I, q⟩ := h; exact ⟨σ, H, I, h3 _ _ _ q⟩
  | cont => obtain ⟨σ, H, I, q⟩ := h; exact ⟨σ, H, I, h4 _ _ _ q⟩
  | ret u => obtain ⟨v, σ, H, I, r, q⟩ := h; exact ⟨v, σ, H, I, r, h2 _ _ _ q⟩
theorem tmGn_mono {X : Cx} {st : Stmt} {ys : List V} {σ : L2.St} {H : Hp} {D D' : GEnds} (h : tmGn X st D ys σ H) (h1 : ∀ ys σ H, D.nx ys σ H → D'.nx ys σ H) (h2 : ∀ ys v H, D.rt ys v H → D'.rt ys v H) (h3 : ∀ ys σ H, D.bk ys σ H → D'.bk ys σ H) (h4 : ∀ ys σ H, D.ct ys σ H → D'.ct ys σ H) : tmGn X st D' ys σ H :=
  fun A S ip R n t0 c fs K J gd lv u g hn k hI => h A S ip R n t0 c fs K J gd lv u g hn ⟨fun n ys t0 t f hn hq => k.ok n ys t0 t f hn (gsp_mono hq h1 h2 h3 h4), k.exc⟩ hI
theorem tmGns_mono {X : Cx} {sts : List Stmt} {ys : List V} {σ : L2.St} {H : Hp} {D D' : GEnds} (h : tmGns X sts D ys σ H) (h1 : ∀ ys σ H, D.nx ys σ H → D'.nx ys σ H) (h2 : ∀ ys v H, D.rt ys v H → D'.rt ys v H) (h3 : ∀ ys σ H, D.bk ys σ H → D'.bk ys σ H) (h4 : ∀ ys σ H, D.ct ys σ H → D'.ct ys σ H) : tmGns X sts D' ys σ H :=
  fun A S ip R n t0 c fs K J gd lv u g hn k hI => h A S ip R n t0 c fs K J gd lv u g hn ⟨fun n ys t0 t f hn hq => k.ok n ys t0 t f hn (gsp_mono hq h1 h2 h3 h4), k.exc⟩ hI
structure GDE where
  nx : List D → De → Mu → Prop
  rt : List D → Mu → Prop
  bk : List D → De → Mu → Prop := fun _ _ _ => False
  ct : List D → De → Mu → Prop := fun _ _ _ => False
def gN (K : PySem.W.Frag) (C : DX) (q : List D → De → Mu → Prop) : List V → L2.St → Hp → Prop := fun ys σ H => ∃ F as δ μ ds, Agree K C F H as σ δ μ ∧ RepA K F ys ds ∧ q ds δ μ
def gR (K : PySem.W.Frag) (C : DX) (q : List D → Mu → Prop) : List V → VK := fun ys v H => ∃ F as σ δ μ ds, Agree K C F H as σ δ μ ∧ RepA K F ys ds ∧ v = .non ∧ q ds μ
def gconc (K : PySem.W.Frag) (C : DX) (E : GDE) : GEnds := { nx := gN K C E.nx, rt := gR K C E.rt, bk := gN K C E.bk, ct := gN K C E.ct }
def GWS (C : DX) (X : Cx) (st : Stmt) (ds : List D) (δ : De) (μ : Mu) (E : GDE) : Prop := ∀ F0 F H as σ ys, Agree X.K (C.w F0) F H as σ δ μ → RepA X.K F ys ds → tmGn X st (gconc X.K (C.w F0) E) ys σ H
def GWSs (C : DX) (X : Cx) (sts : List Stmt) (ds : List D) (δ : De) (μ : Mu) (E : GDE) : Prop := ∀ F0 F H as σ ys, Agree X.K (C.w F0) F H as σ δ μ → RepA X.K F ys ds → tmGns X sts (gconc X.K (C.w F0) E) ys σ H
section
variable {C : DX} {X : Cx} {δ : De} {μ : Mu} {ds : List D} {E : GDE} {st : Stmt} {sts body : List Stmt} {pos yp : Pos} {e tg iter : Expr}
theorem gwss_nil (q : E.nx ds δ μ) : GWSs C X [] ds δ μ E := fun F0 F H as σ ys A r => tmGns_of gss_nil ⟨F, as, δ, μ, ds, A, r, q⟩
theorem gwss_cons (h : GWS C X st ds δ μ { E with nx := fun ds1 δ1 μ1 => GWSs C X sts ds1 δ1 μ1 E }) : GWSs C X (st :: sts) ds δ μ E := fun F0 F H as σ ys A r =>
  tmGns_of (gss_cons gn_tm gns_tm) (tmGn_mono (h F0 F H as σ ys A r) (fun ys1 σ1 H1 ⟨F1, as1, δ1, μ1, ds1, A1, r1, q⟩ => q F0 F1 H1 as1 σ1 ys1 A1 r1) (fun _ _ _ q => q) (fun _ _ _ q => q) (fun _ _ _ q => q))
theorem gwss_one (h : GWS C X st ds δ μ E) : GWSs C X [st] ds δ μ E := gwss_cons (fun F0 F H as σ ys A r => tmGn_mono (h F0 F H as σ ys A r) (fun ys1 σ1 H1 ⟨F1, as1, δ1, μ1, ds1, A1, r1, q⟩ => ⟨F1, as1, δ1, μ1, ds1, A1, r1, gwss_nil q⟩) (fun _ _ _ q => q) (fun _ _ _ q => q) (fun _ _ _ q => q))
/-- a statement that yields nothing -/
theorem gws_ws (h : WS C X st δ μ ⟨fun δ1 μ1 => E.nx ds δ1 μ1, fun sv μ1 => sv = .d .non ∧ E.rt ds μ1, fun δ1 μ1 => E.bk ds δ1 μ1, fun δ1 μ1 => E.ct ds δ1 μ1⟩) : GWS C X st ds δ μ E := fun F0 F H as σ ys A r => by
  have A0 : Agree X.K (C.w F) F H as σ δ μ := Agree.up A A (Same.refl F)
  have N : ∀ {q : List D → De → Mu → Prop} {σ1 : L2.St} {H1 : Hp}, cN X.K (C.w F) (fun δ1 μ1 => q ds δ1 μ1) σ1 H1 → gN X.K (C.w F0) q ys σ1 H1 := fun {q σ1 H1} ⟨F1, as1, δ1, μ1, A1, z⟩ => ⟨F1, as1, δ1, μ1, ds, A.down A1, r.mono A1.f0, z⟩
  refine tmGn_of (gs_ps ps_tm) (tmS_mono (h F F H as σ A0) (fun σ1 H1 z => N z) (fun v H1 z => ?_) (fun σ1 H1 z => N z) (fun σ1 H1 z => N z))
  obtain ⟨F1, as1, σ1, δ1, μ1, sv, A1, rv, e1, q⟩ := z
  subst e1
  exact ⟨F1, as1, σ1, δ1, μ1, ds, A.down A1, r.mono A1.f0, Rep.inv_non (K := X.K) (F := F1) rv, q⟩
theorem gws_yield (hz : ds.length < sizeLine) (h : WE C X e δ μ fun sv μ1 => ∃ d μ2, fz μ1 sv = some (d, μ2) ∧ E.nx (ds ++ [d]) δ μ2) (hco : X.env.scope.isCoroutine = false := by rfl) (hi : interactive X.env = false := by rfl) : GWS C X (.Expr (.Yield (some e) yp) pos) ds δ μ E := fun F0 F H as σ ys A r =>
  tmGn_of (gs_yield pe_tm hco hi) ⟨by rw [r.length]; exact hz, tm_mono (h F0 F H as σ A) fun v H1 ⟨F1, as1, μ1, sv, e1, p1, A1, r1, d, μ2, hf, q⟩ => by
    obtain ⟨F2, e2, A2, rd⟩ := A1.fz r1 hf
    exact ⟨F2, as1, δ, μ2, ds ++ [d], A2, ((r.mono (e1.trans e2)).append (.cons rd .nil)), q⟩⟩
theorem gws_for {g : TG} {js : List Nat} {un : D → Option (List D)} (tgt : Tgt X.K g js un) (hg : PG X tg g) (Iv : Nat → List D → De → Mu → Prop) (hp : PassesOwn (model X.prog X.w) X.A X.env X.xe) (hc : X.calm = true)
    (h : WI C X tg iter δ μ fun ys μ1 => Iv 0 ds δ μ1 ∧ (∀ i y ds1 δ1 μ2, ys[i]? = some y → Iv i ds1 δ1 μ2 → ∃ vs, un y = some vs ∧ GWSs C X body ds1 (setDs δ1 js vs) μ2 { E with nx := Iv (i + 1), ct := Iv (i + 1), bk := E.nx }) ∧ (∀ ds1 δ1 μ2, Iv ys.length ds1 δ1 μ2 → E.nx ds1 δ1 μ2))
    (hs : ∀ x, foldedSetIterable iter X.env x = pure x := by intro _; rfl) : GWS C X (.For tg iter body [] pos) ds δ μ E := fun F0 F H as σ ys0 A r0 => by
  obtain ⟨wi, hi, h⟩ := h
  refine tmGn_of (gs_for hp hc hi hg gns_tm hs) (h F0 F H as σ _ A fun J H1 ⟨F1, as1, μ1, ys, e1, p1, A1, itok, iv0, turn, fin⟩ => ?_)
  refine ⟨fun i m zs σ' H' => m = ys.length - i ∧ i ≤ ys.length ∧ ∃ F2 as2 δ2 μ2 ds2, Same F1 F2 ∧ Agree X.K (C.w F0) F2 H' as2 σ' δ2 μ2 ∧ RepA X.K F2 zs ds2 ∧ Iv i ds2 δ2 μ2, ⟨ys.length, rfl, Nat.zero_le _, F1, as1, δ, μ1, ds, Same.refl _, A1, r0.mono e1, iv0⟩, ?_⟩
  rintro i m zs σ2 H2 ⟨rfl, hi', F2, as2, δ2, μ2, ds2, e2, A2, r2, iv⟩
  obtain ⟨go, stop, yld⟩ := itok F2 H2 e2 A2.fH
  by_cases hlt : i < ys.length
  · obtain ⟨y, hy⟩ := get_lt hlt
    refine .inr ⟨go i hlt, fun zs1 σ' H' => ∃ F3 as3 δ3 μ3 ds3, Same F1 F3 ∧ Agree X.K (C.w F0) F3 H' as3 σ' δ3 μ3 ∧ RepA X.K F3 zs1 ds3 ∧ Iv (i + 1) ds3 δ3 μ3, fun zs1 σ' H' q => ⟨ys.length - (i + 1), by omega, rfl, hlt, q⟩, fun x H3 hx => ?_⟩
    obtain ⟨F3, e3, A3, rx⟩ : ∃ F3, Same F2 F3 ∧ Agree X.K (C.w F0) F3 H3 as2 σ2 δ2 μ2 ∧ Rep X.K F3 x y := by
      rcases yld i y x H3 hy hx with ⟨rfl, r⟩ | ⟨T, ob, ho, hT, rfl, r⟩
      · exact ⟨F2, Same.refl _, A2, r⟩
      · obtain ⟨e, A⟩ := A2.newF ob hT ho
        exact ⟨_, e, A, r⟩
    obtain ⟨vs, hun, b⟩ := turn i y ds2 δ2 μ2 hy iv
    refine tgt.go F3 H3 x y vs _ _ A3.fH rx hun fun ws rws => ?_
    have A4 := Agree.up A1 (Agree.setV (js := js) A3 rws) (e2.trans e3)
    have stepN : ∀ zs1 σ' H', gN X.K (C.w F1) (Iv (i + 1)) zs1 σ' H' → ∃ F3 as3 δ3 μ3 ds3, Same F1 F3 ∧ Agree X.K (C.w F0) F3 H' as3 σ' δ3 μ3 ∧ RepA X.K F3 zs1 ds3 ∧ Iv (i + 1) ds3 δ3 μ3 := fun zs1 σ' H' ⟨F5, as5, δ5, μ5, ds5, A5, r5, q⟩ =>
      ⟨F5, as5, δ5, μ5, ds5, A5.f0, A1.down A5, r5, q⟩
    refine tmGns_mono (b F1 F3 H3 as2 _ zs A4 (r2.mono e3)) stepN (fun zs1 v H' q => ?_) (fun zs1 σ' H' q => ?_) stepN
    · obtain ⟨F5, as5, σ5, δ5, μ5, ds5, A5, r5, z, q⟩ := q
      exact ⟨F5, as5, σ5, δ5, μ5, ds5, A1.down A5, r5, z, q⟩
    · obtain ⟨F5, as5, δ5, μ5, ds5, A5, r5, q⟩ := q
      exact ⟨F5, as5, δ5, μ5, ds5, A1.down A5, r5, q⟩
  · have ei : i = ys.length := by omega
    subst ei
    exact .inl ⟨stop _ (Nat.le_refl _), F2, as2, δ2, μ2, ds2, A2, r2, fin ds2 δ2 μ2 iv⟩
theorem gwss_norm {δ' : De} {μ' : Mu} (h : GWSs C X sts ds δ' μ' E) (e1 : δ = δ') (e2 : μ = μ') : GWSs C X sts ds δ μ E := by
  subst e1 e2
  exact h
end
/-- what a generator def promises: data, then what follows from all that it yields -/
abbrev PrG := List D → (List D → Prop) → Prop
def spG (K : PySem.W.Frag) (pr : PrG) : SpG := fun vs H Q _ => ∃ F ds, RepA K F vs ds ∧ Same F H ∧ (∀ (a : Addr) (o : HO), F a = some o → nt o) ∧ LamX.Tabs Tbs.tabs H ∧
  pr ds fun out => ∀ ys F' H', Same F F' → Same F' H' → (∀ (a : Addr) (o : HO), F' a = some o → F a = some o ∨ Fr H a) → (∀ (a : Addr) (o : HO), H a = some o → nt o → H' a = some o) → (∀ (a : Addr) (o : HO), F' a = some o → nt o) → LamX.Tabs Tbs.tabs H' → RepA K F' ys out → Q ys H'
structure HasGAt (P : Program) (w : World) (K : PySem.W.Frag) (mg : Str → Option Value) (base : Heap) (x : Str) (ps : List Str) (k : Nat) (pr : PrG) (f : Addr) (fd : FuncData) : Prop where
  ok : GFn P w K mg base k f fd ps (spG K pr)
  gl : mg x = some (.ref f)
  kp : PySem.W.keepIn K (.ref f) = true
  bd : Binds K fd ps []
  mono : ∀ ds (p q : List D → Prop), (∀ o, p o → q o) → pr ds p → pr ds q
def HasG (P : Program) (w : World) (K : PySem.W.Frag) (mg : Str → Option Value) (base : Heap) (x : Str) (ps : List Str) (k : Nat) (pr : PrG) : Prop := ∃ f fd, HasGAt P w K mg base x ps k pr f fd
section
variable {P : Program} {w : World} {K : PySem.W.Frag} {mg : Str → Option Value} {base : Heap}
theorem gfn_ok {x qual : Str} {st : Stmt} {f : Addr} {fd : FuncData} {N prm : List Str} {k : Nat} {pr : PrG} (F : Fun K x qual st f fd) (S : GScope N prm (defScope st)) (len : ∀ ds post, pr ds post → ds.length = prm.length)
    (body : ∀ (cdv : Value) (A : Around) (outer : List Env) (s : Shared) (H : Hp) (E : XK) (pn : List (Addr × Obj)) (C : DX) (ds : List D) (post : List D → Prop), Room k (A.deeper (envOfC qual (defScope st) s.heap.objs.size f cdv)) → C.ps.length = 0 → pr ds post →
      GWSs C (gcxOf P w K mg base N qual (defScope st) f cdv A outer s H E pn) (defBody st) [] (startD N 0 ds) [] ⟨fun out _ _ => post out, fun out _ => post out, fun _ _ _ => False, fun _ _ _ => False⟩) : GFn P w K mg base (k + 1) f fd prm (spG K pr) := by
  obtain ⟨oc, od, kV, doc, pm, an, cdv, ct, osl, rfl, lk, hcd⟩ := F.ex
  refine gfn_of lk hcd S (fun vs H Q E h => ?_) fun A outer s H vs Q E pn hr h => ?_
  · obtain ⟨F0, ds, r, sH, fT0, tb0, h⟩ := h
    rw [r.length, len _ _ h]
  · obtain ⟨F0, ds, r, sH, fT0, tb0, h⟩ := h
    refine ⟨_, gns_tm, ?_⟩
    have B := body cdv A outer s H E pn (dxOf [] F0 H) ds _ hr rfl h
    have A0 := agree_start (N := N) (os := []) (ps := []) r sH own0 fT0 tb0
    have R0 : ∀ a, (dxOf [] F0 H).R a = noT (H a) := fun a => by unfold dxOf; simp
    have fin : ∀ {ys : List V} {G : Hp} {F1 : Hp} {as : List Addr} {σ : L2.St} {δ : De} {μ : Mu} {out : List D}, Agree K ((dxOf [] F0 H).w F0) F1 G as σ δ μ → RepA K F1 ys out →
        (∀ ys F' H', Same F0 F' → Same F' H' → (∀ (a : Addr) (o : HO), F' a = some o → F0 a = some o ∨ Fr H a) → (∀ (a : Addr) (o : HO), H a = some o → nt o → H' a = some o) → (∀ (a : Addr) (o : HO), F' a = some o → nt o) → LamX.Tabs Tbs.tabs H' → RepA K F' ys out → Q ys H') → Q ys G := fun {ys G F1 as σ δ μ out} A1 ra q => by
      refine q ys F1 G A1.f0 A1.fH (fun a o e => ?_) (fun a o e n => A1.rH a o (by show (dxOf [] F0 H).R a = _; rw [R0]; exact noT_nt e n)) A1.fT A1.tb ra
      rcases A1.fr a o e with z | z
      · exact .inl z
      · refine .inr fun u hu => ?_
        have z : noT (H a) = none := by rw [← R0]; exact z
        cases u <;> first | exact ⟨_, rfl⟩ | (rw [noT_nt hu (fun q y => by cases y)] at z; cases z)
    refine tmGns_mono (B F0 F0 H [] _ [] A0 .nil) (fun ys σ' H' q => ?_) (fun ys v H' q => ?_) (fun ys σ' H' q => ?_) (fun ys σ' H' q => ?_)
    · obtain ⟨F1, as1, δ1, μ1, out, A1, ra, q⟩ := q
      exact fin A1 ra q
    · obtain ⟨F1, as1, σ1, δ1, μ1, out, A1, ra, z, q⟩ := q
      exact ⟨z, fin A1 ra q⟩
    · obtain ⟨_, _, _, _, _, _, _, q⟩ := q
      exact q
    · obtain ⟨_, _, _, _, _, _, _, q⟩ := q
      exact q
theorem Def.hasG {x qual : Str} {st : Stmt} {ps : List Str} {f : Addr} {fd : FuncData} (d : Def K mg x qual st ps f fd) {k : Nat} {pr : PrG} (h : GFn P w K mg base k f fd ps (spG K pr)) (m : ∀ ds (p q : List D → Prop), (∀ o, p o → q o) → pr ds p → pr ds q) : HasG P w K mg base x ps k pr :=
  ⟨f, fd, h, d.gl, d.fn.kp, d.bd, m⟩
end
section
variable {C : DX} {X : Cx} {δ : De} {μ : Mu} {Q : SV → Mu → Prop} {pos p1 p2 p3 : Pos} {e : Expr} {es : List Expr}
/-- list(x(..)) of a generator def -/
theorem we_listG {pr : PrG} {k : Nat} {ps : List Str} {x : Str} (G : HasG X.prog X.w X.K X.mg X.base x ps k pr) (hr : Room (k + 3) X.A) (hmL : X.mg "list" = none) (h : WA C X (e :: es) δ μ fun xs μ1 => ∃ ds μ2, fzs μ1 xs = some (ds, μ2) ∧ pr ds fun out => Q (.loc μ2.length) (μ2 ++ [.lst out]))
    (hgL : Gl X "list" := by rfl) (hg : Gl X x := by rfl) (hdb : (x == ("__debug__" : Str)) = false := by decide)
    (he : starEach (e :: es) X.env = (false, eval e X.env) :: starEach es X.env := by rfl) (hpl : (backTo p3 (starEach es X.env)).any (·.1) = false := by rfl)
    (h2 : starEach [.Call (.Name x p2) (e :: es) [] p3] X.env = (false, eval (.Call (.Name x p2) (e :: es) [] p3) X.env) :: starEach [] X.env := by rfl) :
    WE C X (.Call (.Name "list" p1) [.Call (.Name x p2) (e :: es) [] p3] [] pos) δ μ Q := fun F0 F H as σ A => by
  obtain ⟨f, fd, g⟩ := G
  refine tm_of (pe_listG (E := fun _ _ _ => False) (pgen_call g.ok (hr.mono (by omega)) hg g.gl g.kp g.bd .nil pa_tm hdb he hpl) (fun _ _ _ _ _ _ _ c => by obtain ⟨_, _, _, _, _, _, _, _, _, _, _, _, z⟩ := c; exact z.elim) (fun _ _ _ z => z.elim) hr hgL hmL (by decide +kernel) (by decide) (by decide) h2) (tmA_mono (h F0 F H as σ A) fun vs H1 ⟨F1, as1, μ1, xs, e1, p1, A1, r1, ds, μ2, hz, q⟩ => ?_)
  obtain ⟨F2, e2, A2, ra⟩ := Agree.fzs A1 r1 hz
  show spG X.K pr (vs ++ []) H1 _ _
  rw [List.append_nil]
  refine ⟨F2, ds, ra, A2.fH, A2.fT, A2.tb, g.mono _ _ _ (fun out q ys F' H' sF sH nw kp fT tb ro l hl => ?_) q⟩
  have A3 := A2.after sF sH nw kp fT tb
  exact (A3.lstP hl ro q).back ((e1.trans e2).trans sF) p1
end
end DS

namespace DM
open PySem L2 DS
abbrev tI (ns : List Int) : D := .tup (ns.map .int)
abbrev lI (ns : List Int) : D := .lst (ns.map .int)
def Pan (ns : List Int) : Prop := 1 ≤ ns.length ∧ ns.length ≤ 12 ∧ ∀ m ∈ ns, 0 ≤ m ∧ m ≤ 1000
def isFromD : D → Int → Int → Bool
  | .int i, l, h => decide (l ≤ i) && decide (i ≤ h)
  | _, _, _ => false
def okD (d : D) : Prop := ∃ t, tyD d = some t
def isMarksD : D → Bool
  | .tup xs => decide (1 ≤ xs.length) && decide (xs.length ≤ 12) && xs.all (fun x => isFromD x 0 1000)
  | _ => false
def tot (ns : List Int) (c : Nat) : Int := (((srt ns).drop c).take (ns.length - 2 * c)).sum
def pr_is_from : Pr := prV (α := D × Int × Int) (fun (v, l, h) => [v, .int l, .int h]) (fun (v, _, _) => okD v) (fun (v, l, h) => .dat (.bl (isFromD v l h)))
def okM (v : D) : Prop := okD v ∧ ∀ xs, v = .tup xs → ∀ x ∈ xs, okD x
def pr_is_marks : Pr := prV (α := D) (fun v => [v]) okM (fun v => .dat (.bl (isMarksD v)))
def pr_need_drop : Pr := prV (α := Int × Int) (fun (j, d) => [.int j, .int d]) (fun (j, d) => 0 ≤ d ∧ 2 * d < j) (fun _ => .dat .non)
def pr_need_marks : Pr := prV (α := List Int × Int) (fun (ns, d) => [tI ns, .int d]) (fun (ns, d) => Pan ns ∧ 0 ≤ d ∧ 2 * d < ns.length) (fun _ => .dat .non)
def pr_total : Pr := prV (α := D × List Int × Int) (fun (x, _, c) => [x, .int c]) (fun (x, ns, c) => (x = lI ns ∨ x = tI ns) ∧ 0 ≤ c ∧ 2 * c < ns.length ∧ ns.length ≤ 100) (fun (_, ns, c) => .dat (.int (tot ns c.toNat)))
def pr_result : Pr := prV (α := List Int × Int) (fun (ns, d) => [tI ns, .int d]) (fun (ns, d) => Pan ns ∧ 0 ≤ d ∧ 2 * d < ns.length) (fun (ns, c) => .dat (.int (tot ns c.toNat)))
def allRes (ns : List Int) : List Int := (List.range ((ns.length + 1) / 2)).map (tot ns)
def pr_all_results : Pr := prV (α := List Int) (fun ns => [tI ns]) Pan (fun ns => .new (lI ns |> fun _ => .lst ((allRes ns).map .int)))
theorem okD_int {i : Int} : okD (.int i) := ⟨_, rfl⟩
theorem okM_tI {ns : List Int} : okM (tI ns) := ⟨⟨_, rfl⟩, fun xs e x hx => by
  cases e
  obtain ⟨i, _, rfl⟩ := List.mem_map.mp hx
  exact okD_int⟩
theorem isMarksD_tI {ns : List Int} (h : Pan ns) : isMarksD (tI ns) = true := by
  obtain ⟨h1, h2, h3⟩ := h
  unfold isMarksD tI
  simp only [List.length_map, Bool.and_eq_true, decide_eq_true_eq, List.all_map, List.all_eq_true]
  exact ⟨⟨h1, h2⟩, fun m hm => by have := h3 m hm; simp [isFromD, this.1, this.2]⟩
theorem isInt_of {v : D} {ty : String} (hty : tyD v = some ty) (h1 : isD ty "int" = true) (h2 : (!isD ty "bool") = true) : ∃ i, v = .int i := by
  cases v <;> simp only [tyD, Option.some.injEq, reduceCtorEq] at hty <;> subst hty
  · exact absurd h1 (by decide +kernel)
  · exact absurd h2 (by decide +kernel)
  · exact ⟨_, rfl⟩
  · exact absurd h1 (by decide +kernel)
  · exact absurd h1 (by decide +kernel)
  · exact absurd h1 (by decide +kernel)
theorem isFromD_split (v : D) (l h : Int) {ty : String} (hty : tyD v = some ty) : isFromD v l h = (isD ty "int" && (!isD ty "bool" && isFromD v l h)) := by
  cases v <;> simp only [tyD, Option.some.injEq, reduceCtorEq] at hty <;> subst hty <;> simp [isFromD, isD]
theorem isMarksD_not {v : D} {ty : String} (hty : tyD v = some ty) (h : ¬ ∃ xs, v = .tup xs) : isMarksD v = false ∧ isD ty "tuple" = false := by
  cases v <;> simp only [tyD, Option.some.injEq, reduceCtorEq] at hty <;> subst hty <;> first | exact ⟨rfl, by simp [isD]⟩ | exact absurd ⟨_, rfl⟩ h
theorem tot_cut (ns : List Int) {c : Int} (h0 : 0 ≤ c) (h1 : 2 * c < ns.length) : (cutA (srt ns) (some c) (some (((ns.map D.int).length : Int) - c))).sum = tot ns c.toNat := by
  have hl := srt_len ns
  rw [List.length_map, cutA_two _ h0 (by omega) (by omega)]
  unfold tot
  rw [show ((ns.length : Int) - c - c).toNat = ns.length - 2 * c.toNat from by omega]
theorem rngD_eq (n : Nat) : rngD 0 n = (List.range n).map fun (i : Nat) => D.int i := by
  simp [rngD]
theorem rngD_nat {m : Int} {n : Nat} (h : m = n) : rngD 0 m.toNat = (List.range n).map fun (i : Nat) => D.int i := by
  rw [h]; exact rngD_eq n
/-! ### which are dropped -/
def cntB (ns : List Int) (p : Int → Bool) : Int := ((ns.filter p).length : Nat)
def nth (ns : List Int) (j : Int) : Int := ns.getD j.toNat 0
def possLow (ns : List Int) (c j : Int) : Bool := decide (cntB ns (fun m => decide (m < nth ns j)) < c)
def sureLow (ns : List Int) (c j : Int) : Bool := decide (cntB ns (fun m => decide (m ≤ nth ns j)) ≤ c)
def possHigh (ns : List Int) (c j : Int) : Bool := decide (cntB ns (fun m => decide (nth ns j < m)) < c)
def sureHigh (ns : List Int) (c j : Int) : Bool := decide (cntB ns (fun m => decide (nth ns j ≤ m)) ≤ c)
abbrev Jd (ns : List Int) (j : Int) : Prop := 0 ≤ j ∧ j < ns.length ∧ ns.length ≤ 100
def prJ (f : List Int → Int → Int → Bool) : Pr := prV (α := List Int × Int × Int) (fun (ns, c, j) => [tI ns, .int c, .int j]) (fun (ns, _, j) => Jd ns j) (fun (ns, c, j) => .dat (.bl (f ns c j)))
def pr_possibly_low : Pr := prJ possLow
def pr_surely_low : Pr := prJ sureLow
def pr_possibly_high : Pr := prJ possHigh
def pr_surely_high : Pr := prJ sureHigh
def sureD (ns : List Int) (c : Int) : List Int := ((List.range ns.length).map fun (j : Nat) => (j : Int)).filter fun j => sureLow ns c j || sureHigh ns c j
def possD (ns : List Int) (c : Int) : List Int := ((List.range ns.length).map fun (j : Nat) => (j : Int)).filter fun j => possLow ns c j || possHigh ns c j
def pr_sure_dropped : Pr := prV (α := List Int × Int) (fun (ns, d) => [tI ns, .int d]) (fun (ns, d) => Pan ns ∧ 0 ≤ d ∧ 2 * d < ns.length) (fun (ns, c) => .new (.lst ((sureD ns c).map .int)))
def pr_possible_dropped : Pr := prV (α := List Int × Int) (fun (ns, d) => [tI ns, .int d]) (fun (ns, d) => Pan ns ∧ 0 ≤ d ∧ 2 * d < ns.length) (fun (ns, c) => .new (.lst ((possD ns c).map .int)))
theorem filt_map {α : Type} (p : α → Bool) (f : α → D) (xs : List α) (q : α → Bool) (h : ∀ x ∈ xs, q x = p x) : (xs.filter q).map f = (xs.filter p).map f := by
  rw [List.filter_congr h]
/-! ### the law's own helpers -/
def pr_law_deck : Pr := prV (α := Int × Int) (fun (c, t) => [.int c, .int t]) (fun _ => True) (fun (c, t) => .new (.lst [.int (if 1000000000000000000 ≤ c then c - 1000000000000000000 else 0), .int (c % 2147483579), .int t]))
abbrev dk (a b t : Int) : MO := .lst [.int a, .int b, .int t]
abbrev Dk (a b t : Int) : Prop := 0 ≤ a ∧ 0 ≤ b ∧ b < 2147483579 ∧ 0 ≤ t ∧ t ≤ 1000000
def pr_law_pick : Pr := prN (α := Int × Int × Int × Int) (fun (a, b, t, _) => [dk a b t]) (fun (_, _, _, l) => [.int l]) (fun (a, b, t, l) => Dk a b t ∧ 0 < l ∧ l < 1073741824) (fun (a, b, t, l) r os' => ∃ r' a' t', r = .dat (.int r') ∧ os' = [dk a' b t'] ∧ 0 ≤ r' ∧ r' < l ∧ 0 ≤ a' ∧ t ≤ t' ∧ t' ≤ t + 1)
def pr_law_one : Pr := prN (α := Int × Int × Int × D × List D) (fun (a, b, t, _, _) => [dk a b t]) (fun (_, _, _, x, _) => [x]) (fun (a, b, t, x, xs) => Dk a b t ∧ (x = .lst xs ∨ x = .tup xs) ∧ 0 < xs.length ∧ xs.length ≤ 100000) (fun (a, b, t, _, xs) r os' => ∃ d a' t', r = .dat d ∧ d ∈ xs ∧ os' = [dk a' b t'] ∧ 0 ≤ a' ∧ t ≤ t' ∧ t' ≤ t + 1)
def pr_law_panel : Pr := prN (α := Int × Int × Int × Int × Int × Int) (fun (a, b, t, _, _, _) => [dk a b t]) (fun (_, _, _, few, many, top) => [.int few, .int many, .int top]) (fun (a, b, t, few, many, top) => Dk a b (t + 100) ∧ 0 ≤ t ∧ 0 ≤ few ∧ few ≤ many ∧ many ≤ 12 ∧ 0 ≤ top ∧ top ≤ 1000000)
  (fun (a, b, t, few, many, top) r os' => ∃ (ns : List Int) (a' t' : Int), r = .dat (tI ns) ∧ few ≤ ns.length ∧ ns.length ≤ many ∧ (∀ m ∈ ns, 0 ≤ m ∧ m ≤ top) ∧ os' = [dk a' b t'] ∧ 0 ≤ a' ∧ t ≤ t' ∧ t' ≤ t + 100)
def sortD : D → Int
  | .bl _ => 1
  | .int _ => 2
  | .str _ => 3
  | .lst _ => 4
  | .tup _ => 5
  | _ => 6
def pr_law_sort : Pr := prV (α := D) (fun d => [d]) okD (fun d => .dat (.int (sortD d)))
theorem rngF_t (p : Int → Bool) (i : Nat) (h : p ((0 : Int) + (i : Nat)) = true) : (((List.range (i + 1)).map fun (j : Nat) => (j : Int)).filter p) = ((List.range i).map fun (j : Nat) => (j : Int)).filter p ++ [(0 : Int) + (i : Nat)] := by
  rw [Int.zero_add] at h ⊢
  rw [List.range_succ, List.map_append, List.filter_append]
  simp [h]
theorem rngF_f (p : Int → Bool) (i : Nat) (h : p ((0 : Int) + (i : Nat)) = false) : (((List.range (i + 1)).map fun (j : Nat) => (j : Int)).filter p) = ((List.range i).map fun (j : Nat) => (j : Int)).filter p := by
  rw [Int.zero_add] at h
  rw [List.range_succ, List.map_append, List.filter_append]
  simp [h]
theorem filt_len {α : Type} (p : α → Bool) (f : α → D) (xs : List α) (n : Nat) (h : xs.length ≤ n) (hn : n < 16777216) : ((xs.filter p).map f).length < sizeLine := by
  rw [sizeLine_eq, List.length_map]
  have := List.length_filter_le p xs
  omega
theorem sortD_eq (v : D) {ty : String} (hty : tyD v = some ty) : sortD v = if isD ty "bool" = true then 1 else if isD ty "int" = true then 2 else if isD ty "str" = true then 3 else if isD ty "list" = true then 4 else if isD ty "tuple" = true then 5 else 6 := by
  cases v <;> simp only [tyD, Option.some.injEq, reduceCtorEq] at hty <;> subst hty <;> simp [sortD, isD]
/-! ### comparing -/
theorem eqD_int (i j : Int) : eqD (.int i) (.int j) = decide (i = j) := by
  unfold eqD
  simp only [toPy, PyData.eqv]
  rfl
theorem enumD_zip : ∀ (k : Nat) (xs : List D), enumD k xs = (xs.zipIdx k).map fun p => D.tup [.int ((p.2 : Nat) : Int), p.1]
  | _, [] => rfl
  | k, x :: xs => by
    unfold enumD
    rw [enumD_zip (k + 1) xs, List.zipIdx_cons, List.map_cons]
theorem zip_at {xs : List D} {p : D × Nat} (h : p ∈ xs.zipIdx) : L2.atI xs ((p.2 : Nat) : Int) = some p.1 ∧ p.1 ∈ xs := by
  obtain ⟨x, i⟩ := p
  have hx := List.mk_mem_zipIdx_iff_getElem?.mp h
  exact ⟨atI_nat hx, List.mem_of_getElem? hx⟩
theorem filt_none {α : Type} (xs : List α) : xs.filter (fun _ => false) = [] := List.filter_eq_nil_iff.mpr fun _ _ h => by cases h
theorem eqD_nil : eqD (.lst []) (.lst []) = true := by
  simp [eqD, toPy, toPys, PyData.eqv, PyData.eqvAll]
theorem eqD_flat {n : Nat} {d : D} (h : Fit n d) (hl : ∀ xs, d ≠ .lst xs) (ht : ∀ xs, d ≠ .tup xs) : eqD d d = true := by
  cases d with
  | non => simp [eqD, toPy, PyData.eqv]
  | bl b => simp [eqD, toPy, PyData.eqv]
  | int i => rw [eqD_int]; simp
  | str x => simp [eqD, toPy, PyData.eqv]
  | tup xs => exact absurd rfl (ht xs)
  | lst xs => exact absurd rfl (hl xs)
  | raw v => cases n <;> (unfold Fit at h; exact h.elim)
theorem fit_flat {n m : Nat} {d : D} (h : Fit n d) (hl : ∀ xs, d ≠ .lst xs) (ht : ∀ xs, d ≠ .tup xs) : Fit m d := by
  cases d with
  | non => exact fit_non
  | bl b => exact fit_bl
  | int i => exact fit_int
  | str x => exact fit_str (by cases n <;> (unfold Fit at h; exact h))
  | tup xs => exact absurd rfl (ht xs)
  | lst xs => exact absurd rfl (hl xs)
  | raw v => cases n <;> (unfold Fit at h; exact h.elim)
theorem okD_fit {n : Nat} {d : D} (h : Fit n d) : okD d := by
  cases d with
  | raw v => cases n <;> (unfold Fit at h; exact h.elim)
  | _ => exact ⟨_, rfl⟩
theorem fit_mem {n : Nat} {xs : List D} (h : ∀ x ∈ xs, Fit n x) {f : D × Nat → D} : ∀ x ∈ xs.map id, Fit n x := by simpa using h
def Wide : Nat → D → Prop
  | 0, _ => True
  | n + 1, .lst xs => xs.length ≤ 100000 ∧ ∀ x ∈ xs, Wide n x
  | n + 1, .tup xs => xs.length ≤ 100000 ∧ ∀ x ∈ xs, Wide n x
  | _ + 1, _ => True
def pr_law_same (n : Nat) : Pr := prV (α := D) (fun d => [d, d]) (fun d => Fit n d ∧ Wide n d) (fun _ => .dat (.bl true))
theorem same_ex {d : D} (c : List D → D) (h : ¬ ∀ xs, d ≠ c xs) : ∃ xs, d = c xs := by
  apply Classical.byContradiction
  intro k
  exact h fun xs e => k ⟨xs, e⟩
theorem cat_sz (ns : List Int) {a b c d : D} : ([a, b, c, d] : List D).length + (cutA (ns.map D.int) none (some 1)).length ≤ sizeLine := by
  rw [cutA_to _ (by decide), sizeLine_eq]
  simp
  omega
theorem cat_sz2 (ns : List Int) {a b c d : D} : ([a, b, c, d] ++ cutA (ns.map D.int) none (some 1) : List D).length ≤ 100000 := by
  rw [cutA_to _ (by decide)]
  simp
  omega
theorem mem_app {ns : List Int} {top r : Int} (h : ∀ m ∈ ns, 0 ≤ m ∧ m ≤ top) (hr : 0 ≤ r ∧ r ≤ top) : ∀ m ∈ ns ++ [r], 0 ≤ m ∧ m ≤ top := fun m hm => by
  rcases List.mem_append.mp hm with q | q
  · exact h m q
  · rw [List.mem_singleton.mp q]; exact hr
theorem pan_mem {ns : List Int} {top r1 r2 : Int} {d : D} (h : ∀ m ∈ ns, 0 ≤ m ∧ m ≤ top) (h1 : 0 ≤ r1 ∧ r1 ≤ top) (h2 : 0 ≤ r2 ∧ r2 ≤ top) (h3 : 0 ≤ top) (hd : d ∈ [D.int r1, D.int r2, D.int 0, D.int top] ++ cutA (ns.map D.int) none (some 1)) : ∃ r, d = .int r ∧ 0 ≤ r ∧ r ≤ top := by
  rcases List.mem_append.mp hd with q | q
  · simp only [List.mem_cons, List.not_mem_nil, or_false] at q
    rcases q with rfl | rfl | rfl | rfl
    · exact ⟨_, rfl, h1⟩
    · exact ⟨_, rfl, h2⟩
    · exact ⟨_, rfl, by omega, h3⟩
    · exact ⟨_, rfl, h3, by omega⟩
  · rw [cutA_map, cutA_to _ (by decide)] at q
    obtain ⟨m, hm, rfl⟩ := List.mem_map.mp q
    exact ⟨m, rfl, h m (List.mem_of_mem_take hm)⟩
def pr_law : Pr := prV (α := List Int) (fun ns => [lI ns]) (fun ns => ns.length ≤ 63) (fun _ => .dat (.bl true))
theorem cell_int {sc : List Int} {i : Nat} {y : D} {n : Int} (h : (cutA ([D.int 0] ++ sc.map D.int) none (some n))[i]? = some y) : ∃ c, y = .int c := by
  have e : [D.int 0] ++ sc.map D.int = ([0] ++ sc).map D.int := by simp
  rw [e, cutA_map] at h
  obtain ⟨c, _, rfl⟩ := List.mem_map.mp (List.mem_of_getElem? h)
  exact ⟨c, rfl⟩
theorem deck_a (c : Int) : 0 ≤ (if 1000000000000000000 ≤ c then c - 1000000000000000000 else 0) := by split <;> omega
theorem int_mem {ns : List Int} {d : D} (h : d ∈ ns.map D.int) : ∃ r, d = .int r ∧ r ∈ ns := by
  obtain ⟨r, hr, rfl⟩ := List.mem_map.mp h
  exact ⟨r, rfl, hr⟩
theorem toPys_ints : ∀ ns : List Int, toPys (ns.map D.int) = ns.map PyData.int
  | [] => by simp [toPys]
  | n :: ns => by simp [toPys, toPy, toPys_ints ns]
theorem eqvAll_ints : ∀ ns ms : List Int, PyData.eqvAll (ns.map PyData.int) (ms.map PyData.int) = decide (ns = ms)
  | [], [] => by simp [PyData.eqvAll]
  | [], _ :: _ => by simp [PyData.eqvAll]
  | _ :: _, [] => by simp [PyData.eqvAll]
  | n :: ns, m :: ms => by
    have e : PyData.eqv (.int n) (.int m) = decide (n = m) := eqD_int n m
    rw [List.map_cons, List.map_cons, PyData.eqvAll, eqvAll_ints ns ms, e]
    simp
theorem eqD_ints (ns ms : List Int) : eqD (lI ns) (lI ms) = decide (ns = ms) := by
  unfold eqD lI
  rw [toPy, toPy, toPys_ints, toPys_ints, PyData.eqv]
  exact eqvAll_ints ns ms
theorem eqD_tints (ns ms : List Int) : eqD (tI ns) (tI ms) = decide (ns = ms) := by
  unfold eqD tI
  rw [toPy, toPy, toPys_ints, toPys_ints, PyData.eqv]
  exact eqvAll_ints ns ms
theorem allRes_len (ns : List Int) : (allRes ns).length = (ns.length + 1) / 2 := by simp [allRes]
theorem allRes_at (ns : List Int) {i : Nat} (h : i < (ns.length + 1) / 2) : (allRes ns).getD i 0 = tot ns i := by
  simp [allRes, List.getD, h]
theorem all_marks (xs : List D) (h1 : 1 ≤ xs.length) (h2 : xs.length ≤ 12) : (xs.map fun x => isFromD x 0 1000).all id = isMarksD (.tup xs) := by
  simp [isMarksD, h1, h2, List.all_map, Function.comp_def]

/-! ### counting -/
theorem sum_perm {xs ys : List Int} (h : xs.Perm ys) : xs.sum = ys.sum := by
  induction h with
  | nil => rfl
  | cons x _ ih => simp [ih]
  | swap x y l => simp only [List.sum_cons]; omega
  | trans _ _ h1 h2 => exact h1.trans h2
theorem tot_zero (ns : List Int) : tot ns 0 = ns.sum := by
  unfold tot
  rw [List.drop_zero, Nat.mul_zero, Nat.sub_zero, ← srt_len ns, List.take_length]
  exact sum_perm (srt_perm ns)
theorem filter_len_perm {xs ys : List Int} (h : xs.Perm ys) (p : Int → Bool) : (xs.filter p).length = (ys.filter p).length := (h.filter p).length_eq
theorem cntB_perm {xs ys : List Int} (h : xs.Perm ys) (p : Int → Bool) : cntB xs p = cntB ys p := by
  unfold cntB
  rw [filter_len_perm h]
/-- positions whose value has P, counted -/
theorem idx_filter (ns : List Int) (P : Int → Bool) : (((List.range ns.length).map fun (j : Nat) => (j : Int)).filter fun j => P (nth ns j)).length = (ns.filter P).length := by
  have e : ns = (List.range ns.length).map fun (j : Nat) => nth ns (j : Int) := by
    apply List.ext_getElem
    · simp
    · intro i h1 h2
      simp [nth, List.getD, h1]
  have q : (ns.filter P).length = (((List.range ns.length).map fun (j : Nat) => nth ns (j : Int)).filter P).length := by rw [← e]
  rw [q, List.filter_map, List.filter_map, List.length_map, List.length_map]
  rfl
theorem filter_nil_of {xs : List Int} {p : Int → Bool} (h : ∀ v ∈ xs, p v = false) : xs.filter p = [] := List.filter_eq_nil_iff.mpr fun v hv => by rw [h v hv]; decide
theorem filter_all_of {xs : List Int} {p : Int → Bool} (h : ∀ v ∈ xs, p v = true) : xs.filter p = xs := List.filter_eq_self.mpr h
theorem filter_split (s : List Int) (k : Nat) (p : Int → Bool) : (s.filter p).length = ((s.take k).filter p).length + ((s.drop k).filter p).length := by
  rw [← List.length_append, ← List.filter_append, List.take_append_drop]
theorem mem_take_le {s : List Int} (hs : s.Pairwise (· ≤ ·)) {k i : Nat} (hi : i < s.length) (hk : k ≤ i + 1) {v : Int} (hv : v ∈ s.take k) : v ≤ s[i] := by
  obtain ⟨j, hj, rfl⟩ := List.getElem_of_mem hv
  rw [List.getElem_take]
  have hj2 : j < k := by rw [List.length_take] at hj; omega
  rcases Nat.lt_or_ge j i with q | q
  · exact List.pairwise_iff_getElem.mp hs j i _ hi q
  · have : j = i := by omega
    subst this
    exact Int.le_refl _
theorem mem_drop_ge {s : List Int} (hs : s.Pairwise (· ≤ ·)) {k i : Nat} (hi : i < s.length) (hk : i ≤ k) {v : Int} (hv : v ∈ s.drop k) : s[i] ≤ v := by
  obtain ⟨j, hj, rfl⟩ := List.getElem_of_mem hv
  rw [List.length_drop] at hj
  rw [List.getElem_drop]
  rcases Nat.lt_or_ge i (k + j) with q | q
  · exact List.pairwise_iff_getElem.mp hs i (k + j) hi (by omega) q
  · have : k + j = i := by omega
    have e : s[k + j] = s[i] := by simp only [this]
    rw [e]
    exact Int.le_refl _
section
variable {s : List Int} (hs : s.Pairwise (· ≤ ·))
include hs
theorem cnt_lt_le {i : Nat} (hi : i < s.length) : (s.filter fun m => decide (m < s[i])).length ≤ i := by
  rw [filter_split s i, filter_nil_of (xs := s.drop i) fun v hv => decide_eq_false (by have := mem_drop_ge hs hi (Nat.le_refl i) hv; omega)]
  have := List.length_filter_le (fun m => decide (m < s[i])) (s.take i)
  rw [List.length_take] at this
  simp only [List.length_nil]
  omega
theorem cnt_le_ge {i : Nat} (hi : i < s.length) : i + 1 ≤ (s.filter fun m => decide (m ≤ s[i])).length := by
  rw [filter_split s (i + 1), filter_all_of (xs := s.take (i + 1)) fun v hv => decide_eq_true (mem_take_le hs hi (Nat.le_refl _) hv), List.length_take]
  omega
theorem cnt_gt_le {i : Nat} (hi : i < s.length) : (s.filter fun m => decide (s[i] < m)).length ≤ s.length - 1 - i := by
  rw [filter_split s (i + 1), filter_nil_of (xs := s.take (i + 1)) fun v hv => decide_eq_false (by have := mem_take_le hs hi (Nat.le_refl _) hv; omega)]
  have := List.length_filter_le (fun m => decide (s[i] < m)) (s.drop (i + 1))
  rw [List.length_drop] at this
  simp only [List.length_nil]
  omega
theorem cnt_ge_ge {i : Nat} (hi : i < s.length) : s.length - i ≤ (s.filter fun m => decide (s[i] ≤ m)).length := by
  rw [filter_split s i, filter_all_of (xs := s.drop i) fun v hv => decide_eq_true (mem_drop_ge hs hi (Nat.le_refl _) hv), List.length_drop]
  omega
end
def pl (ns : List Int) (c v : Int) : Bool := decide (cntB ns (fun m => decide (m < v)) < c)
def sl (ns : List Int) (c v : Int) : Bool := decide (cntB ns (fun m => decide (m ≤ v)) ≤ c)
def ph (ns : List Int) (c v : Int) : Bool := decide (cntB ns (fun m => decide (v < m)) < c)
def sh (ns : List Int) (c v : Int) : Bool := decide (cntB ns (fun m => decide (v ≤ m)) ≤ c)
theorem mem_take_at {s : List Int} {k : Nat} {v : Int} (hv : v ∈ s.take k) : ∃ i, ∃ h : i < s.length, i < k ∧ s[i] = v := by
  obtain ⟨j, hj, rfl⟩ := List.getElem_of_mem hv
  rw [List.length_take] at hj
  exact ⟨j, by omega, by omega, by rw [List.getElem_take]⟩
theorem mem_drop_at {s : List Int} {k : Nat} {v : Int} (hv : v ∈ s.drop k) : ∃ i, ∃ h : i < s.length, k ≤ i ∧ s[i] = v := by
  obtain ⟨j, hj, rfl⟩ := List.getElem_of_mem hv
  rw [List.length_drop] at hj
  exact ⟨k + j, by omega, by omega, by rw [List.getElem_drop]⟩
theorem poss_many (ns : List Int) {c : Nat} (hc : 2 * c ≤ ns.length) : 2 * c ≤ (possD ns c).length := by
  have e : (possD ns (c : Int)).length = (ns.filter fun v => pl ns c v || ph ns c v).length := idx_filter ns fun v => pl ns c v || ph ns c v
  rw [e, filter_len_perm (srt_perm ns).symm, filter_split _ c]
  have hl := srt_len ns
  have ss := srt_sorted ns
  rw [filter_all_of (xs := (srt ns).take c), List.length_take, filter_split _ (ns.length - 2 * c), List.drop_drop, filter_all_of (xs := (srt ns).drop _), List.length_drop]
  · omega
  · intro v hv
    obtain ⟨i, hi, h1, rfl⟩ := mem_drop_at hv
    have q := cnt_gt_le ss hi
    have : ph ns c (srt ns)[i] = true := decide_eq_true (by rw [cntB_perm (srt_perm ns).symm]; unfold cntB; omega)
    rw [this, Bool.or_true]
  · intro v hv
    obtain ⟨i, hi, h1, rfl⟩ := mem_take_at hv
    have q := cnt_lt_le ss hi
    have : pl ns c (srt ns)[i] = true := decide_eq_true (by rw [cntB_perm (srt_perm ns).symm]; unfold cntB; omega)
    rw [this, Bool.true_or]
theorem sl_few (ns : List Int) (c : Nat) : (ns.filter fun v => sl ns c v).length ≤ c := by
  rw [filter_len_perm (srt_perm ns).symm, filter_split _ c]
  have hl := srt_len ns
  have ss := srt_sorted ns
  rw [filter_nil_of (xs := (srt ns).drop c)]
  · have := List.length_filter_le (fun v => sl ns c v) ((srt ns).take c)
    rw [List.length_take] at this
    simp only [List.length_nil]
    omega
  · intro v hv
    obtain ⟨i, hi, h1, rfl⟩ := mem_drop_at hv
    have q := cnt_le_ge ss hi
    exact decide_eq_false (by rw [cntB_perm (srt_perm ns).symm]; unfold cntB; omega)
theorem sh_few (ns : List Int) (c : Nat) : (ns.filter fun v => sh ns c v).length ≤ c := by
  rw [filter_len_perm (srt_perm ns).symm, filter_split _ (ns.length - c)]
  have hl := srt_len ns
  have ss := srt_sorted ns
  rw [filter_nil_of (xs := (srt ns).take _)]
  · have := List.length_filter_le (fun v => sh ns c v) ((srt ns).drop (ns.length - c))
    rw [List.length_drop] at this
    simp only [List.length_nil]
    omega
  · intro v hv
    obtain ⟨i, hi, h1, rfl⟩ := mem_take_at hv
    have q := cnt_ge_ge ss hi
    exact decide_eq_false (by rw [cntB_perm (srt_perm ns).symm]; unfold cntB; omega)
theorem filter_or_len (p q : Int → Bool) : ∀ xs : List Int, (xs.filter fun v => p v || q v).length ≤ (xs.filter p).length + (xs.filter q).length
  | [] => Nat.le_refl _
  | x :: xs => by
    have := filter_or_len p q xs
    simp only [List.filter_cons]
    cases hp : p x <;> cases hq : q x <;> simp <;> omega
theorem sure_few (ns : List Int) (c : Nat) : (sureD ns c).length ≤ 2 * c := by
  have e : (sureD ns (c : Int)).length = (ns.filter fun v => sl ns c v || sh ns c v).length := idx_filter ns fun v => sl ns c v || sh ns c v
  rw [e]
  have h1 := filter_or_len (fun v => sl ns c v) (fun v => sh ns c v) ns
  have h2 := sl_few ns c
  have h3 := sh_few ns c
  omega
theorem flen_le {p q : Int → Bool} (h : ∀ m, p m = true → q m = true) : ∀ xs : List Int, (xs.filter p).length ≤ (xs.filter q).length
  | [] => Nat.le_refl _
  | x :: xs => by
    have ih := flen_le h xs
    rw [List.filter_cons, List.filter_cons]
    cases hp : p x with
    | true =>
      rw [h x hp, if_pos rfl, if_pos rfl, List.length_cons, List.length_cons]
      omega
    | false =>
      rw [if_neg (by decide)]
      cases hq : q x with
      | true =>
        rw [if_pos rfl, List.length_cons]
        omega
      | false =>
        rw [if_neg (by decide)]
        exact ih
theorem flen_lt {p q : Int → Bool} (h : ∀ m, p m = true → q m = true) {v : Int} (h1 : p v = false) (h2 : q v = true) : ∀ xs : List Int, v ∈ xs → (xs.filter p).length < (xs.filter q).length
  | [], hv => by cases hv
  | x :: xs, hv => by
    rw [List.filter_cons, List.filter_cons]
    rcases List.mem_cons.mp hv with rfl | hv
    · have := flen_le h xs
      rw [h1, h2, if_pos rfl, if_neg (by decide), List.length_cons]
      omega
    · have ih := flen_lt h h1 h2 xs hv
      cases hp : p x with
      | true =>
        rw [h x hp, if_pos rfl, if_pos rfl, List.length_cons, List.length_cons]
        omega
      | false =>
        rw [if_neg (by decide)]
        cases hq : q x with
        | true =>
          rw [if_pos rfl, List.length_cons]
          omega
        | false =>
          rw [if_neg (by decide)]
          exact ih
theorem cnt_more {ns : List Int} {p q : Int → Bool} (h : ∀ m, p m = true → q m = true) {v : Int} (hv : v ∈ ns) (h1 : p v = false) (h2 : q v = true) : cntB ns p < cntB ns q := by
  unfold cntB
  have := flen_lt h h1 h2 ns hv
  omega
theorem sure_poss (ns : List Int) (c : Int) : ∀ j ∈ sureD ns c, j ∈ possD ns c := fun j hj => by
  unfold sureD at hj
  unfold possD
  rw [List.mem_filter] at hj ⊢
  refine ⟨hj.1, ?_⟩
  obtain ⟨k, hk, rfl⟩ := List.mem_map.mp hj.1
  have hk : k < ns.length := List.mem_range.mp hk
  have hm : nth ns (k : Int) ∈ ns := by
    unfold nth
    rw [List.getD_eq_getElem?_getD]
    simp [hk]
  rcases Bool.or_eq_true_iff.mp hj.2 with q | q
  · have q := of_decide_eq_true q
    have := cnt_more (ns := ns) (p := fun m => decide (m < nth ns k)) (q := fun m => decide (m ≤ nth ns k)) (fun m h => decide_eq_true (Int.le_of_lt (of_decide_eq_true h))) hm (decide_eq_false (Int.lt_irrefl _)) (decide_eq_true (Int.le_refl _))
    have : possLow ns c k = true := decide_eq_true (by omega)
    rw [this, Bool.true_or]
  · have q := of_decide_eq_true q
    have := cnt_more (ns := ns) (p := fun m => decide (nth ns k < m)) (q := fun m => decide (nth ns k ≤ m)) (fun m h => decide_eq_true (Int.le_of_lt (of_decide_eq_true h))) hm (decide_eq_false (Int.lt_irrefl _)) (decide_eq_true (Int.le_refl _))
    have : possHigh ns c k = true := decide_eq_true (by omega)
    rw [this, Bool.or_true]
theorem sure_mono (ns : List Int) {c d : Int} (h : c ≤ d) : ∀ j ∈ sureD ns c, j ∈ sureD ns d := fun j hj => by
  unfold sureD at hj ⊢
  rw [List.mem_filter] at hj ⊢
  refine ⟨hj.1, ?_⟩
  rcases Bool.or_eq_true_iff.mp hj.2 with q | q
  · have q := of_decide_eq_true q
    have : sureLow ns d j = true := decide_eq_true (by omega)
    rw [this, Bool.true_or]
  · have q := of_decide_eq_true q
    have : sureHigh ns d j = true := decide_eq_true (by omega)
    rw [this, Bool.or_true]
/-! ### the marks that are left -/
def mid (ns : List Int) (c : Nat) : List Int := ((srt ns).drop c).take (ns.length - 2 * c)
theorem mid_len (ns : List Int) {c : Nat} (h : 2 * c ≤ ns.length) : (mid ns c).length = ns.length - 2 * c := by
  unfold mid
  rw [List.length_take, List.length_drop, srt_len]
  omega
theorem mid_at (ns : List Int) {c i : Nat} (h : i < (mid ns c).length) : ∃ h2 : c + i < (srt ns).length, (mid ns c)[i] = (srt ns)[c + i] := by
  have h' := h
  unfold mid at h'
  rw [List.length_take, List.length_drop] at h'
  refine ⟨by omega, ?_⟩
  simp only [mid, List.getElem_take, List.getElem_drop]
theorem mid_sorted (ns : List Int) (c : Nat) : (mid ns c).Pairwise (· ≤ ·) := ((srt_sorted ns).drop).take
theorem sum_bounds : ∀ (xs : List Int) (a b : Int), (∀ v ∈ xs, a ≤ v ∧ v ≤ b) → (xs.length : Int) * a ≤ xs.sum ∧ xs.sum ≤ (xs.length : Int) * b
  | [], a, b, _ => by simp
  | x :: xs, a, b, h => by
    obtain ⟨h1, h2⟩ := sum_bounds xs a b fun v hv => h v (List.mem_cons_of_mem _ hv)
    obtain ⟨h3, h4⟩ := h x (List.mem_cons_self ..)
    rw [List.length_cons, List.sum_cons]
    constructor
    · rw [show ((xs.length + 1 : Nat) : Int) * a = (xs.length : Int) * a + a from by rw [Int.natCast_add]; simp [Int.add_mul]]
      omega
    · rw [show ((xs.length + 1 : Nat) : Int) * b = (xs.length : Int) * b + b from by rw [Int.natCast_add]; simp [Int.add_mul]]
      omega
theorem sorted_bounds {s : List Int} (hs : s.Pairwise (· ≤ ·)) (h : 0 < s.length) : (s.length : Int) * s.getD 0 0 ≤ s.sum ∧ s.sum ≤ (s.length : Int) * s.getD (s.length - 1) 0 := by
  refine sum_bounds s _ _ fun v hv => ?_
  obtain ⟨i, hi, rfl⟩ := List.getElem_of_mem hv
  simp only [List.getD_eq_getElem?_getD, List.getElem?_eq_getElem h, List.getElem?_eq_getElem (show s.length - 1 < s.length by omega), Option.getD_some]
  constructor
  · rcases Nat.lt_or_ge 0 i with q | q
    · exact List.pairwise_iff_getElem.mp hs 0 i h hi q
    · have : i = 0 := by omega
      subst this
      exact Int.le_refl _
  · rcases Nat.lt_or_ge i (s.length - 1) with q | q
    · exact List.pairwise_iff_getElem.mp hs i _ hi (by omega) q
    · have : i = s.length - 1 := by omega
      subst this
      exact Int.le_refl _
theorem sum_ends {xs : List Int} (h : 2 ≤ xs.length) : xs.sum = xs.getD 0 0 + ((xs.drop 1).take (xs.length - 2)).sum + xs.getD (xs.length - 1) 0 := by
  match xs, h with
  | x :: ys, h =>
    have hy : 0 < ys.length := by simp at h; omega
    have e : ys = ys.take (ys.length - 1) ++ [ys.getD (ys.length - 1) 0] := by
      apply List.ext_getElem
      · simp; omega
      · intro i h1 h2
        rw [List.getElem_append]
        split
        · rw [List.getElem_take]
        · rename_i h3
          have : i = ys.length - 1 := by simp at h3; omega
          subst this
          simp [List.getD, h1]
    have e2 : ys.sum = (ys.take (ys.length - 1)).sum + ys.getD (ys.length - 1) 0 := by
      have := congrArg List.sum e
      rw [this, List.sum_append]
      simp
    have e3 : (x :: ys).getD (ys.length + 1 - 1) 0 = ys.getD (ys.length - 1) 0 := by
      have : ys.length + 1 - 1 = (ys.length - 1) + 1 := by omega
      rw [this]
      simp [List.getD]
    rw [List.sum_cons, e2, List.length_cons, e3]
    simp only [List.drop_succ_cons, List.drop_zero]
    rw [show ys.length + 1 - 2 = ys.length - 1 from by omega]
    simp [List.getD]
    omega
theorem mid_succ (ns : List Int) (c : Nat) (h : 2 * (c + 1) ≤ ns.length) : mid ns (c + 1) = ((mid ns c).drop 1).take ((mid ns c).length - 2) := by
  rw [mid_len ns (by omega)]
  unfold mid
  rw [List.drop_take, List.drop_drop, List.take_take]
  congr 1
  omega
theorem tot_mid (ns : List Int) (c : Nat) : tot ns c = (mid ns c).sum := rfl
theorem tot_step (ns : List Int) (c : Nat) (h : 2 * (c + 1) < ns.length) : tot ns c - tot ns (c + 1) = (mid ns c).getD 0 0 + (mid ns c).getD ((mid ns c).length - 1) 0 := by
  have hl := mid_len ns (c := c) (by omega)
  rw [tot_mid, tot_mid, mid_succ ns c (by omega), sum_ends (xs := mid ns c) (by omega)]
  omega
theorem srt_srt {s : List Int} (h : s.Pairwise (· ≤ ·)) : srt s = s := (srt_unique (List.Perm.refl s) h).symm
theorem mid_pan {ns : List Int} (h : Pan ns) {c : Nat} (hc : 2 * c < ns.length) : Pan (mid ns c) := by
  have hl := mid_len ns (c := c) (by omega)
  refine ⟨by omega, by have := h.2.1; omega, fun m hm => h.2.2 m ?_⟩
  exact (srt_perm ns).mem_iff.mp (List.mem_of_mem_drop (List.mem_of_mem_take hm))
theorem cut_mid (ns : List Int) {c : Int} (h0 : 0 ≤ c) (h1 : 2 * c ≤ ns.length) : cutA ((srt ns).map D.int) (some c) (some ((((srt ns).map D.int).length : Nat) - c)) = (mid ns c.toNat).map D.int := by
  have hl := srt_len ns
  rw [cutA_map, List.length_map, cutA_two _ h0 (by omega) (by omega)]
  unfold mid
  rw [show (((srt ns).length : Int) - c - c).toNat = ns.length - 2 * c.toNat from by omega]
theorem tot_mid_zero (ns : List Int) (c : Nat) : tot (mid ns c) 0 = tot ns c := by rw [tot_zero, tot_mid]
theorem last_mid (ns : List Int) (h : 1 ≤ ns.length) : cutA (srt ns) (some (((ns.length : Int) - 1) / 2)) (some ((ns.length : Int) / 2 + 1)) = mid ns ((ns.length + 1) / 2 - 1) := by
  have hl := srt_len ns
  rw [cutA_two _ (by omega) (by omega) (by omega)]
  unfold mid
  rw [show (((ns.length : Int) - 1) / 2).toNat = (ns.length + 1) / 2 - 1 from by omega, show ((ns.length : Int) / 2 + 1 - ((ns.length : Int) - 1) / 2).toNat = ns.length - 2 * ((ns.length + 1) / 2 - 1) from by omega]
theorem sub_nil {xs ys : List Int} (h : ∀ j ∈ xs, j ∈ ys) : xs.filter (fun j => !decide (j ∈ ys)) = [] := List.filter_eq_nil_iff.mpr fun j hj => by simp [h j hj]
theorem rngD_get0 {n i : Nat} {y : D} (h : (rngD 0 n)[i]? = some y) : i < n ∧ y = .int ((i : Nat) : Int) := by
  obtain ⟨h1, h2⟩ := rngD_get h
  rw [Int.zero_add] at h2
  exact ⟨h1, h2⟩
theorem last_cut (ns : List Int) (h : 1 ≤ ns.length) : cutA ((srt ns).map D.int) (some (((((srt ns).map D.int).length : Nat) - 1) / 2)) (some ((((srt ns).map D.int).length : Nat) / 2 + 1)) = (mid ns ((ns.length + 1) / 2 - 1)).map D.int := by
  rw [cutA_map, List.length_map, srt_len, last_mid ns h]
theorem wide_ints (n : Nat) {ns : List Int} (h : ns.length ≤ 100000) : Wide (n + 1) (lI ns) := ⟨by rw [List.length_map]; exact h, fun x hx => by
  obtain ⟨i, _, rfl⟩ := List.mem_map.mp hx
  cases n <;> trivial⟩

/-! ### one mark, two works -/
def rest (ns : List Int) (j : Nat) : List Int := ns.take j ++ ns.drop (j + 1)
def repl (ns : List Int) (j : Nat) (m : Int) : List Int := ns.take j ++ [m] ++ ns.drop (j + 1)
def cutsD (ns : List Int) (c j : Nat) : Int × Int := if c = 0 then (0, 1000) else ((srt (rest ns j)).getD (c - 1) 0, (srt (rest ns j)).getD (ns.length - 1 - c) 0)
abbrev dPair (p : Int × Int) : D := .tup [.int p.1, .int p.2]
abbrev Drp (ns : List Int) (c : Int) : Prop := 0 ≤ c ∧ 2 * c < ns.length
abbrev Jdg (ns : List Int) (j : Int) : Prop := 0 ≤ j ∧ j < ns.length
def pr_need_judge : Pr := prV (α := List Int × Int) (fun (ns, j) => [tI ns, .int j]) (fun (ns, j) => Jdg ns j) (fun _ => .dat .non)
def pr_cuts : Pr := prV (α := List Int × Int × Int) (fun (ns, c, j) => [tI ns, .int c, .int j]) (fun (ns, c, j) => ns.length ≤ 100 ∧ Drp ns c ∧ Jdg ns j) (fun (ns, c, j) => .dat (dPair (cutsD ns c.toNat j.toNat)))
def pr_replaced : Pr := prV (α := List Int × Int × Int) (fun (ns, j, m) => [tI ns, .int j, .int m]) (fun (ns, j, m) => ns.length ≤ 100 ∧ Jdg ns j) (fun (ns, j, m) => .dat (tI (repl ns j.toNat m)))
def pr_bounds : Pr := prV (α := List Int × Int × Int) (fun (ns, c, j) => [tI ns, .int c, .int j]) (fun (ns, c, j) => Pan ns ∧ Drp ns c ∧ Jdg ns j) (fun (ns, c, j) => .dat (dPair (cutsD ns c.toNat j.toNat)))
def pr_with_mark : Pr := prV (α := List Int × Int × Int × Int) (fun (ns, c, j, m) => [tI ns, .int c, .int j, .int m]) (fun (ns, c, j, m) => Pan ns ∧ Drp ns c ∧ Jdg ns j ∧ 0 ≤ m ∧ m ≤ 1000) (fun (ns, c, j, m) => .dat (.int (tot (repl ns j.toNat m) c.toNat)))
def pr_need_works : Pr := prV (α := List Int × List Int) (fun (a, b) => [tI a, tI b]) (fun (a, b) => Pan a ∧ Pan b ∧ a.length = b.length) (fun _ => .dat .non)
def pr_lead : Pr := prV (α := List Int × List Int × Int) (fun (a, b, c) => [tI a, tI b, .int c]) (fun (a, b, c) => Pan a ∧ Pan b ∧ a.length = b.length ∧ Drp a c) (fun (a, b, c) => .dat (.int (tot a c.toNat - tot b c.toNat)))
def leadsD (a b : List Int) : List Int := (List.range ((a.length + 1) / 2)).map fun c => tot a c - tot b c
def pr_leads : Pr := prV (α := List Int × List Int) (fun (a, b) => [tI a, tI b]) (fun (a, b) => Pan a ∧ Pan b ∧ a.length = b.length) (fun (a, b) => .new (.lst ((leadsD a b).map .int)))
def pr_law_total : Pr := prV (α := D × List Int × Int) (fun (x, _, c) => [x, .int c]) (fun (x, ns, c) => (x = lI ns ∨ x = tI ns) ∧ 0 ≤ c ∧ 2 * c ≤ ns.length ∧ ns.length ≤ 100) (fun (_, ns, c) => .dat (.int (tot ns c.toNat)))
def pr_reach : Pr := prV (α := List Int × Int × Int) (fun (ns, c, j) => [tI ns, .int c, .int j]) (fun (ns, c, j) => Pan ns ∧ Drp ns c ∧ Jdg ns j) (fun (ns, c, j) => .dat (dPair (tot (repl ns j.toNat 0) c.toNat, tot (repl ns j.toNat 1000) c.toNat)))
abbrev oPair : Option (Int × Int) → D
  | none => .non
  | some p => dPair p
def mrD (ns : List Int) (c j : Nat) (w : Int) : Option (Int × Int) :=
  let low := (cutsD ns c j).1
  let high := (cutsD ns c j).2
  let mark := w - (tot (repl ns j low) c - low)
  if low ≤ mark ∧ mark ≤ high then some (if mark = low then 0 else mark, if mark = high then 1000 else mark) else none
def pr_mark_range : Pr := prV (α := List Int × Int × Int × Int) (fun (ns, c, j, w) => [tI ns, .int c, .int j, .int w]) (fun (ns, c, j, w) => Pan ns ∧ Drp ns c ∧ Jdg ns j ∧ 0 ≤ w ∧ w ≤ 12000) (fun (ns, c, j, w) => .dat (oPair (mrD ns c.toNat j.toNat w)))
def turnB (a b : List Int) (c j : Nat) : Bool := decide (tot (repl a j 0) c < tot (repl b j 1000) c)
def turnD (a b : List Int) (c : Nat) : List Int := (((List.range a.length).filter fun j => turnB a b c j).map fun (j : Nat) => (j : Int))
def pr_turned_by : Pr := prV (α := List Int × List Int × Int × Int) (fun (a, b, c, j) => [tI a, tI b, .int c, .int j]) (fun (a, b, c, j) => Pan a ∧ Pan b ∧ a.length = b.length ∧ Drp a c ∧ Jdg a j) (fun (a, b, c, j) => .dat (.bl (turnB a b c.toNat j.toNat)))
def pr_turners : Pr := prV (α := List Int × List Int × Int) (fun (a, b, c) => [tI a, tI b, .int c]) (fun (a, b, c) => Pan a ∧ Pan b ∧ a.length = b.length ∧ Drp a c) (fun (a, b, c) => .new (.lst ((turnD a b c.toNat).map .int)))
def pr_law_other : Pr := pr_replaced
theorem cut_le {α : Type} (xs : List α) (lo hi : Option Int) : (cutA xs lo hi).length ≤ xs.length := by
  unfold cutA
  rw [List.length_take, List.length_drop]
  omega
theorem cat_sz3 {xs : List D} {ns : List Int} {lo hi : Option Int} (h : ns.length ≤ 100) (hx : xs.length ≤ 1000) : xs.length + (cutA (ns.map D.int) lo hi).length ≤ sizeLine := by
  have := cut_le (ns.map D.int) lo hi
  rw [List.length_map] at this
  rw [sizeLine_eq]
  omega
theorem cut_len {ns : List Int} {lo hi : Option Int} (h : ns.length ≤ 100) : (cutA (ns.map D.int) lo hi).length ≤ 100 := by
  have := cut_le (ns.map D.int) lo hi
  rw [List.length_map] at this
  omega
theorem repl_cut (ns : List Int) {j : Int} (m : D) (h : 0 ≤ j) : cutA (ns.map D.int) none (some j) ++ [m] ++ cutA (ns.map D.int) (some (j + 1)) none = (ns.take j.toNat).map D.int ++ [m] ++ (ns.drop (j.toNat + 1)).map D.int := by
  rw [cutA_map, cutA_map, cutA_to _ h, cutA_from _ (by omega), show (j + 1).toNat = j.toNat + 1 from by omega]
theorem repl_cutI (ns : List Int) {j : Int} (m : Int) (h : 0 ≤ j) : cutA (ns.map D.int) none (some j) ++ [D.int m] ++ cutA (ns.map D.int) (some (j + 1)) none = (repl ns j.toNat m).map D.int := by
  rw [repl_cut ns _ h]
  simp [repl]
theorem rest_cut (ns : List Int) {j : Int} (h : 0 ≤ j) : cutA (ns.map D.int) none (some j) ++ cutA (ns.map D.int) (some (j + 1)) none = (rest ns j.toNat).map D.int := by
  unfold rest
  rw [cutA_map, cutA_map, cutA_to _ h, cutA_from _ (by omega), show (j + 1).toNat = j.toNat + 1 from by omega, List.map_append]
theorem rest_len (ns : List Int) {j : Nat} (h : j < ns.length) : (rest ns j).length = ns.length - 1 := by
  unfold rest
  rw [List.length_append, List.length_take, List.length_drop]
  omega

/-! ### one mark more -/
theorem srt_eq_of_perm {xs ys : List Int} (h : xs.Perm ys) : srt xs = srt ys := srt_unique ((srt_perm xs).trans h) (srt_sorted xs)
theorem tot_perm {xs ys : List Int} (h : xs.Perm ys) (c : Nat) : tot xs c = tot ys c := by
  unfold tot
  rw [srt_eq_of_perm h, h.length_eq]
def clampI (ns : List Int) (c : Nat) (m : Int) : Int := if c = 0 then m else min (max m ((srt ns).getD (c - 1) 0)) ((srt ns).getD (ns.length - c) 0)
theorem insr_at (m : Int) : ∀ {s : List Int}, s.Pairwise (· ≤ ·) → ∃ p, p ≤ s.length ∧ insr m s = s.take p ++ m :: s.drop p ∧ (∀ (i : Nat) (h : i < s.length), i < p → s[i] ≤ m) ∧ (∀ (i : Nat) (h : i < s.length), p ≤ i → m ≤ s[i])
  | [], _ => ⟨0, Nat.le_refl _, rfl, fun i h => by simp at h, fun i h => by simp at h⟩
  | y :: ys, h => by
    unfold insr
    obtain ⟨h1, h2⟩ := List.pairwise_cons.mp h
    split
    · rename_i e
      refine ⟨0, Nat.zero_le _, rfl, fun i _ q => by omega, fun i hi _ => ?_⟩
      cases i with
      | zero => exact e
      | succ i =>
        have hi' : i < ys.length := by simpa using hi
        have := h1 (ys[i]) (List.getElem_mem hi')
        simp only [List.getElem_cons_succ]
        omega
    · rename_i e
      obtain ⟨p, a, b, c, d⟩ := insr_at m h2
      refine ⟨p + 1, by simp; omega, by simp [b], fun i hi q => ?_, fun i hi q => ?_⟩
      · cases i with
        | zero => simp only [List.getElem_cons_zero]; omega
        | succ i => simpa using c i (by simpa using hi) (by omega)
      · cases i with
        | zero => omega
        | succ i => simpa using d i (by simpa using hi) (by omega)
theorem getD_at {s : List Int} {i : Nat} (h : i < s.length) : s.getD i 0 = s[i] := by
  rw [List.getD_eq_getElem?_getD, List.getElem?_eq_getElem h, Option.getD_some]
theorem sorted_at {s : List Int} (hs : s.Pairwise (· ≤ ·)) {i j : Nat} (hj : j < s.length) (h : i ≤ j) : s[i]'(Nat.lt_of_le_of_lt h hj) ≤ s[j] := by
  rcases Nat.lt_or_ge i j with q | q
  · exact List.pairwise_iff_getElem.mp hs i j _ hj q
  · have : i = j := by omega
    subst this
    exact Int.le_refl _
theorem tot_insr {s : List Int} (hs : s.Pairwise (· ≤ ·)) (m : Int) {c : Nat} (h0 : 0 < c) (h : 2 * c ≤ s.length) :
    (((insr m s).drop c).take (s.length + 1 - 2 * c)).sum = ((s.drop c).take (s.length - 2 * c)).sum + min (max m (s.getD (c - 1) 0)) (s.getD (s.length - c) 0) := by
  obtain ⟨p, hp, e, q1, q2⟩ := insr_at m hs
  rw [e, getD_at (show c - 1 < s.length by omega), getD_at (show s.length - c < s.length by omega)]
  have h5 := sorted_at hs (i := c - 1) (j := s.length - c) (by omega) (by omega)
  rcases Nat.lt_or_ge p c with w | w
  · have h4 := q2 (c - 1) (by omega) (by omega)
    have e1 : (s.take p ++ m :: s.drop p).drop c = s.drop (c - 1) := by
      rw [List.drop_append, List.drop_eq_nil_of_le (by rw [List.length_take]; omega), List.nil_append, List.length_take, Nat.min_eq_left hp, show c - p = (c - p - 1) + 1 from by omega, List.drop_succ_cons, List.drop_drop]
      congr 1
      omega
    rw [e1, List.drop_eq_getElem_cons (show c - 1 < s.length by omega), show s.length + 1 - 2 * c = (s.length - 2 * c) + 1 from by omega, List.take_succ_cons, List.sum_cons, show c - 1 + 1 = c from by omega]
    have e2 : min (max m s[c - 1]) s[s.length - c] = s[c - 1] := by omega
    rw [e2]
    omega
  · have e1 : (s.take p ++ m :: s.drop p).drop c = (s.take p).drop c ++ m :: s.drop p := by
      rw [List.drop_append_of_le_length (by rw [List.length_take]; omega)]
    have h3 := q1 (c - 1) (by omega) (by omega)
    have e3 : (s.take p).drop c = (s.drop c).take (p - c) := List.drop_take
    rw [e1, e3]
    have l3 : ((s.drop c).take (p - c)).length = p - c := by rw [List.length_take, List.length_drop]; omega
    rcases Nat.lt_or_ge (s.length - c) p with w2 | w2
    · have h4 := q1 (s.length - c) (by omega) (by omega)
      rw [List.take_append_of_le_length (by omega), List.take_take, Nat.min_eq_left (by omega), show s.length + 1 - 2 * c = (s.length - 2 * c) + 1 from by omega, List.take_add_one, List.sum_append, List.getElem?_drop, List.getElem?_eq_getElem (show c + (s.length - 2 * c) < s.length by omega)]
      have e4 : s[c + (s.length - 2 * c)]'(by omega) = s[s.length - c]'(by omega) := by
        congr 1
        omega
      rw [e4]
      have e2 : min (max m s[c - 1]) s[s.length - c] = s[s.length - c] := by omega
      rw [e2]
      simp
    · have h4 : m ≤ s[s.length - c]'(by omega) := q2 (s.length - c) (by omega) w2
      have e2 : min (max m s[c - 1]) s[s.length - c] = m := by omega
      rw [e2, List.take_append, l3, List.take_of_length_le (by omega), show s.length + 1 - 2 * c - (p - c) = (s.length - c - p) + 1 from by omega, List.take_succ_cons, List.sum_append, List.sum_cons]
      have e5 : (s.drop c).take (s.length - 2 * c) = (s.drop c).take (p - c) ++ (s.drop p).take (s.length - c - p) := by
        rw [show s.length - 2 * c = (p - c) + (s.length - c - p) from by omega, List.take_add, List.drop_drop, show c + (p - c) = p from by omega]
      rw [e5, List.sum_append]
      omega
theorem tot_cons (ns : List Int) (m : Int) {c : Nat} (h : 2 * c ≤ ns.length) : tot (m :: ns) c = tot ns c + clampI ns c m := by
  unfold clampI
  split
  · rename_i e
    subst e
    rw [tot_zero, tot_zero, List.sum_cons]
    omega
  · have := tot_insr (srt_sorted ns) m (c := c) (by omega) (by rw [srt_len]; exact h)
    rw [srt_len] at this
    unfold tot
    rw [List.length_cons]
    exact this
/-! ### a mark at a place -/
def insA (ns : List Int) (a : Nat) (m : Int) : List Int := ns.take a ++ [m] ++ ns.drop a
theorem insA_perm (ns : List Int) (a : Nat) (m : Int) : (insA ns a m).Perm (m :: ns) := by
  unfold insA
  rw [List.append_assoc]
  refine List.perm_middle.trans ?_
  show (m :: (ns.take a ++ ns.drop a)).Perm (m :: ns)
  rw [List.take_append_drop]
theorem insA_take (ns : List Int) {a : Nat} (m : Int) (h : a ≤ ns.length) : (insA ns a m).take a = ns.take a := by
  unfold insA
  rw [List.append_assoc, List.take_append_of_le_length (by rw [List.length_take]; omega), List.take_take, Nat.min_self]
theorem insA_drop (ns : List Int) {a : Nat} (m : Int) (h : a ≤ ns.length) : (insA ns a m).drop (a + 1) = ns.drop a := by
  unfold insA
  rw [List.append_assoc, List.drop_append, List.drop_eq_nil_of_le (by rw [List.length_take]; omega), List.length_take, Nat.min_eq_left h, show a + 1 - a = 1 from by omega]
  simp
theorem insA_len (ns : List Int) (a : Nat) (m : Int) : (insA ns a m).length = ns.length + 1 := (insA_perm ns a m).length_eq
theorem tot_insA (ns : List Int) (a : Nat) (m : Int) {c : Nat} (h : 2 * c ≤ ns.length) : tot (insA ns a m) c = tot ns c + clampI ns c m := (tot_perm (insA_perm ns a m) c).trans (tot_cons ns m h)
theorem rest_insA (ns : List Int) {a : Nat} (m : Int) (h : a ≤ ns.length) : rest (insA ns a m) a = ns := by
  unfold rest
  rw [insA_take ns m h, insA_drop ns m h, List.take_append_drop]
theorem repl_insA (ns : List Int) {a : Nat} (m m' : Int) (h : a ≤ ns.length) : repl (insA ns a m) a m' = insA ns a m' := by
  unfold repl
  rw [insA_take ns m h, insA_drop ns m h]
  rfl
theorem repl_perm (ns : List Int) (j : Nat) (m : Int) : (repl ns j m).Perm (m :: rest ns j) := by
  unfold repl rest
  rw [List.append_assoc]
  exact List.perm_middle
theorem repl_len (ns : List Int) {j : Nat} (m : Int) (h : j < ns.length) : (repl ns j m).length = ns.length := by
  rw [(repl_perm ns j m).length_eq, List.length_cons, rest_len ns h]
  omega
theorem tot_repl (ns : List Int) {j c : Nat} (m : Int) (hj : j < ns.length) (h : 2 * c < ns.length) : tot (repl ns j m) c = tot (rest ns j) c + clampI (rest ns j) c m := (tot_perm (repl_perm ns j m) c).trans (tot_cons _ m (by rw [rest_len ns hj]; omega))
theorem cutsD_rest (ns : List Int) {j c : Nat} (hj : j < ns.length) : cutsD ns c j = if c = 0 then (0, 1000) else ((srt (rest ns j)).getD (c - 1) 0, (srt (rest ns j)).getD ((rest ns j).length - c) 0) := by
  rw [rest_len ns hj]
  rfl
theorem ins_cut (ns : List Int) {a : Int} (m : Int) (h : 0 ≤ a) : cutA (ns.map D.int) none (some a) ++ [D.int m] ++ cutA (ns.map D.int) (some a) none = (insA ns a.toNat m).map D.int := by
  unfold insA
  rw [cutA_map, cutA_map, cutA_to _ h, cutA_from _ h]
  simp
theorem srt_sum (l : List Int) : (srt l).sum = l.sum := sum_perm (srt_perm l)
theorem srt_erase_max {l : List Int} {m : Int} (hm : m ∈ l) (h : ∀ y, y ∈ l → y ≤ m) : srt (l.erase m) = (srt l).dropLast := by
  symm
  have hne : srt l ≠ [] := fun e => by
    have := srt_len l
    rw [e] at this
    cases l with
    | nil => cases hm
    | cons => simp at this
  have hl : (srt l).getLast hne = m := by
    have h1 : (srt l).getLast hne ≤ m := h _ ((srt_perm l).mem_iff.mp (List.getLast_mem hne))
    have h2 : m ∈ srt l := (srt_perm l).mem_iff.mpr hm
    obtain ⟨i, hi, e⟩ := List.getElem_of_mem h2
    have h3 := sorted_at (srt_sorted l) (i := i) (j := (srt l).length - 1) (by omega) (by omega)
    rw [← List.getLast_eq_getElem hne] at h3
    omega
  have e := List.dropLast_concat_getLast hne
  rw [hl] at e
  refine srt_unique ?_ ((srt_sorted l).sublist (List.dropLast_sublist _))
  have p1 : (m :: l.erase m).Perm (m :: (srt l).dropLast) := (List.perm_cons_erase hm).symm.trans ((srt_perm l).symm.trans (by
    rw [← e]
    rw [List.dropLast_concat]
    exact List.perm_append_singleton _ _))
  exact (List.Perm.cons_inv p1).symm
theorem srt_erase_min {l : List Int} {m : Int} (hm : m ∈ l) (h : ∀ y, y ∈ l → m ≤ y) : srt (l.erase m) = (srt l).tail := by
  symm
  have hl := srt_len l
  cases hs : srt l with
  | nil =>
    rw [hs] at hl
    cases l with
    | nil => cases hm
    | cons => simp at hl
  | cons x s =>
    have hx : x = m := by
      have h1 : m ≤ x := h _ ((srt_perm l).mem_iff.mp (by rw [hs]; exact List.mem_cons_self ..))
      have h2 : m ∈ srt l := (srt_perm l).mem_iff.mpr hm
      have h3 := srt_sorted l
      rw [hs] at h2 h3
      rcases List.mem_cons.mp h2 with q | q
      · exact q.symm
      · have := (List.pairwise_cons.mp h3).1 m q
        omega
    subst hx
    have h3 := srt_sorted l
    rw [hs] at h3
    refine srt_unique ?_ (List.pairwise_cons.mp h3).2
    have p1 : (x :: l.erase x).Perm (x :: s) := (List.perm_cons_erase hm).symm.trans ((srt_perm l).symm.trans (by rw [hs]))
    exact (List.Perm.cons_inv p1).symm
theorem mid_peel (ns : List Int) {i : Nat} (h : 2 * (i + 1) ≤ ns.length) : (mid ns i).dropLast.tail = mid ns (i + 1) := by
  rw [mid_succ ns i h]
  have hl := mid_len ns (c := i) (by omega)
  rw [List.dropLast_eq_take, ← List.drop_one, List.drop_take]
  congr 1
theorem mid_zero (ns : List Int) : mid ns 0 = srt ns := by
  unfold mid
  rw [List.drop_zero, Nat.mul_zero, Nat.sub_zero, ← srt_len ns, List.take_length]
theorem tot_of_mid {ns l : List Int} {c : Nat} (h : srt l = mid ns c) : l.sum = tot ns c := by
  rw [← srt_sum, h, tot_mid]
def IsMark (d : D) : Prop := ∃ m, d = .int m ∧ 0 ≤ m ∧ m ≤ 1000
theorem mk_app {xs ys : List D} (h1 : ∀ d ∈ xs, IsMark d) (h2 : ∀ d ∈ ys, IsMark d) : ∀ d ∈ xs ++ ys, IsMark d := fun d h => by
  rcases List.mem_append.mp h with q | q
  · exact h1 d q
  · exact h2 d q
theorem mk_nil : ∀ d ∈ ([] : List D), IsMark d := fun d h => by cases h
theorem mk_cons {m : Int} {xs : List D} (h1 : 0 ≤ m ∧ m ≤ 1000) (h2 : ∀ d ∈ xs, IsMark d) : ∀ d ∈ .int m :: xs, IsMark d := fun d h => by
  rcases List.mem_cons.mp h with q | q
  · exact ⟨m, q, h1⟩
  · exact h2 d q
theorem mk_ints {ns : List Int} (h : ∀ m ∈ ns, 0 ≤ m ∧ m ≤ 1000) : ∀ d ∈ ns.map D.int, IsMark d := fun d hd => by
  obtain ⟨m, hm, rfl⟩ := List.mem_map.mp hd
  exact ⟨m, rfl, h m hm⟩
theorem mk_cut {xs : List D} (h : ∀ d ∈ xs, IsMark d) (lo hi : Option Int) : ∀ d ∈ cutA xs lo hi, IsMark d := fun d hd => h d (List.mem_of_mem_drop (List.mem_of_mem_take hd))
theorem srt_marks {ns : List Int} (h : ∀ m ∈ ns, 0 ≤ m ∧ m ≤ 1000) : ∀ m ∈ srt ns, 0 ≤ m ∧ m ≤ 1000 := fun m hm => h m ((srt_perm ns).mem_iff.mp hm)
theorem getD_marks {ns : List Int} (h : ∀ m ∈ ns, 0 ≤ m ∧ m ≤ 1000) {i : Nat} (hi : i < ns.length) : 0 ≤ ns.getD i 0 ∧ ns.getD i 0 ≤ 1000 := by
  rw [getD_at hi]
  exact h _ (List.getElem_mem hi)
theorem pan_insA {ns : List Int} (h : Pan ns) (hl : ns.length ≤ 11) (a : Nat) {m : Int} (hm : 0 ≤ m ∧ m ≤ 1000) : Pan (insA ns a m) := by
  refine ⟨by rw [insA_len]; omega, by rw [insA_len]; omega, fun x hx => ?_⟩
  rcases List.mem_cons.mp ((insA_perm ns a m).mem_iff.mp hx) with q | q
  · rw [q]; exact hm
  · exact h.2.2 x q
theorem same_int {n : Nat} {i : Int} : Fit n (.int i) ∧ Wide n (.int i) := ⟨fit_int, by cases n <;> trivial⟩
theorem pan_take {ns : List Int} (h : Pan ns) {k : Nat} (hk : 1 ≤ k) : Pan (ns.take k) := ⟨by rw [List.length_take]; have := h.1; omega, by rw [List.length_take]; have := h.2.1; omega, fun m hm => h.2.2 m (List.mem_of_mem_take hm)⟩
theorem tot_take_succ (ns : List Int) {c j : Nat} (hj : j < ns.length) (h : 2 * c ≤ j) : tot (ns.take (j + 1)) c = tot (ns.take j) c + clampI (ns.take j) c (ns.getD j 0) := by
  rw [← tot_cons _ _ (by rw [List.length_take]; omega)]
  apply tot_perm
  rw [List.take_add_one, List.getElem?_eq_getElem hj, getD_at hj]
  exact List.perm_append_singleton _ _
theorem nope {α : Prop} {b : Bool} (h : b = true) (l : b = false) : α := by rw [h] at l; cases l
theorem flat_new (ns : List Int) : flatR (.new (.lst (ns.map D.int))) := fun x hx => by
  obtain ⟨i, _, rfl⟩ := List.mem_map.mp hx
  rfl
theorem fit_ints' {n : Nat} {α : Type} (f : α → Int) (xs : List α) : ∀ x ∈ xs.map fun i => D.int (f i), Fit n x := fun x hx => by
  obtain ⟨i, _, rfl⟩ := List.mem_map.mp hx
  exact fit_int

/-! ### a mark, cut at two bounds -/
theorem rest_mem {ns : List Int} {j : Nat} {m : Int} (h : m ∈ rest ns j) : m ∈ ns := by
  unfold rest at h
  rcases List.mem_append.mp h with q | q
  · exact List.mem_of_mem_take q
  · exact List.mem_of_mem_drop q
theorem cutsF {ns : List Int} (hP : Pan ns) {c j : Nat} (hc : 2 * c < ns.length) (hj : j < ns.length) : ∃ lo hi B, cutsD ns c j = (lo, hi) ∧ 0 ≤ lo ∧ lo ≤ hi ∧ hi ≤ 1000 ∧ B = tot (rest ns j) c ∧ (∀ m, 0 ≤ m → m ≤ 1000 → tot (repl ns j m) c = B + max lo (min m hi)) ∧ (0 < c → ∀ m, tot (repl ns j m) c = B + max lo (min m hi)) := by
  have hl := rest_len ns hj
  have hl2 := srt_len (rest ns j)
  have hm : ∀ m ∈ srt (rest ns j), 0 ≤ m ∧ m ≤ 1000 := srt_marks fun m h => hP.2.2 m (rest_mem h)
  rw [cutsD_rest ns hj]
  by_cases h0 : c = 0
  · subst h0
    refine ⟨0, 1000, tot (rest ns j) 0, rfl, by omega, by omega, by omega, rfl, fun m h1 h2 => ?_, fun h => by omega⟩
    rw [tot_repl ns m hj hc]
    unfold clampI
    rw [if_pos rfl]
    omega
  · rw [if_neg h0]
    have e1 := getD_marks hm (i := c - 1) (by omega)
    have e2 := getD_marks hm (i := (rest ns j).length - c) (by omega)
    have e3 := sorted_at (srt_sorted (rest ns j)) (i := c - 1) (j := (rest ns j).length - c) (by omega) (by omega)
    rw [← getD_at, ← getD_at] at e3
    have key : ∀ m, tot (repl ns j m) c = tot (rest ns j) c + max ((srt (rest ns j)).getD (c - 1) 0) (min m ((srt (rest ns j)).getD ((rest ns j).length - c) 0)) := fun m => by
      rw [tot_repl ns m hj hc]
      unfold clampI
      rw [if_neg h0]
      omega
    exact ⟨_, _, _, rfl, by omega, e3, by omega, rfl, fun m _ _ => key m, fun _ m => key m⟩
theorem repl_mono {ns : List Int} {c j : Nat} (hc : 2 * c < ns.length) (hj : j < ns.length) {x y : Int} (h : x ≤ y) : tot (repl ns j x) c ≤ tot (repl ns j y) c := by
  rw [tot_repl ns x hj hc, tot_repl ns y hj hc]
  unfold clampI
  split <;> omega
theorem pan_repl {ns : List Int} (hP : Pan ns) {j : Nat} (hj : j < ns.length) {m : Int} (h0 : 0 ≤ m) (h1 : m ≤ 1000) : Pan (repl ns j m) := by
  have hl := repl_len ns m hj
  refine ⟨by have := hP.1; omega, by have := hP.2.1; omega, fun x hx => ?_⟩
  rcases List.mem_cons.mp ((repl_perm ns j m).mem_iff.mp hx) with q | q
  · rw [q]; exact ⟨h0, h1⟩
  · exact hP.2.2 x (rest_mem q)
theorem app_int (ns : List Int) (x : Int) : ns.map D.int ++ [D.int x] = (ns ++ [x]).map D.int := by simp
theorem eqD_pair (p : Int × Int) (a b : Int) : eqD (dPair p) (.tup [.int a, .int b]) = decide (p = (a, b)) := by
  have := eqD_tints [p.1, p.2] [a, b]
  obtain ⟨x, y⟩ := p
  simpa [tI] using this
theorem repl_insR (ns : List Int) {j : Nat} (x : Int) (hj : j < ns.length) : repl ns j x = insA (rest ns j) j x := by
  have hl : (ns.take j).length = j := by rw [List.length_take]; omega
  unfold repl insA rest
  rw [List.take_left' hl, List.drop_left' hl]
theorem rest_repl (ns : List Int) {j : Nat} (m : Int) (hj : j < ns.length) : rest (repl ns j m) j = rest ns j := by
  rw [repl_insR ns m hj, rest_insA _ _ (by rw [rest_len ns hj]; omega)]
theorem repl_repl (ns : List Int) {j : Nat} (m m' : Int) (hj : j < ns.length) : repl (repl ns j m) j m' = repl ns j m' := by
  rw [repl_insR ns m hj, repl_insR ns m' hj, repl_insA _ _ _ (by rw [rest_len ns hj]; omega)]
theorem cutsD_repl (ns : List Int) {j c : Nat} (m : Int) (hj : j < ns.length) : cutsD (repl ns j m) c j = cutsD ns c j := by
  rw [cutsD_rest _ (by rw [repl_len ns m hj]; exact hj), cutsD_rest _ hj, rest_repl ns m hj]
theorem eqD_pair' (p q : Int × Int) : eqD (dPair p) (dPair q) = decide (p = q) := eqD_pair p q.1 q.2
theorem same_pair {n : Nat} {x y : Int} : Fit (n + 1) (tI [x, y]) ∧ Wide (n + 1) (tI [x, y]) := ⟨fit_tup (fit_all_int [x, y]), ⟨by simp, fun d hd => by
  obtain ⟨i, _, rfl⟩ := List.mem_map.mp hd
  cases n <;> trivial⟩⟩
theorem eqI (i : Int) : (!eqD (.int i) (.int i)) = false := by rw [eqD_int]; simp
theorem eqI' {i j : Int} (h : i = j) : (!eqD (.int i) (.int j)) = false := by rw [h]; exact eqI j
theorem oPair_fit {n : Nat} (o : Option (Int × Int)) : Fit (n + 1) (oPair o) := by
  cases o with
  | none => exact fit_non
  | some p => exact fit_tup (fit_all_int [p.1, p.2])
theorem isNon_oPair (o : Option (Int × Int)) : isNon (oPair o) = o.isNone := by cases o <;> rfl
theorem noRaw_oPair (o : Option (Int × Int)) : noRaw (oPair o) = true := by cases o <;> rfl
theorem mr_none {ns : List Int} {c j : Nat} {w : Int} (h : (!(decide ((cutsD ns c j).1 ≤ w - (tot (repl ns j (cutsD ns c j).1) c - (cutsD ns c j).1)) && decide (w - (tot (repl ns j (cutsD ns c j).1) c - (cutsD ns c j).1) ≤ (cutsD ns c j).2))) = true) : oPair (mrD ns c j w) = .non := by
  unfold mrD
  simp only
  rw [if_neg (by simp at h; omega)]
theorem mr_some {ns : List Int} {c j : Nat} {w : Int} (h : (!(decide ((cutsD ns c j).1 ≤ w - (tot (repl ns j (cutsD ns c j).1) c - (cutsD ns c j).1)) && decide (w - (tot (repl ns j (cutsD ns c j).1) c - (cutsD ns c j).1) ≤ (cutsD ns c j).2))) = false) : oPair (mrD ns c j w) = .tup [if eqD (.int (w - (tot (repl ns j (cutsD ns c j).1) c - (cutsD ns c j).1))) (.int (cutsD ns c j).1) = true then .int 0 else .int (w - (tot (repl ns j (cutsD ns c j).1) c - (cutsD ns c j).1)), if eqD (.int (w - (tot (repl ns j (cutsD ns c j).1) c - (cutsD ns c j).1))) (.int (cutsD ns c j).2) = true then .int 1000 else .int (w - (tot (repl ns j (cutsD ns c j).1) c - (cutsD ns c j).1))] := by
  unfold mrD
  simp only
  rw [if_pos (by simp at h; omega), eqD_int, eqD_int]
  simp only [dPair, oPair, decide_eq_true_eq]
  congr 2
  · split <;> rfl
  · congr 1
    split <;> rfl
theorem tot_range {ns : List Int} (h : ∀ m ∈ ns, 0 ≤ m ∧ m ≤ 1000) {c : Nat} (hc : 2 * c ≤ ns.length) : 0 ≤ tot ns c ∧ tot ns c ≤ 1000 * ((ns.length : Int) - 2 * (c : Int)) := by
  have := sum_bounds (mid ns c) 0 1000 fun v hv => h v ((srt_perm ns).mem_iff.mp (List.mem_of_mem_drop (List.mem_of_mem_take hv)))
  rw [mid_len ns hc, ← tot_mid] at this
  omega
theorem cutsB {ns : List Int} (hP : Pan ns) {c j : Nat} (hc : 2 * c < ns.length) (hj : j < ns.length) : 0 ≤ tot (rest ns j) c ∧ tot (rest ns j) c ≤ 11000 := by
  have hl := rest_len ns hj
  have := hP.2.1
  have := tot_range (ns := rest ns j) (fun m h => hP.2.2 m (rest_mem h)) (c := c) (by omega)
  omega
theorem rev_getD {s : List Int} {i : Nat} (h : i < s.length) : s.reverse.getD i 0 = s.getD (s.length - 1 - i) 0 := by
  rw [getD_at (by rw [List.length_reverse]; exact h), getD_at (by omega), List.getElem_reverse]
theorem enumD_ints (ns : List Int) : enumD 0 (ns.map D.int) = ns.zipIdx.map fun p => D.tup [.int ((p.2 : Nat) : Int), .int p.1] := by
  rw [enumD_zip, List.zipIdx_map, List.map_map]
  rfl
theorem zip_ints {ns : List Int} {p : Int × Nat} (h : p ∈ ns.zipIdx) : p.2 < ns.length ∧ ns.getD p.2 0 = p.1 := by
  obtain ⟨x, i⟩ := p
  have hx := List.mk_mem_zipIdx_iff_getElem?.mp h
  have hi := (List.getElem?_eq_some_iff.mp hx).1
  refine ⟨hi, ?_⟩
  rw [List.getD_eq_getElem?_getD, hx]
  rfl
theorem fit_mapD {n : Nat} {α : Type} {f : α → D} {xs : List α} (h : ∀ x, Fit n (f x)) : ∀ d ∈ xs.map f, Fit n d := fun d hd => by
  obtain ⟨x, _, rfl⟩ := List.mem_map.mp hd
  exact h x
theorem wss_frz [Tbs] {C : DX} {X : Cx} {sts : List Stmt} {δ : De} {μ : Mu} {E : DE} {k : Nat} {xs : List D} (hk : μ[k]? = some (.lst xs)) (h : WSs C X sts δ (μ.set k (.frz xs)) E) : WSs C X sts δ μ E := fun F0 F H as σ A => by
  obtain ⟨a, ha⟩ := A.get hk
  obtain ⟨F', _, A', _⟩ := A.freeze hk ha
  exact h F0 F' H as σ A'

/-! ### comprehensions that use the deck -/
theorem we_lcR [Tbs] {C : DX} {X : Cx} {δ : De} {μ : Mu} {Q : SV → Mu → Prop} {pos : Pos} {elt tg iter : Expr} {scope : Scope} {own : List (Str × Nat)} {g : TG} {js : List Nat} {un : D → Option (List D)} (tgt : Tgt X.K g js un) (hc : X.calm = true) (hN : X.N.Nodup) (ok : BlkOk X.N X.env.scope scope own)
    (hg : ∀ (s : Shared) (H : Hp) (Cc : Addr) (cl : List (Str × Addr)) (fp : List Addr), PG (BX X s H scope Cc cl fp) tg g) (hj : ∀ j ∈ js, j ∈ own.map (·.2))
    (h : WI C X tg iter δ μ fun ys μ' => ∃ Iv : Nat → List D → Mu → Prop, ys.length ≤ 100000 ∧ Iv 0 [] μ' ∧
      (∀ i y acc μ1, ys[i]? = some y → acc.length ≤ i → μ1.length = μ'.length → Iv i acc μ1 → ∃ ds, un y = some ds ∧ ∀ s H0 Cc cl fp, WE C (BX X s H0 scope Cc cl fp) elt (setDs (wipeD δ (own.map (·.2))) js ds) (μ1 ++ [.lst acc]) fun sv μ3 => ∃ d μ4 μ5, fz μ3 sv = some (d, μ4) ∧ wkM μ4 (μ5 ++ [.lst acc]) ∧ μ5.length = μ'.length ∧ Iv (i + 1) (acc ++ [d]) μ5) ∧
      (∀ acc μ1, acc.length ≤ ys.length → μ1.length = μ'.length → Iv ys.length acc μ1 → Q (.loc μ1.length) (μ1 ++ [.lst acc])))
    (hs : ∀ x, foldedSetIterable iter X.env x = pure x := by intro _; rfl) : WE C X (.ListComp elt [⟨tg, iter, [], 0⟩] scope pos) δ μ Q :=
  we_lc tgt hc hN ok hg hj (by decide) (wi_mono h fun ys μ' ⟨Iv, h1, h2, h3, h4⟩ => ⟨Iv, h1, h2, fun i y acc μ1 a1 a2 a3 a4 => by
    obtain ⟨ds, u, t⟩ := h3 i y acc μ1 a1 a2 a3 a4
    exact ⟨ds, u, fun s H0 Cc cl fp => ⟨fun _ s H0 Cc cl fp => we_mono (t s H0 Cc cl fp) fun sv μ3 ⟨d, μ4, μ5, z1, z2, z3, z4⟩ => ⟨d, μ4, z1, lcEnd_of z3 z2 z4⟩, fun e => (by cases e)⟩⟩, h4⟩) hs
/-! ### marks that are not seen -/
def oD : Option Int → D
  | none => .non
  | some i => .int i
abbrev tO (s : List (Option Int)) : D := .tup (s.map oD)
def Seen (s : List (Option Int)) : Prop := 1 ≤ s.length ∧ s.length ≤ 12 ∧ ∀ m, some m ∈ s → 0 ≤ m ∧ m ≤ 1000
def fillO (s : List (Option Int)) (m : Int) : List Int := s.map fun o => o.getD m
def replO (s : List (Option Int)) (j : Nat) (o : Option Int) : List (Option Int) := s.take j ++ [o] ++ s.drop (j + 1)
def endsD (s : List (Option Int)) (c : Nat) : Int × Int := (tot (fillO s 0) c, tot (fillO s 1000) c)
def seenL (s : List (Option Int)) : List Int := s.filterMap id
def noneC (s : List (Option Int)) : Nat := (s.filter (·.isNone)).length
abbrev DrpO (s : List (Option Int)) (c : Int) : Prop := 0 ≤ c ∧ 2 * c < s.length
def pr_need_seen : Pr := prV (α := List (Option Int) × Int) (fun (s, c) => [tO s, .int c]) (fun (s, c) => Seen s ∧ DrpO s c) (fun _ => .dat .non)
def pr_filled : Pr := prV (α := List (Option Int) × Int) (fun (s, m) => [tO s, .int m]) (fun (s, _) => s.length ≤ 100) (fun (s, m) => .dat (tI (fillO s m)))
def pr_ends : Pr := prV (α := List (Option Int) × Int) (fun (s, c) => [tO s, .int c]) (fun (s, c) => s.length ≤ 100 ∧ DrpO s c) (fun (s, c) => .dat (dPair (endsD s c.toNat)))
def pr_result_range : Pr := prV (α := List (Option Int) × Int) (fun (s, c) => [tO s, .int c]) (fun (s, c) => Seen s ∧ DrpO s c) (fun (s, c) => .dat (dPair (endsD s c.toNat)))
/-- the other mark of any kind -/
def pr_law_otherD : Pr := prV (α := List D × Int × D) (fun (xs, j, m) => [.tup xs, .int j, m]) (fun (xs, j, _) => xs.length ≤ 100 ∧ 0 ≤ j ∧ j < xs.length) (fun (xs, j, m) => .dat (.tup (xs.take j.toNat ++ [m] ++ xs.drop (j.toNat + 1))))
theorem okD_oD (o : Option Int) : okD (oD o) := by cases o <;> exact ⟨_, rfl⟩
theorem noRaw_oD (o : Option Int) : noRaw (oD o) = true := by cases o <;> rfl
theorem isNon_oD (o : Option Int) : DS.isNon (oD o) = o.isNone := by cases o <;> rfl
theorem notNon_oD (o : Option Int) : (!DS.isNon (oD o)) = o.isSome := by cases o <;> rfl
theorem mem_fillO {s : List (Option Int)} (h : ∀ m, some m ∈ s → 0 ≤ m ∧ m ≤ 1000) {k : Int} (hk : 0 ≤ k ∧ k ≤ 1000) : ∀ m ∈ fillO s k, 0 ≤ m ∧ m ≤ 1000 := fun m hm => by
  obtain ⟨o, ho, rfl⟩ := List.mem_map.mp hm
  cases o with
  | none => exact hk
  | some x => exact h x ho
theorem fillO_len (s : List (Option Int)) (k : Int) : (fillO s k).length = s.length := List.length_map ..
theorem seen_ok {s : List (Option Int)} (h : Seen s) {o : Option Int} (ho : o ∈ s) : (DS.isNon (oD o) || isFromD (oD o) 0 1000) = true := by
  cases o with
  | none => rfl
  | some m =>
    have := h.2.2 m ho
    simp [oD, DS.isNon, isFromD, this.1, this.2]
theorem replO_len (s : List (Option Int)) {j : Nat} (o : Option Int) (h : j < s.length) : (replO s j o).length = s.length := by
  unfold replO
  rw [List.length_append, List.length_append, List.length_take, List.length_drop, List.length_singleton]
  omega
theorem replO_D (s : List (Option Int)) (j : Nat) (o : Option Int) : (s.map oD).take j ++ [oD o] ++ (s.map oD).drop (j + 1) = (replO s j o).map oD := by
  simp [replO, List.map_take, List.map_drop]
theorem repl_D (ns : List Int) (j : Nat) (m : Int) : (ns.map D.int).take j ++ [D.int m] ++ (ns.map D.int).drop (j + 1) = (repl ns j m).map D.int := by
  simp [repl, List.map_take, List.map_drop]
theorem some_D (ns : List Int) : ns.map D.int = (ns.map some).map oD := by
  rw [List.map_map]
  rfl
theorem seen_replO {s : List (Option Int)} (h : Seen s) {j : Nat} (hj : j < s.length) {o : Option Int} (ho : ∀ m, o = some m → 0 ≤ m ∧ m ≤ 1000) : Seen (replO s j o) := by
  refine ⟨by rw [replO_len s o hj]; exact h.1, by rw [replO_len s o hj]; exact h.2.1, fun m hm => ?_⟩
  unfold replO at hm
  rcases List.mem_append.mp hm with q | q
  · rcases List.mem_append.mp q with q | q
    · exact h.2.2 m (List.mem_of_mem_take q)
    · exact ho m (List.mem_singleton.mp q).symm
  · exact h.2.2 m (List.mem_of_mem_drop q)
theorem seen_some {ns : List Int} (h : Pan ns) : Seen (ns.map some) := by
  refine ⟨by rw [List.length_map]; exact h.1, by rw [List.length_map]; exact h.2.1, fun m hm => ?_⟩
  obtain ⟨x, hx, e⟩ := List.mem_map.mp hm
  cases e
  exact h.2.2 m hx
theorem fillO_replO (s : List (Option Int)) (j : Nat) (o : Option Int) (k : Int) : fillO (replO s j o) k = repl (fillO s k) j (o.getD k) := by
  simp [fillO, replO, repl, List.map_take, List.map_drop]
theorem repl_self (ns : List Int) {j : Nat} (h : j < ns.length) : repl ns j (ns.getD j 0) = ns := by
  unfold repl
  rw [getD_at h, List.append_assoc, List.singleton_append, ← List.drop_eq_getElem_cons h, List.take_append_drop]
theorem noneC_replO (s : List (Option Int)) {j : Nat} (h : j < s.length) : noneC (replO s j none) ≤ noneC s + 1 := by
  have e : s = s.take j ++ s[j] :: s.drop (j + 1) := by rw [← List.drop_eq_getElem_cons h, List.take_append_drop]
  have e2 : noneC s = noneC (s.take j) + (noneC [s[j]] + noneC (s.drop (j + 1))) := by
    have q := congrArg noneC e
    unfold noneC at q ⊢
    rw [List.filter_append, List.length_append, ← List.singleton_append, List.filter_append, List.length_append] at q
    exact q
  have e3 : noneC (replO s j none) = noneC (s.take j) + 1 + noneC (s.drop (j + 1)) := by
    unfold noneC replO
    rw [List.filter_append, List.length_append, List.filter_append, List.length_append]
    rfl
  omega
theorem noneC_some (ns : List Int) : noneC (ns.map some) = 0 := by
  unfold noneC
  rw [List.filter_eq_nil_iff.mpr]
  · rfl
  · intro a ha
    obtain ⟨x, _, rfl⟩ := List.mem_map.mp ha
    simp
theorem seenL_len : ∀ s : List (Option Int), (seenL s).length + noneC s = s.length
  | [] => rfl
  | none :: s => by
    have := seenL_len s
    unfold seenL noneC at this ⊢
    simp only [List.filterMap_cons, List.filter_cons, Option.isNone_none, if_true, id_eq, List.length_cons]
    omega
  | some m :: s => by
    have := seenL_len s
    unfold seenL noneC at this ⊢
    simp only [List.filterMap_cons, List.filter_cons, Option.isNone_some, Bool.false_eq_true, if_false, id_eq, List.length_cons]
    omega
theorem seenL_map : ∀ s : List (Option Int), (s.filter (·.isSome)).map (fun o => D.int (o.getD 0)) = (seenL s).map D.int
  | [] => rfl
  | none :: s => by
    have := seenL_map s
    unfold seenL at this ⊢
    simpa using this
  | some m :: s => by
    have := seenL_map s
    unfold seenL at this ⊢
    simpa using this
theorem fillO_perm (k : Int) : ∀ s : List (Option Int), (fillO s k).Perm (List.replicate (noneC s) k ++ seenL s)
  | [] => List.Perm.refl _
  | none :: s => by
    have := fillO_perm k s
    have e : noneC (none :: s) = noneC s + 1 := rfl
    rw [e, List.replicate_succ]
    exact this.cons k
  | some m :: s => by
    have := fillO_perm k s
    have e : noneC (some m :: s) = noneC s := rfl
    rw [e]
    exact (this.cons m).trans List.perm_middle.symm
theorem mem_seenL {s : List (Option Int)} {m : Int} (h : m ∈ seenL s) : some m ∈ s := by
  unfold seenL at h
  obtain ⟨o, ho, e⟩ := List.mem_filterMap.mp h
  simp only [id_eq] at e
  rw [← e]; exact ho
theorem srt_fill0 {s : List (Option Int)} (h : ∀ m, some m ∈ s → 0 ≤ m ∧ m ≤ 1000) : srt (fillO s 0) = List.replicate (noneC s) 0 ++ srt (seenL s) := by
  symm
  refine srt_unique ((List.Perm.append_left _ (srt_perm _)).trans (fillO_perm 0 s).symm) ?_
  refine List.pairwise_append.mpr ⟨List.pairwise_replicate.mpr (.inr (Int.le_refl _)), srt_sorted _, fun a ha b hb => ?_⟩
  rw [(List.mem_replicate.mp ha).2]
  exact (h b (mem_seenL ((srt_perm _).mem_iff.mp hb))).1
theorem srt_fill1 {s : List (Option Int)} (h : ∀ m, some m ∈ s → 0 ≤ m ∧ m ≤ 1000) : srt (fillO s 1000) = srt (seenL s) ++ List.replicate (noneC s) 1000 := by
  symm
  refine srt_unique ((List.Perm.append_right _ (srt_perm _)).trans (List.perm_append_comm.trans (fillO_perm 1000 s).symm)) ?_
  refine List.pairwise_append.mpr ⟨srt_sorted _, List.pairwise_replicate.mpr (.inr (Int.le_refl _)), fun a ha b hb => ?_⟩
  rw [(List.mem_replicate.mp hb).2]
  exact (h a (mem_seenL ((srt_perm _).mem_iff.mp ha))).2
theorem clamp_mono (ns : List Int) (c : Nat) {x y : Int} (h : x ≤ y) : clampI ns c x ≤ clampI ns c y := by
  unfold clampI
  split <;> omega
theorem tot_mono {c : Nat} : ∀ (p xs ys : List Int), xs.length = ys.length → (∀ i, xs.getD i 0 ≤ ys.getD i 0) → 2 * c < p.length + xs.length → tot (p ++ xs) c ≤ tot (p ++ ys) c
  | p, [], [], _, _, _ => Int.le_refl _
  | p, x :: xs, y :: ys, hl, h, hc => by
    have h0 : x ≤ y := by simpa using h 0
    have hl' : xs.length = ys.length := by simpa using hl
    have hc' : 2 * c < p.length + (xs.length + 1) := by simpa using hc
    rw [List.length_cons] at hc
    have a1 : tot (p ++ x :: xs) c ≤ tot (p ++ y :: xs) c := by
      rw [tot_perm (List.perm_middle (a := x)) c, tot_perm (List.perm_middle (a := y)) c, tot_cons _ _ (by rw [List.length_append]; omega), tot_cons _ _ (by rw [List.length_append]; omega)]
      have := clamp_mono (p ++ xs) c h0
      omega
    have a2 := tot_mono (c := c) (p ++ [y]) xs ys hl' (fun i => by simpa using h (i + 1)) (by rw [List.length_append, List.length_singleton]; omega)
    rw [List.append_assoc, List.append_assoc] at a2
    exact Int.le_trans a1 a2
theorem replO_none (s : List (Option Int)) (j : Nat) : (s.map oD).take j ++ [D.non] ++ (s.map oD).drop (j + 1) = (replO s j none).map oD := replO_D s j none
theorem seen_dec {s : List (Option Int)} (h : (decide (1 ≤ s.length) && decide (s.length ≤ 12) && s.all (fun o => match o with | none => true | some m => decide (0 ≤ m) && decide (m ≤ 1000))) = true) : Seen s := by
  simp only [Bool.and_eq_true, decide_eq_true_eq, List.all_eq_true] at h
  refine ⟨h.1.1, h.1.2, fun m hm => ?_⟩
  have := h.2 _ hm
  simpa using this
theorem mapO_get {s : List (Option Int)} {i : Nat} {y : D} (h : (s.map oD)[i]? = some y) : ∃ o, s[i]? = some o ∧ y = oD o := by
  rw [List.getElem?_map] at h
  cases e : s[i]? with
  | none => rw [e] at h; cases h
  | some o => rw [e] at h; cases h; exact ⟨o, rfl, rfl⟩
theorem oD_none {o : Option Int} (h : DS.isNon (oD o) = true) : o = none := by cases o with
  | none => rfl
  | some x => cases h
theorem oD_some {o : Option Int} (h : DS.isNon (oD o) = false) : ∃ x, o = some x := by cases o with
  | none => cases h
  | some x => exact ⟨x, rfl⟩
theorem seen_len1 {s : List (Option Int)} (h : Seen s) : (!(true && (decide (1 ≤ ((s.map oD).length : Int)) && decide (((s.map oD).length : Int) ≤ 12)))) = false := by
  obtain ⟨h1, h2, _⟩ := h
  rw [List.length_map, decide_eq_true (by omega), decide_eq_true (by omega)]
  rfl
theorem seen_all {s : List (Option Int)} (h : Seen s) : (!((s.map fun o => (DS.isNon (oD o) || isFromD (oD o) 0 1000)).all id)) = false := by
  have e : (s.map fun o => (DS.isNon (oD o) || isFromD (oD o) 0 1000)).all id = true := by
    rw [List.all_map]
    exact List.all_eq_true.mpr fun o ho => seen_ok h ho
  rw [e]
  rfl
theorem fill_if (o : Option Int) (m : Int) : (if DS.isNon (oD o) = true then D.int m else oD o) = D.int (o.getD m) := by
  cases o <;> rfl

/-! ### results told back -/
theorem eqv_flat : True := trivial
mutual
theorem eqD_self' : ∀ {n : Nat} (d : D), Fit n d → PyData.eqv (toPy d) (toPy d) = true
  | _, .non, _ => by simp [toPy, PyData.eqv]
  | _, .bl b, _ => by simp [toPy, PyData.eqv]
  | _, .int i, _ => by simp [toPy, PyData.eqv]
  | _, .str x, _ => by simp [toPy, PyData.eqv]
  | 0, .tup xs, h => by unfold Fit at h; exact h.elim
  | 0, .lst xs, h => by unfold Fit at h; exact h.elim
  | n + 1, .tup xs, h => by unfold Fit at h; simp only [toPy, PyData.eqv]; exact eqD_selfs xs h
  | n + 1, .lst xs, h => by unfold Fit at h; simp only [toPy, PyData.eqv]; exact eqD_selfs xs h
  | 0, .raw v, h => by unfold Fit at h; exact h.elim
  | n + 1, .raw v, h => by unfold Fit at h; exact h.elim
theorem eqD_selfs : ∀ {n : Nat} (xs : List D), (∀ x ∈ xs, Fit n x) → PyData.eqvAll (toPys xs) (toPys xs) = true
  | _, [], _ => by simp [toPys, PyData.eqvAll]
  | _, x :: xs, h => by simp only [toPys, PyData.eqvAll, eqD_self' x (h x (List.mem_cons_self ..)), eqD_selfs xs fun y hy => h y (List.mem_cons_of_mem _ hy), Bool.and_self]
end
theorem eqD_self {n : Nat} {d : D} (h : Fit n d) : eqD d d = true := eqD_self' d h
theorem neD_self {n : Nat} {d : D} (h : Fit n d) : (!eqD d d) = false := by rw [eqD_self h]; rfl
def absI (i : Int) : Int := if i < 0 then -i else i
def pairSums (n : Nat) (res : List Int) : List Int :=
  let steps := (res.zip res.tail).map fun p => p.1 - p.2
  if n % 2 = 1 then steps else steps ++ [res.getD (res.length - 1) 0]
def midO (n : Nat) (res : List Int) : Option Int := if n % 2 = 1 then some (res.getD (res.length - 1) 0) else none
def base0 (s : Int) : Option Int → Int
  | none => s % 2
  | some m => absI (2 * m - s)
def gapsD : List Int → Option Int → List Int
  | [], _ => []
  | [s], m => [base0 s m]
  | s :: t :: r, m => ((gapsD (t :: r) m).headD 0 + absI (t - s)) :: gapsD (t :: r) m
theorem gapsD_len : ∀ (S : List Int) (m : Option Int), (gapsD S m).length = S.length
  | [], _ => rfl
  | [_], _ => rfl
  | s :: t :: r, m => by
    have := gapsD_len (t :: r) m
    unfold gapsD
    rw [List.length_cons, this]
    rfl
def slackD (S : List Int) (m : Option Int) : Int :=
  if S = [] then (if 0 ≤ m.getD 0 ∧ m.getD 0 ≤ 1000 then 0 else -1) else (min (S.headD 0) (2000 - S.headD 0) - (gapsD S m).headD 0) / 2
def gapsE (S : List Int) (m : Option Int) (E : List Int) : List Int := ((gapsD S m).zip E).map fun p => p.1 + 2 * p.2
def rowD (S : List Int) (m : Option Int) (E : List Int) : List Int :=
  ((S.zip (gapsE S m E)).map fun p => (p.1 - p.2) / 2) ++ m.toList ++ ((S.zip (gapsE S m E)).map fun p => (p.1 + p.2) / 2).reverse
def rangesD (S : List Int) (m : Option Int) (K : Int) : List (Int × Int) :=
  ((rowD S m (List.replicate S.length 0)).zip (rowD S m (List.replicate S.length K))).map fun p => (min p.1 p.2, max p.1 p.2)
def chooseD (m : Int) (f : Nat) : Int := (List.range f).foldl (fun acc (k : Nat) => acc * (m - (k : Int)) / ((k : Int) + 1)) 1
def slk (n : Nat) (res : List Int) : Int := slackD (pairSums n res) (midO n res)
def slackO (n : Nat) (res : List Int) : Option Int := if 0 ≤ slk n res then some (slk n res) else none
def countD (n : Nat) (res : List Int) : Int := if 0 ≤ slk n res then chooseD (slk n res + (pairSums n res).length) (pairSums n res).length else 0
def Ress (n : Int) (res : List Int) : Prop := 1 ≤ n ∧ n ≤ 12 ∧ res.length = ((n + 1) / 2).toNat ∧ ∀ r ∈ res, 0 ≤ r ∧ r ≤ 12000
def pr_need_results : Pr := prV (α := Int × List Int) (fun (n, res) => [.int n, tI res]) (fun (n, res) => Ress n res) (fun _ => .dat .non)
def pr_sums_of : Pr := prV (α := Int × List Int) (fun (n, res) => [.int n, tI res]) (fun (n, res) => 0 ≤ n ∧ 1 ≤ res.length ∧ res.length ≤ 100) (fun (n, res) => .dat (.tup [lI (pairSums n.toNat res), oD (midO n.toNat res)]))
/-- sums and middle as they come -/
def SM (S : List Int) (m : Option Int) : Prop := S.length ≤ 100 ∧ (S = [] → m.isSome = true)
def pr_least_gaps : Pr := prV (α := List Int × Option Int) (fun (S, m) => [lI S, oD m]) (fun (S, _) => S.length ≤ 100) (fun (S, m) => .new (.lst ((gapsD S m).map .int)))
def pr_slack_of : Pr := prV (α := List Int × Option Int) (fun (S, m) => [lI S, oD m]) (fun (S, m) => SM S m) (fun (S, m) => .dat (.int (slackD S m)))
def pr_need_slack : Pr := prV (α := Int × List Int) (fun (n, res) => [.int n, tI res]) (fun (n, res) => Ress n res ∧ 0 ≤ slk n.toNat res) (fun (n, res) => .dat (.tup [lI (pairSums n.toNat res), oD (midO n.toNat res), .int (slk n.toNat res)]))
def pr_slack : Pr := prV (α := Int × List Int) (fun (n, res) => [.int n, tI res]) (fun (n, res) => Ress n res) (fun (n, res) => .dat (oD (slackO n.toNat res)))
def pr_choose : Pr := prV (α := Int × Int) (fun (m, f) => [.int m, .int f]) (fun (m, f) => -1000000 ≤ m ∧ m ≤ 1000000 ∧ 0 ≤ f ∧ f ≤ 1000) (fun (m, f) => .dat (.int (chooseD m f.toNat)))
def pr_count_rows : Pr := prV (α := Int × List Int) (fun (n, res) => [.int n, tI res]) (fun (n, res) => Ress n res) (fun (n, res) => .dat (.int (countD n.toNat res)))
def pr_row_of : Pr := prV (α := List Int × Option Int × List Int) (fun (S, m, E) => [lI S, oD m, lI E]) (fun (S, _, E) => S.length ≤ 100 ∧ E.length = S.length) (fun (S, m, E) => .dat (tI (rowD S m E)))
def pr_ranges : Pr := prV (α := Int × List Int) (fun (n, res) => [.int n, tI res]) (fun (n, res) => Ress n res ∧ 0 ≤ slk n.toNat res) (fun (n, res) => .new (.lst ((rangesD (pairSums n.toNat res) (midO n.toNat res) (slk n.toNat res)).map fun p => dPair p)))
theorem zipD_ints : ∀ as bs : List Int, zipD (as.map D.int) (bs.map D.int) = (as.zip bs).map fun p => D.tup [.int p.1, .int p.2]
  | [], _ => by simp [zipD]
  | _ :: _, [] => by simp [zipD]
  | a :: as, b :: bs => by
    simp only [List.map_cons, zipD, List.zip_cons_cons, zipD_ints as bs]
theorem drop1_tail (xs : List Int) : xs.drop 1 = xs.tail := by cases xs <;> rfl
theorem ress_len {n : Int} {res : List Int} (h : Ress n res) : 1 ≤ res.length ∧ res.length ≤ 6 := by
  obtain ⟨h1, h2, h3, _⟩ := h
  omega
theorem ress_all {res : List Int} {n : Int} (h : Ress n res) : (!((res.map fun r => isFromD (.int r) 0 12000).all id)) = false := by
  have e : (res.map fun r => isFromD (.int r) 0 12000).all id = true := by
    rw [List.all_map]
    exact List.all_eq_true.mpr fun r hr => by
      have := h.2.2.2 r hr
      simp [isFromD, this.1, this.2]
  rw [e]
  rfl
theorem pairSums_len (n : Nat) (res : List Int) (h : 1 ≤ res.length) : (pairSums n res).length = if n % 2 = 1 then res.length - 1 else res.length := by
  unfold pairSums
  simp only
  split <;> simp <;> omega
theorem sums_odd {n : Int} {res : List Int} (h : eqD (.int (n % 2)) (.int 1) = true) (h0 : 0 ≤ n) : D.tup [.lst ((res.zip res.tail).map fun p => D.int (p.1 - p.2)), .int (res.getD (res.length - 1) 0)] = .tup [lI (pairSums n.toNat res), oD (midO n.toNat res)] := by
  rw [eqD_int] at h
  have h := of_decide_eq_true h
  unfold pairSums midO
  simp only
  rw [if_pos (by omega), if_pos (by omega)]
  simp [lI, oD]
theorem sums_even {n : Int} {res : List Int} (h : eqD (.int (n % 2)) (.int 1) = false) (h0 : 0 ≤ n) : D.tup [.lst (((res.zip res.tail).map fun p => D.int (p.1 - p.2)) ++ [.int (res.getD (res.length - 1) 0)]), .non] = .tup [lI (pairSums n.toNat res), oD (midO n.toNat res)] := by
  rw [eqD_int] at h
  have h := of_decide_eq_false h
  unfold pairSums midO
  simp only
  rw [if_neg (by omega), if_neg (by omega)]
  simp [lI, oD]
theorem rep_ints (n : Nat) (x : Int) : (List.replicate n [D.int x]).flatten = (List.replicate n x).map D.int := by
  induction n with
  | zero => rfl
  | succ n ih => rw [List.replicate_succ, List.flatten_cons, ih, List.replicate_succ]; rfl
theorem gapsE_map (S : List Int) (m : Option Int) (E : List Int) : (((gapsD S m).zip E).map fun p => D.int (p.1 + 2 * p.2)) = (gapsE S m E).map D.int := by
  simp [gapsE]
theorem row_tup (S : List Int) (m : Option Int) (E : List Int) (ms : List D) (h : ms = m.toList.map D.int) : D.tup ((((S.zip (gapsE S m E)).map fun p => D.int ((p.1 - p.2) / 2)) ++ ms) ++ ((S.zip (gapsE S m E)).map fun p => D.int ((p.1 + p.2) / 2)).reverse) = tI (rowD S m E) := by
  subst h
  simp [rowD, tI, Function.comp_def]
theorem getD_headD (xs : List Int) : xs.getD (Int.toNat 0) 0 = xs.headD 0 := by cases xs <;> rfl
theorem slack_val {S : List Int} {m : Option Int} (h : S ≠ []) : D.int ((min (S.getD (Int.toNat 0) 0) (2 * 1000 - S.getD (Int.toNat 0) 0) - (gapsD S m).getD (Int.toNat 0) 0) / 2) = .int (slackD S m) := by
  unfold slackD
  rw [if_neg h, getD_headD, getD_headD]
  rfl
theorem need_res {n : Int} {res : List Int} (h : Ress n res) : (!true || !eqD (.int ((res.map D.int).length : Nat)) (.int ((n + 1) / 2))) = false := by
  obtain ⟨h1, h2, h3, _⟩ := h
  rw [eqD_int, List.length_map, h3]
  simp
  omega
theorem zip_tail_ys (res : List Int) : zipD (res.map D.int) (cutA (res.map D.int) (some 1) none) = (res.zip res.tail).map fun p => D.tup [.int p.1, .int p.2] := by
  rw [cutA_map, cutA_from _ (by decide), show Int.toNat 1 = 1 from rfl, drop1_tail, zipD_ints]
theorem sm_of {n : Int} {res : List Int} (h : Ress n res) : SM (pairSums n.toNat res) (midO n.toNat res) := by
  have hl := ress_len h
  have hp := pairSums_len n.toNat res hl.1
  refine ⟨by split at hp <;> omega, fun e => ?_⟩
  rw [e] at hp
  unfold midO
  obtain ⟨h1, h2, h3, _⟩ := h
  split at hp
  · rename_i q
    rw [if_pos q]
    rfl
  · simp at hp
    omega
theorem slk_if {n : Nat} {res : List Int} : (if decide (0 ≤ slk n res) = true then D.int (slk n res) else D.non) = oD (slackO n res) := by
  unfold slackO
  by_cases h : 0 ≤ slk n res
  · rw [if_pos h, if_pos (decide_eq_true h)]
    rfl
  · rw [if_neg h, if_neg (by rw [decide_eq_false h]; decide)]
    rfl
theorem eqD_lnil (S : List Int) : eqD (lI S) (.lst []) = decide (S = []) := eqD_ints S []
theorem gaps_base {S : List Int} {m : Option Int} (h : S ≠ []) : gapsD (S.drop (S.length - 1)) m = [base0 (S.getD (S.length - 1) 0) m] := by
  have hl : S.length - 1 < S.length := by
    have := List.length_pos_iff.mpr h
    omega
  rw [List.drop_eq_getElem_cons hl, List.drop_eq_nil_of_le (by omega), getD_at hl]
  rfl
theorem gaps_step {S : List Int} {m : Option Int} {i : Nat} (h : i + 1 < S.length) : gapsD (S.drop (S.length - 1 - (i + 1))) m = ((gapsD (S.drop (S.length - 1 - i)) m).headD 0 + absI (S.reverse.getD i 0 - S.reverse.getD (i + 1) 0)) :: gapsD (S.drop (S.length - 1 - i)) m := by
  rw [rev_getD (by omega), rev_getD h, getD_at (show S.length - 1 - i < S.length by omega), getD_at (show S.length - 1 - (i + 1) < S.length by omega)]
  rw [List.drop_eq_getElem_cons (show S.length - 1 - (i + 1) < S.length by omega), show S.length - 1 - (i + 1) + 1 = S.length - 1 - i from by omega, List.drop_eq_getElem_cons (show S.length - 1 - i < S.length by omega)]
  rfl
theorem zip_rev_get {S : List Int} {i : Nat} {y : D} (h : (zipD (S.reverse.map D.int) ((S.reverse.drop 1).map D.int))[i]? = some y) : i + 1 < S.length ∧ y = .tup [.int (S.reverse.getD i 0), .int (S.reverse.getD (i + 1) 0)] := by
  rw [zipD_ints, List.getElem?_map] at h
  cases e : (S.reverse.zip (S.reverse.drop 1))[i]? with
  | none => rw [e] at h; cases h
  | some p =>
    rw [e] at h
    cases h
    obtain ⟨h1, h2⟩ := List.getElem?_zip_eq_some.mp e
    have hi1 := (List.getElem?_eq_some_iff.mp h1).1
    have hi2 := (List.getElem?_eq_some_iff.mp h2).1
    rw [List.length_drop, List.length_reverse] at hi2
    rw [List.length_reverse] at hi1
    refine ⟨by omega, ?_⟩
    rw [List.getElem?_drop] at h2
    rw [List.getD_eq_getElem?_getD, h1, List.getD_eq_getElem?_getD, Nat.add_comm i 1, h2]
    rfl
theorem absI_eq (i : Int) : (if i < 0 then -i else i) = absI i := rfl
theorem zip_len_rev (S : List Int) : (zipD (S.reverse.map D.int) ((S.reverse.drop 1).map D.int)).length = S.length - 1 := by
  rw [zipD_len, List.length_map, List.length_map, List.length_drop, List.length_reverse]
  omega
theorem slack_nil {m : Option Int} (h : m.isSome = true) : (if (decide (0 ≤ m.getD 0) && decide (m.getD 0 ≤ 1000)) = true then D.int 0 else D.int (-1)) = D.int (slackD [] m) := by
  unfold slackD
  rw [if_pos rfl]
  by_cases q : 0 ≤ m.getD 0 ∧ m.getD 0 ≤ 1000
  · rw [if_pos q, decide_eq_true q.1, decide_eq_true q.2]
    rfl
  · rw [if_neg q]
    by_cases q1 : 0 ≤ m.getD 0
    · rw [decide_eq_false (p := m.getD 0 ≤ 1000) (fun z => q ⟨q1, z⟩), Bool.and_false]
      rfl
    · rw [decide_eq_false q1]
      rfl
theorem choose_succ (m : Int) (k : Nat) : chooseD m k * (m - ((0 : Int) + (k : Nat))) / (((0 : Int) + (k : Nat)) + 1) = chooseD m (k + 1) := by
  unfold chooseD
  rw [List.range_succ, List.foldl_append, Int.zero_add]
  rfl
theorem gapsE_len (S : List Int) (m : Option Int) (E : List Int) (h : E.length = S.length) : (gapsE S m E).length = S.length := by
  unfold gapsE
  rw [List.length_map, List.length_zip, gapsD_len, h]
  omega
theorem rowD_len (S : List Int) (m : Option Int) (E : List Int) (h : E.length = S.length) : (rowD S m E).length ≤ 2 * S.length + 1 := by
  unfold rowD
  have := gapsE_len S m E h
  cases m <;> simp <;> omega
theorem slk_le {n : Int} {res : List Int} (h : Ress n res) : slk n.toNat res ≤ 1000 := by
  unfold slk slackD
  have key : ∀ (S : List Int) (m : Option Int), 0 ≤ (gapsD S m).headD 0 := by
    intro S
    induction S with
    | nil => intro m; exact Int.le_refl _
    | cons s r ih =>
      intro m
      cases r with
      | nil =>
        cases m with
        | none => show 0 ≤ s % 2; omega
        | some x => show 0 ≤ absI (2 * x - s); unfold absI; split <;> omega
      | cons t r =>
        have := ih m
        show 0 ≤ (gapsD (t :: r) m).headD 0 + absI (t - s)
        unfold absI
        split <;> omega
  have := key (pairSums n.toNat res) (midO n.toNat res)
  split
  · split <;> omega
  · omega
theorem cnt_if {n : Nat} {res : List Int} : (if decide (0 ≤ slackD (pairSums n res) (midO n res)) = true then D.int (chooseD (slackD (pairSums n res) (midO n res) + (((pairSums n res).map D.int).length : Nat)) ((((pairSums n res).map D.int).length : Nat) : Int).toNat) else D.int 0) = D.int (countD n res) := by
  unfold countD slk
  rw [List.length_map, Int.toNat_natCast]
  by_cases h : 0 ≤ slackD (pairSums n res) (midO n res)
  · rw [if_pos h, if_pos (decide_eq_true h)]
  · rw [if_neg h, if_neg (by rw [decide_eq_false h]; decide)]
theorem ne_nil_of {l : List Int} (h : (!eqD (.lst (l.map .int)) (.lst [])) = true) : l ≠ [] := fun e => by
  rw [show eqD (.lst (l.map .int)) (.lst []) = _ from eqD_ints l [], e] at h
  cases h
theorem nil_of {l : List Int} (h : (!eqD (.lst (l.map .int)) (.lst [])) = false) : l = [] := by
  rw [show eqD (.lst (l.map .int)) (.lst []) = _ from eqD_ints l []] at h
  simpa using h

/-! ### judges in another order -/
def rngI (n : Nat) : List Int := (List.range n).map fun (j : Nat) => (j : Int)
theorem rngI_len (n : Nat) : (rngI n).length = n := by simp [rngI]
theorem rngI_sorted (n : Nat) : (rngI n).Pairwise (· ≤ ·) := by
  unfold rngI
  refine List.pairwise_map.mpr ?_
  exact (List.pairwise_lt_range (n := n)).imp fun h => by omega
theorem rngD_ints (n : Nat) : rngD 0 n = (rngI n).map D.int := by
  simp [rngD, rngI]
theorem mem_rngI {n : Nat} {j : Int} : j ∈ rngI n ↔ 0 ≤ j ∧ j < n := by
  unfold rngI
  constructor
  · intro h
    obtain ⟨i, hi, rfl⟩ := List.mem_map.mp h
    have := List.mem_range.mp hi
    omega
  · intro h
    exact List.mem_map.mpr ⟨j.toNat, List.mem_range.mpr (by omega), by omega⟩
theorem rngI_nth (xs : List Int) : (rngI xs.length).map (nth xs) = xs := by
  apply List.ext_getElem
  · simp [rngI]
  · intro i h1 h2
    simp [rngI, nth, List.getD, h2]
def Ord (od : List Int) (n : Nat) : Prop := od.Perm (rngI n)
theorem ord_len {od : List Int} {n : Nat} (h : Ord od n) : od.length = n := by rw [h.length_eq, rngI_len]
theorem ord_mem {od : List Int} {n : Nat} (h : Ord od n) {j : Int} (hj : j ∈ od) : 0 ≤ j ∧ j < n := mem_rngI.mp (h.mem_iff.mp hj)
def placed (ns od : List Int) : List Int := od.map (nth ns)
theorem placed_perm {ns od : List Int} (h : Ord od ns.length) : (placed ns od).Perm ns := by
  have := h.map (nth ns)
  rwa [rngI_nth] at this
theorem placed_len {ns od : List Int} (h : Ord od ns.length) : (placed ns od).length = ns.length := (placed_perm h).length_eq
theorem pan_perm {xs ys : List Int} (h : xs.Perm ys) (hy : Pan ys) : Pan xs := ⟨by rw [h.length_eq]; exact hy.1, by rw [h.length_eq]; exact hy.2.1, fun m hm => hy.2.2 m (h.mem_iff.mp hm)⟩
theorem nth_placed {ns od : List Int} {p : Nat} (hp : p < od.length) : nth (placed ns od) (p : Int) = nth ns (nth od (p : Int)) := by
  unfold placed
  have e : nth (od.map (nth ns)) (p : Int) = (od.map (nth ns))[p]'(by rw [List.length_map]; exact hp) := by
    unfold nth
    rw [Int.toNat_natCast, getD_at]
  rw [e, List.getElem_map]
  congr 1
  unfold nth
  rw [Int.toNat_natCast, getD_at hp]
theorem allRes_perm {xs ys : List Int} (h : xs.Perm ys) : allRes xs = allRes ys := by
  unfold allRes
  rw [h.length_eq]
  exact List.map_congr_left fun i _ => tot_perm h i
/-- a choice of judges by their marks goes along -/
theorem moved_filter {ns od : List Int} (h : Ord od ns.length) (A : Int → Bool) : srt (((rngI ns.length).filter fun p => A (nth (placed ns od) p)).map (nth od)) = (rngI ns.length).filter fun j => A (nth ns j) := by
  have hl := ord_len h
  have e : ((rngI ns.length).filter fun p => A (nth (placed ns od) p)).map (nth od) = od.filter fun j => A (nth ns j) := by
    have e1 : ((rngI ns.length).filter fun p => A (nth (placed ns od) p)) = (rngI ns.length).filter ((fun j => A (nth ns j)) ∘ nth od) := by
      refine List.filter_congr fun p hp => ?_
      obtain ⟨q1, q2⟩ := mem_rngI.mp hp
      have := nth_placed (ns := ns) (od := od) (p := p.toNat) (by omega)
      rw [show ((p.toNat : Nat) : Int) = p from by omega] at this
      simp only [Function.comp_apply, this]
    rw [e1, ← List.filter_map, ← hl, rngI_nth]
  rw [e]
  refine (srt_unique ?_ ((rngI_sorted _).filter _)).symm
  exact (h.filter _).symm
theorem sureD_A (ns : List Int) (c : Int) : sureD ns c = (rngI ns.length).filter fun j => (decide (cntB ns (fun m => decide (m ≤ nth ns j)) ≤ c) || decide (cntB ns (fun m => decide (nth ns j ≤ m)) ≤ c)) := rfl
theorem possD_A (ns : List Int) (c : Int) : possD ns c = (rngI ns.length).filter fun j => (decide (cntB ns (fun m => decide (m < nth ns j)) < c) || decide (cntB ns (fun m => decide (nth ns j < m)) < c)) := rfl
theorem sureD_moved {ns od : List Int} (h : Ord od ns.length) (c : Int) : srt ((sureD (placed ns od) c).map (nth od)) = sureD ns c := by
  have hp := placed_perm h
  rw [sureD_A, sureD_A, placed_len h]
  simp only [cntB_perm hp]
  exact moved_filter h fun v => (decide (cntB ns (fun m => decide (m ≤ v)) ≤ c) || decide (cntB ns (fun m => decide (v ≤ m)) ≤ c))
theorem possD_moved {ns od : List Int} (h : Ord od ns.length) (c : Int) : srt ((possD (placed ns od) c).map (nth od)) = possD ns c := by
  have hp := placed_perm h
  rw [possD_A, possD_A, placed_len h]
  simp only [cntB_perm hp]
  exact moved_filter h fun v => (decide (cntB ns (fun m => decide (m < v)) < c) || decide (cntB ns (fun m => decide (v < m)) < c))
theorem self_perm (ns : List Int) {j : Nat} (h : j < ns.length) : ns.Perm (ns.getD j 0 :: rest ns j) := by
  have := repl_perm ns j (ns.getD j 0)
  rwa [repl_self ns h] at this
theorem rest_placed {ns od : List Int} (h : Ord od ns.length) {p : Nat} (hp : p < od.length) : (rest (placed ns od) p).Perm (rest ns (nth od (p : Int)).toNat) := by
  have hl := ord_len h
  have hm : nth od (p : Int) ∈ od := by
    unfold nth
    rw [Int.toNat_natCast, getD_at hp]
    exact List.getElem_mem hp
  obtain ⟨q1, q2⟩ := ord_mem h hm
  have a1 := self_perm (placed ns od) (j := p) (by rw [placed_len h]; omega)
  have a2 := self_perm ns (j := (nth od (p : Int)).toNat) (by omega)
  have e : (placed ns od).getD p 0 = ns.getD (nth od (p : Int)).toNat 0 := by
    have := nth_placed (ns := ns) (od := od) hp
    unfold nth at this ⊢
    rwa [Int.toNat_natCast] at this
  rw [e] at a1
  exact (a1.symm.trans ((placed_perm h).trans a2)).cons_inv
theorem cutsD_placed {ns od : List Int} (h : Ord od ns.length) {p : Nat} (hp : p < od.length) (c : Nat) : cutsD (placed ns od) c p = cutsD ns c (nth od (p : Int)).toNat := by
  have hl := ord_len h
  have hm : nth od (p : Int) ∈ od := by
    unfold nth
    rw [Int.toNat_natCast, getD_at hp]
    exact List.getElem_mem hp
  obtain ⟨q1, q2⟩ := ord_mem h hm
  rw [cutsD_rest _ (by rw [placed_len h]; omega), cutsD_rest _ (by omega), srt_eq_of_perm (rest_placed h hp), (rest_placed h hp).length_eq]
theorem mapI_at (l : List Int) {i : Nat} (h : i < l.length) : (l.map D.int)[i]? = some (.int (l.getD i 0)) := by
  rw [List.getElem?_map, List.getElem?_eq_getElem h, getD_at h]
  rfl
theorem eraseMap (l : List Int) (i : Nat) : (l.map D.int).eraseIdx i = (l.eraseIdx i).map D.int := by
  induction l generalizing i with
  | nil => rfl
  | cons x xs ih =>
    cases i with
    | zero => rfl
    | succ i => simp [ih i]
theorem mixed_step {F l L : List Int} {i : Nat} (h : (F ++ l).Perm L) (hi : i < l.length) : ((F ++ [l.getD i 0]) ++ l.eraseIdx i).Perm L := by
  refine List.Perm.trans ?_ h
  rw [List.append_assoc]
  refine List.Perm.append_left F ?_
  have e : l.eraseIdx i = rest l i := List.eraseIdx_eq_take_drop_succ ..
  rw [e]
  exact (self_perm l hi).symm
theorem erase_len (l : List Int) {i : Nat} (h : i < l.length) : (l.eraseIdx i).length = l.length - 1 := by
  rw [List.length_eraseIdx]
  split <;> omega
def pr_law_mixed : Pr := prN (α := Int × Int × Int × List Int) (fun (a, b, t, _) => [dk a b t]) (fun (_, _, _, l) => [lI l]) (fun (a, b, t, l) => Dk a b (t + 20) ∧ 0 ≤ t ∧ l.length ≤ 12) (fun (a, b, t, l) r os' => ∃ (od : List Int) (a' t' : Int), r = .new (.lst (od.map .int)) ∧ od.Perm l ∧ os' = [dk a' b t'] ∧ 0 ≤ a' ∧ t ≤ t' ∧ t' ≤ t + 12)
def pr_law_hidden : Pr := prN (α := Int × Int × Int × List Int) (fun (a, b, t, _) => [dk a b t]) (fun (_, _, _, ns) => [tI ns]) (fun (a, b, t, ns) => Dk a b (t + 20) ∧ 0 ≤ t ∧ Pan ns) (fun (a, b, t, ns) r os' => ∃ (s : List (Option Int)) (a' t' : Int), r = .dat (tO s) ∧ s.length = ns.length ∧ Seen s ∧ (∀ i m, s[i]? = some (some m) → ns.getD i 0 = m) ∧ os' = [dk a' b t'] ∧ 0 ≤ a' ∧ t ≤ t' ∧ t' ≤ t + 13)
theorem ints_get {ns : List Int} {i : Nat} {y : D} (h : (ns.map D.int)[i]? = some y) : i < ns.length ∧ y = .int (ns.getD i 0) := by
  rw [List.getElem?_map] at h
  cases e : ns[i]? with
  | none => rw [e] at h; cases h
  | some x =>
    rw [e] at h
    cases h
    refine ⟨(List.getElem?_eq_some_iff.mp e).1, ?_⟩
    rw [List.getD_eq_getElem?_getD, e]
    rfl
/-- the first n marks, some of them hidden -/
def Hid (ns : List Int) (n : Nat) (s : List (Option Int)) : Prop := s.length = n ∧ n ≤ ns.length ∧ (∀ m, some m ∈ s → m ∈ ns) ∧ ∀ i m, s[i]? = some (some m) → ns.getD i 0 = m
theorem hid_nil (ns : List Int) : Hid ns 0 [] := ⟨rfl, Nat.zero_le _, fun m h => (by cases h), fun i m h => (by simp at h)⟩
theorem hid_step {ns : List Int} {n : Nat} {s : List (Option Int)} {o : Option Int} (h : Hid ns n s) (hn : n < ns.length) (ho : ∀ m, o = some m → ns.getD n 0 = m) : Hid ns (n + 1) (s ++ [o]) := by
  refine ⟨by rw [List.length_append, h.1]; rfl, hn, fun m hm => ?_, fun i m hi => ?_⟩
  · rcases List.mem_append.mp hm with q | q
    · exact h.2.2.1 m q
    · have q := (List.mem_singleton.mp q).symm
      rw [← ho m q, getD_at hn]
      exact List.getElem_mem hn
  · by_cases hl : i < s.length
    · rw [List.getElem?_append_left hl] at hi
      exact h.2.2.2 i m hi
    · rw [List.getElem?_append_right (by omega)] at hi
      cases e : i - s.length with
      | zero =>
        rw [e] at hi
        have e2 : i = n := by have := h.1; omega
        subst e2
        exact ho m (by simpa using hi)
      | succ k => rw [e] at hi; simp at hi
theorem hid_none {ns : List Int} {n : Nat} {s : List (Option Int)} (h : Hid ns n s) (hn : n < ns.length) : Hid ns (n + 1) (s ++ [none]) := hid_step h hn fun m z => by cases z
theorem hid_some {ns : List Int} {n : Nat} {s : List (Option Int)} (h : Hid ns n s) (hn : n < ns.length) : Hid ns (n + 1) (s ++ [some (ns.getD n 0)]) := hid_step h hn fun m z => by cases z; rfl
theorem hid_len {ns : List Int} {s : List (Option Int)} (h : Hid ns ns.length s) : s.length = ns.length := h.1
theorem hid_seen {ns : List Int} (hP : Pan ns) {s : List (Option Int)} (h : Hid ns ns.length s) : Seen s := ⟨by rw [h.1]; exact hP.1, by rw [h.1]; exact hP.2.1, fun m hm => hP.2.2 m (h.2.2.1 m hm)⟩
theorem app_none (s : List (Option Int)) : s.map oD ++ [D.non] = (s ++ [none]).map oD := by simp [oD]
theorem app_some (s : List (Option Int)) (x : Int) : s.map oD ++ [D.int x] = (s ++ [some x]).map oD := by simp [oD]

def pr_need_result : Pr := prV (α := Int) (fun w => [.int w]) (fun w => 0 ≤ w ∧ w ≤ 12000) (fun _ => .dat .non)
def pr_placed : Pr := prV (α := List (Option Int) × Int × Int) (fun (s, j, m) => [tO s, .int j, .int m]) (fun (s, j, m) => s.length ≤ 100 ∧ 0 ≤ j ∧ j < s.length) (fun (s, j, m) => .dat (tO (replO s j.toNat (some m))))
def lowT (s : List (Option Int)) (c j : Nat) (w m : Int) : Bool := decide (w ≤ (endsD (replO s j (some m)) c).2)
def highT (s : List (Option Int)) (c j : Nat) (w m : Int) : Bool := decide (w < (endsD (replO s j (some m)) c).1)
def mrP (s : List (Option Int)) (c : Nat) (w : Int) (j : Nat) : Int × Int :=
  match s.getD j none with
  | some m => (m, m)
  | none => (firstOf (lowT s c j w) 0 1000, firstOf (highT s c j w) 0 1000 - 1)
def mrsL (s : List (Option Int)) (c : Nat) (w : Int) (n : Nat) : List (Int × Int) := (List.range n).map (mrP s c w)
def pr_mark_ranges : Pr := prV (α := List (Option Int) × Int × Int) (fun (s, c, w) => [tO s, .int c, .int w]) (fun (s, c, w) => Seen s ∧ DrpO s c ∧ 0 ≤ w ∧ w ≤ 12000 ∧ (endsD s c.toNat).1 ≤ w ∧ w ≤ (endsD s c.toNat).2) (fun (s, c, w) => .new (.lst ((mrsL s c.toNat w s.length).map fun p => dPair p)))
theorem mrsL_succ_s {s : List (Option Int)} {c n : Nat} {w m : Int} (h : s[n]? = some (some m)) : ((mrsL s c w n).map fun p => dPair p) ++ [dPair (m, m)] = (mrsL s c w (n + 1)).map fun p => dPair p := by
  have : mrP s c w n = (m, m) := by unfold mrP; rw [List.getD_eq_getElem?_getD, h]; rfl
  unfold mrsL
  rw [List.range_succ, List.map_append, List.map_append, List.map_cons, this]
  rfl
theorem mrsL_succ_n {s : List (Option Int)} {c n : Nat} {w : Int} (h : s[n]? = some none) : ((mrsL s c w n).map fun p => dPair p) ++ [dPair (firstOf (lowT s c n w) 0 1000, firstOf (highT s c n w) 0 1000 - 1)] = (mrsL s c w (n + 1)).map fun p => dPair p := by
  have : mrP s c w n = (firstOf (lowT s c n w) 0 1000, firstOf (highT s c n w) 0 1000 - 1) := by unfold mrP; rw [List.getD_eq_getElem?_getD, h]; rfl
  unfold mrsL
  rw [List.range_succ, List.map_append, List.map_append, List.map_cons, this]
  rfl
theorem enumO_get {s : List (Option Int)} {i : Nat} {y : D} (h : (enumD 0 (s.map oD))[i]? = some y) : ∃ o, s[i]? = some o ∧ y = .tup [.int ((i : Nat) : Int), oD o] := by
  obtain ⟨d, hd, rfl⟩ := enumD_get 0 _ h
  obtain ⟨o, ho, rfl⟩ := mapO_get hd
  exact ⟨o, ho, by rw [Nat.zero_add]⟩
theorem enumD_lenO (s : List (Option Int)) : (enumD 0 (s.map oD)).length = s.length := by
  rw [enumD_len, List.length_map]
theorem wish_in {s : List (Option Int)} {c : Nat} {w : Int} (h1 : (endsD s c).1 ≤ w) (h2 : w ≤ (endsD s c).2) : (!(decide ((endsD s c).1 ≤ w) && decide (w ≤ (endsD s c).2))) = false := by
  rw [decide_eq_true h1, decide_eq_true h2]; rfl
theorem repl_oD (s : List (Option Int)) {j : Int} (m : Int) (h : 0 ≤ j) : cutA (s.map oD) none (some j) ++ [D.int m] ++ cutA (s.map oD) (some (j + 1)) none = (replO s j.toNat (some m)).map oD := by
  rw [cutA_to _ h, cutA_from _ (by omega), show (j + 1).toNat = j.toNat + 1 from by omega]
  exact replO_D s j.toNat (some m)
theorem wss_fd [Tbs] {C : DX} {X : Cx} {sts : List Stmt} {δ : De} {μ : Mu} {E : DE} {i k : Nat} {xs : List D} (hi : δ[i]? = some (some (.loc k))) (hk : μ[k]? = some (.lst xs)) (h : WSs C X sts (δ.set i (some (.d (.lst xs)))) (μ.set k (.frz xs)) E) : WSs C X sts δ μ E := fun F0 F H as σ A => by
  obtain ⟨a, ha⟩ := A.get hk
  obtain ⟨F', _, A', r⟩ := A.freeze hk ha
  refine h F0 F' H as σ ⟨A'.f0, A'.fr, A'.rH, A'.fH, A'.las, A'.pre, A'.nd, A'.own, A'.frz, by rw [List.length_set]; exact A'.lσ, fun j sv hj => ?_, A'.fT, A'.rT, A'.tb⟩
  by_cases e : j = i
  · subst e
    rw [List.getElem?_set_self (List.getElem?_eq_some_iff.mp hi).1] at hj
    cases hj
    obtain ⟨v, hv, ok⟩ := A'.val j _ hi
    refine ⟨v, hv, ?_⟩
    have : v = .ref a := by
      obtain ⟨b, hb, e⟩ := ok
      rw [ha] at hb
      cases hb
      exact e
    subst this
    exact r
  · rw [List.getElem?_set_ne (fun z => e z.symm)] at hj
    exact A'.val j sv hj
/-! ### the law's own helpers -/
def idxI : List Int → Int → Nat
  | [], _ => 0
  | x :: xs, j => if x = j then 0 else idxI xs j + 1
theorem idxI_at : ∀ {od : List Int} {j : Int}, j ∈ od → od[idxI od j]? = some j ∧ ∀ m : Nat, m < idxI od j → od[m]? ≠ some j
  | x :: xs, j, h => by
    unfold idxI
    by_cases e : x = j
    · rw [if_pos e]
      exact ⟨by rw [e]; rfl, fun m hm => by omega⟩
    · rw [if_neg e]
      rcases List.mem_cons.mp h with q | q
      · exact absurd q.symm e
      · obtain ⟨h1, h2⟩ := idxI_at q
        refine ⟨by simpa using h1, fun m hm => ?_⟩
        cases m with
        | zero => simpa using e
        | succ m => simpa using h2 m (by omega)
theorem idxI_of {od : List Int} (nd : od.Nodup) {p : Nat} (hp : p < od.length) : idxI od od[p] = p := by
  obtain ⟨h1, _⟩ := idxI_at (List.getElem_mem hp)
  obtain ⟨h2, e⟩ := List.getElem?_eq_some_iff.mp h1
  exact (List.getElem_inj nd).mp e
theorem rngI_nodup (n : Nat) : (rngI n).Nodup := by
  unfold rngI
  refine List.pairwise_map.mpr ?_
  exact (List.pairwise_lt_range (n := n)).imp fun h e => by omega
theorem ord_nodup {od : List Int} {n : Nat} (h : Ord od n) : od.Nodup := h.nodup_iff.mpr (rngI_nodup n)
def movedI (js od : List Int) : List Int := srt (js.map fun j => ((idxI od j : Nat) : Int))
theorem movedI_len (js od : List Int) : (movedI js od).length = js.length := by unfold movedI; rw [srt_len, List.length_map]
def pr_law_placed : Pr := prV (α := D × List D × List Int) (fun (x, _, od) => [x, lI od]) (fun (x, xs, od) => (x = .tup xs ∨ x = .lst xs) ∧ od.length ≤ 100 ∧ ∀ j ∈ od, 0 ≤ j ∧ j < xs.length) (fun (_, xs, od) => .dat (.tup (od.map fun j => xs.getD j.toNat .non)))
def pr_law_moved : Pr := prV (α := List Int × List Int) (fun (js, od) => [lI js, lI od]) (fun (js, od) => js.length ≤ 100 ∧ od.length ≤ 100 ∧ ∀ j ∈ js, j ∈ od) (fun (js, od) => .new (.lst ((movedI js od).map .int)))
def pr_law_judges_right : Pr := prV (α := List Int × List Int × Int × Int) (fun (ns, od, c, w) => [tI ns, tI (placed ns od), lI od, .int c, .int w]) (fun (ns, od, c, w) => Pan ns ∧ Drp ns c ∧ Ord od ns.length ∧ 0 ≤ w ∧ w ≤ 12000) (fun _ => .dat (.bl true))
theorem moved_sorted {n : Nat} {od : List Int} (h : Ord od n) {S S' : List Int} (hs : S'.Pairwise (· ≤ ·)) (hS : ∀ p ∈ S', 0 ≤ p ∧ p < n) (e : srt (S'.map (nth od)) = S) : movedI S od = S' := by
  have hl := ord_len h
  unfold movedI
  refine (srt_unique ?_ hs).symm
  have p1 : S.Perm (S'.map (nth od)) := by rw [← e]; exact srt_perm _
  refine List.Perm.trans ?_ (p1.map fun j => ((idxI od j : Nat) : Int)).symm
  rw [List.map_map]
  have : S'.map ((fun j => ((idxI od j : Nat) : Int)) ∘ nth od) = S' := by
    have q : ∀ p ∈ S', ((fun j => ((idxI od j : Nat) : Int)) ∘ nth od) p = id p := fun p hp => by
      obtain ⟨q1, q2⟩ := hS p hp
      have hlt : p.toNat < od.length := by omega
      show ((idxI od (nth od p) : Nat) : Int) = p
      have e3 : nth od p = od[p.toNat] := by unfold nth; rw [getD_at hlt]
      rw [e3, idxI_of (ord_nodup h) hlt]
      omega
    rw [List.map_congr_left q, List.map_id]
  rw [this]
theorem sure_back {ns od : List Int} (h : Ord od ns.length) (c : Int) : movedI (sureD ns c) od = sureD (placed ns od) c := by
  refine moved_sorted h ((rngI_sorted _).filter _) (fun p hp => ?_) (sureD_moved h c)
  have := mem_rngI.mp (List.mem_filter.mp hp).1
  rwa [placed_len h] at this
theorem poss_back {ns od : List Int} (h : Ord od ns.length) (c : Int) : movedI (possD ns c) od = possD (placed ns od) c := by
  refine moved_sorted h ((rngI_sorted _).filter _) (fun p hp => ?_) (possD_moved h c)
  have := mem_rngI.mp (List.mem_filter.mp hp).1
  rwa [placed_len h] at this
theorem nth_mem {od : List Int} {n p : Nat} (h : Ord od n) (hp : p < n) : 0 ≤ nth od (p : Int) ∧ nth od (p : Int) < n := by
  have hl := ord_len h
  refine ord_mem h ?_
  unfold nth
  rw [Int.toNat_natCast, getD_at (by omega)]
  exact List.getElem_mem _
theorem repl_placed {ns od : List Int} (h : Ord od ns.length) {p : Nat} (hp : p < ns.length) (m : Int) (c : Nat) : tot (repl (placed ns od) p m) c = tot (repl ns (nth od (p : Int)).toNat m) c := by
  have hl := ord_len h
  refine tot_perm ?_ c
  exact (repl_perm _ _ _).trans (((rest_placed h (by omega)).cons m).trans (repl_perm _ _ _).symm)
theorem turnB_placed {a b od : List Int} (h : Ord od a.length) (hl : a.length = b.length) {p : Nat} (hp : p < a.length) (c : Nat) : turnB (placed a od) (placed b od) c p = turnB a b c (nth od (p : Int)).toNat := by
  unfold turnB
  rw [repl_placed h hp, repl_placed (by rw [← hl]; exact h) (by omega)]
theorem turnD_A (a b : List Int) (c : Nat) : turnD a b c = (rngI a.length).filter fun j => turnB a b c j.toNat := by
  unfold turnD rngI
  rw [List.filter_map]
  congr 1
theorem turn_back {a b od : List Int} (h : Ord od a.length) (hl : a.length = b.length) (c : Nat) : movedI (turnD a b c) od = turnD (placed a od) (placed b od) c := by
  have hol := ord_len h
  have e : srt ((turnD (placed a od) (placed b od) c).map (nth od)) = turnD a b c := by
    rw [turnD_A, turnD_A, placed_len h]
    have e1 : ((rngI a.length).filter fun j => turnB (placed a od) (placed b od) c j.toNat) = (rngI a.length).filter ((fun j => turnB a b c j.toNat) ∘ nth od) := by
      refine List.filter_congr fun p hp => ?_
      obtain ⟨q1, q2⟩ := mem_rngI.mp hp
      have := turnB_placed h hl (p := p.toNat) (by omega) c
      rw [show ((p.toNat : Nat) : Int) = p from by omega] at this
      exact this
    rw [e1, ← List.filter_map]
    have e2 : (rngI a.length).map (nth od) = od := by rw [← hol]; exact rngI_nth od
    rw [e2]
    exact (srt_unique (h.filter _).symm ((rngI_sorted _).filter _)).symm
  refine moved_sorted h ?_ (fun p hp => ?_) e
  · rw [turnD_A]
    exact (rngI_sorted _).filter _
  · rw [turnD_A] at hp
    have := mem_rngI.mp (List.mem_filter.mp hp).1
    rwa [placed_len h] at this
theorem leadsD_placed {a b od : List Int} (h : Ord od a.length) (hl : a.length = b.length) : leadsD (placed a od) (placed b od) = leadsD a b := by
  unfold leadsD
  rw [placed_len h]
  refine List.map_congr_left fun c _ => ?_
  rw [tot_perm (placed_perm h), tot_perm (placed_perm (by rw [← hl]; exact h))]
theorem mrD_placed {ns od : List Int} (h : Ord od ns.length) {p : Nat} (hp : p < ns.length) (c : Nat) (w : Int) : mrD (placed ns od) c p w = mrD ns c (nth od (p : Int)).toNat w := by
  have hl := ord_len h
  unfold mrD
  rw [cutsD_placed h (by omega)]
  simp only
  rw [repl_placed h hp]
/-! ### unseen marks in another order -/
def placedO (s : List (Option Int)) (od : List Int) : List (Option Int) := od.map fun j => s.getD j.toNat none
theorem placedO_len (s : List (Option Int)) (od : List Int) : (placedO s od).length = od.length := List.length_map ..
theorem getD_oD (s : List (Option Int)) (j : Nat) : (s.map oD).getD j .non = oD (s.getD j none) := by
  rw [List.getD_eq_getElem?_getD, List.getD_eq_getElem?_getD, List.getElem?_map]
  cases s[j]? <;> rfl
theorem placedO_D (s : List (Option Int)) (od : List Int) : (od.map fun j => (s.map oD).getD j.toNat .non) = (placedO s od).map oD := by
  unfold placedO
  rw [List.map_map]
  exact List.map_congr_left fun j _ => getD_oD s j.toNat
theorem fill_placed (s : List (Option Int)) {od : List Int} (h : Ord od s.length) (k : Int) : fillO (placedO s od) k = placed (fillO s k) od := by
  unfold fillO placedO placed
  rw [List.map_map]
  refine List.map_congr_left fun j hj => ?_
  obtain ⟨q1, q2⟩ := ord_mem h hj
  show (s.getD j.toNat none).getD k = nth (s.map fun o => o.getD k) j
  unfold nth
  rw [List.getD_eq_getElem?_getD, List.getD_eq_getElem?_getD, List.getElem?_map, List.getElem?_eq_getElem (show j.toNat < s.length by omega)]
  rfl
theorem endsD_placed (s : List (Option Int)) {od : List Int} (h : Ord od s.length) (c : Nat) : endsD (placedO s od) c = endsD s c := by
  unfold endsD
  rw [fill_placed s h, fill_placed s h, tot_perm (placed_perm (by rw [fillO_len]; exact h)), tot_perm (placed_perm (by rw [fillO_len]; exact h))]
theorem endsD_repl_placed (s : List (Option Int)) {od : List Int} (h : Ord od s.length) {p : Nat} (hp : p < s.length) (m : Int) (c : Nat) : endsD (replO (placedO s od) p (some m)) c = endsD (replO s (nth od (p : Int)).toNat (some m)) c := by
  unfold endsD
  rw [fillO_replO, fillO_replO, fillO_replO, fillO_replO, fill_placed s h, fill_placed s h, repl_placed (by rw [fillO_len]; exact h) (by rw [fillO_len]; exact hp), repl_placed (by rw [fillO_len]; exact h) (by rw [fillO_len]; exact hp)]
theorem mrP_placed (s : List (Option Int)) {od : List Int} (h : Ord od s.length) {p : Nat} (hp : p < s.length) (c : Nat) (w : Int) : mrP (placedO s od) c w p = mrP s c w (nth od (p : Int)).toNat := by
  have hl := ord_len h
  have e : (placedO s od).getD p none = s.getD (nth od (p : Int)).toNat none := by
    unfold placedO nth
    rw [List.getD_eq_getElem?_getD, List.getElem?_map, List.getElem?_eq_getElem (show p < od.length by omega), Int.toNat_natCast, getD_at (show p < od.length by omega)]
    rfl
  have e1 : lowT (placedO s od) c p w = lowT s c (nth od (p : Int)).toNat w := by funext m; unfold lowT; rw [endsD_repl_placed s h hp]
  have e2 : highT (placedO s od) c p w = highT s c (nth od (p : Int)).toNat w := by funext m; unfold highT; rw [endsD_repl_placed s h hp]
  unfold mrP
  rw [e, e1, e2]
theorem mrs_placed (s : List (Option Int)) {od : List Int} (h : Ord od s.length) (c : Nat) (w : Int) : ((mrsL (placedO s od) c w s.length).map fun p => dPair p) = od.map fun j => ((mrsL s c w s.length).map fun p => dPair p).getD j.toNat .non := by
  have hl := ord_len h
  apply List.ext_getElem
  · simp [mrsL, hl]
  · intro p h1 h2
    have hp : p < s.length := by simpa [mrsL] using h1
    have e3 : nth od (p : Int) = od[p]'(by omega) := by unfold nth; rw [Int.toNat_natCast, getD_at (by omega)]
    obtain ⟨q1, q2⟩ := nth_mem h hp
    rw [List.getElem_map, List.getElem_map, ← e3]
    unfold mrsL
    rw [List.getElem_map, List.getElem_range, mrP_placed s h hp, List.getD_eq_getElem?_getD, List.getElem?_map, List.getElem?_map, List.getElem?_range (show (nth od (p : Int)).toNat < s.length by omega)]
    rfl
theorem ends_of {ns : List Int} {s : List (Option Int)} (hl : s.length = ns.length) (hn : ∀ m ∈ ns, 0 ≤ m ∧ m ≤ 1000) (h : ∀ i m, s[i]? = some (some m) → ns.getD i 0 = m) {c : Nat} (hc : 2 * c < ns.length) : (endsD s c).1 ≤ tot ns c ∧ tot ns c ≤ (endsD s c).2 := by
  have key : ∀ k i, i < ns.length → (k = 0 → (fillO s k).getD i 0 ≤ ns.getD i 0) ∧ (k = 1000 → ns.getD i 0 ≤ (fillO s k).getD i 0) := fun k i hi => by
    have hm := getD_marks hn hi
    have hi2 : i < s.length := by omega
    have e : (fillO s k).getD i 0 = (s[i]).getD k := by
      rw [getD_at (by rw [fillO_len]; exact hi2)]
      simp [fillO]
    cases hs : s[i] with
    | none => rw [e, hs]; exact ⟨fun z => by rw [z]; exact hm.1, fun z => by rw [z]; exact hm.2⟩
    | some m =>
      have := h i m (by rw [List.getElem?_eq_getElem hi2, hs])
      rw [e, hs, this]
      exact ⟨fun _ => Int.le_refl _, fun _ => Int.le_refl _⟩
  have out : ∀ (xs : List Int) i, xs.length ≤ i → xs.getD i 0 = 0 := fun xs i hx => by
    rw [List.getD_eq_getElem?_getD, List.getElem?_eq_none hx]
    rfl
  constructor
  · refine tot_mono (c := c) [] (fillO s 0) ns (by rw [fillO_len, hl]) (fun i => ?_) (by rw [fillO_len, hl]; simpa using hc)
    rcases Nat.lt_or_ge i ns.length with w | w
    · exact (key 0 i w).1 rfl
    · rw [out _ i (by rw [fillO_len, hl]; exact w), out ns i w]
      exact Int.le_refl _
  · refine tot_mono (c := c) [] ns (fillO s 1000) (by rw [fillO_len, hl]) (fun i => ?_) (by simpa using hc)
    rcases Nat.lt_or_ge i ns.length with w | w
    · exact (key 1000 i w).2 rfl
    · rw [out ns i w, out (fillO s 1000) i (by rw [fillO_len, hl]; exact w)]
      exact Int.le_refl _
theorem seen_placed {s : List (Option Int)} (hs : Seen s) {od : List Int} (h : Ord od s.length) : Seen (placedO s od) := by
  have hl := ord_len h
  refine ⟨by rw [placedO_len, hl]; exact hs.1, by rw [placedO_len, hl]; exact hs.2.1, fun m hm => ?_⟩
  obtain ⟨j, hj, e⟩ := List.mem_map.mp hm
  obtain ⟨q1, q2⟩ := ord_mem h hj
  refine hs.2.2 m ?_
  rw [List.getD_eq_getElem?_getD, List.getElem?_eq_getElem (show j.toNat < s.length by omega)] at e
  rw [← (show s[j.toNat] = some m from e)]
  exact List.getElem_mem _
theorem placed_D' (ns od : List Int) (h : Ord od ns.length) : (od.map fun j => (ns.map D.int).getD j.toNat .non) = (placed ns od).map D.int := by
  unfold placed
  rw [List.map_map]
  refine List.map_congr_left fun j hj => ?_
  obtain ⟨q1, q2⟩ := ord_mem h hj
  rw [List.getD_eq_getElem?_getD, List.getElem?_map, List.getElem?_eq_getElem (show j.toNat < ns.length by omega)]
  show D.int ns[j.toNat] = D.int (nth ns j)
  unfold nth
  rw [getD_at (show j.toNat < ns.length by omega)]

theorem l21_ne {xs ys : List Int} (h : xs = ys) : (!eqD (.lst (xs.map .int)) (.lst (ys.map .int))) = false := by
  rw [show eqD (.lst (xs.map .int)) (.lst (ys.map .int)) = decide (xs = ys) from eqD_ints xs ys, decide_eq_true h]
  rfl
theorem l21_eq {xs ys : List Int} (h : xs = ys) : eqD (.lst (xs.map .int)) (.lst (ys.map .int)) = true := by
  rw [show eqD (.lst (xs.map .int)) (.lst (ys.map .int)) = decide (xs = ys) from eqD_ints xs ys, decide_eq_true h]
theorem l21_self {n : Nat} {x y : D} (h : x = y) (f : Fit n y) : (!eqD x y) = false := by
  rw [h, eqD_self f]
  rfl
theorem l21_or {a b : Bool} (h1 : a = false) (h2 : b = false) : (a || b) = false := by rw [h1, h2]; rfl
theorem l21_pair {p q : Int × Int} (h : p = q) : (!eqD (dPair p) (dPair q)) = false := by
  rw [eqD_pair', h]
  simp
theorem l21_reach {p q : Int × Int} (h : p = q) : (!eqD (dPair p) (.tup [.int q.1, .int q.2])) = false := l21_pair h
theorem l21_judge {ns od : List Int} (hO : Ord od ns.length) {c p : Nat} {m : Int} (hp : p < od.length) (e : od.getD p 0 = m) :
    ((!eqD (dPair (cutsD (placed ns od) c ((p : Int)).toNat)) (dPair (cutsD ns c m.toNat))) || (!eqD (dPair (tot (repl (placed ns od) ((p : Int)).toNat 0) c, tot (repl (placed ns od) ((p : Int)).toNat 1000) c)) (dPair (tot (repl ns m.toNat 0) c, tot (repl ns m.toNat 1000) c)))) = false := by
  have hm : nth od (p : Int) = m := e
  have hpn : p < ns.length := by rw [← ord_len hO]; exact hp
  refine l21_or (l21_pair ?_) (l21_pair ?_)
  · rw [Int.toNat_natCast, cutsD_placed hO hp, hm]
  · rw [Int.toNat_natCast, repl_placed hO hpn, repl_placed hO hpn, hm]
theorem l21_mark {ns od : List Int} (hO : Ord od ns.length) {c p : Nat} {m w : Int} (hp : p < od.length) (e : od.getD p 0 = m) :
    (!eqD (oPair (mrD (placed ns od) c ((p : Int)).toNat w)) (oPair (mrD ns c m.toNat w))) = false := by
  have hm : nth od (p : Int) = m := e
  have hpn : p < ns.length := by rw [← ord_len hO]; exact hp
  exact l21_self (n := 64) (by rw [Int.toNat_natCast, mrD_placed hO hpn, hm]) (oPair_fit _)
theorem sureD_mem {ns : List Int} {c j : Int} (h : j ∈ sureD ns c) : 0 ≤ j ∧ j < ns.length := mem_rngI.mp (List.mem_filter.mp h).1
theorem possD_mem {ns : List Int} {c j : Int} (h : j ∈ possD ns c) : 0 ≤ j ∧ j < ns.length := mem_rngI.mp (List.mem_filter.mp h).1
theorem sureD_len (ns : List Int) (c : Int) : (sureD ns c).length ≤ ns.length := by
  have := List.length_filter_le (fun j => sureLow ns c j || sureHigh ns c j) (rngI ns.length)
  rw [rngI_len] at this
  exact this
theorem possD_len (ns : List Int) (c : Int) : (possD ns c).length ≤ ns.length := by
  have := List.length_filter_le (fun j => possLow ns c j || possHigh ns c j) (rngI ns.length)
  rw [rngI_len] at this
  exact this
theorem mem_ord {od : List Int} {n : Nat} (h : Ord od n) {j : Int} (h0 : 0 ≤ j ∧ j < n) : j ∈ od := h.mem_iff.mpr (mem_rngI.mpr h0)
theorem l21_all {ns od : List Int} (h : Ord od ns.length) (c : Nat) : ((!eqD (.lst ((allRes (placed ns od)).map .int)) (.lst ((allRes ns).map .int))) || (!eqD (.int (tot (placed ns od) c)) (.int (tot ns c)))) = false :=
  l21_or (l21_ne (allRes_perm (placed_perm h))) (eqI' (tot_perm (placed_perm h) c))
theorem l21_tot {ns : List Int} (h : Pan ns) {c : Int} (h0 : 0 ≤ c) (hc : 2 * c < ns.length) : 0 ≤ tot ns c.toNat ∧ tot ns c.toNat ≤ 12000 := by
  have h1 := h.2.1
  obtain ⟨g1, g2⟩ := tot_range h.2.2 (c := c.toNat) (by omega)
  exact ⟨g1, by omega⟩
theorem l21_cut (q : List Int) (n : Nat) : cutA (q.map D.int) none (some (n : Int)) = (q.take n).map D.int := by
  rw [cutA_to _ (by omega), Int.toNat_natCast, List.map_take]
theorem panTk {q : List Int} (h : Pan q) {n : Nat} (h0 : 1 ≤ n) (hn : n ≤ q.length) : Pan (q.take n) :=
  ⟨by rw [List.length_take]; omega, by rw [List.length_take]; have := h.2.1; omega, fun m hm => h.2.2 m (List.mem_of_mem_take hm)⟩
theorem mrsL_len (s : List (Option Int)) (c : Nat) (w : Int) : (mrsL s c w s.length).length = s.length := by unfold mrsL; rw [List.length_map, List.length_range]
theorem l21_mrs {s : List (Option Int)} {od : List Int} (h : Ord od s.length) (c : Nat) (w : Int) :
    (!eqD (.lst ((mrsL (placedO s od) c w (placedO s od).length).map fun p => dPair p)) (.lst (od.map fun j => ((mrsL s c w s.length).map fun p => dPair p).getD j.toNat .non))) = false := by
  rw [placedO_len, ord_len h, mrs_placed s h]
  refine l21_self (n := 64) rfl (fit_lst ?_)
  rw [← mrs_placed s h]
  exact fit_mapD fun _ => oPair_fit (some _)
theorem l21_c1 : ((!eqD (.lst ((sureD [5, 7, 9, 9, 2] 1).map .int)) (.lst [.int 4])) || (!eqD (dPair (cutsD [1, 5, 9] (Int.toNat 1) (Int.toNat 2))) (.tup [.int 1, .int 5]))) = false := by
  refine l21_or (l21_ne (ys := [4]) (by decide +kernel)) (l21_reach (q := (1, 5)) (by decide +kernel))
theorem l21_c2 : (eqD (.lst ((sureD [2, 9, 7, 5, 8] 1).map .int)) (.lst [.int 0, .int 1]) && eqD (.lst ((sureD [5, 7, 9, 2, 8] 1).map .int)) (.lst [.int 2, .int 3])) = true := by
  rw [show eqD (.lst ((sureD [2, 9, 7, 5, 8] 1).map .int)) (.lst [.int 0, .int 1]) = true from l21_eq (ys := [0, 1]) (by decide +kernel), show eqD (.lst ((sureD [5, 7, 9, 2, 8] 1).map .int)) (.lst [.int 2, .int 3]) = true from l21_eq (ys := [2, 3]) (by decide +kernel)]
  rfl
theorem turnD_mem {a b : List Int} {c : Nat} {j : Int} (h : j ∈ turnD a b c) : 0 ≤ j ∧ j < a.length := by
  rw [turnD_A] at h
  exact mem_rngI.mp (List.mem_filter.mp h).1
theorem turnD_len (a b : List Int) (c : Nat) : (turnD a b c).length ≤ a.length := by
  rw [turnD_A]
  have := List.length_filter_le (fun j => turnB a b c j.toNat) (rngI a.length)
  rw [rngI_len] at this
  exact this
theorem l21_f1 {n : Nat} (s : List (Option Int)) (c : Nat) (w : Int) : Fit (n + 2) (.lst ((mrsL s c w s.length).map fun p => dPair p)) := fit_lst (fit_mapD fun _ => oPair_fit (some _))
theorem l21_f2 {n : Nat} {s : List (Option Int)} {od : List Int} (h : Ord od s.length) (c : Nat) (w : Int) : Fit (n + 2) (.lst (od.map fun j => ((mrsL s c w s.length).map fun p => dPair p).getD j.toNat .non)) := by
  rw [← mrs_placed s h]
  exact fit_lst (fit_mapD fun _ => oPair_fit (some _))

/-! ### groups: raising, arriving -/
def fewT (ns : List Int) (c : Nat) (w : Int) (k : Nat) : Bool := decide (w ≤ tot ((srt ns).drop k ++ List.replicate k 1000) c)
def fewD (ns : List Int) (c : Nat) (w : Int) : Option Int := ((List.range (ns.length + 1)).find? (fewT ns c w)).map fun k => ((k : Nat) : Int)
def pr_fewest_raisers : Pr := prV (α := List Int × Int × Int) (fun (ns, c, w) => [tI ns, .int c, .int w]) (fun (ns, c, w) => Pan ns ∧ Drp ns c ∧ 0 ≤ w ∧ w ≤ 12000) (fun (ns, c, w) => .dat (oD (fewD ns c.toNat w)))
def part (ns : List Int) (k : Nat) : List (Option Int) := (ns.take k).map some ++ List.replicate (ns.length - k) none
def sureT (ns : List Int) (c : Nat) (w : Int) (k : Nat) : Bool := decide (w ≤ (endsD (part ns k) c).1) || decide ((endsD (part ns k) c).2 < w)
def sureN (ns : List Int) (c : Nat) (w : Int) : Nat := ((List.range (ns.length + 1)).find? (sureT ns c w)).getD 0
def pr_sure_from : Pr := prV (α := List Int × Int × Int) (fun (ns, c, w) => [tI ns, .int c, .int w]) (fun (ns, c, w) => Pan ns ∧ Drp ns c ∧ 0 ≤ w ∧ w ≤ 12000) (fun (ns, c, w) => .dat (.int ((sureN ns c.toNat w : Nat) : Int)))
def narD (ns : List Int) (c : Nat) : List (Int × Int) := (List.range (ns.length + 1)).map fun k => endsD (part ns k) c
def pr_narrowing : PrG := fun ds post => ∃ ns c, ds = [tI ns, .int c] ∧ Pan ns ∧ Drp ns c ∧ post ((narD ns c.toNat).map fun p => dPair p)
theorem few_cat (ns : List Int) {i : Nat} (h : i ≤ ns.length) (hl : ns.length ≤ 12) : (cutA ((srt ns).map D.int) (some ((i : Nat) : Int)) none).length + (List.replicate ((i : Nat) : Int).toNat [D.int 1000]).flatten.length ≤ sizeLine := by
  have := cut_le ((srt ns).map D.int) (some ((i : Nat) : Int)) none
  rw [List.length_map, srt_len] at this
  rw [sizeLine_eq, rep_ints, List.length_map, List.length_replicate, Int.toNat_natCast]
  omega
theorem few_ds (ns : List Int) (i : Nat) : cutA ((srt ns).map D.int) (some ((i : Nat) : Int)) none ++ (List.replicate ((i : Nat) : Int).toNat [D.int 1000]).flatten = ((srt ns).drop i ++ List.replicate i 1000).map D.int := by
  rw [cutA_map, cutA_from _ (by omega), rep_ints, List.map_append, Int.toNat_natCast]
theorem few_len (ns : List Int) {i : Nat} (h : i ≤ ns.length) : ((srt ns).drop i ++ List.replicate i (1000 : Int)).length = ns.length := by
  rw [List.length_append, List.length_drop, List.length_replicate, srt_len]; omega
theorem few_some {ns : List Int} {c : Nat} {w : Int} {i : Nat} (hi : i < ns.length + 1) (h : ∀ k < i, fewT ns c w k = false) (hb : fewT ns c w i = true) : fewD ns c w = some ((i : Nat) : Int) := by
  unfold fewD
  have : (List.range (ns.length + 1)).find? (fewT ns c w) = some i := by
    rw [List.find?_range_eq_some]
    exact ⟨hb, by simpa using hi, fun j hj => by simp [h j hj]⟩
  rw [this]; rfl
theorem few_none {ns : List Int} {c : Nat} {w : Int} (h : ∀ k < ns.length + 1, fewT ns c w k = false) : fewD ns c w = none := by
  unfold fewD
  have : (List.range (ns.length + 1)).find? (fewT ns c w) = none := by
    rw [List.find?_range_eq_none]
    exact fun i hi => by simp [h i hi]
  rw [this]; rfl
theorem few_lt {ns : List Int} {c : Nat} {w : Int} {i : Nat} (h : ∀ k < i, fewT ns c w k = false) (hb : fewT ns c w i = false) : ∀ k < i + 1, fewT ns c w k = false := fun k hk => by
  by_cases e : k = i
  · rw [e]; exact hb
  · exact h k (by omega)
theorem part_len (ns : List Int) {k : Nat} (h : k ≤ ns.length) : (part ns k).length = ns.length := by
  unfold part
  rw [List.length_append, List.length_map, List.length_take, List.length_replicate]; omega
theorem part_ds (ns : List Int) (k : Nat) : cutA (ns.map D.int) none (some ((k : Nat) : Int)) ++ (List.replicate (ns.length - k) [D.non]).flatten = (part ns k).map oD := by
  have e : ∀ n : Nat, (List.replicate n [D.non]).flatten = (List.replicate n (none : Option Int)).map oD := fun n => by
    induction n with
    | zero => rfl
    | succ n ih => rw [List.replicate_succ, List.flatten_cons, ih, List.replicate_succ]; rfl
  rw [cutA_to _ (by omega), e, part, List.map_append, List.map_map, Int.toNat_natCast, ← List.map_take]
  rfl

/-- before the turn k of the loop: s is what the last turn said -/
def SureI (ns : List Int) (c : Nat) (w : Int) (k : Nat) (s : Bool) : Prop := k ≤ ns.length + 1 ∧ (∀ j, j + 1 < k → sureT ns c w j = false) ∧ (k = 0 → s = false) ∧ (0 < k → s = sureT ns c w (k - 1))
theorem sure_start {ns : List Int} {c : Nat} {w : Int} : SureI ns c w 0 false := ⟨by omega, fun j hj => by omega, fun _ => rfl, fun h => by omega⟩
theorem sure_go {s : Bool} (h : (!s) = true) : s = false := by cases s <;> first | rfl | cases h
theorem sure_stop {s : Bool} (h : (!s) = false) : s = true := by cases s <;> first | rfl | cases h
theorem part_all (ns : List Int) (m : Int) : fillO (part ns ns.length) m = ns := by
  unfold part fillO
  rw [List.take_length, Nat.sub_self, List.replicate_zero, List.append_nil, List.map_map]
  exact (List.map_congr_left fun x _ => rfl).trans (List.map_id ns)
theorem sure_last (ns : List Int) (c : Nat) (w : Int) : sureT ns c w ns.length = true := by
  unfold sureT endsD
  rw [part_all, part_all]
  by_cases h : w ≤ tot ns c
  · simp [h]
  · simp [h]; omega
theorem sure_le {ns : List Int} {c : Int} {w : Int} {k : Nat} (h1 : 1 ≤ ns.length) (h2 : 0 ≤ c) (h3 : 2 * c < ns.length) (h : SureI ns c.toNat w k false) : k ≤ ns.length := by
  obtain ⟨a, b, d, e⟩ := h
  by_cases hk : k = ns.length + 1
  · have := e (by omega)
    rw [hk, Nat.add_sub_cancel, sure_last] at this
    cases this
  · omega
theorem sure_next {ns : List Int} {c : Nat} {w : Int} {k : Nat} (hk : k ≤ ns.length) (h : SureI ns c w k false) : SureI ns c w (k + 1) (sureT ns c w k) := by
  obtain ⟨a, b, d, e⟩ := h
  refine ⟨by omega, fun j hj => ?_, fun h => by omega, fun _ => rfl⟩
  by_cases hj2 : j + 1 < k
  · exact b j hj2
  · have : j = k - 1 := by omega
    rw [this]
    exact (e (by omega)).symm
theorem sure_ret {ns : List Int} {c : Nat} {w : Int} {k : Nat} (h : SureI ns c w k true) : D.int ((sureN ns c w : Nat) : Int) = .int (((k : Nat) : Int) - 1) := by
  obtain ⟨a, b, d, e⟩ := h
  have hk : 0 < k := by
    rcases Nat.eq_zero_or_pos k with z | z
    · have := d z
      cases this
    · exact z
  have : (List.range (ns.length + 1)).find? (sureT ns c w) = some (k - 1) := by
    rw [List.find?_range_eq_some]
    exact ⟨(e hk).symm, by simp; omega, fun j hj => by simp [b j (by omega)]⟩
  unfold sureN
  rw [this]
  show D.int (((k - 1 : Nat) : Nat) : Int) = _
  congr 1
  omega
theorem sure_ds (ns : List Int) {k : Nat} (h : k ≤ ns.length) : cutA (ns.map D.int) none (some ((k : Nat) : Int)) ++ (List.replicate ((((ns.map D.int).length : Nat) : Int) - ((k : Nat) : Int)).toNat [D.non]).flatten = (part ns k).map oD := by
  rw [← part_ds, List.length_map, show (((ns.length : Nat) : Int) - ((k : Nat) : Int)).toNat = ns.length - k from by omega]
theorem sure_cat (ns : List Int) (k : Nat) (hl : ns.length ≤ 12) : (cutA (ns.map D.int) none (some ((k : Nat) : Int))).length + (List.replicate ((((ns.map D.int).length : Nat) : Int) - ((k : Nat) : Int)).toNat [D.non]).flatten.length ≤ sizeLine := by
  have h1 := cut_le (ns.map D.int) none (some ((k : Nat) : Int))
  rw [List.length_map] at h1
  have h2 : ∀ n : Nat, (List.replicate n [D.non]).flatten.length = n := fun n => by
    induction n with
    | zero => rfl
    | succ n ih => rw [List.replicate_succ, List.flatten_cons, List.length_append, ih]; simp; omega
  rw [h2, List.length_map, sizeLine_eq]
  omega

/-! ### numbered rows -/
theorem wi_rangeDown [Tbs] {C : DX} {X : Cx} {δ : De} {μ : Mu} {Q : List D → Mu → Prop} {tg a b c : Expr} {p pos : Pos} (hm : X.mg "range" = none) (h : WA C X [a, b, c] δ μ fun xs μ1 => ∃ x y z i j, xs = [x, y, z] ∧ cnt μ1 x = some (.int i) ∧ cnt μ1 y = some (.int j) ∧ cnt μ1 z = some (.int (-1)) ∧ (-1000000000 ≤ i ∧ i ≤ 1000000000 ∧ -1000000000 ≤ j ∧ j ≤ 1000000000) ∧
      Q ((List.range (i - j).toNat).map fun k => D.int (i - ((k : Nat) : Int))) μ1) (hg : Gl X "range" := by rfl)
    (hs : starEach [a, b, c] X.env = (false, eval a X.env) :: starEach [b, c] X.env := by rfl) (hpl : (backTo pos (starEach [b, c] X.env)).any (·.1) = false := by rfl) : WI C X tg (.Call (.Name "range" p) [a, b, c] [] pos) δ μ Q :=
  ⟨_, pi_range3 hg hm pa_tm hs hpl, fun F0 F H as σ R A f => tmA_mono (h F0 F H as σ A) fun vs H1 ⟨F1, as1, μ1, xs, e1, p1, A1, r1, x, y, z, i, j, h0, h1, h2, h3, l, q⟩ => by
    subst h0
    cases r1 with
    | cons r r1 =>
      obtain ⟨w, u, rfl, r', r''⟩ := pair2 r1
      refine ⟨i, j, -1, (i - j).toNat, by rw [A1.rdI r h1, A1.rdI r' h2, A1.rdI r'' h3], RgC.neg (by omega) (by omega) (by omega) (by omega), f _ _ ⟨F1, as1, μ1, _, e1, p1, A1, fun F2 H2 e2 e3 => ?_, q⟩⟩
      refine ⟨fun k hk => by rw [List.length_map, List.length_range] at hk; exact hk, fun k hk => by rw [List.length_map, List.length_range] at hk; exact hk, fun k y v H3 hy hv => ?_⟩
      obtain ⟨rfl, rfl⟩ := hv
      have : y = D.int (i + ((k : Nat) : Int) * -1) := by
        rw [List.getElem?_map] at hy
        cases e : (List.range (i - j).toNat)[k]? with
        | none => rw [e] at hy; cases hy
        | some m =>
          rw [e] at hy
          cases hy
          have := (List.getElem?_eq_some_iff.mp e).2
          rw [List.getElem_range] at this
          subst this
          show D.int (i - ((k : Nat) : Int)) = _
          rw [show i + ((k : Nat) : Int) * -1 = i - ((k : Nat) : Int) from by rw [Int.mul_neg, Int.mul_one]; omega]
      subst this
      exact .inl ⟨rfl, .int _⟩⟩
def binN : Nat → Nat → Nat
  | _, 0 => 1
  | 0, _ + 1 => 0
  | n + 1, k + 1 => binN n k + binN n (k + 1)
theorem bin_zero (n : Nat) : binN n 0 = 1 := by cases n <;> rfl
theorem bin_lt : ∀ (n k : Nat), n < k → binN n k = 0
  | 0, k + 1, _ => rfl
  | n + 1, k + 1, h => by
    unfold binN
    rw [bin_lt n k (by omega), bin_lt n (k + 1) (by omega)]
theorem bin_self : ∀ n : Nat, binN n n = 1
  | 0 => rfl
  | n + 1 => by
    unfold binN
    rw [bin_self n, bin_lt n (n + 1) (by omega)]
theorem bin_mul : ∀ n k : Nat, binN n (k + 1) * (k + 1) = binN n k * (n - k)
  | 0, k => by simp [binN]
  | n + 1, 0 => by
    have := bin_mul n 0
    rw [bin_zero] at this
    unfold binN
    rw [bin_zero]
    simp at this ⊢
    omega
  | n + 1, k + 1 => by
    have a := bin_mul n (k + 1)
    have b := bin_mul n k
    unfold binN
    rw [Nat.add_mul, a, show n + 1 - (k + 1) = n - k from by omega, Nat.add_mul, ← b]
    by_cases h : k + 1 ≤ n
    · rw [← Nat.mul_add, ← Nat.mul_add]
      congr 1
      omega
    · rw [bin_lt n (k + 1) (by omega)]
      simp
theorem choose_bin (n : Nat) : ∀ f : Nat, chooseD ((n : Nat) : Int) f = ((binN n f : Nat) : Int)
  | 0 => by rw [bin_zero]; rfl
  | f + 1 => by
    rw [← choose_succ, choose_bin n f]
    have h := bin_mul n f
    by_cases hf : f ≤ n
    · have e : ((binN n f : Nat) : Int) * (((n : Nat) : Int) - (0 + ((f : Nat) : Int))) = ((binN n (f + 1) : Nat) : Int) * ((0 + ((f : Nat) : Int)) + 1) := by
        have : ((binN n f * (n - f) : Nat) : Int) = ((binN n (f + 1) * (f + 1) : Nat) : Int) := by rw [h]
        rw [Int.natCast_mul, Int.natCast_mul] at this
        rw [show (((n : Nat) : Int) - (0 + ((f : Nat) : Int))) = ((n - f : Nat) : Int) from by omega, this]
        congr 1
        omega
      rw [e]
      exact Int.mul_ediv_cancel _ (by omega)
    · rw [bin_lt n f (by omega), bin_lt n (f + 1) (by omega)]
      simp
theorem bin_pos : ∀ (n k : Nat), k ≤ n → 1 ≤ binN n k
  | n, 0, _ => by rw [bin_zero]; omega
  | n + 1, k + 1, h => by
    have := bin_pos n k (by omega)
    unfold binN
    omega
/-- one turn of the outer loop: extra and place behind the inner one -/
def rowW (l : Nat) : Nat → Int → Nat × Int
  | 0, p => (0, p)
  | e + 1, p => if ((binN (e + 1 + l) l : Nat) : Int) ≤ p then rowW l e (p - ((binN (e + 1 + l) l : Nat) : Int)) else (e + 1, p)
def rowE : Nat → Nat → Int → List Int
  | 0, _, _ => []
  | j + 1, e, p => (((rowW j e p).1 : Nat) : Int) :: rowE j (rowW j e p).1 (rowW j e p).2
theorem rowE_len : ∀ (j e : Nat) (p : Int), (rowE j e p).length = j
  | 0, _, _ => rfl
  | j + 1, e, p => by unfold rowE; rw [List.length_cons, rowE_len]
/-- the inner loop's state -/
def RowI (l : Nat) (e0 : Nat) (p0 : Int) (e : Nat) (p : Int) : Prop := 0 ≤ p ∧ p < ((binN (e + l + 1) (l + 1) : Nat) : Int) ∧ e ≤ e0 ∧ rowW l e p = rowW l e0 p0
theorem row_go {l e0 e : Nat} {p0 p : Int} (h : RowI l e0 p0 e p) (hb : ((binN (e + l) l : Nat) : Int) ≤ p) : 1 ≤ e ∧ RowI l e0 p0 (e - 1) (p - ((binN (e + l) l : Nat) : Int)) := by
  obtain ⟨a, b, c, d⟩ := h
  have he : 1 ≤ e := by
    rcases Nat.eq_zero_or_pos e with z | z
    · subst z
      rw [Nat.zero_add, bin_self] at b hb
      omega
    · exact z
  obtain ⟨k, rfl⟩ : ∃ k, e = k + 1 := ⟨e - 1, by omega⟩
  refine ⟨he, by omega, ?_, by omega, ?_⟩
  · have e1 : binN (k + 1 + l + 1) (l + 1) = binN (k + 1 + l) l + binN (k + 1 + l) (l + 1) := rfl
    rw [e1] at b
    rw [Nat.add_sub_cancel, show k + l + 1 = k + 1 + l from by omega]
    omega
  · rw [← d, Nat.add_sub_cancel]
    conv => rhs; unfold rowW
    rw [if_pos hb]
theorem row_stop {l e0 e : Nat} {p0 p : Int} (h : RowI l e0 p0 e p) (hb : ¬ ((binN (e + l) l : Nat) : Int) ≤ p) : rowW l e0 p0 = (e, p) := by
  rw [← h.2.2.2]
  cases e with
  | zero => rfl
  | succ e =>
    unfold rowW
    rw [if_neg hb]
theorem row_start {l e : Nat} {p : Int} (h0 : 0 ≤ p) (h1 : p < ((binN (e + l + 1) (l + 1) : Nat) : Int)) : RowI l e p e p := ⟨h0, h1, Nat.le_refl _, rfl⟩
/-- the outer loop's state before turn i -/
def RowO (J e0 : Nat) (p0 : Int) (i : Nat) (acc : List Int) (e : Nat) (p : Int) : Prop := i ≤ J ∧ 0 ≤ p ∧ p < ((binN (e + (J - i)) (J - i) : Nat) : Int) ∧ e ≤ e0 ∧ acc.length = i ∧ acc ++ rowE (J - i) e p = rowE J e0 p0
theorem rowO_step {J e0 i e e' : Nat} {p0 p p' : Int} {acc : List Int} (hi : i < J) (h : RowO J e0 p0 i acc e p) (h1 : rowW (J - 1 - i) e p = (e', p')) (h2 : 0 ≤ p') (h3 : p' < ((binN (e' + (J - 1 - i)) (J - 1 - i) : Nat) : Int)) (h4 : e' ≤ e) : RowO J e0 p0 (i + 1) (acc ++ [((e' : Nat) : Int)]) e' p' := by
  obtain ⟨a, b, c, d, f, g⟩ := h
  have ej : J - i = (J - 1 - i) + 1 := by omega
  refine ⟨by omega, h2, by rw [show J - (i + 1) = J - 1 - i from by omega]; exact h3, by omega, by simp [f], ?_⟩
  rw [ej, show rowE (J - 1 - i + 1) e p = (((rowW (J - 1 - i) e p).1 : Nat) : Int) :: rowE (J - 1 - i) (rowW (J - 1 - i) e p).1 (rowW (J - 1 - i) e p).2 from rfl, h1] at g
  rw [show J - (i + 1) = J - 1 - i from by omega, List.append_assoc]
  exact g
def pr_row_at : Pr := prV (α := Int × List Int × Int) (fun (n, res, p) => [.int n, tI res, .int p]) (fun (n, res, p) => Ress n res ∧ 0 ≤ slk n.toNat res ∧ 0 ≤ p ∧ p < ((binN ((slk n.toNat res).toNat + (pairSums n.toNat res).length) (pairSums n.toNat res).length : Nat) : Int))
  (fun (n, res, p) => .dat (tI (rowD (pairSums n.toNat res) (midO n.toNat res) (rowE (pairSums n.toNat res).length (slk n.toNat res).toNat p))))

theorem row_choose {m : Int} {e l l' : Nat} (h : m = ((e + l : Nat) : Int)) (hl : l' = l) : chooseD m l' = ((binN (e + l) l : Nat) : Int) := by rw [h, hl, choose_bin]
theorem row_test {e l l' : Nat} {p : Int} (h1 : 0 ≤ p) (h2 : p < ((binN (e + l) l : Nat) : Int)) {m : Int} (hm : m = ((e + l : Nat) : Int)) (hl : l' = l) : (!isFromD (.int p) 0 (chooseD m l' - 1)) = false := by
  rw [row_choose hm hl]
  simp [isFromD, h1]
  omega
theorem pairs_le {n : Int} {res : List Int} (h : Ress n res) : (pairSums n.toNat res).length ≤ 6 := by
  have hl := ress_len h
  have := pairSums_len n.toNat res hl.1
  split at this <;> omega
theorem down_get {n i : Nat} {a : Int} {y : D} (h : ((List.range n).map fun k => D.int (a - ((k : Nat) : Int)))[i]? = some y) : i < n ∧ y = .int (a - ((i : Nat) : Int)) := by
  rw [List.getElem?_map] at h
  by_cases hi : i < n
  · rw [List.getElem?_range hi] at h
    exact ⟨hi, (Option.some.inj h).symm⟩
  · rw [List.getElem?_eq_none (by simpa using hi)] at h
    cases h

def minL : List Int → Int
  | [] => 0
  | [x] => x
  | x :: y :: r => min x (minL (y :: r))
theorem minL_le : ∀ {L : List Int} {y : Int}, y ∈ L → minL L ≤ y
  | [x], y, h => by rw [List.mem_singleton.mp h]; exact Int.le_refl _
  | x :: z :: r, y, h => by
    show min x (minL (z :: r)) ≤ y
    rcases List.mem_cons.mp h with q | q
    · omega
    · have := minL_le q
      omega
theorem minL_mem : ∀ {L : List Int}, L ≠ [] → minL L ∈ L
  | [], h => absurd rfl h
  | [x], _ => List.mem_singleton.mpr rfl
  | x :: z :: r, _ => by
    have := minL_mem (L := z :: r) (by simp)
    show min x (minL (z :: r)) ∈ _
    rcases Int.le_total x (minL (z :: r)) with q | q
    · rw [show min x (minL (z :: r)) = x from by omega]
      exact List.mem_cons_self ..
    · rw [show min x (minL (z :: r)) = minL (z :: r) from by omega]
      exact List.mem_cons_of_mem _ this
theorem minL_eq {L : List Int} {m : Int} (h1 : m ∈ L) (h2 : ∀ y, y ∈ L → m ≤ y) : m = minL L := by
  have a := minL_le h1
  have b := h2 _ (minL_mem (fun e => by rw [e] at h1; cases h1))
  omega
def minO (L : List Int) : Option Int := if L = [] then none else some (minL L)
def movesD (ns : List Int) (c j : Nat) (up : Bool) : Int × Int :=
  let lo := (cutsD ns c j).1
  let hi := (cutsD ns c j).2
  let a := ns.getD j 0
  if up = true then (max 0 (lo - a), max 0 (hi - max a lo)) else (max 0 (a - hi), max 0 (min a hi - lo))
def needD (a b : List Int) (c : Nat) : Int := tot a c - tot b c + 1
def l1 (a b : List Int) (c j : Nat) : List Int := if needD a b c ≤ (movesD a c j false).2 then [(movesD a c j false).1 + needD a b c] else []
def l2 (a b : List Int) (c j : Nat) : List Int := l1 a b c j ++ if needD a b c ≤ (movesD b c j true).2 then [(movesD b c j true).1 + needD a b c] else []
def l3 (a b : List Int) (c j : Nat) : List Int := l2 a b c j ++ if needD a b c ≤ (movesD a c j false).2 + (movesD b c j true).2 then [(movesD a c j false).1 + (movesD b c j true).1 + needD a b c] else []
def lcD (a b : List Int) (c j : Nat) : Option Int := if needD a b c ≤ 0 then some 0 else minO (l3 a b c j)
abbrev Wk2 (a b : List Int) (c j : Int) : Prop := Pan a ∧ Pan b ∧ a.length = b.length ∧ Drp a c ∧ Jdg a j
def pr_moves : Pr := prV (α := List Int × Int × Int × Bool) (fun (ns, c, j, u) => [tI ns, .int c, .int j, .bl u]) (fun (ns, c, j, _) => ns.length ≤ 100 ∧ Drp ns c ∧ Jdg ns j) (fun (ns, c, j, u) => .dat (dPair (movesD ns c.toNat j.toNat u)))
def pr_least_change : Pr := prV (α := List Int × List Int × Int × Int) (fun (a, b, c, j) => [tI a, tI b, .int c, .int j]) (fun (a, b, c, j) => Wk2 a b c j) (fun (a, b, c, j) => .dat (oD (lcD a b c.toNat j.toNat)))
theorem l1_len (a b : List Int) (c j : Nat) : (l1 a b c j).length ≤ 1 := by unfold l1; split <;> simp
theorem l2_len (a b : List Int) (c j : Nat) : (l2 a b c j).length ≤ 2 := by
  have := l1_len a b c j
  unfold l2
  rw [List.length_append]
  split <;> simp <;> omega
theorem mn_ret {L : List Int} : (if (!eqD (.lst (L.map .int)) (.lst [])) = true then D.int (minL L) else D.non) = oD (minO L) := by
  rw [show eqD (.lst (L.map .int)) (.lst []) = _ from eqD_ints L []]
  unfold minO
  by_cases h : L = []
  · rw [if_pos h, if_neg (by simp [h])]
    rfl
  · rw [if_neg h, if_pos (by simp [h])]
    rfl
theorem lc_ret {a b : List Int} {c j : Nat} (hq : ¬ needD a b c ≤ 0) : (if (!eqD (.lst ((l3 a b c j).map .int)) (.lst [])) = true then D.int (minL (l3 a b c j)) else D.non) = oD (lcD a b c j) := by
  unfold lcD
  rw [if_neg hq]
  exact mn_ret

/-! ### the written panels -/
theorem oD_fit' {n : Nat} (o : Option Int) : Fit n (oD o) := by cases o <;> first | exact fit_non | exact fit_int
def pr_mark_rangesN : Pr := prV (α := List (Option Int) × Int × Int) (fun (s, c, w) => [tO s, .int c, .int w]) (fun (s, c, w) => Seen s ∧ DrpO s c ∧ 0 ≤ w ∧ w ≤ 12000 ∧ (w < (endsD s c.toNat).1 ∨ (endsD s c.toNat).2 < w)) (fun _ => .dat .non)
theorem wish_out {a b w : Int} (h : w < a ∨ b < w) : (!(decide (a ≤ w) && decide (w ≤ b))) = true := by
  rcases h with h | h
  · rw [decide_eq_false (show ¬ a ≤ w by omega)]; rfl
  · rw [decide_eq_false (show ¬ w ≤ b by omega), Bool.and_false]; rfl
theorem neF {n : Nat} {x y : D} (h : x = y) (f : Fit n y) : (!eqD x y) = false := by rw [h, eqD_self f]; rfl
theorem eqT {n : Nat} {x y : D} (h : x = y) (f : Fit n y) : eqD x y = true := by rw [h, eqD_self f]
theorem orF {a b : Bool} (h1 : a = false) (h2 : b = false) : (a || b) = false := by rw [h1, h2]; rfl
theorem andT {a b : Bool} (h1 : a = true) (h2 : b = true) : (a && b) = true := by rw [h1, h2]; rfl
theorem nonF {o : Option Int} (h : o = none) : (!DS.isNon (oD o)) = false := by rw [h]; rfl
theorem fitE {n : Nat} {x y : D} (h : x = y) (F : Fit n y) : Fit n x := h ▸ F
theorem fit_pairs {n : Nat} (xs : List (Int × Int)) : Fit (n + 2) (.lst (xs.map fun p => dPair p)) := fit_lst (fit_mapD fun _ => oPair_fit (some _))
def M6 (f : Int) : List Int := [3 * f, 8 * f, 5 * f, 10 * f, 8 * f, 4 * f]
def M3 (f : Int) : List Int := [3 * f, 8 * f, 5 * f]
def T3 (f : Int) : List Int := [38 * f, 25 * f, 13 * f]
def V1 (f : Int) : List Int := [9 * f, 4 * f, 6 * f, 2 * f]
def V2 (f : Int) : List Int := [5 * f, 4 * f, 4 * f, 1 * f]
def S5 (f : Int) : List (Option Int) := [some (3 * f), none, some (5 * f), none, some (8 * f)]
theorem pan_M6 {f : Int} (h1 : 1 ≤ f) (h2 : f ≤ 70) : Pan (M6 f) := ⟨by decide +revert, by decide +revert, fun m hm => by simp [M6] at hm; omega⟩
theorem pan_M3 {f : Int} (h1 : 1 ≤ f) (h2 : f ≤ 70) : Pan (M3 f) := ⟨by decide +revert, by decide +revert, fun m hm => by simp [M3] at hm; omega⟩
theorem pan_V1 {f : Int} (h1 : 1 ≤ f) (h2 : f ≤ 70) : Pan (V1 f) := ⟨by decide +revert, by decide +revert, fun m hm => by simp [V1] at hm; omega⟩
theorem pan_V2 {f : Int} (h1 : 1 ≤ f) (h2 : f ≤ 70) : Pan (V2 f) := ⟨by decide +revert, by decide +revert, fun m hm => by simp [V2] at hm; omega⟩
theorem seen_S5 {f : Int} (h1 : 1 ≤ f) (h2 : f ≤ 70) : Seen (S5 f) := ⟨by decide +revert, by decide +revert, fun m hm => by simp [S5] at hm; omega⟩
theorem ress_T3 {f : Int} (h1 : 1 ≤ f) (h2 : f ≤ 70) : Ress 6 (T3 f) := ⟨by decide, by decide, rfl, fun m hm => by simp [T3] at hm; omega⟩
def SixF (f : Int) : Prop :=
  (allRes (M6 f) = [38 * f, 25 * f, 13 * f] ∧ sureD (M6 f) 1 = [0, 3] ∧ sureD (M6 f) 2 = [0, 3, 5] ∧ possD (M6 f) 2 = [0, 1, 3, 4, 5]) ∧
  (cutsD (M6 f) (Int.toNat 2) (Int.toNat 2) = (4 * f, 8 * f) ∧ cutsD (M6 f) (Int.toNat 1) (Int.toNat 0) = (4 * f, 10 * f)) ∧
  (tot (repl (M6 f) (Int.toNat 2) 0) (Int.toNat 2) = 12 * f ∧ tot (repl (M6 f) (Int.toNat 2) 1000) (Int.toNat 2) = 16 * f ∧ tot (repl (M6 f) (Int.toNat 3) 0) (Int.toNat 1) = 20 * f ∧ tot (repl (M6 f) (Int.toNat 0) 1000) (Int.toNat 1) = 31 * f) ∧
  (fewD (M6 f) (Int.toNat 2) 3000 = none ∧ fewD (M6 f) (Int.toNat 1) (25 * f) = some 0 ∧ fewD (M6 f) (Int.toNat 1) (31 * f) = some 1) ∧
  (mrD (M6 f) (Int.toNat 2) (Int.toNat 2) (14 * f) = some (6 * f, 6 * f) ∧ mrD (M6 f) (Int.toNat 2) (Int.toNat 2) (16 * f) = some (8 * f, 1000) ∧ mrD (M6 f) (Int.toNat 2) (Int.toNat 5) (13 * f) = some (0, 5 * f)) ∧
  (slk (Int.toNat 6) (T3 f) = 6 * f - (f + f % 2) / 2 ∧ 0 ≤ slk (Int.toNat 6) (T3 f) ∧ (pairSums (Int.toNat 6) (T3 f)).length = 3 ∧
    (rowD (pairSums (Int.toNat 6) (T3 f)) (midO (Int.toNat 6) (T3 f)) (rowE 3 (slk (Int.toNat 6) (T3 f)).toNat 0)).length = 6 ∧ (rowD (pairSums (Int.toNat 6) (T3 f)) (midO (Int.toNat 6) (T3 f)) (rowE 3 (slk (Int.toNat 6) (T3 f)).toNat 0)).getD (Int.toNat 0) 0 = 0) ∧
  narD (M3 f) (Int.toNat 1) = [(0, 1000), (0, 1000), (3 * f, 8 * f), (5 * f, 5 * f)]
def RestF (f : Int) : Prop :=
  (endsD (S5 f) (Int.toNat 2) = (3 * f, 8 * f) ∧ endsD (S5 f) (Int.toNat 1) = (8 * f, 13 * f + 1000) ∧ mrsL (S5 f) (Int.toNat 2) (4 * f) (S5 f).length = [(3 * f, 3 * f), (0, 4 * f), (5 * f, 5 * f), (0, 4 * f), (8 * f, 8 * f)]) ∧
  (sureN (M3 f) (Int.toNat 1) (3 * f) = 2 ∧ sureN (M3 f) (Int.toNat 1) (4 * f) = 3 ∧ sureN (M3 f) (Int.toNat 1) (9 * f) = 2) ∧
  (leadsD (V1 f) (V2 f) = [7 * f, 2 * f] ∧ turnD (V1 f) (V2 f) (Int.toNat 1) = [0, 1, 2]) ∧
  (lcD (V1 f) (V2 f) (Int.toNat 0) (Int.toNat 3) = some (7 * f + 1) ∧ lcD (V1 f) (V2 f) (Int.toNat 1) (Int.toNat 3) = none ∧ lcD (V1 f) (V2 f) (Int.toNat 1) (Int.toNat 0) = some (5 * f + 1) ∧ lcD (V1 f) (V2 f) (Int.toNat 1) (Int.toNat 1) = some (2 * f + 1) ∧ lcD (V1 f) (V2 f) (Int.toNat 1) (Int.toNat 2) = some (2 * f + 1)) ∧
  tot (V1 f) (Int.toNat 1) - tot (V2 f) (Int.toNat 1) = 2 * f
instance (f : Int) : Decidable (SixF f) := by unfold SixF; infer_instance
instance (f : Int) : Decidable (RestF f) := by unfold RestF; infer_instance
theorem six_F {f : Int} (h1 : 1 ≤ f) (h2 : f ≤ 70) : SixF f := by
  have h : ∀ k : Nat, k < 70 → SixF (((k + 1 : Nat) : Nat) : Int) := by decide +kernel
  have := h (f.toNat - 1) (by omega)
  rwa [show (((f.toNat - 1 + 1 : Nat) : Nat) : Int) = f from by omega] at this
theorem rest_F {f : Int} (h1 : 1 ≤ f) (h2 : f ≤ 70) : RestF f := by
  have h : ∀ k : Nat, k < 70 → RestF (((k + 1 : Nat) : Nat) : Int) := by decide +kernel
  have := h (f.toNat - 1) (by omega)
  rwa [show (((f.toNat - 1 + 1 : Nat) : Nat) : Int) = f from by omega] at this
def pr_law_six_right : Pr := prV (α := Int) (fun f => [.int f]) (fun f => 1 ≤ f ∧ f ≤ 70) (fun _ => .dat (.bl true))
def pr_law_rest_right : Pr := prV (α := Int) (fun f => [.int f]) (fun f => 1 ≤ f ∧ f ≤ 70) (fun _ => .dat (.bl true))
theorem l16_end : (eqD (oD (slackO (Int.toNat 2) [9])) (.int 4) && (eqD (tI (rowD (pairSums (Int.toNat 2) [9]) (midO (Int.toNat 2) [9]) (rowE (pairSums (Int.toNat 2) [9]).length (slk (Int.toNat 2) [9]).toNat 4))) (.tup [.int 4, .int 5]) && eqD (oD (slackO (Int.toNat 2) [1999])) (.int 0))) = true := by
  refine andT ?_ (andT ?_ ?_)
  · rw [show slackO (Int.toNat 2) [9] = some 4 from by decide +kernel]; exact eqT (n := 4) rfl fit_int
  · rw [show rowD (pairSums (Int.toNat 2) [9]) (midO (Int.toNat 2) [9]) (rowE (pairSums (Int.toNat 2) [9]).length (slk (Int.toNat 2) [9]).toNat 4) = [4, 5] from by decide +kernel]; exact eqT (n := 4) rfl (fit_tup (fit_all_int [4, 5]))
  · rw [show slackO (Int.toNat 2) [1999] = some 0 from by decide +kernel]; exact eqT (n := 4) rfl fit_int

def top (i : Nat) : Stmt := PySem.Challenge.pw_droppedmarks_k16_whole_written_panels.main.body.getD i (.Pass ⟨0, 0, 0, 0⟩)
abbrev s_is_from : Stmt := top 16
theorem sc_is_from : FnScope ["value", "low", "high"] ["value", "low", "high"] (defScope s_is_from) := ⟨rfl, rfl, rfl, by decide +kernel, rfl, by decide +kernel, by decide +kernel⟩
abbrev s_is_marks : Stmt := top 17
theorem sc_is_marks : FnScope ["value", "mark"] ["value"] (defScope s_is_marks) := ⟨rfl, rfl, rfl, by decide +kernel, rfl, by decide +kernel, by decide +kernel⟩
abbrev s_need_drop : Stmt := top 18
theorem sc_need_drop : FnScope ["judges", "drop"] ["judges", "drop"] (defScope s_need_drop) := ⟨rfl, rfl, rfl, by decide +kernel, rfl, by decide +kernel, by decide +kernel⟩
abbrev s_need_marks : Stmt := top 19
theorem sc_need_marks : FnScope ["marks", "drop"] ["marks", "drop"] (defScope s_need_marks) := ⟨rfl, rfl, rfl, by decide +kernel, rfl, by decide +kernel, by decide +kernel⟩
abbrev s_total : Stmt := top 20
theorem sc_total : FnScope ["marks", "drop"] ["marks", "drop"] (defScope s_total) := ⟨rfl, rfl, rfl, by decide +kernel, rfl, by decide +kernel, by decide +kernel⟩
abbrev s_all_results : Stmt := top 21
theorem sc_all_results : FnScope ["marks", "drop"] ["marks"] (defScope s_all_results) := ⟨rfl, rfl, rfl, by decide +kernel, rfl, by decide +kernel, by decide +kernel⟩
abbrev s_possibly_low : Stmt := top 22
theorem sc_possibly_low : FnScope ["marks", "drop", "judge", "mark"] ["marks", "drop", "judge"] (defScope s_possibly_low) := ⟨rfl, rfl, rfl, by decide +kernel, rfl, by decide +kernel, by decide +kernel⟩
abbrev s_surely_low : Stmt := top 23
theorem sc_surely_low : FnScope ["marks", "drop", "judge", "mark"] ["marks", "drop", "judge"] (defScope s_surely_low) := ⟨rfl, rfl, rfl, by decide +kernel, rfl, by decide +kernel, by decide +kernel⟩
abbrev s_possibly_high : Stmt := top 24
theorem sc_possibly_high : FnScope ["marks", "drop", "judge", "mark"] ["marks", "drop", "judge"] (defScope s_possibly_high) := ⟨rfl, rfl, rfl, by decide +kernel, rfl, by decide +kernel, by decide +kernel⟩
abbrev s_surely_high : Stmt := top 25
theorem sc_surely_high : FnScope ["marks", "drop", "judge", "mark"] ["marks", "drop", "judge"] (defScope s_surely_high) := ⟨rfl, rfl, rfl, by decide +kernel, rfl, by decide +kernel, by decide +kernel⟩
abbrev s_sure_dropped : Stmt := top 26
theorem sc_sure_dropped : FnScope ["marks", "drop", "found", "judge"] ["marks", "drop"] (defScope s_sure_dropped) := ⟨rfl, rfl, rfl, by decide +kernel, rfl, by decide +kernel, by decide +kernel⟩
abbrev s_possible_dropped : Stmt := top 27
theorem sc_possible_dropped : FnScope ["marks", "drop", "found", "judge"] ["marks", "drop"] (defScope s_possible_dropped) := ⟨rfl, rfl, rfl, by decide +kernel, rfl, by decide +kernel, by decide +kernel⟩
abbrev s_need_seen : Stmt := top 29
theorem sc_need_seen : FnScope ["seen", "drop", "mark"] ["seen", "drop"] (defScope s_need_seen) := ⟨rfl, rfl, rfl, by decide +kernel, rfl, by decide +kernel, by decide +kernel⟩
abbrev s_need_result : Stmt := top 30
theorem sc_need_result : FnScope ["wished"] ["wished"] (defScope s_need_result) := ⟨rfl, rfl, rfl, by decide +kernel, rfl, by decide +kernel, by decide +kernel⟩
abbrev s_filled : Stmt := top 31
theorem sc_filled : FnScope ["seen", "mark", "one"] ["seen", "mark"] (defScope s_filled) := ⟨rfl, rfl, rfl, by decide +kernel, rfl, by decide +kernel, by decide +kernel⟩
abbrev s_ends : Stmt := top 32
theorem sc_ends : FnScope ["seen", "drop"] ["seen", "drop"] (defScope s_ends) := ⟨rfl, rfl, rfl, by decide +kernel, rfl, by decide +kernel, by decide +kernel⟩
abbrev s_result_range : Stmt := top 33
theorem sc_result_range : FnScope ["seen", "drop"] ["seen", "drop"] (defScope s_result_range) := ⟨rfl, rfl, rfl, by decide +kernel, rfl, by decide +kernel, by decide +kernel⟩
abbrev s_first_of : Stmt := top 34
theorem sc_first_of : FnScope ["low", "high", "test", "middle"] ["low", "high", "test"] (defScope s_first_of) := ⟨rfl, rfl, rfl, by decide +kernel, rfl, by decide +kernel, by decide +kernel⟩
abbrev s_placed : Stmt := top 35
theorem sc_placed : FnScope ["seen", "judge", "mark"] ["seen", "judge", "mark"] (defScope s_placed) := ⟨rfl, rfl, rfl, by decide +kernel, rfl, by decide +kernel, by decide +kernel⟩
abbrev s_mark_ranges : Stmt := top 36
theorem sc_mark_ranges : FnScope ["seen", "drop", "wished", "found", "least", "most", "judge", "mark", "low", "high"] ["seen", "drop", "wished"] (defScope s_mark_ranges) := ⟨rfl, rfl, rfl, by decide +kernel, rfl, by decide +kernel, by decide +kernel⟩
abbrev s_fewest_raisers : Stmt := top 37
theorem sc_fewest_raisers : FnScope ["marks", "drop", "wished", "rising", "many"] ["marks", "drop", "wished"] (defScope s_fewest_raisers) := ⟨rfl, rfl, rfl, by decide +kernel, rfl, by decide +kernel, by decide +kernel⟩
abbrev s_narrowing : Stmt := top 38
theorem sc_narrowing : L2.GScope ["marks", "drop", "many"] ["marks", "drop"] (defScope s_narrowing) := ⟨rfl, rfl, rfl, by decide +kernel, rfl, by decide +kernel, by decide +kernel⟩
abbrev s_sure_from : Stmt := top 39
theorem sc_sure_from : FnScope ["marks", "drop", "wished", "many", "sure", "low", "high"] ["marks", "drop", "wished"] (defScope s_sure_from) := ⟨rfl, rfl, rfl, by decide +kernel, rfl, by decide +kernel, by decide +kernel⟩
abbrev s_need_results : Stmt := top 41
theorem sc_need_results : FnScope ["judges", "results", "one"] ["judges", "results"] (defScope s_need_results) := ⟨rfl, rfl, rfl, by decide +kernel, rfl, by decide +kernel, by decide +kernel⟩
abbrev s_sums_of : Stmt := top 42
theorem sc_sums_of : FnScope ["judges", "results", "steps", "one", "other"] ["judges", "results"] (defScope s_sums_of) := ⟨rfl, rfl, rfl, by decide +kernel, rfl, by decide +kernel, by decide +kernel⟩
abbrev s_least_gaps : Stmt := top 43
theorem sc_least_gaps : FnScope ["sums", "middle", "gap", "found", "one", "other"] ["sums", "middle"] (defScope s_least_gaps) := ⟨rfl, rfl, rfl, by decide +kernel, rfl, by decide +kernel, by decide +kernel⟩
abbrev s_slack_of : Stmt := top 44
theorem sc_slack_of : FnScope ["sums", "middle"] ["sums", "middle"] (defScope s_slack_of) := ⟨rfl, rfl, rfl, by decide +kernel, rfl, by decide +kernel, by decide +kernel⟩
abbrev s_need_slack : Stmt := top 45
theorem sc_need_slack : FnScope ["judges", "results", "slack", "sums", "middle"] ["judges", "results"] (defScope s_need_slack) := ⟨rfl, rfl, rfl, by decide +kernel, rfl, by decide +kernel, by decide +kernel⟩
abbrev s_slack : Stmt := top 46
theorem sc_slack : FnScope ["judges", "results", "found", "sums", "middle"] ["judges", "results"] (defScope s_slack) := ⟨rfl, rfl, rfl, by decide +kernel, rfl, by decide +kernel, by decide +kernel⟩
abbrev s_choose : Stmt := top 47
theorem sc_choose : FnScope ["many", "few", "found", "k"] ["many", "few"] (defScope s_choose) := ⟨rfl, rfl, rfl, by decide +kernel, rfl, by decide +kernel, by decide +kernel⟩
abbrev s_row_of : Stmt := top 48
theorem sc_row_of : FnScope ["sums", "middle", "extras", "gaps", "lows", "highs", "gap", "extra", "one"] ["sums", "middle", "extras"] (defScope s_row_of) := ⟨rfl, rfl, rfl, by decide +kernel, rfl, by decide +kernel, by decide +kernel⟩
abbrev s_row_at : Stmt := top 49
theorem sc_row_at : FnScope ["judges", "results", "place", "found", "left", "sums", "middle", "extra"] ["judges", "results", "place"] (defScope s_row_at) := ⟨rfl, rfl, rfl, by decide +kernel, rfl, by decide +kernel, by decide +kernel⟩
abbrev s_need_judge : Stmt := top 51
theorem sc_need_judge : FnScope ["marks", "judge"] ["marks", "judge"] (defScope s_need_judge) := ⟨rfl, rfl, rfl, by decide +kernel, rfl, by decide +kernel, by decide +kernel⟩
abbrev s_cuts : Stmt := top 52
theorem sc_cuts : FnScope ["marks", "drop", "judge", "others"] ["marks", "drop", "judge"] (defScope s_cuts) := ⟨rfl, rfl, rfl, by decide +kernel, rfl, by decide +kernel, by decide +kernel⟩
abbrev s_replaced : Stmt := top 53
theorem sc_replaced : FnScope ["marks", "judge", "mark"] ["marks", "judge", "mark"] (defScope s_replaced) := ⟨rfl, rfl, rfl, by decide +kernel, rfl, by decide +kernel, by decide +kernel⟩
abbrev s_bounds : Stmt := top 54
theorem sc_bounds : FnScope ["marks", "drop", "judge"] ["marks", "drop", "judge"] (defScope s_bounds) := ⟨rfl, rfl, rfl, by decide +kernel, rfl, by decide +kernel, by decide +kernel⟩
abbrev s_with_mark : Stmt := top 55
theorem sc_with_mark : FnScope ["marks", "drop", "judge", "mark"] ["marks", "drop", "judge", "mark"] (defScope s_with_mark) := ⟨rfl, rfl, rfl, by decide +kernel, rfl, by decide +kernel, by decide +kernel⟩
abbrev s_reach : Stmt := top 56
theorem sc_reach : FnScope ["marks", "drop", "judge"] ["marks", "drop", "judge"] (defScope s_reach) := ⟨rfl, rfl, rfl, by decide +kernel, rfl, by decide +kernel, by decide +kernel⟩
abbrev s_mark_range : Stmt := top 57
theorem sc_mark_range : FnScope ["marks", "drop", "judge", "wished", "base", "mark", "low", "high"] ["marks", "drop", "judge", "wished"] (defScope s_mark_range) := ⟨rfl, rfl, rfl, by decide +kernel, rfl, by decide +kernel, by decide +kernel⟩
abbrev s_need_works : Stmt := top 59
theorem sc_need_works : FnScope ["first", "second"] ["first", "second"] (defScope s_need_works) := ⟨rfl, rfl, rfl, by decide +kernel, rfl, by decide +kernel, by decide +kernel⟩
abbrev s_lead : Stmt := top 60
theorem sc_lead : FnScope ["first", "second", "drop"] ["first", "second", "drop"] (defScope s_lead) := ⟨rfl, rfl, rfl, by decide +kernel, rfl, by decide +kernel, by decide +kernel⟩
abbrev s_leads : Stmt := top 61
theorem sc_leads : FnScope ["first", "second", "drop"] ["first", "second"] (defScope s_leads) := ⟨rfl, rfl, rfl, by decide +kernel, rfl, by decide +kernel, by decide +kernel⟩
abbrev s_turned_by : Stmt := top 62
theorem sc_turned_by : FnScope ["first", "second", "drop", "judge", "best"] ["first", "second", "drop", "judge"] (defScope s_turned_by) := ⟨rfl, rfl, rfl, by decide +kernel, rfl, by decide +kernel, by decide +kernel⟩
abbrev s_turners : Stmt := top 63
theorem sc_turners : FnScope ["first", "second", "drop", "judge"] ["first", "second", "drop"] (defScope s_turners) := ⟨rfl, rfl, rfl, by decide +kernel, rfl, by decide +kernel, by decide +kernel⟩
abbrev s_moves : Stmt := top 64
theorem sc_moves : FnScope ["marks", "drop", "judge", "up", "mark", "low", "high"] ["marks", "drop", "judge", "up"] (defScope s_moves) := ⟨rfl, rfl, rfl, by decide +kernel, rfl, by decide +kernel, by decide +kernel⟩
abbrev s_least_change : Stmt := top 65
theorem sc_least_change : FnScope ["first", "second", "drop", "judge", "needed", "found", "down", "lower", "rise", "upper"] ["first", "second", "drop", "judge"] (defScope s_least_change) := ⟨rfl, rfl, rfl, by decide +kernel, rfl, by decide +kernel, by decide +kernel⟩
abbrev s_law_deck : Stmt := top 67
theorem sc_law_deck : FnScope ["cell", "turn"] ["cell", "turn"] (defScope s_law_deck) := ⟨rfl, rfl, rfl, by decide +kernel, rfl, by decide +kernel, by decide +kernel⟩
abbrev s_law_pick : Stmt := top 68
theorem sc_law_pick : FnScope ["deck", "limit", "number", "found"] ["deck", "limit"] (defScope s_law_pick) := ⟨rfl, rfl, rfl, by decide +kernel, rfl, by decide +kernel, by decide +kernel⟩
abbrev s_law_name_of : Stmt := top 69
theorem sc_law_name_of : FnScope ["e", "matching", "words", "found", "word", "good"] ["e"] (defScope s_law_name_of) := ⟨rfl, rfl, rfl, by decide +kernel, rfl, by decide +kernel, by decide +kernel⟩
abbrev s_law_try : Stmt := top 70
theorem sc_law_try : FnScope ["door", "found", "e"] ["door"] (defScope s_law_try) := ⟨rfl, rfl, rfl, by decide +kernel, rfl, by decide +kernel, by decide +kernel⟩
abbrev s_law_six_right : Stmt := top 71
theorem sc_law_six_right : FnScope ["f", "some", "told"] ["f"] (defScope s_law_six_right) := ⟨rfl, rfl, rfl, by decide +kernel, rfl, by decide +kernel, by decide +kernel⟩
abbrev s_law_rest_right : Stmt := top 72
theorem sc_law_rest_right : FnScope ["f", "seen", "first", "second", "wished"] ["f"] (defScope s_law_rest_right) := ⟨rfl, rfl, rfl, by decide +kernel, rfl, by decide +kernel, by decide +kernel⟩
abbrev s_law : Stmt := top 73
theorem sc_law : FnScope ["script", "cell", "f"] ["script"] (defScope s_law) := ⟨rfl, rfl, rfl, by decide +kernel, rfl, by decide +kernel, by decide +kernel⟩
structure Txt (K : PySem.W.Frag) (mg : Str → Option Value) : Prop where
  b_len : mg "len" = none
  b_sum : mg "sum" = none
  b_sorted : mg "sorted" = none
  b_max : mg "max" = none
  b_min : mg "min" = none
  b_abs : mg "abs" = none
  b_all : mg "all" = none
  b_list : mg "list" = none
  b_tuple : mg "tuple" = none
  b_isinstance : mg "isinstance" = none
  b_str : mg "str" = none
  b_int : mg "int" = none
  b_bool : mg "bool" = none
  b_range : mg "range" = none
  b_enumerate : mg "enumerate" = none
  b_zip : mg "zip" = none
  c_LARGEST : ∃ t, mg "LARGEST" = some (.int 1000 t)
  c_MOST_JUDGES : ∃ t, mg "MOST_JUDGES" = some (.int 12 t)
section
variable [Tbs] {P : Program} {w : World} {K : PySem.W.Frag} {mg : Str → Option Value} {base : Heap}
theorem has_law_pick {f : Addr} {fd : FuncData} (dd : Def K mg "_law_pick" "_law_pick" s_law_pick ["deck", "limit"] f fd) (T : Txt K mg)  : Has P w K mg base "_law_pick" ["deck", "limit"] 1 pr_law_pick := by
  refine dd.has (fn_ok 1 dd.fn sc_law_pick (fun os ds post ex h => ?_) (fun cdv A outer s H E C os ds post ex hr tk hps h => ?_)) prN_mono
  · obtain ⟨a, rfl, rfl, _⟩ := h; exact ⟨rfl, rfl⟩
  · obtain ⟨⟨a, b, t, l⟩, rfl, rfl, ⟨⟨ha, hb, hb2, ht, ht2⟩, hl, hl2⟩, hp⟩ := h
    refine wss_norm (δ' := [_, _, _, _]) (μ' := [_]) ?_ rfl rfl
    refine wss_cons ?_
    apply ws_ifE
    · repeat (first | exact lk_nil | refine lk_none ?_ | refine lk_dat ?_ | refine lk_loc (by simp) ?_)
    · apply et_in
      refine wt_gt ?_
      refine we_ix ?_
      refine we_name 0 (q := ?_)
      refine we_int ?_
      first | refine ⟨_, _, _, .inl rfl, rfl, (by first | rfl | exact atI_ints _ (by omega) (by omega)), ?_⟩ | refine ⟨_, _, _, .inr rfl, rfl, (by first | rfl | exact atI_ints _ (by omega) (by omega)), ?_⟩
      refine we_int ?_
      refine ⟨_, _, rfl, rfl, ?_⟩
      exact ⟨_, rfl, rfl, (by repeat (first | exact wkM_refl | exact wkM_nil | exact wkM_app | refine wkM_cons (by first | exact .inl rfl | exact .inr rfl) ?_ | refine wkM_trans wkM_app ?_))⟩
    · intro hc1
      refine wss_cons ?_
      refine ws_set 3 sc_law_pick.nd rfl (by first | exact Or.inl rfl | exact Or.inr rfl) ?_
      refine we_mod ?_
      refine we_ix ?_
      refine we_name 0 (q := ?_)
      refine we_int ?_
      first | refine ⟨_, _, _, .inl rfl, rfl, (by first | rfl | exact atI_ints _ (by omega) (by omega)), ?_⟩ | refine ⟨_, _, _, .inr rfl, rfl, (by first | rfl | exact atI_ints _ (by omega) (by omega)), ?_⟩
      refine we_name 1 (q := ?_)
      refine ⟨_, _, rfl, rfl, by omega, ?_⟩
      refine wss_norm (δ' := [_, _, _, _]) (μ' := [_]) ?_ rfl rfl
      refine wss_cons ?_
      refine ws_setL ?_
      refine we_fdiv ?_
      refine we_ix ?_
      refine we_name 0 (q := ?_)
      refine we_int ?_
      first | refine ⟨_, _, _, .inl rfl, rfl, (by first | rfl | exact atI_ints _ (by omega) (by omega)), ?_⟩ | refine ⟨_, _, _, .inr rfl, rfl, (by first | rfl | exact atI_ints _ (by omega) (by omega)), ?_⟩
      refine we_name 1 (q := ?_)
      refine ⟨_, _, rfl, rfl, ⟨by omega, by omega⟩, ?_⟩
      refine we_name 0 (q := ?_)
      refine we_int ?_
      refine ⟨_, _, _, _, _, _, rfl, rfl, rfl, rfl, rfl, ?_⟩
      refine wss_norm (δ' := [_, _, _, _]) (μ' := [_]) ?_ rfl rfl
      refine wss_one ?_
      refine ws_ret ?_
      refine we_name 3 (q := ?_)
      refine ret1 rfl ?_
      exact hp _ _ ⟨_, a / l, t, rfl, rfl, Int.emod_nonneg _ (by omega), Int.emod_lt_of_pos _ hl, Int.ediv_nonneg ha (by omega), by omega, by omega⟩
    · intro hc1
      refine wss_nil ?_
      refine wss_cons ?_
      refine ws_setL ?_
      refine we_add ?_
      refine we_ix ?_
      refine we_name 0 (q := ?_)
      refine we_int ?_
      first | refine ⟨_, _, _, .inl rfl, rfl, (by first | rfl | exact atI_ints _ (by omega) (by omega)), ?_⟩ | refine ⟨_, _, _, .inr rfl, rfl, (by first | rfl | exact atI_ints _ (by omega) (by omega)), ?_⟩
      refine we_int ?_
      first | refine .inl ⟨_, _, rfl, rfl, ?_⟩ | refine .inr (.inr (.inl ⟨_, _, rfl, rfl, (by rw [sizeLine_eq]; simp; try omega), ?_⟩)) | refine .inr (.inl ⟨_, _, rfl, rfl, (by rw [sizeLine_eq]; simp; try omega), ?_⟩)
      refine we_name 0 (q := ?_)
      refine we_int ?_
      refine ⟨_, _, _, _, _, _, rfl, rfl, rfl, rfl, rfl, ?_⟩
      refine wss_norm (δ' := [_, _, _, _]) (μ' := [_]) ?_ rfl rfl
      refine wss_cons ?_
      refine ws_set 2 sc_law_pick.nd rfl (by first | exact Or.inl rfl | exact Or.inr rfl) ?_
      refine we_mod ?_
      refine we_pow ?_
      refine we_add ?_
      refine we_ix ?_
      refine we_name 0 (q := ?_)
      refine we_int ?_
      first | refine ⟨_, _, _, .inl rfl, rfl, (by first | rfl | exact atI_ints _ (by omega) (by omega)), ?_⟩ | refine ⟨_, _, _, .inr rfl, rfl, (by first | rfl | exact atI_ints _ (by omega) (by omega)), ?_⟩
      refine we_mul ?_
      refine we_int ?_
      refine we_ix ?_
      refine we_name 0 (q := ?_)
      refine we_int ?_
      first | refine ⟨_, _, _, .inl rfl, rfl, (by first | rfl | exact atI_ints _ (by omega) (by omega)), ?_⟩ | refine ⟨_, _, _, .inr rfl, rfl, (by first | rfl | exact atI_ints _ (by omega) (by omega)), ?_⟩
      refine .inl ⟨_, _, rfl, rfl, (by first | exact .inl ⟨by omega, by omega⟩ | exact .inr ⟨by omega, by omega⟩), ?_⟩
      first | refine .inl ⟨_, _, rfl, rfl, ?_⟩ | refine .inr (.inr (.inl ⟨_, _, rfl, rfl, (by rw [sizeLine_eq]; simp; try omega), ?_⟩)) | refine .inr (.inl ⟨_, _, rfl, rfl, (by rw [sizeLine_eq]; simp; try omega), ?_⟩)
      refine we_int ?_
      refine ⟨_, _, rfl, rfl, ⟨by omega, by omega, by omega⟩, ?_⟩
      refine we_int ?_
      refine ⟨_, _, rfl, rfl, by omega, ?_⟩
      refine wss_norm (δ' := [_, _, _, _]) (μ' := [_]) ?_ rfl rfl
      refine wss_cons ?_
      refine ws_set 3 sc_law_pick.nd rfl (by first | exact Or.inl rfl | exact Or.inr rfl) ?_
      refine we_fdiv ?_
      refine we_mod ?_
      refine we_pow ?_
      refine we_add ?_
      refine we_name 2 (q := ?_)
      refine we_mul ?_
      refine we_int ?_
      refine we_ix ?_
      refine we_name 0 (q := ?_)
      refine we_int ?_
      first | refine ⟨_, _, _, .inl rfl, rfl, (by first | rfl | exact atI_ints _ (by omega) (by omega)), ?_⟩ | refine ⟨_, _, _, .inr rfl, rfl, (by first | rfl | exact atI_ints _ (by omega) (by omega)), ?_⟩
      refine .inl ⟨_, _, rfl, rfl, (by first | exact .inl ⟨by omega, by omega⟩ | exact .inr ⟨by omega, by omega⟩), ?_⟩
      first | refine .inl ⟨_, _, rfl, rfl, ?_⟩ | refine .inr (.inr (.inl ⟨_, _, rfl, rfl, (by rw [sizeLine_eq]; simp; try omega), ?_⟩)) | refine .inr (.inl ⟨_, _, rfl, rfl, (by rw [sizeLine_eq]; simp; try omega), ?_⟩)
      refine we_int ?_
      refine ⟨_, _, rfl, rfl, ⟨by omega, by omega, by omega⟩, ?_⟩
      refine we_int ?_
      refine ⟨_, _, rfl, rfl, by omega, ?_⟩
      refine we_int ?_
      refine ⟨_, _, rfl, rfl, ⟨by omega, by omega⟩, ?_⟩
      refine wss_norm (δ' := [_, _, _, _]) (μ' := [_]) ?_ rfl rfl
      refine wss_cons ?_
      apply ws_ifE
      · repeat (first | exact lk_nil | refine lk_none ?_ | refine lk_dat ?_ | refine lk_loc (by simp) ?_)
      · apply et_in
        refine wt_gt ?_
        refine we_name 1 (q := ?_)
        refine we_int ?_
        refine ⟨_, _, rfl, rfl, ?_⟩
        exact ⟨_, rfl, rfl, (by repeat (first | exact wkM_refl | exact wkM_nil | exact wkM_app | refine wkM_cons (by first | exact .inl rfl | exact .inr rfl) ?_ | refine wkM_trans wkM_app ?_))⟩
      · intro hc2
        refine wss_one ?_
        refine ws_ret ?_
        refine we_mod ?_
        refine we_add ?_
        refine we_mul ?_
        refine we_name 3 (q := ?_)
        refine we_int ?_
        refine .inl ⟨_, _, rfl, rfl, (by first | exact .inl ⟨by omega, by omega⟩ | exact .inr ⟨by omega, by omega⟩), ?_⟩
        refine we_name 2 (q := ?_)
        first | refine .inl ⟨_, _, rfl, rfl, ?_⟩ | refine .inr (.inr (.inl ⟨_, _, rfl, rfl, (by rw [sizeLine_eq]; simp; try omega), ?_⟩)) | refine .inr (.inl ⟨_, _, rfl, rfl, (by rw [sizeLine_eq]; simp; try omega), ?_⟩)
        refine we_name 1 (q := ?_)
        refine ⟨_, _, rfl, rfl, by omega, ?_⟩
        refine ret1 rfl ?_
        exact hp _ _ ⟨_, a, t + 1, rfl, rfl, Int.emod_nonneg _ (by omega), Int.emod_lt_of_pos _ hl, ha, by omega, by omega⟩
      · intro hc2
        refine wss_nil ?_
        refine wss_one ?_
        refine ws_ret ?_
        refine we_mod ?_
        refine we_name 3 (q := ?_)
        refine we_name 1 (q := ?_)
        refine ⟨_, _, rfl, rfl, by omega, ?_⟩
        refine ret1 rfl ?_
        exact hp _ _ ⟨_, a, t + 1, rfl, rfl, Int.emod_nonneg _ (by omega), Int.emod_lt_of_pos _ hl, ha, by omega, by omega⟩
theorem has_is_from {f : Addr} {fd : FuncData} (dd : Def K mg "is_from" "is_from" s_is_from ["value", "low", "high"] f fd) (T : Txt K mg)  : Has P w K mg base "is_from" ["value", "low", "high"] 1 pr_is_from := by
  refine dd.has (fn_ok 0 dd.fn sc_is_from (fun os ds post ex h => ?_) (fun cdv A outer s H E C os ds post ex hr tk hps h => ?_)) prV_mono
  · obtain ⟨a, rfl, rfl, _⟩ := h; exact ⟨rfl, rfl⟩
  · obtain ⟨⟨v, l, h⟩, rfl, rfl, ⟨ty, hty⟩, hp⟩ := h
    refine wss_one ?_
    refine ws_ret ?_
    apply we_ev
    · repeat (first | exact lk_nil | refine lk_none ?_ | refine lk_dat ?_ | refine lk_loc (by simp) ?_)
    · apply ev_and
      · repeat (first | exact lk_nil | refine lk_none ?_ | refine lk_dat ?_ | refine lk_loc (by simp) ?_)
      · apply ev_in
        refine we_isi T.b_isinstance ?_
        refine wa_cons ?_
        refine we_name 0 (q := ?_)
        refine wa_cons ?_
        refine we_bty (T := "int") T.b_int (by decide +kernel) ?_
        refine wa_nil ?_
        refine ⟨_, _, _, _, rfl, by decide, rfl, hty, ?_⟩
        exact ⟨rfl, (by repeat (first | exact wkM_refl | exact wkM_nil | exact wkM_app | refine wkM_cons (by first | exact .inl rfl | exact .inr rfl) ?_ | refine wkM_trans wkM_app ?_))⟩
      · intro hc1
        apply (ev_and (l := isFromD v l h))
        · repeat (first | exact lk_nil | refine lk_none ?_ | refine lk_dat ?_ | refine lk_loc (by simp) ?_)
        · apply ev_not
          · repeat (first | exact lk_nil | refine lk_none ?_ | refine lk_dat ?_ | refine lk_loc (by simp) ?_)
          apply ev_in
          refine we_isi T.b_isinstance ?_
          refine wa_cons ?_
          refine we_name 0 (q := ?_)
          refine wa_cons ?_
          refine we_bty (T := "bool") T.b_bool (by decide +kernel) ?_
          refine wa_nil ?_
          refine ⟨_, _, _, _, rfl, by decide, rfl, hty, ?_⟩
          exact ⟨rfl, (by repeat (first | exact wkM_refl | exact wkM_nil | exact wkM_app | refine wkM_cons (by first | exact .inl rfl | exact .inr rfl) ?_ | refine wkM_trans wkM_app ?_))⟩
        · intro hc2
          obtain ⟨i, rfl⟩ := isInt_of hty hc1 hc2
          apply ev_one
          show EvP _ _ _ _ _ (.bl (decide (l ≤ i) && decide (i ≤ h)))
          apply ev_lele
          · repeat (first | exact lk_nil | refine lk_none ?_ | refine lk_dat ?_ | refine lk_loc (by simp) ?_)
          · apply ev_in
            refine we_name 1 (q := ?_)
            exact ⟨rfl, (by repeat (first | exact wkM_refl | exact wkM_nil | exact wkM_app | refine wkM_cons (by first | exact .inl rfl | exact .inr rfl) ?_ | refine wkM_trans wkM_app ?_))⟩
          · apply ev_in
            refine we_name 0 (q := ?_)
            exact ⟨rfl, (by repeat (first | exact wkM_refl | exact wkM_nil | exact wkM_app | refine wkM_cons (by first | exact .inl rfl | exact .inr rfl) ?_ | refine wkM_trans wkM_app ?_))⟩
          · intro hc3
            apply ev_in
            refine we_name 2 (q := ?_)
            exact ⟨rfl, (by repeat (first | exact wkM_refl | exact wkM_nil | exact wkM_app | refine wkM_cons (by first | exact .inl rfl | exact .inr rfl) ?_ | refine wkM_trans wkM_app ?_))⟩
          · with_unfolding_all rfl
    refine ret0 ?_
    rw [← isFromD_split v l h hty]
    exact hp
theorem has_need_results {f : Addr} {fd : FuncData} (dd : Def K mg "need_results" "need_results" s_need_results ["judges", "results"] f fd) (T : Txt K mg) (h_is_from : Has P w K mg base "is_from" ["value", "low", "high"] 1 pr_is_from) : Has P w K mg base "need_results" ["judges", "results"] 2 pr_need_results := by
  refine dd.has (fn_ok 0 dd.fn sc_need_results (fun os ds post ex h => ?_) (fun cdv A outer s H E C os ds post ex hr tk hps h => ?_)) prV_mono
  · obtain ⟨a, rfl, rfl, _⟩ := h; exact ⟨rfl, rfl⟩
  · obtain ⟨⟨n, res⟩, rfl, rfl, hrs, hp⟩ := h
    obtain ⟨h1, h2, h3, h4⟩ := id hrs
    have hl := ress_len hrs
    refine wss_cons ?_
    apply ws_ifE
    · repeat (first | exact lk_nil | refine lk_none ?_ | refine lk_dat ?_ | refine lk_loc (by simp) ?_)
    · apply et_not
      apply et_val
      · apply ev_in
        refine we_def h_is_from (hr.mono (by omega)) takesF ?_
        refine wa_cons ?_
        refine we_name 0 (q := ?_)
        refine wa_cons ?_
        refine we_int ?_
        refine wa_cons ?_
        refine we_gintE T.c_MOST_JUDGES ?_
        refine wa_nil ?_
        refine .inl ⟨_, _, rfl, ?_⟩
        refine ⟨(.int n, 1, 12), rfl, rfl, okD_int, putR_dat ?_⟩ -- call is_from(judges, 1, MOST_JUDGES)
        exact ⟨rfl, (by repeat (first | exact wkM_refl | exact wkM_nil | exact wkM_app | refine wkM_cons (by first | exact .inl rfl | exact .inr rfl) ?_ | refine wkM_trans wkM_app ?_))⟩
      · intro _; rfl
    · intro hc1
      refine wss_one ?_
      exact ws_never (by simp [isFromD] at hc1; omega)
    · intro hc1
      refine wss_nil ?_
      refine wss_cons ?_
      apply ws_ifE
      · repeat (first | exact lk_nil | refine lk_none ?_ | refine lk_dat ?_ | refine lk_loc (by simp) ?_)
      · apply et_ww
        apply ew_or
        · repeat (first | exact lk_nil | refine lk_none ?_ | refine lk_dat ?_ | refine lk_loc (by simp) ?_)
        · apply et_not
          apply et_val
          · apply ev_in
            refine we_isi T.b_isinstance ?_
            refine wa_cons ?_
            refine we_name 1 (q := ?_)
            refine wa_cons ?_
            refine we_bty (T := "tuple") T.b_tuple (by decide +kernel) ?_
            refine wa_nil ?_
            refine ⟨_, _, _, _, rfl, by decide, rfl, rfl, ?_⟩
            exact ⟨rfl, (by repeat (first | exact wkM_refl | exact wkM_nil | exact wkM_app | refine wkM_cons (by first | exact .inl rfl | exact .inr rfl) ?_ | refine wkM_trans wkM_app ?_))⟩
          · intro _; rfl
        · intro hc3
          apply ew_or1
          apply et_in
          refine wt_ne hr.units ?_
          refine we_len T.b_len ?_
          refine wa_cons ?_
          refine we_name 1 (q := ?_)
          refine wa_nil ?_
          refine ⟨_, _, _, rfl, rfl, rfl, ?_⟩
          refine we_fdiv ?_
          refine we_add ?_
          refine we_name 0 (q := ?_)
          refine we_int ?_
          first | refine .inl ⟨_, _, rfl, rfl, ?_⟩ | refine .inr (.inr (.inl ⟨_, _, rfl, rfl, (by rw [sizeLine_eq]; simp; try omega), ?_⟩)) | refine .inr (.inl ⟨_, _, rfl, rfl, (by rw [sizeLine_eq]; simp; try omega), ?_⟩)
          refine we_int ?_
          refine ⟨_, _, rfl, rfl, ⟨by omega, by omega⟩, ?_⟩
          refine ⟨_, _, rfl, rfl, (by with_reducible repeat (first | exact fit_int | exact fit_bl | exact fit_non | exact fit_nil | exact fit_all_int _ | refine fit_lst ?_ | refine fit_tup ?_ | refine fit_cons ?_ ?_ | exact fit_str (by decide))), (by with_reducible repeat (first | exact fit_int | exact fit_bl | exact fit_non | exact fit_nil | exact fit_all_int _ | refine fit_lst ?_ | refine fit_tup ?_ | refine fit_cons ?_ ?_ | exact fit_str (by decide))), ?_⟩
          exact ⟨_, rfl, rfl, (by repeat (first | exact wkM_refl | exact wkM_nil | exact wkM_app | refine wkM_cons (by first | exact .inl rfl | exact .inr rfl) ?_ | refine wkM_trans wkM_app ?_))⟩
      · intro hc2
        exact nope hc2 (need_res hrs)
      · intro hc2
        refine wss_nil ?_
        refine wss_one ?_
        apply ws_ifE
        · repeat (first | exact lk_nil | refine lk_none ?_ | refine lk_dat ?_ | refine lk_loc (by simp) ?_)
        · apply et_not
          apply et_val
          · apply ev_in
            refine we_all rfl T.b_all ?_
            refine wa_cons ?_
            refine we_lc0 (tgt_name 2) rfl sc_need_results.nd (blkOk_by (own := [("one", 2)]) (by first | rfl | decide +kernel)) (fun _ _ _ _ _ => pg_name (i := 2) sc_need_results.nd rfl (Or.inl rfl)) (by decide) ?_
            refine wi_seq ?_
            refine we_name 1 (q := ?_)
            first | refine ⟨_, _, .inl rfl, ?_⟩ | refine ⟨_, _, .inr rfl, ?_⟩
            refine ⟨Int, res, D.int, fun r => D.bl (isFromD (.int r) 0 12000), ?_, ?_, fun x acc hx => ⟨_, rfl, fun s0 H0 Cc cl fp => ?_⟩, ?_⟩
            · exact rfl
            · exact (by omega)
            · refine we_norm (δ' := [_, _, _]) rfl ?_
              apply we_ev
              · repeat (first | exact lk_nil | refine lk_none ?_ | refine lk_dat ?_ | refine lk_loc (by simp) ?_)
              · apply ev_in
                refine we_def h_is_from (hr.mono (by omega)) takesF ?_
                refine wa_cons ?_
                refine we_name 2 (q := ?_)
                refine wa_cons ?_
                refine we_int ?_
                refine wa_cons ?_
                refine we_mul ?_
                refine we_gintE T.c_MOST_JUDGES ?_
                refine we_gintE T.c_LARGEST ?_
                refine .inl ⟨_, _, rfl, rfl, (by first | exact .inl ⟨by omega, by omega⟩ | exact .inr ⟨by omega, by omega⟩), ?_⟩
                refine wa_nil ?_
                refine .inl ⟨_, _, rfl, ?_⟩
                refine ⟨(.int x, 0, 12000), rfl, rfl, okD_int, putR_dat ?_⟩ -- call is_from(one, 0, MOST_JUDGES * LARGEST)
                exact ⟨rfl, (by repeat (first | exact wkM_refl | exact wkM_nil | exact wkM_app | refine wkM_cons (by first | exact .inl rfl | exact .inr rfl) ?_ | refine wkM_trans wkM_app ?_))⟩
              exact ⟨_, rfl, (by repeat (first | exact wkM_refl | exact wkM_nil | exact wkM_app | refine wkM_cons (by first | exact .inl rfl | exact .inr rfl) ?_ | refine wkM_trans wkM_app ?_))⟩
            refine wa_nil ?_
            refine ⟨_, res.map fun r => isFromD (.int r) 0 12000, rfl, (by simp [cnt, Function.comp_def]), ?_⟩
            exact ⟨rfl, (by repeat (first | exact wkM_refl | exact wkM_nil | exact wkM_app | refine wkM_cons (by first | exact .inl rfl | exact .inr rfl) ?_ | refine wkM_trans wkM_app ?_))⟩
          · intro _; rfl
        · intro hc4
          exact nope hc4 (ress_all hrs)
        · intro hc4
          refine wss_nil ?_
          refine ret0 ?_
          exact hp
theorem has_sums_of {f : Addr} {fd : FuncData} (dd : Def K mg "sums_of" "sums_of" s_sums_of ["judges", "results"] f fd) (T : Txt K mg)  : Has P w K mg base "sums_of" ["judges", "results"] 1 pr_sums_of := by
  refine dd.has (fn_ok 0 dd.fn sc_sums_of (fun os ds post ex h => ?_) (fun cdv A outer s H E C os ds post ex hr tk hps h => ?_)) prV_mono
  · obtain ⟨a, rfl, rfl, _⟩ := h; exact ⟨rfl, rfl⟩
  · obtain ⟨⟨n, res⟩, rfl, rfl, ⟨h0, h1, h2⟩, hp⟩ := h
    refine wss_cons ?_
    refine ws_setLc0 2 (tgt_pair 3 4) rfl sc_sums_of.nd rfl rfl (sw_true rfl rfl rfl (by decide +kernel)) (blkOk_by (own := [("one", 3), ("other", 4)]) (by first | rfl | decide +kernel)) (fun _ _ _ _ _ => (pg_tup rfl (pgs_cons (pg_name (i := 3) sc_sums_of.nd rfl (Or.inl rfl)) (pgs_cons (pg_name (i := 4) sc_sums_of.nd rfl (Or.inl rfl)) pgs_nil)))) (by decide) ?_
    refine wi_zip T.b_zip ?_
    refine wa_cons ?_
    refine we_name 1 (q := ?_)
    refine wa_cons ?_
    refine we_slice ?_
    refine we_name 1 (q := ?_)
    refine wo_some ?_
    refine we_int ?_
    refine ⟨_, rfl, ?_⟩
    refine wo_none ?_
    first | refine .inl ⟨_, rfl, ?_⟩ | refine .inr ⟨_, rfl, ?_⟩
    refine wa_nil ?_
    first | refine ⟨_, _, _, _, _, _, rfl, .inl ⟨rfl, rfl⟩, ?_⟩ | refine ⟨_, _, _, _, _, _, rfl, .inr ⟨rfl, rfl⟩, ?_⟩
    refine ⟨(Int × Int), res.zip res.tail, (fun p => D.tup [.int p.1, .int p.2]), (fun p => D.int (p.1 - p.2)), ?_, ?_, fun x acc hx => ⟨_, rfl, fun s0 H0 Cc cl fp => ?_⟩, ?_⟩
    · exact (zip_tail_ys res)
    · exact (by rw [List.length_zip]; omega)
    · refine we_norm (δ' := [_, _, _, _, _]) rfl ?_
      refine we_sub ?_
      refine we_name 3 (q := ?_)
      refine we_name 4 (q := ?_)
      refine ⟨_, _, rfl, rfl, ?_⟩
      exact ⟨_, rfl, (by repeat (first | exact wkM_refl | exact wkM_nil | exact wkM_app | refine wkM_cons (by first | exact .inl rfl | exact .inr rfl) ?_ | refine wkM_trans wkM_app ?_))⟩
    refine wss_norm (δ' := [_, _, _, _, _]) (μ' := [_]) ?_ rfl rfl
    refine wss_cons ?_
    apply ws_ifE
    · repeat (first | exact lk_nil | refine lk_none ?_ | refine lk_dat ?_ | refine lk_loc (by simp) ?_)
    · apply et_in
      refine wt_eq hr.units ?_
      refine we_mod ?_
      refine we_name 0 (q := ?_)
      refine we_int ?_
      refine ⟨_, _, rfl, rfl, by omega, ?_⟩
      refine we_int ?_
      refine ⟨_, _, rfl, rfl, (by with_reducible repeat (first | exact fit_int | exact fit_bl | exact fit_non | exact fit_nil | exact fit_all_int _ | refine fit_lst ?_ | refine fit_tup ?_ | refine fit_cons ?_ ?_ | exact fit_str (by decide))), (by with_reducible repeat (first | exact fit_int | exact fit_bl | exact fit_non | exact fit_nil | exact fit_all_int _ | refine fit_lst ?_ | refine fit_tup ?_ | refine fit_cons ?_ ?_ | exact fit_str (by decide))), ?_⟩
      exact ⟨_, rfl, rfl, (by repeat (first | exact wkM_refl | exact wkM_nil | exact wkM_app | refine wkM_cons (by first | exact .inl rfl | exact .inr rfl) ?_ | refine wkM_trans wkM_app ?_))⟩
    · intro hc1
      refine wss_one ?_
      refine ws_ret ?_
      refine we_tup ?_
      refine wa_cons ?_
      refine we_name 2 (q := ?_)
      refine wa_cons ?_
      refine we_ix ?_
      refine we_name 1 (q := ?_)
      refine we_neg ?_
      refine we_int ?_
      refine ⟨_, rfl, ?_⟩
      first | refine ⟨_, _, _, .inl rfl, rfl, (atI_lastI _ (by omega)), ?_⟩ | refine ⟨_, _, _, .inr rfl, rfl, (atI_lastI _ (by omega)), ?_⟩
      refine wa_nil ?_
      refine ⟨_, _, rfl, by simp [sizeLine_eq], ?_⟩
      refine ret0 ?_
      exact Eq.mp (congrArg (fun d => post (.dat d) []) (sums_odd hc1 h0).symm) hp
    · intro hc1
      refine wss_nil ?_
      refine wss_one ?_
      refine ws_ret ?_
      apply we_ev
      · repeat (first | exact lk_nil | refine lk_none ?_ | refine lk_dat ?_ | refine lk_loc (by simp) ?_)
      · apply ev_in
        refine we_tup ?_
        refine wa_cons ?_
        refine we_add ?_
        refine we_name 2 (q := ?_)
        refine we_lst ?_
        refine wa_cons ?_
        refine we_ix ?_
        refine we_name 1 (q := ?_)
        refine we_neg ?_
        refine we_int ?_
        refine ⟨_, rfl, ?_⟩
        first | refine ⟨_, _, _, .inl rfl, rfl, (atI_lastI _ (by omega)), ?_⟩ | refine ⟨_, _, _, .inr rfl, rfl, (atI_lastI _ (by omega)), ?_⟩
        refine wa_nil ?_
        refine ⟨_, _, rfl, by simp [sizeLine_eq], ?_⟩
        refine .inr (.inr (.inr ⟨_, _, rfl, rfl, (by rw [sizeLine_eq, List.length_map, List.length_zip]; simp only [List.length_cons, List.length_nil]; omega), ?_⟩))
        refine wa_cons ?_
        refine we_non ?_
        refine wa_nil ?_
        refine ⟨_, _, rfl, by simp [sizeLine_eq], ?_⟩
        exact ⟨rfl, (by repeat (first | exact wkM_refl | exact wkM_nil | exact wkM_app | refine wkM_cons (by first | exact .inl rfl | exact .inr rfl) ?_ | refine wkM_trans wkM_app ?_))⟩
      refine ret0 ?_
      exact Eq.mp (congrArg (fun d => post (.dat d) []) (sums_even hc1 h0).symm) hp
theorem has_least_gaps {f : Addr} {fd : FuncData} (dd : Def K mg "least_gaps" "least_gaps" s_least_gaps ["sums", "middle"] f fd) (T : Txt K mg)  : Has P w K mg base "least_gaps" ["sums", "middle"] 1 pr_least_gaps := by
  refine dd.has (fn_ok 0 dd.fn sc_least_gaps (fun os ds post ex h => ?_) (fun cdv A outer s H E C os ds post ex hr tk hps h => ?_)) prV_mono
  · obtain ⟨a, rfl, rfl, _⟩ := h; exact ⟨rfl, rfl⟩
  · obtain ⟨⟨S, m⟩, rfl, rfl, hl, hp⟩ := h
    simp only at hl hp
    rcases m with _ | m
    · refine wss_cons ?_
      apply ws_ifE
      · repeat (first | exact lk_nil | refine lk_none ?_ | refine lk_dat ?_ | refine lk_loc (by simp) ?_)
      · apply et_in
        refine wt_eq hr.units ?_
        refine we_name 0 (q := ?_)
        refine we_lst ?_
        refine wa_nil ?_
        refine ⟨_, _, rfl, by simp [sizeLine_eq], ?_⟩
        refine ⟨_, _, rfl, rfl, (by with_reducible repeat (first | exact fit_int | exact fit_bl | exact fit_non | exact fit_nil | exact fit_all_int _ | refine fit_lst ?_ | refine fit_tup ?_ | refine fit_cons ?_ ?_ | exact fit_str (by decide))), (by with_reducible repeat (first | exact fit_int | exact fit_bl | exact fit_non | exact fit_nil | exact fit_all_int _ | refine fit_lst ?_ | refine fit_tup ?_ | refine fit_cons ?_ ?_ | exact fit_str (by decide))), ?_⟩
        exact ⟨_, rfl, rfl, (by repeat (first | exact wkM_refl | exact wkM_nil | exact wkM_app | refine wkM_cons (by first | exact .inl rfl | exact .inr rfl) ?_ | refine wkM_trans wkM_app ?_))⟩
      · intro hc1
        have hS : S = [] := of_decide_eq_true ((eqD_lnil S).symm.trans hc1)
        refine wss_one ?_
        refine ws_ret ?_
        refine we_lst ?_
        refine wa_nil ?_
        refine ⟨_, _, rfl, by simp [sizeLine_eq], ?_⟩
        refine ret0l rfl ?_
        subst hS
        exact hp
      · intro hc1
        have hS : S ≠ [] := of_decide_eq_false ((eqD_lnil S).symm.trans hc1)
        have hSl : 0 < S.length := List.length_pos_iff.mpr hS
        refine wss_nil ?_
        refine wss_cons ?_
        refine ws_set 2 sc_least_gaps.nd rfl (by first | exact Or.inl rfl | exact Or.inr rfl) ?_
        apply we_ev
        · repeat (first | exact lk_nil | refine lk_none ?_ | refine lk_dat ?_ | refine lk_loc (by simp) ?_)
        · apply (ev_if (y := DS.D.non))
          · repeat (first | exact lk_nil | refine lk_none ?_ | refine lk_dat ?_ | refine lk_loc (by simp) ?_)
          · apply et_in
            refine wt_is ?_
            refine we_name 1 (q := ?_)
            refine we_non ?_
            first | refine .inl ⟨_, rfl, rfl, (noRaw_oD _), ?_⟩ | refine .inr ⟨_, _, rfl, rfl, ?_⟩
            exact ⟨_, rfl, rfl, (by repeat (first | exact wkM_refl | exact wkM_nil | exact wkM_app | refine wkM_cons (by first | exact .inl rfl | exact .inr rfl) ?_ | refine wkM_trans wkM_app ?_))⟩
          · intro hc2
            apply ev_in
            refine we_mod ?_
            refine we_ix ?_
            refine we_name 0 (q := ?_)
            refine we_neg ?_
            refine we_int ?_
            refine ⟨_, rfl, ?_⟩
            first | refine ⟨_, _, _, .inl rfl, rfl, (atI_lastI _ hSl), ?_⟩ | refine ⟨_, _, _, .inr rfl, rfl, (atI_lastI _ hSl), ?_⟩
            refine we_int ?_
            refine ⟨_, _, rfl, rfl, by omega, ?_⟩
            exact ⟨rfl, (by repeat (first | exact wkM_refl | exact wkM_nil | exact wkM_app | refine wkM_cons (by first | exact .inl rfl | exact .inr rfl) ?_ | refine wkM_trans wkM_app ?_))⟩
          · intro hc2
            cases hc2
        refine wss_norm (δ' := [some (.d (lI S)), some (.d (oD none)), some (.d (.int (base0 (S.getD (S.length - 1) 0) none))), none, none, none]) (μ' := []) ?_ rfl rfl
        refine wss_cons ?_
        refine ws_set 3 sc_least_gaps.nd rfl (by first | exact Or.inl rfl | exact Or.inr rfl) ?_
        refine we_lst ?_
        refine wa_cons ?_
        refine we_name 2 (q := ?_)
        refine wa_nil ?_
        refine ⟨_, _, rfl, by simp [sizeLine_eq], ?_⟩
        refine wss_norm (δ' := [_, _, _, _, _, _]) (μ' := [_]) ?_ rfl rfl
        refine wss_cons ?_
        refine ws_for (tgt_pair 4 5) (pg_tup rfl (pgs_cons (pg_name (i := 4) sc_least_gaps.nd rfl (by first | exact Or.inl rfl | exact Or.inr rfl)) (pgs_cons (pg_name (i := 5) sc_least_gaps.nd rfl (by first | exact Or.inl rfl | exact Or.inr rfl)) pgs_nil))) (fun i δ μ => ∃ (g : Int) (F : List Int), δ = [some (.d (lI S)), some (.d (oD none)), some (.d (.int (g))), some (.loc 0), none, none] ∧ μ = [MO.lst (F.map D.int)] ∧ F.reverse = gapsD (S.drop (S.length - 1 - i)) none ∧ g = (gapsD (S.drop (S.length - 1 - i)) none).headD 0) (passes_of rfl) rfl ?_
        refine wi_zip T.b_zip ?_
        refine wa_cons ?_
        refine we_revl ?_
        refine we_name 0 (q := ?_)
        refine ⟨_, rfl, ?_⟩
        refine wa_cons ?_
        refine we_slice ?_
        refine we_revl ?_
        refine we_name 0 (q := ?_)
        refine ⟨_, rfl, ?_⟩
        refine wo_some ?_
        refine we_int ?_
        refine ⟨_, rfl, ?_⟩
        refine wo_none ?_
        first | refine .inl ⟨_, rfl, ?_⟩ | refine .inr ⟨_, rfl, ?_⟩
        refine wa_nil ?_
        first | refine ⟨_, _, _, _, _, _, rfl, .inl ⟨rfl, rfl⟩, ?_⟩ | refine ⟨_, _, _, _, _, _, rfl, .inr ⟨rfl, rfl⟩, ?_⟩
        refine ⟨Wk.in ⟨base0 (S.getD (S.length - 1) 0) none, [base0 (S.getD (S.length - 1) 0) none], rfl, rfl, ⟨(gaps_base hS).symm, by rw [Nat.sub_zero, gaps_base hS]; rfl⟩⟩ (by repeat (first | exact wkM_refl | exact wkM_nil | exact wkM_app | refine wkM_cons (by first | exact .inl rfl | exact .inr rfl) ?_ | refine wkM_trans wkM_app ?_)) (by repeat (first | exact wkD_nil | refine wkD_cons (by first | exact .inl rfl | exact .inr rfl) ?_)) (by rw [hps]; simp) (by repeat (first | exact lk_nil | refine lk_none ?_ | refine lk_dat ?_ | refine lk_loc (by simp) ?_)), ?_, ?_⟩
        · rintro i y δ' μ' hy ⟨g, F, rfl, rfl, ⟨g1, g2⟩⟩
          rw [← List.map_reverse, cutA_map, cutA_from _ (by decide)] at hy
          obtain ⟨hi, rfl⟩ := zip_rev_get hy
          have hFl : F.length = i + 1 := by rw [← List.length_reverse, g1, gapsD_len, List.length_drop]; omega
          refine ⟨_, rfl, ?_⟩
          refine wss_norm (δ' := [_, _, _, _, _, _]) (μ' := [_]) ?_ rfl rfl
          refine wss_cons ?_
          refine ws_augadd 2 sc_least_gaps.nd rfl (by first | exact Or.inl rfl | exact Or.inr rfl) rfl ?_
          refine we_abs T.b_abs ?_
          refine wa_cons ?_
          refine we_sub ?_
          refine we_name 4 (q := ?_)
          refine we_name 5 (q := ?_)
          refine ⟨_, _, rfl, rfl, ?_⟩
          refine wa_nil ?_
          refine ⟨_, _, rfl, rfl, ?_⟩
          refine ⟨_, rfl, ?_⟩
          refine wss_norm (δ' := [_, _, _, _, _, _]) (μ' := [_]) ?_ rfl rfl
          refine wss_one ?_
          refine ws_expr ?_
          refine we_append ?_
          refine we_name 3 (q := ?_)
          refine ⟨⟨_, rfl⟩, ?_⟩
          refine wa_cons ?_
          refine we_name 2 (q := ?_)
          refine wa_nil ?_
          refine ⟨_, _, _, _, _, rfl, rfl, rfl, rfl, (by rw [List.length_map, sizeLine_eq]; omega), ?_⟩
          first | rw [app_int] | skip
          exact Wk.in ⟨g + absI (S.reverse.getD i 0 - S.reverse.getD (i + 1) 0), F ++ [g + absI (S.reverse.getD i 0 - S.reverse.getD (i + 1) 0)], rfl, rfl, by rw [List.reverse_append, g1, gaps_step hi, g2]; rfl, by rw [gaps_step hi, g2]; rfl⟩ (by repeat (first | exact wkM_refl | exact wkM_nil | exact wkM_app | refine wkM_cons (by first | exact .inl rfl | exact .inr rfl) ?_ | refine wkM_trans wkM_app ?_)) (by repeat (first | exact wkD_nil | refine wkD_cons (by first | exact .inl rfl | exact .inr rfl) ?_)) (by rw [hps]; simp) (by repeat (first | exact lk_nil | refine lk_none ?_ | refine lk_dat ?_ | refine lk_loc (by simp) ?_))
        · rintro δ' μ' ⟨g, F, rfl, rfl, ⟨g1, g2⟩⟩
          rw [← List.map_reverse, cutA_map, cutA_from _ (by decide), show Int.toNat 1 = 1 from rfl, zip_len_rev, Nat.sub_self, List.drop_zero] at g1
          refine wss_one ?_
          refine ws_ret ?_
          refine we_revl ?_
          refine we_name 3 (q := ?_)
          refine ⟨_, rfl, ?_⟩
          refine ret0l rfl ?_
          rw [← List.map_reverse, g1]
          exact hp
    · refine wss_cons ?_
      apply ws_ifE
      · repeat (first | exact lk_nil | refine lk_none ?_ | refine lk_dat ?_ | refine lk_loc (by simp) ?_)
      · apply et_in
        refine wt_eq hr.units ?_
        refine we_name 0 (q := ?_)
        refine we_lst ?_
        refine wa_nil ?_
        refine ⟨_, _, rfl, by simp [sizeLine_eq], ?_⟩
        refine ⟨_, _, rfl, rfl, (by with_reducible repeat (first | exact fit_int | exact fit_bl | exact fit_non | exact fit_nil | exact fit_all_int _ | refine fit_lst ?_ | refine fit_tup ?_ | refine fit_cons ?_ ?_ | exact fit_str (by decide))), (by with_reducible repeat (first | exact fit_int | exact fit_bl | exact fit_non | exact fit_nil | exact fit_all_int _ | refine fit_lst ?_ | refine fit_tup ?_ | refine fit_cons ?_ ?_ | exact fit_str (by decide))), ?_⟩
        exact ⟨_, rfl, rfl, (by repeat (first | exact wkM_refl | exact wkM_nil | exact wkM_app | refine wkM_cons (by first | exact .inl rfl | exact .inr rfl) ?_ | refine wkM_trans wkM_app ?_))⟩
      · intro hc1
        have hS : S = [] := of_decide_eq_true ((eqD_lnil S).symm.trans hc1)
        refine wss_one ?_
        refine ws_ret ?_
        refine we_lst ?_
        refine wa_nil ?_
        refine ⟨_, _, rfl, by simp [sizeLine_eq], ?_⟩
        refine ret0l rfl ?_
        subst hS
        exact hp
      · intro hc1
        have hS : S ≠ [] := of_decide_eq_false ((eqD_lnil S).symm.trans hc1)
        have hSl : 0 < S.length := List.length_pos_iff.mpr hS
        refine wss_nil ?_
        refine wss_cons ?_
        refine ws_set 2 sc_least_gaps.nd rfl (by first | exact Or.inl rfl | exact Or.inr rfl) ?_
        apply we_ev
        · repeat (first | exact lk_nil | refine lk_none ?_ | refine lk_dat ?_ | refine lk_loc (by simp) ?_)
        · apply (ev_if (x := DS.D.non))
          · repeat (first | exact lk_nil | refine lk_none ?_ | refine lk_dat ?_ | refine lk_loc (by simp) ?_)
          · apply et_in
            refine wt_is ?_
            refine we_name 1 (q := ?_)
            refine we_non ?_
            first | refine .inl ⟨_, rfl, rfl, (noRaw_oD _), ?_⟩ | refine .inr ⟨_, _, rfl, rfl, ?_⟩
            exact ⟨_, rfl, rfl, (by repeat (first | exact wkM_refl | exact wkM_nil | exact wkM_app | refine wkM_cons (by first | exact .inl rfl | exact .inr rfl) ?_ | refine wkM_trans wkM_app ?_))⟩
          · intro hc2
            cases hc2
          · intro hc2
            apply ev_in
            refine we_abs T.b_abs ?_
            refine wa_cons ?_
            refine we_sub ?_
            refine we_mul ?_
            refine we_int ?_
            refine we_name 1 (q := ?_)
            refine .inl ⟨_, _, rfl, rfl, (by first | exact .inl ⟨by omega, by omega⟩ | exact .inr ⟨by omega, by omega⟩), ?_⟩
            refine we_ix ?_
            refine we_name 0 (q := ?_)
            refine we_neg ?_
            refine we_int ?_
            refine ⟨_, rfl, ?_⟩
            first | refine ⟨_, _, _, .inl rfl, rfl, (atI_lastI _ hSl), ?_⟩ | refine ⟨_, _, _, .inr rfl, rfl, (atI_lastI _ hSl), ?_⟩
            refine ⟨_, _, rfl, rfl, ?_⟩
            refine wa_nil ?_
            refine ⟨_, _, rfl, rfl, ?_⟩
            exact ⟨rfl, (by repeat (first | exact wkM_refl | exact wkM_nil | exact wkM_app | refine wkM_cons (by first | exact .inl rfl | exact .inr rfl) ?_ | refine wkM_trans wkM_app ?_))⟩
        refine wss_norm (δ' := [some (.d (lI S)), some (.d (oD (some m))), some (.d (.int (base0 (S.getD (S.length - 1) 0) (some m)))), none, none, none]) (μ' := []) ?_ rfl rfl
        refine wss_cons ?_
        refine ws_set 3 sc_least_gaps.nd rfl (by first | exact Or.inl rfl | exact Or.inr rfl) ?_
        refine we_lst ?_
        refine wa_cons ?_
        refine we_name 2 (q := ?_)
        refine wa_nil ?_
        refine ⟨_, _, rfl, by simp [sizeLine_eq], ?_⟩
        refine wss_norm (δ' := [_, _, _, _, _, _]) (μ' := [_]) ?_ rfl rfl
        refine wss_cons ?_
        refine ws_for (tgt_pair 4 5) (pg_tup rfl (pgs_cons (pg_name (i := 4) sc_least_gaps.nd rfl (by first | exact Or.inl rfl | exact Or.inr rfl)) (pgs_cons (pg_name (i := 5) sc_least_gaps.nd rfl (by first | exact Or.inl rfl | exact Or.inr rfl)) pgs_nil))) (fun i δ μ => ∃ (g : Int) (F : List Int), δ = [some (.d (lI S)), some (.d (oD (some m))), some (.d (.int (g))), some (.loc 0), none, none] ∧ μ = [MO.lst (F.map D.int)] ∧ F.reverse = gapsD (S.drop (S.length - 1 - i)) (some m) ∧ g = (gapsD (S.drop (S.length - 1 - i)) (some m)).headD 0) (passes_of rfl) rfl ?_
        refine wi_zip T.b_zip ?_
        refine wa_cons ?_
        refine we_revl ?_
        refine we_name 0 (q := ?_)
        refine ⟨_, rfl, ?_⟩
        refine wa_cons ?_
        refine we_slice ?_
        refine we_revl ?_
        refine we_name 0 (q := ?_)
        refine ⟨_, rfl, ?_⟩
        refine wo_some ?_
        refine we_int ?_
        refine ⟨_, rfl, ?_⟩
        refine wo_none ?_
        first | refine .inl ⟨_, rfl, ?_⟩ | refine .inr ⟨_, rfl, ?_⟩
        refine wa_nil ?_
        first | refine ⟨_, _, _, _, _, _, rfl, .inl ⟨rfl, rfl⟩, ?_⟩ | refine ⟨_, _, _, _, _, _, rfl, .inr ⟨rfl, rfl⟩, ?_⟩
        refine ⟨Wk.in ⟨base0 (S.getD (S.length - 1) 0) (some m), [base0 (S.getD (S.length - 1) 0) (some m)], rfl, rfl, ⟨(gaps_base hS).symm, by rw [Nat.sub_zero, gaps_base hS]; rfl⟩⟩ (by repeat (first | exact wkM_refl | exact wkM_nil | exact wkM_app | refine wkM_cons (by first | exact .inl rfl | exact .inr rfl) ?_ | refine wkM_trans wkM_app ?_)) (by repeat (first | exact wkD_nil | refine wkD_cons (by first | exact .inl rfl | exact .inr rfl) ?_)) (by rw [hps]; simp) (by repeat (first | exact lk_nil | refine lk_none ?_ | refine lk_dat ?_ | refine lk_loc (by simp) ?_)), ?_, ?_⟩
        · rintro i y δ' μ' hy ⟨g, F, rfl, rfl, ⟨g1, g2⟩⟩
          rw [← List.map_reverse, cutA_map, cutA_from _ (by decide)] at hy
          obtain ⟨hi, rfl⟩ := zip_rev_get hy
          have hFl : F.length = i + 1 := by rw [← List.length_reverse, g1, gapsD_len, List.length_drop]; omega
          refine ⟨_, rfl, ?_⟩
          refine wss_norm (δ' := [_, _, _, _, _, _]) (μ' := [_]) ?_ rfl rfl
          refine wss_cons ?_
          refine ws_augadd 2 sc_least_gaps.nd rfl (by first | exact Or.inl rfl | exact Or.inr rfl) rfl ?_
          refine we_abs T.b_abs ?_
          refine wa_cons ?_
          refine we_sub ?_
          refine we_name 4 (q := ?_)
          refine we_name 5 (q := ?_)
          refine ⟨_, _, rfl, rfl, ?_⟩
          refine wa_nil ?_
          refine ⟨_, _, rfl, rfl, ?_⟩
          refine ⟨_, rfl, ?_⟩
          refine wss_norm (δ' := [_, _, _, _, _, _]) (μ' := [_]) ?_ rfl rfl
          refine wss_one ?_
          refine ws_expr ?_
          refine we_append ?_
          refine we_name 3 (q := ?_)
          refine ⟨⟨_, rfl⟩, ?_⟩
          refine wa_cons ?_
          refine we_name 2 (q := ?_)
          refine wa_nil ?_
          refine ⟨_, _, _, _, _, rfl, rfl, rfl, rfl, (by rw [List.length_map, sizeLine_eq]; omega), ?_⟩
          first | rw [app_int] | skip
          exact Wk.in ⟨g + absI (S.reverse.getD i 0 - S.reverse.getD (i + 1) 0), F ++ [g + absI (S.reverse.getD i 0 - S.reverse.getD (i + 1) 0)], rfl, rfl, by rw [List.reverse_append, g1, gaps_step hi, g2]; rfl, by rw [gaps_step hi, g2]; rfl⟩ (by repeat (first | exact wkM_refl | exact wkM_nil | exact wkM_app | refine wkM_cons (by first | exact .inl rfl | exact .inr rfl) ?_ | refine wkM_trans wkM_app ?_)) (by repeat (first | exact wkD_nil | refine wkD_cons (by first | exact .inl rfl | exact .inr rfl) ?_)) (by rw [hps]; simp) (by repeat (first | exact lk_nil | refine lk_none ?_ | refine lk_dat ?_ | refine lk_loc (by simp) ?_))
        · rintro δ' μ' ⟨g, F, rfl, rfl, ⟨g1, g2⟩⟩
          rw [← List.map_reverse, cutA_map, cutA_from _ (by decide), show Int.toNat 1 = 1 from rfl, zip_len_rev, Nat.sub_self, List.drop_zero] at g1
          refine wss_one ?_
          refine ws_ret ?_
          refine we_revl ?_
          refine we_name 3 (q := ?_)
          refine ⟨_, rfl, ?_⟩
          refine ret0l rfl ?_
          rw [← List.map_reverse, g1]
          exact hp
theorem has_slack_of {f : Addr} {fd : FuncData} (dd : Def K mg "slack_of" "slack_of" s_slack_of ["sums", "middle"] f fd) (T : Txt K mg) (h_least_gaps : Has P w K mg base "least_gaps" ["sums", "middle"] 1 pr_least_gaps) : Has P w K mg base "slack_of" ["sums", "middle"] 2 pr_slack_of := by
  refine dd.has (fn_ok 0 dd.fn sc_slack_of (fun os ds post ex h => ?_) (fun cdv A outer s H E C os ds post ex hr tk hps h => ?_)) prV_mono
  · obtain ⟨a, rfl, rfl, _⟩ := h; exact ⟨rfl, rfl⟩
  · obtain ⟨⟨S, m⟩, rfl, rfl, ⟨hl, hm⟩, hp⟩ := h
    simp only at hl hm hp
    rcases m with _ | m
    · refine wss_cons ?_
      apply ws_ifE
      · repeat (first | exact lk_nil | refine lk_none ?_ | refine lk_dat ?_ | refine lk_loc (by simp) ?_)
      · apply et_in
        refine wt_eq hr.units ?_
        refine we_name 0 (q := ?_)
        refine we_lst ?_
        refine wa_nil ?_
        refine ⟨_, _, rfl, by simp [sizeLine_eq], ?_⟩
        refine ⟨_, _, rfl, rfl, (by with_reducible repeat (first | exact fit_int | exact fit_bl | exact fit_non | exact fit_nil | exact fit_all_int _ | refine fit_lst ?_ | refine fit_tup ?_ | refine fit_cons ?_ ?_ | exact fit_str (by decide))), (by with_reducible repeat (first | exact fit_int | exact fit_bl | exact fit_non | exact fit_nil | exact fit_all_int _ | refine fit_lst ?_ | refine fit_tup ?_ | refine fit_cons ?_ ?_ | exact fit_str (by decide))), ?_⟩
        exact ⟨_, rfl, rfl, (by repeat (first | exact wkM_refl | exact wkM_nil | exact wkM_app | refine wkM_cons (by first | exact .inl rfl | exact .inr rfl) ?_ | refine wkM_trans wkM_app ?_))⟩
      · intro hc1
        exact absurd (hm (of_decide_eq_true ((eqD_lnil S).symm.trans hc1))) (by simp)
      · intro hc1
        have hS : S ≠ [] := of_decide_eq_false ((eqD_lnil S).symm.trans hc1)
        have hSl : 0 < S.length := List.length_pos_iff.mpr hS
        refine wss_nil ?_
        refine wss_one ?_
        refine ws_ret ?_
        apply we_ev
        · repeat (first | exact lk_nil | refine lk_none ?_ | refine lk_dat ?_ | refine lk_loc (by simp) ?_)
        · apply ev_in
          refine we_fdiv ?_
          apply we_ev
          · repeat (first | exact lk_nil | refine lk_none ?_ | refine lk_dat ?_ | refine lk_loc (by simp) ?_)
          · apply ev_in
            refine we_sub ?_
            refine we_min rfl T.b_min ?_
            refine wa_cons ?_
            refine we_ix ?_
            refine we_name 0 (q := ?_)
            refine we_int ?_
            first | refine ⟨_, _, _, .inl rfl, rfl, (atI_ints _ (by omega) (by omega)), ?_⟩ | refine ⟨_, _, _, .inr rfl, rfl, (atI_ints _ (by omega) (by omega)), ?_⟩
            refine wa_cons ?_
            refine we_sub ?_
            refine we_mul ?_
            refine we_int ?_
            refine we_gintE T.c_LARGEST ?_
            refine .inl ⟨_, _, rfl, rfl, (by first | exact .inl ⟨by omega, by omega⟩ | exact .inr ⟨by omega, by omega⟩), ?_⟩
            refine we_ix ?_
            refine we_name 0 (q := ?_)
            refine we_int ?_
            first | refine ⟨_, _, _, .inl rfl, rfl, (atI_ints _ (by omega) (by omega)), ?_⟩ | refine ⟨_, _, _, .inr rfl, rfl, (atI_ints _ (by omega) (by omega)), ?_⟩
            refine ⟨_, _, rfl, rfl, ?_⟩
            refine wa_nil ?_
            refine .inr ⟨_, _, _, _, rfl, rfl, rfl, ?_⟩
            apply we_ev
            · repeat (first | exact lk_nil | refine lk_none ?_ | refine lk_dat ?_ | refine lk_loc (by simp) ?_)
            · apply ev_in
              refine we_ix ?_
              refine we_def h_least_gaps (hr.mono (by omega)) takesF ?_
              refine wa_cons ?_
              refine we_name 0 (q := ?_)
              refine wa_cons ?_
              refine we_name 1 (q := ?_)
              refine wa_nil ?_
              refine .inl ⟨_, _, rfl, ?_⟩
              refine ⟨(S, none), rfl, rfl, hl, putR_new ?_⟩ -- call least_gaps(sums, middle)
              refine we_int ?_
              first | refine ⟨_, _, _, .inl rfl, rfl, (atI_ints _ (by omega) (by rw [gapsD_len]; omega)), ?_⟩ | refine ⟨_, _, _, .inr rfl, rfl, (atI_ints _ (by omega) (by rw [gapsD_len]; omega)), ?_⟩
              exact ⟨rfl, (by repeat (first | exact wkM_refl | exact wkM_nil | exact wkM_app | refine wkM_cons (by first | exact .inl rfl | exact .inr rfl) ?_ | refine wkM_trans wkM_app ?_))⟩
            refine ⟨_, _, rfl, rfl, ?_⟩
            exact ⟨rfl, (by repeat (first | exact wkM_refl | exact wkM_nil | exact wkM_app | refine wkM_cons (by first | exact .inl rfl | exact .inr rfl) ?_ | refine wkM_trans wkM_app ?_))⟩
          refine we_int ?_
          refine ⟨_, _, rfl, rfl, ⟨by omega, by omega⟩, ?_⟩
          exact ⟨rfl, (by repeat (first | exact wkM_refl | exact wkM_nil | exact wkM_app | refine wkM_cons (by first | exact .inl rfl | exact .inr rfl) ?_ | refine wkM_trans wkM_app ?_))⟩
        refine ret0 ?_
        exact Eq.mp (congrArg (fun d => post (.dat d) []) (slack_val hS).symm) hp
    · refine wss_cons ?_
      apply ws_ifE
      · repeat (first | exact lk_nil | refine lk_none ?_ | refine lk_dat ?_ | refine lk_loc (by simp) ?_)
      · apply et_in
        refine wt_eq hr.units ?_
        refine we_name 0 (q := ?_)
        refine we_lst ?_
        refine wa_nil ?_
        refine ⟨_, _, rfl, by simp [sizeLine_eq], ?_⟩
        refine ⟨_, _, rfl, rfl, (by with_reducible repeat (first | exact fit_int | exact fit_bl | exact fit_non | exact fit_nil | exact fit_all_int _ | refine fit_lst ?_ | refine fit_tup ?_ | refine fit_cons ?_ ?_ | exact fit_str (by decide))), (by with_reducible repeat (first | exact fit_int | exact fit_bl | exact fit_non | exact fit_nil | exact fit_all_int _ | refine fit_lst ?_ | refine fit_tup ?_ | refine fit_cons ?_ ?_ | exact fit_str (by decide))), ?_⟩
        exact ⟨_, rfl, rfl, (by repeat (first | exact wkM_refl | exact wkM_nil | exact wkM_app | refine wkM_cons (by first | exact .inl rfl | exact .inr rfl) ?_ | refine wkM_trans wkM_app ?_))⟩
      · intro hc1
        have hS : S = [] := of_decide_eq_true ((eqD_lnil S).symm.trans hc1)
        refine wss_one ?_
        refine ws_ret ?_
        apply we_ev
        · repeat (first | exact lk_nil | refine lk_none ?_ | refine lk_dat ?_ | refine lk_loc (by simp) ?_)
        · apply ev_if
          · repeat (first | exact lk_nil | refine lk_none ?_ | refine lk_dat ?_ | refine lk_loc (by simp) ?_)
          · apply et_lele
            · repeat (first | exact lk_nil | refine lk_none ?_ | refine lk_dat ?_ | refine lk_loc (by simp) ?_)
            · apply ev_in
              refine we_int ?_
              exact ⟨rfl, (by repeat (first | exact wkM_refl | exact wkM_nil | exact wkM_app | refine wkM_cons (by first | exact .inl rfl | exact .inr rfl) ?_ | refine wkM_trans wkM_app ?_))⟩
            · apply ev_in
              refine we_name 1 (q := ?_)
              exact ⟨rfl, (by repeat (first | exact wkM_refl | exact wkM_nil | exact wkM_app | refine wkM_cons (by first | exact .inl rfl | exact .inr rfl) ?_ | refine wkM_trans wkM_app ?_))⟩
            · intro hc3
              apply ev_in
              refine we_gintE T.c_LARGEST ?_
              exact ⟨rfl, (by repeat (first | exact wkM_refl | exact wkM_nil | exact wkM_app | refine wkM_cons (by first | exact .inl rfl | exact .inr rfl) ?_ | refine wkM_trans wkM_app ?_))⟩
            · with_unfolding_all rfl
          · intro hc2
            apply ev_in
            refine we_int ?_
            exact ⟨rfl, (by repeat (first | exact wkM_refl | exact wkM_nil | exact wkM_app | refine wkM_cons (by first | exact .inl rfl | exact .inr rfl) ?_ | refine wkM_trans wkM_app ?_))⟩
          · intro hc2
            apply ev_in
            refine we_neg ?_
            refine we_int ?_
            refine ⟨_, rfl, ?_⟩
            exact ⟨rfl, (by repeat (first | exact wkM_refl | exact wkM_nil | exact wkM_app | refine wkM_cons (by first | exact .inl rfl | exact .inr rfl) ?_ | refine wkM_trans wkM_app ?_))⟩
        refine ret0 ?_
        subst hS
        exact Eq.mp (congrArg (fun d => post (.dat d) []) (slack_nil (m := some m) rfl).symm) hp
      · intro hc1
        have hS : S ≠ [] := of_decide_eq_false ((eqD_lnil S).symm.trans hc1)
        have hSl : 0 < S.length := List.length_pos_iff.mpr hS
        refine wss_nil ?_
        refine wss_one ?_
        refine ws_ret ?_
        apply we_ev
        · repeat (first | exact lk_nil | refine lk_none ?_ | refine lk_dat ?_ | refine lk_loc (by simp) ?_)
        · apply ev_in
          refine we_fdiv ?_
          apply we_ev
          · repeat (first | exact lk_nil | refine lk_none ?_ | refine lk_dat ?_ | refine lk_loc (by simp) ?_)
          · apply ev_in
            refine we_sub ?_
            refine we_min rfl T.b_min ?_
            refine wa_cons ?_
            refine we_ix ?_
            refine we_name 0 (q := ?_)
            refine we_int ?_
            first | refine ⟨_, _, _, .inl rfl, rfl, (atI_ints _ (by omega) (by omega)), ?_⟩ | refine ⟨_, _, _, .inr rfl, rfl, (atI_ints _ (by omega) (by omega)), ?_⟩
            refine wa_cons ?_
            refine we_sub ?_
            refine we_mul ?_
            refine we_int ?_
            refine we_gintE T.c_LARGEST ?_
            refine .inl ⟨_, _, rfl, rfl, (by first | exact .inl ⟨by omega, by omega⟩ | exact .inr ⟨by omega, by omega⟩), ?_⟩
            refine we_ix ?_
            refine we_name 0 (q := ?_)
            refine we_int ?_
            first | refine ⟨_, _, _, .inl rfl, rfl, (atI_ints _ (by omega) (by omega)), ?_⟩ | refine ⟨_, _, _, .inr rfl, rfl, (atI_ints _ (by omega) (by omega)), ?_⟩
            refine ⟨_, _, rfl, rfl, ?_⟩
            refine wa_nil ?_
            refine .inr ⟨_, _, _, _, rfl, rfl, rfl, ?_⟩
            apply we_ev
            · repeat (first | exact lk_nil | refine lk_none ?_ | refine lk_dat ?_ | refine lk_loc (by simp) ?_)
            · apply ev_in
              refine we_ix ?_
              refine we_def h_least_gaps (hr.mono (by omega)) takesF ?_
              refine wa_cons ?_
              refine we_name 0 (q := ?_)
              refine wa_cons ?_
              refine we_name 1 (q := ?_)
              refine wa_nil ?_
              refine .inl ⟨_, _, rfl, ?_⟩
              refine ⟨(S, some m), rfl, rfl, hl, putR_new ?_⟩ -- call least_gaps(sums, middle)
              refine we_int ?_
              first | refine ⟨_, _, _, .inl rfl, rfl, (atI_ints _ (by omega) (by rw [gapsD_len]; omega)), ?_⟩ | refine ⟨_, _, _, .inr rfl, rfl, (atI_ints _ (by omega) (by rw [gapsD_len]; omega)), ?_⟩
              exact ⟨rfl, (by repeat (first | exact wkM_refl | exact wkM_nil | exact wkM_app | refine wkM_cons (by first | exact .inl rfl | exact .inr rfl) ?_ | refine wkM_trans wkM_app ?_))⟩
            refine ⟨_, _, rfl, rfl, ?_⟩
            exact ⟨rfl, (by repeat (first | exact wkM_refl | exact wkM_nil | exact wkM_app | refine wkM_cons (by first | exact .inl rfl | exact .inr rfl) ?_ | refine wkM_trans wkM_app ?_))⟩
          refine we_int ?_
          refine ⟨_, _, rfl, rfl, ⟨by omega, by omega⟩, ?_⟩
          exact ⟨rfl, (by repeat (first | exact wkM_refl | exact wkM_nil | exact wkM_app | refine wkM_cons (by first | exact .inl rfl | exact .inr rfl) ?_ | refine wkM_trans wkM_app ?_))⟩
        refine ret0 ?_
        exact Eq.mp (congrArg (fun d => post (.dat d) []) (slack_val hS).symm) hp
theorem has_slack {f : Addr} {fd : FuncData} (dd : Def K mg "slack" "slack" s_slack ["judges", "results"] f fd) (T : Txt K mg) (h_need_results : Has P w K mg base "need_results" ["judges", "results"] 2 pr_need_results) (h_sums_of : Has P w K mg base "sums_of" ["judges", "results"] 1 pr_sums_of) (h_slack_of : Has P w K mg base "slack_of" ["sums", "middle"] 2 pr_slack_of) : Has P w K mg base "slack" ["judges", "results"] 3 pr_slack := by
  refine dd.has (fn_ok 0 dd.fn sc_slack (fun os ds post ex h => ?_) (fun cdv A outer s H E C os ds post ex hr tk hps h => ?_)) prV_mono
  · obtain ⟨a, rfl, rfl, _⟩ := h; exact ⟨rfl, rfl⟩
  · obtain ⟨⟨n, res⟩, rfl, rfl, hrs, hp⟩ := h
    obtain ⟨h1, h2, h3, h4⟩ := id hrs
    have hl := ress_len hrs
    have hsm := sm_of hrs
    refine wss_cons ?_
    refine ws_expr ?_
    apply we_ev
    · repeat (first | exact lk_nil | refine lk_none ?_ | refine lk_dat ?_ | refine lk_loc (by simp) ?_)
    · apply ev_in
      refine we_def h_need_results (hr.mono (by omega)) takesF ?_
      refine wa_cons ?_
      refine we_name 0 (q := ?_)
      refine wa_cons ?_
      refine we_name 1 (q := ?_)
      refine wa_nil ?_
      refine .inl ⟨_, _, rfl, ?_⟩
      refine ⟨(_, _), rfl, rfl, (by assumption), putR_dat ?_⟩ -- call need_results(judges, results)
      exact ⟨rfl, (by repeat (first | exact wkM_refl | exact wkM_nil | exact wkM_app | refine wkM_cons (by first | exact .inl rfl | exact .inr rfl) ?_ | refine wkM_trans wkM_app ?_))⟩
    refine wss_norm (δ' := [_, _, _, _, _]) (μ' := []) ?_ rfl rfl
    refine wss_cons ?_
    refine ws_asgT (tgt_pair 3 4) (pg_tup rfl (pgs_cons (pg_name (i := 3) sc_slack.nd rfl (by first | exact Or.inl rfl | exact Or.inr rfl)) (pgs_cons (pg_name (i := 4) sc_slack.nd rfl (by first | exact Or.inl rfl | exact Or.inr rfl)) pgs_nil))) ?_
    apply we_ev
    · repeat (first | exact lk_nil | refine lk_none ?_ | refine lk_dat ?_ | refine lk_loc (by simp) ?_)
    · apply ev_in
      refine we_def h_sums_of (hr.mono (by omega)) takesF ?_
      refine wa_cons ?_
      refine we_name 0 (q := ?_)
      refine wa_cons ?_
      refine we_name 1 (q := ?_)
      refine wa_nil ?_
      refine .inl ⟨_, _, rfl, ?_⟩
      refine ⟨(n, res), rfl, rfl, ⟨by omega, by omega, by omega⟩, putR_dat ?_⟩ -- call sums_of(judges, results)
      exact ⟨rfl, (by repeat (first | exact wkM_refl | exact wkM_nil | exact wkM_app | refine wkM_cons (by first | exact .inl rfl | exact .inr rfl) ?_ | refine wkM_trans wkM_app ?_))⟩
    refine ⟨_, _, _, rfl, rfl, ?_⟩
    refine wss_norm (δ' := [_, _, _, _, _]) (μ' := []) ?_ rfl rfl
    refine wss_cons ?_
    refine ws_set 2 sc_slack.nd rfl (by first | exact Or.inl rfl | exact Or.inr rfl) ?_
    apply we_ev
    · repeat (first | exact lk_nil | refine lk_none ?_ | refine lk_dat ?_ | refine lk_loc (by simp) ?_)
    · apply ev_in
      refine we_def h_slack_of (hr.mono (by omega)) takesF ?_
      refine wa_cons ?_
      refine we_name 3 (q := ?_)
      refine wa_cons ?_
      refine we_name 4 (q := ?_)
      refine wa_nil ?_
      refine .inl ⟨_, _, rfl, ?_⟩
      refine ⟨(pairSums n.toNat res, midO n.toNat res), rfl, rfl, hsm, putR_dat ?_⟩ -- call slack_of(sums, middle)
      exact ⟨rfl, (by repeat (first | exact wkM_refl | exact wkM_nil | exact wkM_app | refine wkM_cons (by first | exact .inl rfl | exact .inr rfl) ?_ | refine wkM_trans wkM_app ?_))⟩
    refine wss_norm (δ' := [_, _, _, _, _]) (μ' := []) ?_ rfl rfl
    refine wss_one ?_
    refine ws_ret ?_
    apply we_ev
    · repeat (first | exact lk_nil | refine lk_none ?_ | refine lk_dat ?_ | refine lk_loc (by simp) ?_)
    · apply ev_if
      · repeat (first | exact lk_nil | refine lk_none ?_ | refine lk_dat ?_ | refine lk_loc (by simp) ?_)
      · apply et_in
        refine wt_ge ?_
        refine we_name 2 (q := ?_)
        refine we_int ?_
        refine ⟨_, _, rfl, rfl, ?_⟩
        exact ⟨_, rfl, rfl, (by repeat (first | exact wkM_refl | exact wkM_nil | exact wkM_app | refine wkM_cons (by first | exact .inl rfl | exact .inr rfl) ?_ | refine wkM_trans wkM_app ?_))⟩
      · intro hc1
        apply ev_in
        refine we_name 2 (q := ?_)
        exact ⟨rfl, (by repeat (first | exact wkM_refl | exact wkM_nil | exact wkM_app | refine wkM_cons (by first | exact .inl rfl | exact .inr rfl) ?_ | refine wkM_trans wkM_app ?_))⟩
      · intro hc1
        apply ev_in
        refine we_non ?_
        exact ⟨rfl, (by repeat (first | exact wkM_refl | exact wkM_nil | exact wkM_app | refine wkM_cons (by first | exact .inl rfl | exact .inr rfl) ?_ | refine wkM_trans wkM_app ?_))⟩
    refine ret0 ?_
    exact Eq.mp (congrArg (fun d => post (.dat d) []) (slk_if).symm) hp
theorem has_need_slack {f : Addr} {fd : FuncData} (dd : Def K mg "need_slack" "need_slack" s_need_slack ["judges", "results"] f fd) (T : Txt K mg) (h_need_results : Has P w K mg base "need_results" ["judges", "results"] 2 pr_need_results) (h_sums_of : Has P w K mg base "sums_of" ["judges", "results"] 1 pr_sums_of) (h_slack_of : Has P w K mg base "slack_of" ["sums", "middle"] 2 pr_slack_of) : Has P w K mg base "need_slack" ["judges", "results"] 3 pr_need_slack := by
  refine dd.has (fn_ok 0 dd.fn sc_need_slack (fun os ds post ex h => ?_) (fun cdv A outer s H E C os ds post ex hr tk hps h => ?_)) prV_mono
  · obtain ⟨a, rfl, rfl, _⟩ := h; exact ⟨rfl, rfl⟩
  · obtain ⟨⟨n, res⟩, rfl, rfl, ⟨hrs, hk⟩, hp⟩ := h
    obtain ⟨h1, h2, h3, h4⟩ := id hrs
    have hl := ress_len hrs
    have hsm := sm_of hrs
    refine wss_cons ?_
    refine ws_expr ?_
    apply we_ev
    · repeat (first | exact lk_nil | refine lk_none ?_ | refine lk_dat ?_ | refine lk_loc (by simp) ?_)
    · apply ev_in
      refine we_def h_need_results (hr.mono (by omega)) takesF ?_
      refine wa_cons ?_
      refine we_name 0 (q := ?_)
      refine wa_cons ?_
      refine we_name 1 (q := ?_)
      refine wa_nil ?_
      refine .inl ⟨_, _, rfl, ?_⟩
      refine ⟨(_, _), rfl, rfl, (by assumption), putR_dat ?_⟩ -- call need_results(judges, results)
      exact ⟨rfl, (by repeat (first | exact wkM_refl | exact wkM_nil | exact wkM_app | refine wkM_cons (by first | exact .inl rfl | exact .inr rfl) ?_ | refine wkM_trans wkM_app ?_))⟩
    refine wss_norm (δ' := [_, _, _, _, _]) (μ' := []) ?_ rfl rfl
    refine wss_cons ?_
    refine ws_asgT (tgt_pair 3 4) (pg_tup rfl (pgs_cons (pg_name (i := 3) sc_need_slack.nd rfl (by first | exact Or.inl rfl | exact Or.inr rfl)) (pgs_cons (pg_name (i := 4) sc_need_slack.nd rfl (by first | exact Or.inl rfl | exact Or.inr rfl)) pgs_nil))) ?_
    apply we_ev
    · repeat (first | exact lk_nil | refine lk_none ?_ | refine lk_dat ?_ | refine lk_loc (by simp) ?_)
    · apply ev_in
      refine we_def h_sums_of (hr.mono (by omega)) takesF ?_
      refine wa_cons ?_
      refine we_name 0 (q := ?_)
      refine wa_cons ?_
      refine we_name 1 (q := ?_)
      refine wa_nil ?_
      refine .inl ⟨_, _, rfl, ?_⟩
      refine ⟨(n, res), rfl, rfl, ⟨by omega, by omega, by omega⟩, putR_dat ?_⟩ -- call sums_of(judges, results)
      exact ⟨rfl, (by repeat (first | exact wkM_refl | exact wkM_nil | exact wkM_app | refine wkM_cons (by first | exact .inl rfl | exact .inr rfl) ?_ | refine wkM_trans wkM_app ?_))⟩
    refine ⟨_, _, _, rfl, rfl, ?_⟩
    refine wss_norm (δ' := [_, _, _, _, _]) (μ' := []) ?_ rfl rfl
    refine wss_cons ?_
    refine ws_set 2 sc_need_slack.nd rfl (by first | exact Or.inl rfl | exact Or.inr rfl) ?_
    apply we_ev
    · repeat (first | exact lk_nil | refine lk_none ?_ | refine lk_dat ?_ | refine lk_loc (by simp) ?_)
    · apply ev_in
      refine we_def h_slack_of (hr.mono (by omega)) takesF ?_
      refine wa_cons ?_
      refine we_name 3 (q := ?_)
      refine wa_cons ?_
      refine we_name 4 (q := ?_)
      refine wa_nil ?_
      refine .inl ⟨_, _, rfl, ?_⟩
      refine ⟨(pairSums n.toNat res, midO n.toNat res), rfl, rfl, hsm, putR_dat ?_⟩ -- call slack_of(sums, middle)
      exact ⟨rfl, (by repeat (first | exact wkM_refl | exact wkM_nil | exact wkM_app | refine wkM_cons (by first | exact .inl rfl | exact .inr rfl) ?_ | refine wkM_trans wkM_app ?_))⟩
    refine wss_norm (δ' := [_, _, _, _, _]) (μ' := []) ?_ rfl rfl
    refine wss_cons ?_
    apply ws_ifE
    · repeat (first | exact lk_nil | refine lk_none ?_ | refine lk_dat ?_ | refine lk_loc (by simp) ?_)
    · apply et_in
      refine wt_lt ?_
      refine we_name 2 (q := ?_)
      refine we_int ?_
      refine ⟨_, _, rfl, rfl, ?_⟩
      exact ⟨_, rfl, rfl, (by repeat (first | exact wkM_refl | exact wkM_nil | exact wkM_app | refine wkM_cons (by first | exact .inl rfl | exact .inr rfl) ?_ | refine wkM_trans wkM_app ?_))⟩
    · intro hc1
      exact absurd (of_decide_eq_true hc1) (by have hk := hk; unfold slk at hk; omega)
    · intro hc1
      refine wss_nil ?_
      refine wss_one ?_
      refine ws_ret ?_
      refine we_tup ?_
      refine wa_cons ?_
      refine we_name 3 (q := ?_)
      refine wa_cons ?_
      refine we_name 4 (q := ?_)
      refine wa_cons ?_
      refine we_name 2 (q := ?_)
      refine wa_nil ?_
      refine ⟨_, _, rfl, by simp [sizeLine_eq], ?_⟩
      refine ret0 ?_
      exact hp
theorem has_row_of {f : Addr} {fd : FuncData} (dd : Def K mg "row_of" "row_of" s_row_of ["sums", "middle", "extras"] f fd) (T : Txt K mg) (h_least_gaps : Has P w K mg base "least_gaps" ["sums", "middle"] 1 pr_least_gaps) : Has P w K mg base "row_of" ["sums", "middle", "extras"] 2 pr_row_of := by
  refine dd.has (fn_ok 0 dd.fn sc_row_of (fun os ds post ex h => ?_) (fun cdv A outer s H E C os ds post ex hr tk hps h => ?_)) prV_mono
  · obtain ⟨a, rfl, rfl, _⟩ := h; exact ⟨rfl, rfl⟩
  · obtain ⟨⟨S, m, E⟩, rfl, rfl, ⟨hl, hE⟩, hp⟩ := h
    simp only at hl hE hp
    rcases m with _ | m
    · refine wss_cons ?_
      refine ws_setLc0 3 (tgt_pair 6 7) rfl sc_row_of.nd rfl rfl (sw_true rfl rfl rfl (by decide +kernel)) (blkOk_by (own := [("gap", 6), ("extra", 7)]) (by first | rfl | decide +kernel)) (fun _ _ _ _ _ => (pg_tup rfl (pgs_cons (pg_name (i := 6) sc_row_of.nd rfl (Or.inl rfl)) (pgs_cons (pg_name (i := 7) sc_row_of.nd rfl (Or.inl rfl)) pgs_nil)))) (by decide) ?_
      refine wi_zip T.b_zip ?_
      refine wa_cons ?_
      refine we_def h_least_gaps (hr.mono (by omega)) takesF ?_
      refine wa_cons ?_
      refine we_name 0 (q := ?_)
      refine wa_cons ?_
      refine we_name 1 (q := ?_)
      refine wa_nil ?_
      refine .inl ⟨_, _, rfl, ?_⟩
      refine ⟨(S, none), rfl, rfl, hl, putR_new ?_⟩ -- call least_gaps(sums, middle)
      refine wa_cons ?_
      refine we_name 2 (q := ?_)
      refine wa_nil ?_
      first | refine ⟨_, _, _, _, _, _, rfl, .inl ⟨rfl, rfl⟩, ?_⟩ | refine ⟨_, _, _, _, _, _, rfl, .inr ⟨rfl, rfl⟩, ?_⟩
      refine ⟨(Int × Int), (gapsD S none).zip E, (fun p => D.tup [.int p.1, .int p.2]), (fun p => D.int (p.1 + 2 * p.2)), ?_, ?_, fun x acc hx => ⟨_, rfl, fun s0 H0 Cc cl fp => ?_⟩, ?_⟩
      · exact (zipD_ints _ _)
      · exact (by rw [List.length_zip]; omega)
      · refine we_norm (δ' := [_, _, _, _, _, _, _, _, _]) rfl ?_
        refine we_add ?_
        refine we_name 6 (q := ?_)
        refine we_mul ?_
        refine we_int ?_
        refine we_name 7 (q := ?_)
        refine .inl ⟨_, _, rfl, rfl, (by first | exact .inl ⟨by omega, by omega⟩ | exact .inr ⟨by omega, by omega⟩), ?_⟩
        first | refine .inl ⟨_, _, rfl, rfl, ?_⟩ | refine .inr (.inr (.inl ⟨_, _, rfl, rfl, (by rw [sizeLine_eq]; simp; try omega), ?_⟩)) | refine .inr (.inl ⟨_, _, rfl, rfl, (by rw [sizeLine_eq]; simp; try omega), ?_⟩)
        exact ⟨_, rfl, (by repeat (first | exact wkM_refl | exact wkM_nil | exact wkM_app | refine wkM_cons (by first | exact .inl rfl | exact .inr rfl) ?_ | refine wkM_trans wkM_app ?_))⟩
      refine wss_norm (δ' := [_, _, _, _, _, _, _, _, _]) (μ' := [_, _]) ?_ rfl rfl
      rw [gapsE_map]
      refine wss_cons ?_
      refine ws_setLc0 4 (tgt_pair 8 6) rfl sc_row_of.nd rfl rfl (sw_true rfl rfl rfl (by decide +kernel)) (blkOk_by (own := [("one", 8), ("gap", 6)]) (by first | rfl | decide +kernel)) (fun _ _ _ _ _ => (pg_tup rfl (pgs_cons (pg_name (i := 8) sc_row_of.nd rfl (Or.inl rfl)) (pgs_cons (pg_name (i := 6) sc_row_of.nd rfl (Or.inl rfl)) pgs_nil)))) (by decide) ?_
      refine wi_zip T.b_zip ?_
      refine wa_cons ?_
      refine we_name 0 (q := ?_)
      refine wa_cons ?_
      refine we_name 3 (q := ?_)
      refine wa_nil ?_
      first | refine ⟨_, _, _, _, _, _, rfl, .inl ⟨rfl, rfl⟩, ?_⟩ | refine ⟨_, _, _, _, _, _, rfl, .inr ⟨rfl, rfl⟩, ?_⟩
      refine ⟨(Int × Int), S.zip (gapsE S none E), (fun p => D.tup [.int p.1, .int p.2]), (fun p => D.int ((p.1 - p.2) / 2)), ?_, ?_, fun x acc hx => ⟨_, rfl, fun s0 H0 Cc cl fp => ?_⟩, ?_⟩
      · exact (zipD_ints _ _)
      · exact (by rw [List.length_zip]; omega)
      · refine we_norm (δ' := [_, _, _, _, _, _, _, _, _]) rfl ?_
        refine we_fdiv ?_
        refine we_sub ?_
        refine we_name 8 (q := ?_)
        refine we_name 6 (q := ?_)
        refine ⟨_, _, rfl, rfl, ?_⟩
        refine we_int ?_
        refine ⟨_, _, rfl, rfl, ⟨by omega, by omega⟩, ?_⟩
        exact ⟨_, rfl, (by repeat (first | exact wkM_refl | exact wkM_nil | exact wkM_app | refine wkM_cons (by first | exact .inl rfl | exact .inr rfl) ?_ | refine wkM_trans wkM_app ?_))⟩
      refine wss_norm (δ' := [_, _, _, _, _, _, _, _, _]) (μ' := [_, _, _]) ?_ rfl rfl
      refine wss_cons ?_
      refine ws_setLc0 5 (tgt_pair 8 6) rfl sc_row_of.nd rfl rfl (sw_true rfl rfl rfl (by decide +kernel)) (blkOk_by (own := [("one", 8), ("gap", 6)]) (by first | rfl | decide +kernel)) (fun _ _ _ _ _ => (pg_tup rfl (pgs_cons (pg_name (i := 8) sc_row_of.nd rfl (Or.inl rfl)) (pgs_cons (pg_name (i := 6) sc_row_of.nd rfl (Or.inl rfl)) pgs_nil)))) (by decide) ?_
      refine wi_zip T.b_zip ?_
      refine wa_cons ?_
      refine we_name 0 (q := ?_)
      refine wa_cons ?_
      refine we_name 3 (q := ?_)
      refine wa_nil ?_
      first | refine ⟨_, _, _, _, _, _, rfl, .inl ⟨rfl, rfl⟩, ?_⟩ | refine ⟨_, _, _, _, _, _, rfl, .inr ⟨rfl, rfl⟩, ?_⟩
      refine ⟨(Int × Int), S.zip (gapsE S none E), (fun p => D.tup [.int p.1, .int p.2]), (fun p => D.int ((p.1 + p.2) / 2)), ?_, ?_, fun x acc hx => ⟨_, rfl, fun s0 H0 Cc cl fp => ?_⟩, ?_⟩
      · exact (zipD_ints _ _)
      · exact (by rw [List.length_zip]; omega)
      · refine we_norm (δ' := [_, _, _, _, _, _, _, _, _]) rfl ?_
        refine we_fdiv ?_
        refine we_add ?_
        refine we_name 8 (q := ?_)
        refine we_name 6 (q := ?_)
        first | refine .inl ⟨_, _, rfl, rfl, ?_⟩ | refine .inr (.inr (.inl ⟨_, _, rfl, rfl, (by rw [sizeLine_eq]; simp; try omega), ?_⟩)) | refine .inr (.inl ⟨_, _, rfl, rfl, (by rw [sizeLine_eq]; simp; try omega), ?_⟩)
        refine we_int ?_
        refine ⟨_, _, rfl, rfl, ⟨by omega, by omega⟩, ?_⟩
        exact ⟨_, rfl, (by repeat (first | exact wkM_refl | exact wkM_nil | exact wkM_app | refine wkM_cons (by first | exact .inl rfl | exact .inr rfl) ?_ | refine wkM_trans wkM_app ?_))⟩
      refine wss_norm (δ' := [_, _, _, _, _, _, _, _, _]) (μ' := [_, _, _, _]) ?_ rfl rfl
      refine wss_one ?_
      refine ws_ret ?_
      apply we_ev
      · repeat (first | exact lk_nil | refine lk_none ?_ | refine lk_dat ?_ | refine lk_loc (by simp) ?_)
      · apply ev_in
        refine we_tuple T.b_tuple ?_
        refine wa_cons ?_
        refine we_add ?_
        refine we_add ?_
        refine we_name 4 (q := ?_)
        refine we_ifexp ?_
        refine wt_is ?_
        refine we_name 1 (q := ?_)
        refine we_non ?_
        first | refine .inl ⟨_, rfl, rfl, (noRaw_oD _), ?_⟩ | refine .inr ⟨_, _, rfl, rfl, ?_⟩
        refine ⟨_, rfl, fun _ => ?_, fun h => (by cases h)⟩
        refine we_lst ?_
        refine wa_nil ?_
        refine ⟨_, _, rfl, by simp [sizeLine_eq], ?_⟩
        refine .inr (.inr (.inr ⟨_, _, rfl, rfl, (by rw [sizeLine_eq, List.length_map, List.length_zip]; simp only [List.length_cons, List.length_nil]; omega), ?_⟩))
        refine we_revl ?_
        refine we_name 5 (q := ?_)
        refine ⟨_, rfl, ?_⟩
        refine .inr (.inr (.inr ⟨_, _, rfl, rfl, (by rw [sizeLine_eq, List.length_append, List.length_reverse, List.length_map, List.length_map, List.length_zip]; simp only [List.length_cons, List.length_nil]; omega), ?_⟩))
        refine wa_nil ?_
        first | refine ⟨_, _, rfl, .inl rfl, ?_⟩ | refine ⟨_, _, rfl, .inr rfl, ?_⟩
        exact ⟨rfl, (by repeat (first | exact wkM_refl | exact wkM_nil | exact wkM_app | refine wkM_cons (by first | exact .inl rfl | exact .inr rfl) ?_ | refine wkM_trans wkM_app ?_))⟩
      refine ret0 ?_
      exact Eq.mp (congrArg (fun d => post (.dat d) []) (row_tup S none E _ rfl).symm) hp
    · refine wss_cons ?_
      refine ws_setLc0 3 (tgt_pair 6 7) rfl sc_row_of.nd rfl rfl (sw_true rfl rfl rfl (by decide +kernel)) (blkOk_by (own := [("gap", 6), ("extra", 7)]) (by first | rfl | decide +kernel)) (fun _ _ _ _ _ => (pg_tup rfl (pgs_cons (pg_name (i := 6) sc_row_of.nd rfl (Or.inl rfl)) (pgs_cons (pg_name (i := 7) sc_row_of.nd rfl (Or.inl rfl)) pgs_nil)))) (by decide) ?_
      refine wi_zip T.b_zip ?_
      refine wa_cons ?_
      refine we_def h_least_gaps (hr.mono (by omega)) takesF ?_
      refine wa_cons ?_
      refine we_name 0 (q := ?_)
      refine wa_cons ?_
      refine we_name 1 (q := ?_)
      refine wa_nil ?_
      refine .inl ⟨_, _, rfl, ?_⟩
      refine ⟨(S, (some m)), rfl, rfl, hl, putR_new ?_⟩ -- call least_gaps(sums, middle)
      refine wa_cons ?_
      refine we_name 2 (q := ?_)
      refine wa_nil ?_
      first | refine ⟨_, _, _, _, _, _, rfl, .inl ⟨rfl, rfl⟩, ?_⟩ | refine ⟨_, _, _, _, _, _, rfl, .inr ⟨rfl, rfl⟩, ?_⟩
      refine ⟨(Int × Int), (gapsD S (some m)).zip E, (fun p => D.tup [.int p.1, .int p.2]), (fun p => D.int (p.1 + 2 * p.2)), ?_, ?_, fun x acc hx => ⟨_, rfl, fun s0 H0 Cc cl fp => ?_⟩, ?_⟩
      · exact (zipD_ints _ _)
      · exact (by rw [List.length_zip]; omega)
      · refine we_norm (δ' := [_, _, _, _, _, _, _, _, _]) rfl ?_
        refine we_add ?_
        refine we_name 6 (q := ?_)
        refine we_mul ?_
        refine we_int ?_
        refine we_name 7 (q := ?_)
        refine .inl ⟨_, _, rfl, rfl, (by first | exact .inl ⟨by omega, by omega⟩ | exact .inr ⟨by omega, by omega⟩), ?_⟩
        first | refine .inl ⟨_, _, rfl, rfl, ?_⟩ | refine .inr (.inr (.inl ⟨_, _, rfl, rfl, (by rw [sizeLine_eq]; simp; try omega), ?_⟩)) | refine .inr (.inl ⟨_, _, rfl, rfl, (by rw [sizeLine_eq]; simp; try omega), ?_⟩)
        exact ⟨_, rfl, (by repeat (first | exact wkM_refl | exact wkM_nil | exact wkM_app | refine wkM_cons (by first | exact .inl rfl | exact .inr rfl) ?_ | refine wkM_trans wkM_app ?_))⟩
      refine wss_norm (δ' := [_, _, _, _, _, _, _, _, _]) (μ' := [_, _]) ?_ rfl rfl
      rw [gapsE_map]
      refine wss_cons ?_
      refine ws_setLc0 4 (tgt_pair 8 6) rfl sc_row_of.nd rfl rfl (sw_true rfl rfl rfl (by decide +kernel)) (blkOk_by (own := [("one", 8), ("gap", 6)]) (by first | rfl | decide +kernel)) (fun _ _ _ _ _ => (pg_tup rfl (pgs_cons (pg_name (i := 8) sc_row_of.nd rfl (Or.inl rfl)) (pgs_cons (pg_name (i := 6) sc_row_of.nd rfl (Or.inl rfl)) pgs_nil)))) (by decide) ?_
      refine wi_zip T.b_zip ?_
      refine wa_cons ?_
      refine we_name 0 (q := ?_)
      refine wa_cons ?_
      refine we_name 3 (q := ?_)
      refine wa_nil ?_
      first | refine ⟨_, _, _, _, _, _, rfl, .inl ⟨rfl, rfl⟩, ?_⟩ | refine ⟨_, _, _, _, _, _, rfl, .inr ⟨rfl, rfl⟩, ?_⟩
      refine ⟨(Int × Int), S.zip (gapsE S (some m) E), (fun p => D.tup [.int p.1, .int p.2]), (fun p => D.int ((p.1 - p.2) / 2)), ?_, ?_, fun x acc hx => ⟨_, rfl, fun s0 H0 Cc cl fp => ?_⟩, ?_⟩
      · exact (zipD_ints _ _)
      · exact (by rw [List.length_zip]; omega)
      · refine we_norm (δ' := [_, _, _, _, _, _, _, _, _]) rfl ?_
        refine we_fdiv ?_
        refine we_sub ?_
        refine we_name 8 (q := ?_)
        refine we_name 6 (q := ?_)
        refine ⟨_, _, rfl, rfl, ?_⟩
        refine we_int ?_
        refine ⟨_, _, rfl, rfl, ⟨by omega, by omega⟩, ?_⟩
        exact ⟨_, rfl, (by repeat (first | exact wkM_refl | exact wkM_nil | exact wkM_app | refine wkM_cons (by first | exact .inl rfl | exact .inr rfl) ?_ | refine wkM_trans wkM_app ?_))⟩
      refine wss_norm (δ' := [_, _, _, _, _, _, _, _, _]) (μ' := [_, _, _]) ?_ rfl rfl
      refine wss_cons ?_
      refine ws_setLc0 5 (tgt_pair 8 6) rfl sc_row_of.nd rfl rfl (sw_true rfl rfl rfl (by decide +kernel)) (blkOk_by (own := [("one", 8), ("gap", 6)]) (by first | rfl | decide +kernel)) (fun _ _ _ _ _ => (pg_tup rfl (pgs_cons (pg_name (i := 8) sc_row_of.nd rfl (Or.inl rfl)) (pgs_cons (pg_name (i := 6) sc_row_of.nd rfl (Or.inl rfl)) pgs_nil)))) (by decide) ?_
      refine wi_zip T.b_zip ?_
      refine wa_cons ?_
      refine we_name 0 (q := ?_)
      refine wa_cons ?_
      refine we_name 3 (q := ?_)
      refine wa_nil ?_
      first | refine ⟨_, _, _, _, _, _, rfl, .inl ⟨rfl, rfl⟩, ?_⟩ | refine ⟨_, _, _, _, _, _, rfl, .inr ⟨rfl, rfl⟩, ?_⟩
      refine ⟨(Int × Int), S.zip (gapsE S (some m) E), (fun p => D.tup [.int p.1, .int p.2]), (fun p => D.int ((p.1 + p.2) / 2)), ?_, ?_, fun x acc hx => ⟨_, rfl, fun s0 H0 Cc cl fp => ?_⟩, ?_⟩
      · exact (zipD_ints _ _)
      · exact (by rw [List.length_zip]; omega)
      · refine we_norm (δ' := [_, _, _, _, _, _, _, _, _]) rfl ?_
        refine we_fdiv ?_
        refine we_add ?_
        refine we_name 8 (q := ?_)
        refine we_name 6 (q := ?_)
        first | refine .inl ⟨_, _, rfl, rfl, ?_⟩ | refine .inr (.inr (.inl ⟨_, _, rfl, rfl, (by rw [sizeLine_eq]; simp; try omega), ?_⟩)) | refine .inr (.inl ⟨_, _, rfl, rfl, (by rw [sizeLine_eq]; simp; try omega), ?_⟩)
        refine we_int ?_
        refine ⟨_, _, rfl, rfl, ⟨by omega, by omega⟩, ?_⟩
        exact ⟨_, rfl, (by repeat (first | exact wkM_refl | exact wkM_nil | exact wkM_app | refine wkM_cons (by first | exact .inl rfl | exact .inr rfl) ?_ | refine wkM_trans wkM_app ?_))⟩
      refine wss_norm (δ' := [_, _, _, _, _, _, _, _, _]) (μ' := [_, _, _, _]) ?_ rfl rfl
      refine wss_one ?_
      refine ws_ret ?_
      apply we_ev
      · repeat (first | exact lk_nil | refine lk_none ?_ | refine lk_dat ?_ | refine lk_loc (by simp) ?_)
      · apply ev_in
        refine we_tuple T.b_tuple ?_
        refine wa_cons ?_
        refine we_add ?_
        refine we_add ?_
        refine we_name 4 (q := ?_)
        refine we_ifexp ?_
        refine wt_is ?_
        refine we_name 1 (q := ?_)
        refine we_non ?_
        first | refine .inl ⟨_, rfl, rfl, (noRaw_oD _), ?_⟩ | refine .inr ⟨_, _, rfl, rfl, ?_⟩
        refine ⟨_, rfl, fun h => (by cases h), fun _ => ?_⟩
        refine we_lst ?_
        refine wa_cons ?_
        refine we_name 1 (q := ?_)
        refine wa_nil ?_
        refine ⟨_, _, rfl, by simp [sizeLine_eq], ?_⟩
        refine .inr (.inr (.inr ⟨_, _, rfl, rfl, (by rw [sizeLine_eq, List.length_map, List.length_zip]; simp only [List.length_cons, List.length_nil]; omega), ?_⟩))
        refine we_revl ?_
        refine we_name 5 (q := ?_)
        refine ⟨_, rfl, ?_⟩
        refine .inr (.inr (.inr ⟨_, _, rfl, rfl, (by rw [sizeLine_eq, List.length_append, List.length_reverse, List.length_map, List.length_map, List.length_zip]; simp only [List.length_cons, List.length_nil]; omega), ?_⟩))
        refine wa_nil ?_
        first | refine ⟨_, _, rfl, .inl rfl, ?_⟩ | refine ⟨_, _, rfl, .inr rfl, ?_⟩
        exact ⟨rfl, (by repeat (first | exact wkM_refl | exact wkM_nil | exact wkM_app | refine wkM_cons (by first | exact .inl rfl | exact .inr rfl) ?_ | refine wkM_trans wkM_app ?_))⟩
      refine ret0 ?_
      exact Eq.mp (congrArg (fun d => post (.dat d) []) (row_tup S (some m) E _ rfl).symm) hp
theorem has_choose {f : Addr} {fd : FuncData} (dd : Def K mg "choose" "choose" s_choose ["many", "few"] f fd) (T : Txt K mg)  : Has P w K mg base "choose" ["many", "few"] 1 pr_choose := by
  refine dd.has (fn_ok 0 dd.fn sc_choose (fun os ds post ex h => ?_) (fun cdv A outer s H E C os ds post ex hr tk hps h => ?_)) prV_mono
  · obtain ⟨a, rfl, rfl, _⟩ := h; exact ⟨rfl, rfl⟩
  · obtain ⟨⟨m, f⟩, rfl, rfl, ⟨h1, h2, h3, h4⟩, hp⟩ := h
    refine wss_cons ?_
    refine ws_set 2 sc_choose.nd rfl (by first | exact Or.inl rfl | exact Or.inr rfl) ?_
    refine we_int ?_
    refine wss_norm (δ' := [_, _, _, _]) (μ' := []) ?_ rfl rfl
    refine wss_cons ?_
    refine ws_for (tgt_name 3) (pg_name (i := 3) sc_choose.nd rfl (by first | exact Or.inl rfl | exact Or.inr rfl)) (fun i δ μ => ∃ (v : Int), δ = [some (.d (.int (m))), some (.d (.int (f))), some (.d (.int (v))), none] ∧ μ = [] ∧ v = chooseD m i ∧ i ≤ f.toNat) (passes_of rfl) rfl ?_
    refine wi_range1 T.b_range ?_
    refine wa_cons ?_
    refine we_name 1 (q := ?_)
    refine wa_nil ?_
    refine ⟨_, _, rfl, rfl, by omega, by omega, ?_⟩
    refine ⟨Wk.in ⟨1, rfl, rfl, ⟨rfl, Nat.zero_le _⟩⟩ (by repeat (first | exact wkM_refl | exact wkM_nil | exact wkM_app | refine wkM_cons (by first | exact .inl rfl | exact .inr rfl) ?_ | refine wkM_trans wkM_app ?_)) (by repeat (first | exact wkD_nil | refine wkD_cons (by first | exact .inl rfl | exact .inr rfl) ?_)) (by rw [hps]; simp) (by repeat (first | exact lk_nil | refine lk_none ?_ | refine lk_dat ?_ | refine lk_loc (by simp) ?_)), ?_, ?_⟩
    · rintro i y δ' μ' hy ⟨v, rfl, rfl, ⟨g1, g2⟩⟩
      obtain ⟨hi, rfl⟩ := rngD_get hy
      subst g1
      refine ⟨_, rfl, ?_⟩
      refine wss_norm (δ' := [_, _, _, _]) (μ' := []) ?_ rfl rfl
      refine wss_one ?_
      refine ws_set 2 sc_choose.nd rfl (by first | exact Or.inl rfl | exact Or.inr rfl) ?_
      refine we_fdiv ?_
      refine we_mul ?_
      refine we_name 2 (q := ?_)
      refine we_sub ?_
      refine we_name 0 (q := ?_)
      refine we_name 3 (q := ?_)
      refine ⟨_, _, rfl, rfl, ?_⟩
      refine .inl ⟨_, _, rfl, rfl, (by first | exact .inl ⟨by omega, by omega⟩ | exact .inr ⟨by omega, by omega⟩), ?_⟩
      refine we_add ?_
      refine we_name 3 (q := ?_)
      refine we_int ?_
      first | refine .inl ⟨_, _, rfl, rfl, ?_⟩ | refine .inr (.inr (.inl ⟨_, _, rfl, rfl, (by rw [sizeLine_eq]; simp; try omega), ?_⟩)) | refine .inr (.inl ⟨_, _, rfl, rfl, (by rw [sizeLine_eq]; simp; try omega), ?_⟩)
      refine ⟨_, _, rfl, rfl, ⟨by omega, by omega⟩, ?_⟩
      exact Wk.in ⟨chooseD m (i + 1), rfl, rfl, rfl, by omega⟩ (by repeat (first | exact wkM_refl | exact wkM_nil | exact wkM_app | refine wkM_cons (by first | exact .inl rfl | exact .inr rfl) ?_ | refine wkM_trans wkM_app ?_)) (by rw [← choose_succ]; repeat (first | exact wkD_nil | refine wkD_cons (by first | exact .inl rfl | exact .inr rfl) ?_)) (by rw [hps]; simp) (by repeat (first | exact lk_nil | refine lk_none ?_ | refine lk_dat ?_ | refine lk_loc (by simp) ?_))
    · rintro δ' μ' ⟨v, rfl, rfl, ⟨g1, g2⟩⟩
      rw [rngD_len] at g1
      subst g1
      refine wss_one ?_
      refine ws_ret ?_
      refine we_name 2 (q := ?_)
      refine ret0 ?_
      exact hp
theorem has_row_at {f : Addr} {fd : FuncData} (dd : Def K mg "row_at" "row_at" s_row_at ["judges", "results", "place"] f fd) (T : Txt K mg) (h_need_slack : Has P w K mg base "need_slack" ["judges", "results"] 3 pr_need_slack) (h_row_of : Has P w K mg base "row_of" ["sums", "middle", "extras"] 2 pr_row_of) (h_is_from : Has P w K mg base "is_from" ["value", "low", "high"] 1 pr_is_from) (h_choose : Has P w K mg base "choose" ["many", "few"] 1 pr_choose) : Has P w K mg base "row_at" ["judges", "results", "place"] 4 pr_row_at := by
  refine dd.has (fn_ok 0 dd.fn sc_row_at (fun os ds post ex h => ?_) (fun cdv A outer s H E C os ds post ex hr tk hps h => ?_)) prV_mono
  · obtain ⟨a, rfl, rfl, _⟩ := h; exact ⟨rfl, rfl⟩
  · obtain ⟨⟨n, res, p⟩, rfl, rfl, ⟨hrs, hk, hp0, hp1⟩, hp⟩ := h
    obtain ⟨h1, h2, h3, h4⟩ := id hrs
    have hl := ress_len hrs
    have hsm := sm_of hrs
    have hkl := slk_le hrs
    have hsl := hsm.1
    have hj6 := pairs_le hrs
    simp only at hp0 hp1 hk hp
    generalize hJ : (pairSums n.toNat res).length = J at hp hp1 hj6
    generalize hE : (slk n.toNat res).toNat = e0 at hp hp1
    have hE2 : slk n.toNat res = ((e0 : Nat) : Int) := by omega
    have hlm : ((pairSums n.toNat res).map D.int).length = J := by rw [List.length_map, hJ]
    refine wss_cons ?_
    refine ws_asgT (tgt_triple 5 6 7) (pg_tup rfl (pgs_cons (pg_name (i := 5) sc_row_at.nd rfl (by first | exact Or.inl rfl | exact Or.inr rfl)) (pgs_cons (pg_name (i := 6) sc_row_at.nd rfl (by first | exact Or.inl rfl | exact Or.inr rfl)) (pgs_cons (pg_name (i := 7) sc_row_at.nd rfl (by first | exact Or.inl rfl | exact Or.inr rfl)) pgs_nil)))) ?_
    apply we_ev
    · repeat (first | exact lk_nil | refine lk_none ?_ | refine lk_dat ?_ | refine lk_loc (by simp) ?_)
    · apply ev_in
      refine we_def h_need_slack (hr.mono (by omega)) takesF ?_
      refine wa_cons ?_
      refine we_name 0 (q := ?_)
      refine wa_cons ?_
      refine we_name 1 (q := ?_)
      refine wa_nil ?_
      refine .inl ⟨_, _, rfl, ?_⟩
      refine ⟨(_, _), rfl, rfl, ⟨by assumption, by assumption⟩, putR_dat ?_⟩ -- call need_slack(judges, results)
      exact ⟨rfl, (by repeat (first | exact wkM_refl | exact wkM_nil | exact wkM_app | refine wkM_cons (by first | exact .inl rfl | exact .inr rfl) ?_ | refine wkM_trans wkM_app ?_))⟩
    refine ⟨_, _, _, rfl, rfl, ?_⟩
    refine wss_norm (δ' := [some (.d (.int (n))), some (.d (tI res)), some (.d (.int (p))), none, none, some (.d (lI (pairSums n.toNat res))), some (.d (oD (midO n.toNat res))), some (.d (.int (((e0 : Nat) : Int))))]) (μ' := []) ?_ (by rw [hE2]; rfl) rfl
    refine wss_cons ?_
    apply ws_ifE
    · repeat (first | exact lk_nil | refine lk_none ?_ | refine lk_dat ?_ | refine lk_loc (by simp) ?_)
    · apply et_not
      apply et_val
      · apply ev_in
        refine we_def h_is_from (hr.mono (by omega)) takesF ?_
        refine wa_cons ?_
        refine we_name 2 (q := ?_)
        refine wa_cons ?_
        refine we_int ?_
        refine wa_cons ?_
        apply we_ev
        · repeat (first | exact lk_nil | refine lk_none ?_ | refine lk_dat ?_ | refine lk_loc (by simp) ?_)
        · apply ev_in
          refine we_sub ?_
          apply we_ev
          · repeat (first | exact lk_nil | refine lk_none ?_ | refine lk_dat ?_ | refine lk_loc (by simp) ?_)
          · apply ev_in
            refine we_def h_choose (hr.mono (by omega)) takesF ?_
            refine wa_cons ?_
            refine we_add ?_
            refine we_name 7 (q := ?_)
            refine we_len T.b_len ?_
            refine wa_cons ?_
            refine we_name 5 (q := ?_)
            refine wa_nil ?_
            refine ⟨_, _, _, rfl, rfl, rfl, ?_⟩
            first | refine .inl ⟨_, _, rfl, rfl, ?_⟩ | refine .inr (.inr (.inl ⟨_, _, rfl, rfl, (by rw [sizeLine_eq]; simp; try omega), ?_⟩)) | refine .inr (.inl ⟨_, _, rfl, rfl, (by rw [sizeLine_eq]; simp; try omega), ?_⟩)
            refine wa_cons ?_
            refine we_len T.b_len ?_
            refine wa_cons ?_
            refine we_name 5 (q := ?_)
            refine wa_nil ?_
            refine ⟨_, _, _, rfl, rfl, rfl, ?_⟩
            refine wa_nil ?_
            refine .inl ⟨_, _, rfl, ?_⟩
            refine ⟨(_, _), rfl, rfl, (by rw [hlm]; exact ⟨by omega, by omega, by omega, by omega⟩), putR_dat ?_⟩ -- call choose(extra + len(sums), len(sums))
            exact ⟨rfl, (by repeat (first | exact wkM_refl | exact wkM_nil | exact wkM_app | refine wkM_cons (by first | exact .inl rfl | exact .inr rfl) ?_ | refine wkM_trans wkM_app ?_))⟩
          refine we_int ?_
          refine ⟨_, _, rfl, rfl, ?_⟩
          exact ⟨rfl, (by repeat (first | exact wkM_refl | exact wkM_nil | exact wkM_app | refine wkM_cons (by first | exact .inl rfl | exact .inr rfl) ?_ | refine wkM_trans wkM_app ?_))⟩
        refine wa_nil ?_
        refine .inl ⟨_, _, rfl, ?_⟩
        refine ⟨(.int p, 0, _), rfl, rfl, okD_int, putR_dat ?_⟩ -- call is_from(place, 0, choose(extra + len(sums), len(sums)) - 1)
        exact ⟨rfl, (by repeat (first | exact wkM_refl | exact wkM_nil | exact wkM_app | refine wkM_cons (by first | exact .inl rfl | exact .inr rfl) ?_ | refine wkM_trans wkM_app ?_))⟩
      · intro _; rfl
    · intro hc1
      refine wss_one ?_
      exact ws_never (nope hc1 (row_test (e := e0) (l := J) hp0 hp1 (by rw [hlm]; omega) (by rw [hlm]; omega)))
    · intro hc1
      refine wss_nil ?_
      refine wss_cons ?_
      refine ws_set 3 sc_row_at.nd rfl (by first | exact Or.inl rfl | exact Or.inr rfl) ?_
      refine we_lst ?_
      refine wa_nil ?_
      refine ⟨_, _, rfl, by simp [sizeLine_eq], ?_⟩
      refine wss_norm (δ' := [_, _, _, _, _, _, _, _]) (μ' := [_]) ?_ rfl rfl
      refine wss_cons ?_
      refine ws_for (tgt_name 4) (pg_name (i := 4) sc_row_at.nd rfl (by first | exact Or.inl rfl | exact Or.inr rfl)) (fun i δ μ => ∃ (acc : List Int) (e : Nat) (q : Int), δ = [some (.d (.int (n))), some (.d (tI res)), some (.d (.int (q))), some (.loc 0), none, some (.d (lI (pairSums n.toNat res))), some (.d (oD (midO n.toNat res))), some (.d (.int (((e : Nat) : Int))))] ∧ μ = [MO.lst (acc.map D.int)] ∧ RowO J e0 p i acc e q) (passes_of rfl) rfl ?_
      refine wi_rangeDown T.b_range ?_
      refine wa_cons ?_
      refine we_sub ?_
      refine we_len T.b_len ?_
      refine wa_cons ?_
      refine we_name 5 (q := ?_)
      refine wa_nil ?_
      refine ⟨_, _, _, rfl, rfl, rfl, ?_⟩
      refine we_int ?_
      refine ⟨_, _, rfl, rfl, ?_⟩
      refine wa_cons ?_
      refine we_neg ?_
      refine we_int ?_
      refine ⟨_, rfl, ?_⟩
      refine wa_cons ?_
      refine we_neg ?_
      refine we_int ?_
      refine ⟨_, rfl, ?_⟩
      refine wa_nil ?_
      refine ⟨_, _, _, _, _, rfl, rfl, rfl, rfl, ⟨by omega, by omega, by omega, by omega⟩, ?_⟩
      refine ⟨Wk.in ⟨[], e0, p, rfl, rfl, ⟨by omega, hp0, hp1, by omega, rfl, rfl⟩⟩ (by repeat (first | exact wkM_refl | exact wkM_nil | exact wkM_app | refine wkM_cons (by first | exact .inl rfl | exact .inr rfl) ?_ | refine wkM_trans wkM_app ?_)) (by repeat (first | exact wkD_nil | refine wkD_cons (by first | exact .inl rfl | exact .inr rfl) ?_)) (by rw [hps]; simp) (by repeat (first | exact lk_nil | refine lk_none ?_ | refine lk_dat ?_ | refine lk_loc (by simp) ?_)), ?_, ?_⟩
      · rintro i y δ' μ' hy ⟨acc, e, q, rfl, rfl, g0⟩
        obtain ⟨hi, rfl⟩ := down_get hy
        rw [hlm] at hi
        have hi2 : i < J := by omega
        have hx2 := g0.2.2.2.1
        refine ⟨_, rfl, ?_⟩
        refine wss_norm (δ' := [_, _, _, _, _, _, _, _]) (μ' := [_]) ?_ rfl rfl
        refine wss_cons ?_
        refine ws_while (fun m δ μ => ∃ (e1 : Nat) (q1 : Int), δ = [some (.d (.int (n))), some (.d (tI res)), some (.d (.int (q1))), some (.loc 0), some (.d (.int (((((pairSums n.toNat res).map D.int).length : Nat) : Int) - 1 - ((i : Nat) : Int)))), some (.d (lI (pairSums n.toNat res))), some (.d (oD (midO n.toNat res))), some (.d (.int (((e1 : Nat) : Int))))] ∧ μ = [MO.lst (acc.map D.int)] ∧ m = e1 ∧ RowI (J - 1 - i) e q e1 q1) (e) (passes_of rfl) ⟨e, q, rfl, rfl, ⟨rfl, row_start g0.2.1 (by have := g0.2.2.1; rw [show J - i = J - 1 - i + 1 from by omega] at this; exact this)⟩⟩ ?_
        rintro m δ' μ' ⟨e1, q1, rfl, rfl, ⟨rfl, g1⟩⟩
        have hx1 := g1.2.2.1
        apply wt_ev
        · repeat (first | exact lk_nil | refine lk_none ?_ | refine lk_dat ?_ | refine lk_loc (by simp) ?_)
        · apply et_in
          refine wt_ge ?_
          refine we_name 2 (q := ?_)
          apply we_ev
          · repeat (first | exact lk_nil | refine lk_none ?_ | refine lk_dat ?_ | refine lk_loc (by simp) ?_)
          · apply ev_in
            refine we_def h_choose (hr.mono (by omega)) takesF ?_
            refine wa_cons ?_
            refine we_add ?_
            refine we_name 7 (q := ?_)
            refine we_name 4 (q := ?_)
            first | refine .inl ⟨_, _, rfl, rfl, ?_⟩ | refine .inr (.inr (.inl ⟨_, _, rfl, rfl, (by rw [sizeLine_eq]; simp; try omega), ?_⟩)) | refine .inr (.inl ⟨_, _, rfl, rfl, (by rw [sizeLine_eq]; simp; try omega), ?_⟩)
            refine wa_cons ?_
            refine we_name 4 (q := ?_)
            refine wa_nil ?_
            refine .inl ⟨_, _, rfl, ?_⟩
            refine ⟨(_, _), rfl, rfl, ⟨by omega, by omega, by omega, by omega⟩, putR_dat ?_⟩ -- call choose(extra + left, left)
            exact ⟨rfl, (by repeat (first | exact wkM_refl | exact wkM_nil | exact wkM_app | refine wkM_cons (by first | exact .inl rfl | exact .inr rfl) ?_ | refine wkM_trans wkM_app ?_))⟩
          refine ⟨_, _, rfl, rfl, ?_⟩
          exact ⟨_, rfl, rfl, (by repeat (first | exact wkM_refl | exact wkM_nil | exact wkM_app | refine wkM_cons (by first | exact .inl rfl | exact .inr rfl) ?_ | refine wkM_trans wkM_app ?_))⟩
        refine ⟨fun hc2 => ?_, fun hc2 => ?_⟩
        · have hb := of_decide_eq_true hc2
          rw [row_choose (e := m) (l := J - 1 - i) (by omega) (by omega)] at hb
          obtain ⟨he1, g2⟩ := row_go g1 hb
          refine wss_cons ?_
          refine ws_augsub 2 sc_row_at.nd rfl (by first | exact Or.inl rfl | exact Or.inr rfl) rfl ?_
          apply we_ev
          · repeat (first | exact lk_nil | refine lk_none ?_ | refine lk_dat ?_ | refine lk_loc (by simp) ?_)
          · apply ev_in
            refine we_def h_choose (hr.mono (by omega)) takesF ?_
            refine wa_cons ?_
            refine we_add ?_
            refine we_name 7 (q := ?_)
            refine we_name 4 (q := ?_)
            first | refine .inl ⟨_, _, rfl, rfl, ?_⟩ | refine .inr (.inr (.inl ⟨_, _, rfl, rfl, (by rw [sizeLine_eq]; simp; try omega), ?_⟩)) | refine .inr (.inl ⟨_, _, rfl, rfl, (by rw [sizeLine_eq]; simp; try omega), ?_⟩)
            refine wa_cons ?_
            refine we_name 4 (q := ?_)
            refine wa_nil ?_
            refine .inl ⟨_, _, rfl, ?_⟩
            refine ⟨(_, _), rfl, rfl, ⟨by omega, by omega, by omega, by omega⟩, putR_dat ?_⟩ -- call choose(extra + left, left)
            exact ⟨rfl, (by repeat (first | exact wkM_refl | exact wkM_nil | exact wkM_app | refine wkM_cons (by first | exact .inl rfl | exact .inr rfl) ?_ | refine wkM_trans wkM_app ?_))⟩
          refine ⟨_, rfl, ?_⟩
          refine wss_norm (δ' := [_, _, _, _, _, _, _, _]) (μ' := [_]) ?_ rfl rfl
          refine wss_one ?_
          refine ws_augsub 7 sc_row_at.nd rfl (by first | exact Or.inl rfl | exact Or.inr rfl) rfl ?_
          refine we_int ?_
          refine ⟨_, rfl, ?_⟩
          exact Wk.in ⟨m - 1, by omega, m - 1, q1 - ((binN (m + (J - 1 - i)) (J - 1 - i) : Nat) : Int), rfl, rfl, rfl, g2⟩ (by repeat (first | exact wkM_refl | exact wkM_nil | exact wkM_app | refine wkM_cons (by first | exact .inl rfl | exact .inr rfl) ?_ | refine wkM_trans wkM_app ?_)) (by rw [row_choose (e := m) (l := J - 1 - i) (by omega) (by omega), show (((m : Nat) : Int) - 1) = ((m - 1 : Nat) : Int) from by omega]; repeat (first | exact wkD_nil | refine wkD_cons (by first | exact .inl rfl | exact .inr rfl) ?_)) (by rw [hps]; simp) (by repeat (first | exact lk_nil | refine lk_none ?_ | refine lk_dat ?_ | refine lk_loc (by simp) ?_))
        · have hb := of_decide_eq_false hc2
          rw [row_choose (e := m) (l := J - 1 - i) (by omega) (by omega)] at hb
          have g3 := row_stop g1 hb
          refine wss_one ?_
          refine ws_expr ?_
          refine we_append ?_
          refine we_name 3 (q := ?_)
          refine ⟨⟨_, rfl⟩, ?_⟩
          refine wa_cons ?_
          refine we_name 7 (q := ?_)
          refine wa_nil ?_
          refine ⟨_, _, _, _, _, rfl, rfl, rfl, rfl, (by rw [List.length_map, sizeLine_eq]; have := g0.2.2.2.2.1; omega), ?_⟩
          first | rw [app_int] | skip
          exact Wk.in ⟨acc ++ [((m : Nat) : Int)], m, q1, rfl, rfl, rowO_step hi2 g0 g3 g1.1 (by omega) g1.2.2.1⟩ (by repeat (first | exact wkM_refl | exact wkM_nil | exact wkM_app | refine wkM_cons (by first | exact .inl rfl | exact .inr rfl) ?_ | refine wkM_trans wkM_app ?_)) (by repeat (first | exact wkD_nil | refine wkD_cons (by first | exact .inl rfl | exact .inr rfl) ?_)) (by rw [hps]; simp) (by repeat (first | exact lk_nil | refine lk_none ?_ | refine lk_dat ?_ | refine lk_loc (by simp) ?_))
      · rintro δ' μ' ⟨acc, e, q, rfl, rfl, g0⟩
        rw [List.length_map, List.length_range, hlm, show (((J : Nat) : Int) - 1 - -1).toNat = J from by omega] at g0
        refine wss_one ?_
        refine ws_ret ?_
        refine we_def h_row_of (hr.mono (by omega)) takesF ?_
        refine wa_cons ?_
        refine we_name 5 (q := ?_)
        refine wa_cons ?_
        refine we_name 6 (q := ?_)
        refine wa_cons ?_
        refine we_name 3 (q := ?_)
        refine wa_nil ?_
        refine .inl ⟨_, _, rfl, ?_⟩
        refine ⟨(pairSums n.toNat res, midO n.toNat res, acc), rfl, rfl, ⟨hsl, by rw [hJ]; exact g0.2.2.2.2.1⟩, putR_dat ?_⟩ -- call row_of(sums, middle, found)
        refine ret0 ?_
        have ge := g0.2.2.2.2.2
        rw [Nat.sub_self, show rowE 0 e q = [] from rfl, List.append_nil] at ge
        rw [ge]
        exact hp
theorem has_law_deck {f : Addr} {fd : FuncData} (dd : Def K mg "_law_deck" "_law_deck" s_law_deck ["cell", "turn"] f fd) (T : Txt K mg)  : Has P w K mg base "_law_deck" ["cell", "turn"] 1 pr_law_deck := by
  refine dd.has (fn_ok 0 dd.fn sc_law_deck (fun os ds post ex h => ?_) (fun cdv A outer s H E C os ds post ex hr tk hps h => ?_)) prV_mono
  · obtain ⟨a, rfl, rfl, _⟩ := h; exact ⟨rfl, rfl⟩
  · obtain ⟨⟨c, t⟩, rfl, rfl, -, hp⟩ := h
    refine wss_cons ?_
    apply ws_ifE
    · repeat (first | exact lk_nil | refine lk_none ?_ | refine lk_dat ?_ | refine lk_loc (by simp) ?_)
    · apply et_in
      refine wt_ge ?_
      refine we_name 0 (q := ?_)
      refine we_pow ?_
      refine we_int ?_
      refine we_int ?_
      refine ⟨_, _, rfl, rfl, ⟨by omega, by omega, by omega⟩, ?_⟩
      refine ⟨_, _, rfl, rfl, ?_⟩
      exact ⟨_, rfl, rfl, (by repeat (first | exact wkM_refl | exact wkM_nil | exact wkM_app | refine wkM_cons (by first | exact .inl rfl | exact .inr rfl) ?_ | refine wkM_trans wkM_app ?_))⟩
    · intro hc1
      refine wss_one ?_
      refine ws_ret ?_
      refine we_lst ?_
      refine wa_cons ?_
      refine we_sub ?_
      refine we_name 0 (q := ?_)
      refine we_pow ?_
      refine we_int ?_
      refine we_int ?_
      refine ⟨_, _, rfl, rfl, ⟨by omega, by omega, by omega⟩, ?_⟩
      refine ⟨_, _, rfl, rfl, ?_⟩
      refine wa_cons ?_
      refine we_mod ?_
      refine we_name 0 (q := ?_)
      refine we_int ?_
      refine ⟨_, _, rfl, rfl, by omega, ?_⟩
      refine wa_cons ?_
      refine we_name 1 (q := ?_)
      refine wa_nil ?_
      refine ⟨_, _, rfl, by simp [sizeLine_eq], ?_⟩
      refine ret0l rfl ?_
      have h9 : ((10 : Int) ^ Int.toNat 18) = 1000000000000000000 := by decide +kernel
      rw [h9] at hc1
      simp only at hp
      rw [if_pos (of_decide_eq_true hc1)] at hp
      rw [h9]
      exact hp
    · intro hc1
      refine wss_nil ?_
      refine wss_one ?_
      refine ws_ret ?_
      refine we_lst ?_
      refine wa_cons ?_
      refine we_int ?_
      refine wa_cons ?_
      refine we_mod ?_
      refine we_name 0 (q := ?_)
      refine we_int ?_
      refine ⟨_, _, rfl, rfl, by omega, ?_⟩
      refine wa_cons ?_
      refine we_name 1 (q := ?_)
      refine wa_nil ?_
      refine ⟨_, _, rfl, by simp [sizeLine_eq], ?_⟩
      refine ret0l rfl ?_
      have h9 : ((10 : Int) ^ Int.toNat 18) = 1000000000000000000 := by decide +kernel
      rw [h9] at hc1
      simp only at hp
      rw [if_neg (of_decide_eq_false hc1)] at hp
      exact hp
theorem has_need_drop {f : Addr} {fd : FuncData} (dd : Def K mg "need_drop" "need_drop" s_need_drop ["judges", "drop"] f fd) (T : Txt K mg) (h_is_from : Has P w K mg base "is_from" ["value", "low", "high"] 1 pr_is_from) : Has P w K mg base "need_drop" ["judges", "drop"] 2 pr_need_drop := by
  refine dd.has (fn_ok 0 dd.fn sc_need_drop (fun os ds post ex h => ?_) (fun cdv A outer s H E C os ds post ex hr tk hps h => ?_)) prV_mono
  · obtain ⟨a, rfl, rfl, _⟩ := h; exact ⟨rfl, rfl⟩
  · obtain ⟨⟨j, c⟩, rfl, rfl, ⟨h1, h2⟩, hp⟩ := h
    refine wss_one ?_
    apply ws_ifE
    · repeat (first | exact lk_nil | refine lk_none ?_ | refine lk_dat ?_ | refine lk_loc (by simp) ?_)
    · apply et_not
      apply et_val
      · apply ev_in
        refine we_def h_is_from (hr.mono (by omega)) takesF ?_
        refine wa_cons ?_
        refine we_name 1 (q := ?_)
        refine wa_cons ?_
        refine we_int ?_
        refine wa_cons ?_
        refine we_fdiv ?_
        refine we_sub ?_
        refine we_name 0 (q := ?_)
        refine we_int ?_
        refine ⟨_, _, rfl, rfl, ?_⟩
        refine we_int ?_
        refine ⟨_, _, rfl, rfl, ⟨by omega, by omega⟩, ?_⟩
        refine wa_nil ?_
        refine .inl ⟨_, _, rfl, ?_⟩
        refine ⟨(.int c, 0, _), rfl, rfl, okD_int, putR_dat ?_⟩ -- call is_from(drop, 0, (judges - 1) // 2)
        exact ⟨rfl, (by repeat (first | exact wkM_refl | exact wkM_nil | exact wkM_app | refine wkM_cons (by first | exact .inl rfl | exact .inr rfl) ?_ | refine wkM_trans wkM_app ?_))⟩
      · intro _; rfl
    · intro hc1
      refine wss_one ?_
      exact ws_never (by simp [isFromD] at hc1; omega)
    · intro hc1
      refine wss_nil ?_
      refine ret0 ?_
      exact hp
theorem has_is_marks {f : Addr} {fd : FuncData} (dd : Def K mg "is_marks" "is_marks" s_is_marks ["value"] f fd) (T : Txt K mg) (h_is_from : Has P w K mg base "is_from" ["value", "low", "high"] 1 pr_is_from) : Has P w K mg base "is_marks" ["value"] 2 pr_is_marks := by
  refine dd.has (fn_ok 0 dd.fn sc_is_marks (fun os ds post ex h => ?_) (fun cdv A outer s H E C os ds post ex hr tk hps h => ?_)) prV_mono
  · obtain ⟨a, rfl, rfl, _⟩ := h; exact ⟨rfl, rfl⟩
  · obtain ⟨v, rfl, rfl, ⟨⟨ty, hty⟩, hel⟩, hp⟩ := h
    by_cases htt : ∃ xs, v = .tup xs
    · obtain ⟨xs, rfl⟩ := htt
      have hel := hel xs rfl
      cases hty
      refine wss_cons ?_
      apply ws_ifE
      · repeat (first | exact lk_nil | refine lk_none ?_ | refine lk_dat ?_ | refine lk_loc (by simp) ?_)
      · apply et_ww
        apply ew_or
        · repeat (first | exact lk_nil | refine lk_none ?_ | refine lk_dat ?_ | refine lk_loc (by simp) ?_)
        · apply et_not
          apply et_val
          · apply ev_in
            refine we_isi T.b_isinstance ?_
            refine wa_cons ?_
            refine we_name 0 (q := ?_)
            refine wa_cons ?_
            refine we_bty (T := "tuple") T.b_tuple (by decide +kernel) ?_
            refine wa_nil ?_
            refine ⟨_, _, _, _, rfl, by decide, rfl, rfl, ?_⟩
            exact ⟨rfl, (by repeat (first | exact wkM_refl | exact wkM_nil | exact wkM_app | refine wkM_cons (by first | exact .inl rfl | exact .inr rfl) ?_ | refine wkM_trans wkM_app ?_))⟩
          · intro _; rfl
        · intro hc2
          apply ew_or1
          apply et_not
          apply et_lele
          · repeat (first | exact lk_nil | refine lk_none ?_ | refine lk_dat ?_ | refine lk_loc (by simp) ?_)
          · apply ev_in
            refine we_int ?_
            exact ⟨rfl, (by repeat (first | exact wkM_refl | exact wkM_nil | exact wkM_app | refine wkM_cons (by first | exact .inl rfl | exact .inr rfl) ?_ | refine wkM_trans wkM_app ?_))⟩
          · apply ev_in
            refine we_len T.b_len ?_
            refine wa_cons ?_
            refine we_name 0 (q := ?_)
            refine wa_nil ?_
            refine ⟨_, _, _, rfl, rfl, rfl, ?_⟩
            exact ⟨rfl, (by repeat (first | exact wkM_refl | exact wkM_nil | exact wkM_app | refine wkM_cons (by first | exact .inl rfl | exact .inr rfl) ?_ | refine wkM_trans wkM_app ?_))⟩
          · intro hc3
            apply ev_in
            refine we_gintE T.c_MOST_JUDGES ?_
            exact ⟨rfl, (by repeat (first | exact wkM_refl | exact wkM_nil | exact wkM_app | refine wkM_cons (by first | exact .inl rfl | exact .inr rfl) ?_ | refine wkM_trans wkM_app ?_))⟩
          · with_unfolding_all rfl
      · intro hc1
        refine wss_one ?_
        refine ws_ret ?_
        refine we_bl ?_
        refine ret0 ?_
        have e : isMarksD (.tup xs) = false := by
          simp [isD] at hc1
          simp [isMarksD]
          intro a b
          omega
        rw [← e]
        exact hp
      · intro hc1
        refine wss_nil ?_
        refine wss_one ?_
        refine ws_ret ?_
        apply we_ev
        · repeat (first | exact lk_nil | refine lk_none ?_ | refine lk_dat ?_ | refine lk_loc (by simp) ?_)
        · apply ev_in
          refine we_all rfl T.b_all ?_
          refine wa_cons ?_
          refine we_lc0 (tgt_name 1) rfl sc_is_marks.nd (blkOk_by (own := [("mark", 1)]) (by first | rfl | decide +kernel)) (fun _ _ _ _ _ => pg_name (i := 1) sc_is_marks.nd rfl (Or.inl rfl)) (by decide) ?_
          refine wi_seq ?_
          refine we_name 0 (q := ?_)
          first | refine ⟨_, _, .inl rfl, ?_⟩ | refine ⟨_, _, .inr rfl, ?_⟩
          refine ⟨D, xs, fun x => x, fun x => .bl (isFromD x 0 1000), ?_, ?_, fun x acc hx => ⟨_, rfl, fun s0 H0 Cc cl fp => ?_⟩, ?_⟩
          · exact (List.map_id xs).symm
          · exact (by simp at hc1; omega)
          · refine we_norm (δ' := [_, _]) rfl ?_
            apply we_ev
            · repeat (first | exact lk_nil | refine lk_none ?_ | refine lk_dat ?_ | refine lk_loc (by simp) ?_)
            · apply ev_in
              refine we_def h_is_from (hr.mono (by omega)) takesF ?_
              refine wa_cons ?_
              refine we_name 1 (q := ?_)
              refine wa_cons ?_
              refine we_int ?_
              refine wa_cons ?_
              refine we_gintE T.c_LARGEST ?_
              refine wa_nil ?_
              refine .inl ⟨_, _, rfl, ?_⟩
              refine ⟨(x, 0, 1000), rfl, rfl, hel x hx, putR_dat ?_⟩ -- call is_from(mark, 0, LARGEST)
              exact ⟨rfl, (by repeat (first | exact wkM_refl | exact wkM_nil | exact wkM_app | refine wkM_cons (by first | exact .inl rfl | exact .inr rfl) ?_ | refine wkM_trans wkM_app ?_))⟩
            exact ⟨_, rfl, (by repeat (first | exact wkM_refl | exact wkM_nil | exact wkM_app | refine wkM_cons (by first | exact .inl rfl | exact .inr rfl) ?_ | refine wkM_trans wkM_app ?_))⟩
          refine wa_nil ?_
          refine ⟨_, xs.map fun x => isFromD x 0 1000, rfl, (by simp [cnt, Function.comp_def]), ?_⟩
          exact ⟨rfl, (by repeat (first | exact wkM_refl | exact wkM_nil | exact wkM_app | refine wkM_cons (by first | exact .inl rfl | exact .inr rfl) ?_ | refine wkM_trans wkM_app ?_))⟩
        refine ret0 ?_
        rw [all_marks xs (by simp at hc1; omega) (by simp at hc1; omega)]
        exact hp
    · obtain ⟨e, e2⟩ := isMarksD_not hty htt
      refine wss_cons ?_
      apply ws_ifE
      · repeat (first | exact lk_nil | refine lk_none ?_ | refine lk_dat ?_ | refine lk_loc (by simp) ?_)
      · apply et_ww
        apply (ew_or (l := true))
        · repeat (first | exact lk_nil | refine lk_none ?_ | refine lk_dat ?_ | refine lk_loc (by simp) ?_)
        · apply et_not
          apply et_val
          · apply ev_in
            refine we_isi T.b_isinstance ?_
            refine wa_cons ?_
            refine we_name 0 (q := ?_)
            refine wa_cons ?_
            refine we_bty (T := "tuple") T.b_tuple (by decide +kernel) ?_
            refine wa_nil ?_
            refine ⟨_, _, _, _, rfl, by decide, rfl, hty, ?_⟩
            exact ⟨rfl, (by repeat (first | exact wkM_refl | exact wkM_nil | exact wkM_app | refine wkM_cons (by first | exact .inl rfl | exact .inr rfl) ?_ | refine wkM_trans wkM_app ?_))⟩
          · intro _; rfl
        · intro hc2
          rw [e2] at hc2; cases hc2
      · intro hc1
        refine wss_one ?_
        refine ws_ret ?_
        refine we_bl ?_
        refine ret0 ?_
        rw [← e]
        exact hp
      · intro hc1
        rw [e2] at hc1; cases hc1
theorem has_need_marks {f : Addr} {fd : FuncData} (dd : Def K mg "need_marks" "need_marks" s_need_marks ["marks", "drop"] f fd) (T : Txt K mg) (h_need_drop : Has P w K mg base "need_drop" ["judges", "drop"] 2 pr_need_drop) (h_is_marks : Has P w K mg base "is_marks" ["value"] 2 pr_is_marks) : Has P w K mg base "need_marks" ["marks", "drop"] 3 pr_need_marks := by
  refine dd.has (fn_ok 0 dd.fn sc_need_marks (fun os ds post ex h => ?_) (fun cdv A outer s H E C os ds post ex hr tk hps h => ?_)) prV_mono
  · obtain ⟨a, rfl, rfl, _⟩ := h; exact ⟨rfl, rfl⟩
  · obtain ⟨⟨ns, c⟩, rfl, rfl, ⟨hn, h1, h2⟩, hp⟩ := h
    refine wss_cons ?_
    apply ws_ifE
    · repeat (first | exact lk_nil | refine lk_none ?_ | refine lk_dat ?_ | refine lk_loc (by simp) ?_)
    · apply et_not
      apply et_val
      · apply ev_in
        refine we_def h_is_marks (hr.mono (by omega)) takesF ?_
        refine wa_cons ?_
        refine we_name 0 (q := ?_)
        refine wa_nil ?_
        refine .inl ⟨_, _, rfl, ?_⟩
        refine ⟨(tI ns), rfl, rfl, okM_tI, putR_dat ?_⟩ -- call is_marks(marks)
        exact ⟨rfl, (by repeat (first | exact wkM_refl | exact wkM_nil | exact wkM_app | refine wkM_cons (by first | exact .inl rfl | exact .inr rfl) ?_ | refine wkM_trans wkM_app ?_))⟩
      · intro _; rfl
    · intro hc1
      refine wss_one ?_
      exact ws_never (by rw [isMarksD_tI hn] at hc1; cases hc1)
    · intro hc1
      refine wss_nil ?_
      refine wss_one ?_
      refine ws_expr ?_
      apply we_ev
      · repeat (first | exact lk_nil | refine lk_none ?_ | refine lk_dat ?_ | refine lk_loc (by simp) ?_)
      · apply ev_in
        refine we_def h_need_drop (hr.mono (by omega)) takesF ?_
        refine wa_cons ?_
        refine we_len T.b_len ?_
        refine wa_cons ?_
        refine we_name 0 (q := ?_)
        refine wa_nil ?_
        refine ⟨_, _, _, rfl, rfl, rfl, ?_⟩
        refine wa_cons ?_
        refine we_name 1 (q := ?_)
        refine wa_nil ?_
        refine .inl ⟨_, _, rfl, ?_⟩
        refine ⟨(_, c), rfl, rfl, ⟨h1, by simpa using h2⟩, putR_dat ?_⟩ -- call need_drop(len(marks), drop)
        exact ⟨rfl, (by repeat (first | exact wkM_refl | exact wkM_nil | exact wkM_app | refine wkM_cons (by first | exact .inl rfl | exact .inr rfl) ?_ | refine wkM_trans wkM_app ?_))⟩
      refine ret0 ?_
      exact hp
theorem has_need_judge {f : Addr} {fd : FuncData} (dd : Def K mg "need_judge" "need_judge" s_need_judge ["marks", "judge"] f fd) (T : Txt K mg) (h_is_from : Has P w K mg base "is_from" ["value", "low", "high"] 1 pr_is_from) : Has P w K mg base "need_judge" ["marks", "judge"] 2 pr_need_judge := by
  refine dd.has (fn_ok 0 dd.fn sc_need_judge (fun os ds post ex h => ?_) (fun cdv A outer s H E C os ds post ex hr tk hps h => ?_)) prV_mono
  · obtain ⟨a, rfl, rfl, _⟩ := h; exact ⟨rfl, rfl⟩
  · obtain ⟨⟨ns, j⟩, rfl, rfl, ⟨h1, h2⟩, hp⟩ := h
    refine wss_one ?_
    apply ws_ifE
    · repeat (first | exact lk_nil | refine lk_none ?_ | refine lk_dat ?_ | refine lk_loc (by simp) ?_)
    · apply et_not
      apply et_val
      · apply ev_in
        refine we_def h_is_from (hr.mono (by omega)) takesF ?_
        refine wa_cons ?_
        refine we_name 1 (q := ?_)
        refine wa_cons ?_
        refine we_int ?_
        refine wa_cons ?_
        refine we_sub ?_
        refine we_len T.b_len ?_
        refine wa_cons ?_
        refine we_name 0 (q := ?_)
        refine wa_nil ?_
        refine ⟨_, _, _, rfl, rfl, rfl, ?_⟩
        refine we_int ?_
        refine ⟨_, _, rfl, rfl, ?_⟩
        refine wa_nil ?_
        refine .inl ⟨_, _, rfl, ?_⟩
        refine ⟨(.int j, 0, _), rfl, rfl, okD_int, putR_dat ?_⟩ -- call is_from(judge, 0, len(marks) - 1)
        exact ⟨rfl, (by repeat (first | exact wkM_refl | exact wkM_nil | exact wkM_app | refine wkM_cons (by first | exact .inl rfl | exact .inr rfl) ?_ | refine wkM_trans wkM_app ?_))⟩
      · intro _; rfl
    · intro hc1
      refine wss_one ?_
      exact ws_never (by simp [isFromD] at hc1; omega)
    · intro hc1
      refine wss_nil ?_
      refine ret0 ?_
      exact hp
theorem has_cuts {f : Addr} {fd : FuncData} (dd : Def K mg "cuts" "cuts" s_cuts ["marks", "drop", "judge"] f fd) (T : Txt K mg)  : Has P w K mg base "cuts" ["marks", "drop", "judge"] 1 pr_cuts := by
  refine dd.has (fn_ok 0 dd.fn sc_cuts (fun os ds post ex h => ?_) (fun cdv A outer s H E C os ds post ex hr tk hps h => ?_)) prV_mono
  · obtain ⟨a, rfl, rfl, _⟩ := h; exact ⟨rfl, rfl⟩
  · obtain ⟨⟨ns, c, j⟩, rfl, rfl, ⟨hl, ⟨h1, h2⟩, h3, h4⟩, hp⟩ := h
    have hr0 := rest_len ns (j := j.toNat) (by omega)
    have hs0 := srt_len (rest ns j.toNat)
    refine wss_cons ?_
    apply ws_ifE
    · repeat (first | exact lk_nil | refine lk_none ?_ | refine lk_dat ?_ | refine lk_loc (by simp) ?_)
    · apply et_in
      refine wt_eq hr.units ?_
      refine we_name 1 (q := ?_)
      refine we_int ?_
      refine ⟨_, _, rfl, rfl, (by with_reducible repeat (first | exact fit_int | exact fit_bl | exact fit_non | exact fit_nil | exact fit_all_int _ | refine fit_lst ?_ | refine fit_tup ?_ | refine fit_cons ?_ ?_ | exact fit_str (by decide))), (by with_reducible repeat (first | exact fit_int | exact fit_bl | exact fit_non | exact fit_nil | exact fit_all_int _ | refine fit_lst ?_ | refine fit_tup ?_ | refine fit_cons ?_ ?_ | exact fit_str (by decide))), ?_⟩
      exact ⟨_, rfl, rfl, (by repeat (first | exact wkM_refl | exact wkM_nil | exact wkM_app | refine wkM_cons (by first | exact .inl rfl | exact .inr rfl) ?_ | refine wkM_trans wkM_app ?_))⟩
    · intro hc1
      have hc0 : c = 0 := by simpa [eqD_int] using hc1
      refine wss_one ?_
      refine ws_ret ?_
      refine we_tup ?_
      refine wa_cons ?_
      refine we_int ?_
      refine wa_cons ?_
      refine we_gintE T.c_LARGEST ?_
      refine wa_nil ?_
      refine ⟨_, _, rfl, by simp [sizeLine_eq], ?_⟩
      refine ret0 ?_
      subst hc0
      exact hp
    · intro hc1
      have hc0 : c ≠ 0 := by simpa [eqD_int] using hc1
      refine wss_nil ?_
      refine wss_cons ?_
      refine ws_set 3 sc_cuts.nd rfl (by first | exact Or.inl rfl | exact Or.inr rfl) ?_
      refine we_sorted T.b_sorted ?_
      refine wa_cons ?_
      refine we_add ?_
      refine we_slice ?_
      refine we_name 0 (q := ?_)
      refine wo_none ?_
      refine wo_some ?_
      refine we_name 2 (q := ?_)
      refine ⟨_, rfl, ?_⟩
      first | refine .inl ⟨_, rfl, ?_⟩ | refine .inr ⟨_, rfl, ?_⟩
      refine we_slice ?_
      refine we_name 0 (q := ?_)
      refine wo_some ?_
      refine we_add ?_
      refine we_name 2 (q := ?_)
      refine we_int ?_
      first | refine .inl ⟨_, _, rfl, rfl, ?_⟩ | refine .inr (.inr (.inl ⟨_, _, rfl, rfl, (by rw [sizeLine_eq]; simp; try omega), ?_⟩)) | refine .inr (.inl ⟨_, _, rfl, rfl, (by rw [sizeLine_eq]; simp; try omega), ?_⟩)
      refine ⟨_, rfl, ?_⟩
      refine wo_none ?_
      first | refine .inl ⟨_, rfl, ?_⟩ | refine .inr ⟨_, rfl, ?_⟩
      first | refine .inl ⟨_, _, rfl, rfl, ?_⟩ | refine .inr (.inr (.inl ⟨_, _, rfl, rfl, (by have h5 := cut_len (ns := ns) (lo := none) (hi := some j) hl; exact cat_sz3 hl (by omega)), ?_⟩)) | refine .inr (.inl ⟨_, _, rfl, rfl, (by have h5 := cut_len (ns := ns) (lo := none) (hi := some j) hl; exact cat_sz3 hl (by omega)), ?_⟩)
      refine wa_nil ?_
      first | refine ⟨_, (rest ns j.toNat), rfl, .inl (congrArg (fun z => some (D.tup z)) (rest_cut ns h3)), ?_⟩ | refine ⟨_, (rest ns j.toNat), rfl, .inr (congrArg (fun z => some (D.tup z)) (rest_cut ns h3)), ?_⟩
      refine wss_norm (δ' := [_, _, _, _]) (μ' := [_]) ?_ rfl rfl
      refine wss_one ?_
      refine ws_ret ?_
      refine we_tup ?_
      refine wa_cons ?_
      refine we_ix ?_
      refine we_name 3 (q := ?_)
      refine we_sub ?_
      refine we_name 1 (q := ?_)
      refine we_int ?_
      refine ⟨_, _, rfl, rfl, ?_⟩
      first | refine ⟨_, _, _, .inl rfl, rfl, (atI_ints _ (by omega) (by omega)), ?_⟩ | refine ⟨_, _, _, .inr rfl, rfl, (atI_ints _ (by omega) (by omega)), ?_⟩
      refine wa_cons ?_
      refine we_ix ?_
      refine we_name 3 (q := ?_)
      refine we_sub ?_
      refine we_len T.b_len ?_
      refine wa_cons ?_
      refine we_name 3 (q := ?_)
      refine wa_nil ?_
      refine ⟨_, _, _, rfl, rfl, rfl, ?_⟩
      refine we_name 1 (q := ?_)
      refine ⟨_, _, rfl, rfl, ?_⟩
      first | refine ⟨_, _, _, .inl rfl, rfl, (atI_ints _ (by rw [List.length_map]; omega) (by rw [List.length_map]; omega)), ?_⟩ | refine ⟨_, _, _, .inr rfl, rfl, (atI_ints _ (by rw [List.length_map]; omega) (by rw [List.length_map]; omega)), ?_⟩
      refine wa_nil ?_
      refine ⟨_, _, rfl, by simp [sizeLine_eq], ?_⟩
      refine ret0 ?_
      simp only [dPair, cutsD, if_neg (show ¬ c.toNat = 0 by omega)] at hp
      rw [List.length_map, hs0, hr0, show (c - 1).toNat = c.toNat - 1 from by omega, show (((ns.length - 1 : Nat) : Int) - c).toNat = ns.length - 1 - c.toNat from by omega]
      exact hp
theorem has_total {f : Addr} {fd : FuncData} (dd : Def K mg "total" "total" s_total ["marks", "drop"] f fd) (T : Txt K mg)  : Has P w K mg base "total" ["marks", "drop"] 1 pr_total := by
  refine dd.has (fn_ok 0 dd.fn sc_total (fun os ds post ex h => ?_) (fun cdv A outer s H E C os ds post ex hr tk hps h => ?_)) prV_mono
  · obtain ⟨a, rfl, rfl, _⟩ := h; exact ⟨rfl, rfl⟩
  · obtain ⟨⟨x, ns, c⟩, rfl, rfl, ⟨hx, h1, h2, h3⟩, hp⟩ := h
    simp only at hx h1 h2 h3 hp
    rcases hx with rfl | rfl
    · refine wss_one ?_
      refine ws_ret ?_
      apply we_ev
      · repeat (first | exact lk_nil | refine lk_none ?_ | refine lk_dat ?_ | refine lk_loc (by simp) ?_)
      · apply ev_in
        refine we_sum rfl T.b_sum ?_
        refine wa_cons ?_
        refine we_slice ?_
        refine we_sorted T.b_sorted ?_
        refine wa_cons ?_
        refine we_name 0 (q := ?_)
        refine wa_nil ?_
        first | refine ⟨_, _, rfl, .inl rfl, ?_⟩ | refine ⟨_, _, rfl, .inr rfl, ?_⟩
        refine wo_some ?_
        refine we_name 1 (q := ?_)
        refine ⟨_, rfl, ?_⟩
        refine wo_some ?_
        refine we_sub ?_
        refine we_len T.b_len ?_
        refine wa_cons ?_
        refine we_name 0 (q := ?_)
        refine wa_nil ?_
        refine ⟨_, _, _, rfl, rfl, rfl, ?_⟩
        refine we_name 1 (q := ?_)
        refine ⟨_, _, rfl, rfl, ?_⟩
        refine ⟨_, rfl, ?_⟩
        first | refine .inl ⟨_, rfl, ?_⟩ | refine .inr ⟨_, rfl, ?_⟩
        refine wa_nil ?_
        first | refine ⟨_, (cutA (srt ns) (some c) (some (((ns.map D.int).length : Int) - c))), rfl, .inl (congrArg (fun z => some (D.lst z)) (cutA_map D.int (srt ns) _ _)), ?_⟩ | refine ⟨_, (cutA (srt ns) (some c) (some (((ns.map D.int).length : Int) - c))), rfl, .inr (congrArg (fun z => some (D.lst z)) (cutA_map D.int (srt ns) _ _)), ?_⟩
        exact ⟨rfl, (by repeat (first | exact wkM_refl | exact wkM_nil | exact wkM_app | refine wkM_cons (by first | exact .inl rfl | exact .inr rfl) ?_ | refine wkM_trans wkM_app ?_))⟩
      refine ret0 ?_
      rw [tot_cut ns h1 h2]
      exact hp
    · refine wss_one ?_
      refine ws_ret ?_
      apply we_ev
      · repeat (first | exact lk_nil | refine lk_none ?_ | refine lk_dat ?_ | refine lk_loc (by simp) ?_)
      · apply ev_in
        refine we_sum rfl T.b_sum ?_
        refine wa_cons ?_
        refine we_slice ?_
        refine we_sorted T.b_sorted ?_
        refine wa_cons ?_
        refine we_name 0 (q := ?_)
        refine wa_nil ?_
        first | refine ⟨_, _, rfl, .inl rfl, ?_⟩ | refine ⟨_, _, rfl, .inr rfl, ?_⟩
        refine wo_some ?_
        refine we_name 1 (q := ?_)
        refine ⟨_, rfl, ?_⟩
        refine wo_some ?_
        refine we_sub ?_
        refine we_len T.b_len ?_
        refine wa_cons ?_
        refine we_name 0 (q := ?_)
        refine wa_nil ?_
        refine ⟨_, _, _, rfl, rfl, rfl, ?_⟩
        refine we_name 1 (q := ?_)
        refine ⟨_, _, rfl, rfl, ?_⟩
        refine ⟨_, rfl, ?_⟩
        first | refine .inl ⟨_, rfl, ?_⟩ | refine .inr ⟨_, rfl, ?_⟩
        refine wa_nil ?_
        first | refine ⟨_, (cutA (srt ns) (some c) (some (((ns.map D.int).length : Int) - c))), rfl, .inl (congrArg (fun z => some (D.lst z)) (cutA_map D.int (srt ns) _ _)), ?_⟩ | refine ⟨_, (cutA (srt ns) (some c) (some (((ns.map D.int).length : Int) - c))), rfl, .inr (congrArg (fun z => some (D.lst z)) (cutA_map D.int (srt ns) _ _)), ?_⟩
        exact ⟨rfl, (by repeat (first | exact wkM_refl | exact wkM_nil | exact wkM_app | refine wkM_cons (by first | exact .inl rfl | exact .inr rfl) ?_ | refine wkM_trans wkM_app ?_))⟩
      refine ret0 ?_
      rw [tot_cut ns h1 h2]
      exact hp
theorem has_replaced {f : Addr} {fd : FuncData} (dd : Def K mg "replaced" "replaced" s_replaced ["marks", "judge", "mark"] f fd) (T : Txt K mg)  : Has P w K mg base "replaced" ["marks", "judge", "mark"] 1 pr_replaced := by
  refine dd.has (fn_ok 0 dd.fn sc_replaced (fun os ds post ex h => ?_) (fun cdv A outer s H E C os ds post ex hr tk hps h => ?_)) prV_mono
  · obtain ⟨a, rfl, rfl, _⟩ := h; exact ⟨rfl, rfl⟩
  · obtain ⟨⟨ns, j, m⟩, rfl, rfl, ⟨hl, ⟨h1, h2⟩⟩, hp⟩ := h
    refine wss_one ?_
    refine ws_ret ?_
    refine we_add ?_
    refine we_add ?_
    refine we_slice ?_
    refine we_name 0 (q := ?_)
    refine wo_none ?_
    refine wo_some ?_
    refine we_name 1 (q := ?_)
    refine ⟨_, rfl, ?_⟩
    first | refine .inl ⟨_, rfl, ?_⟩ | refine .inr ⟨_, rfl, ?_⟩
    refine we_tup ?_
    refine wa_cons ?_
    refine we_name 2 (q := ?_)
    refine wa_nil ?_
    refine ⟨_, _, rfl, by simp [sizeLine_eq], ?_⟩
    first | refine .inl ⟨_, _, rfl, rfl, ?_⟩ | refine .inr (.inr (.inl ⟨_, _, rfl, rfl, (by have h5 := cut_len (ns := ns) (lo := none) (hi := some j) hl; rw [sizeLine_eq]; simp; omega), ?_⟩)) | refine .inr (.inl ⟨_, _, rfl, rfl, (by have h5 := cut_len (ns := ns) (lo := none) (hi := some j) hl; rw [sizeLine_eq]; simp; omega), ?_⟩)
    refine we_slice ?_
    refine we_name 0 (q := ?_)
    refine wo_some ?_
    refine we_add ?_
    refine we_name 1 (q := ?_)
    refine we_int ?_
    first | refine .inl ⟨_, _, rfl, rfl, ?_⟩ | refine .inr (.inr (.inl ⟨_, _, rfl, rfl, (by rw [sizeLine_eq]; simp; try omega), ?_⟩)) | refine .inr (.inl ⟨_, _, rfl, rfl, (by rw [sizeLine_eq]; simp; try omega), ?_⟩)
    refine ⟨_, rfl, ?_⟩
    refine wo_none ?_
    first | refine .inl ⟨_, rfl, ?_⟩ | refine .inr ⟨_, rfl, ?_⟩
    first | refine .inl ⟨_, _, rfl, rfl, ?_⟩ | refine .inr (.inr (.inl ⟨_, _, rfl, rfl, (by have h5 := cut_len (ns := ns) (lo := none) (hi := some j) hl; refine cat_sz3 hl ?_; simp; omega), ?_⟩)) | refine .inr (.inl ⟨_, _, rfl, rfl, (by have h5 := cut_len (ns := ns) (lo := none) (hi := some j) hl; refine cat_sz3 hl ?_; simp; omega), ?_⟩)
    refine ret0 ?_
    rw [repl_cutI ns _ h1]
    exact hp
theorem has_mark_range {f : Addr} {fd : FuncData} (dd : Def K mg "mark_range" "mark_range" s_mark_range ["marks", "drop", "judge", "wished"] f fd) (T : Txt K mg) (h_need_marks : Has P w K mg base "need_marks" ["marks", "drop"] 3 pr_need_marks) (h_need_judge : Has P w K mg base "need_judge" ["marks", "judge"] 2 pr_need_judge) (h_cuts : Has P w K mg base "cuts" ["marks", "drop", "judge"] 1 pr_cuts) (h_is_from : Has P w K mg base "is_from" ["value", "low", "high"] 1 pr_is_from) (h_total : Has P w K mg base "total" ["marks", "drop"] 1 pr_total) (h_replaced : Has P w K mg base "replaced" ["marks", "judge", "mark"] 1 pr_replaced) : Has P w K mg base "mark_range" ["marks", "drop", "judge", "wished"] 4 pr_mark_range := by
  refine dd.has (fn_ok 0 dd.fn sc_mark_range (fun os ds post ex h => ?_) (fun cdv A outer s H E C os ds post ex hr tk hps h => ?_)) prV_mono
  · obtain ⟨a, rfl, rfl, _⟩ := h; exact ⟨rfl, rfl⟩
  · obtain ⟨⟨ns, c, j, w⟩, rfl, rfl, ⟨hn, ⟨h1, h2⟩, ⟨h3, h4⟩, h5, h6⟩, hp⟩ := h
    have hl := hn.2.1
    refine wss_cons ?_
    refine ws_expr ?_
    apply we_ev
    · repeat (first | exact lk_nil | refine lk_none ?_ | refine lk_dat ?_ | refine lk_loc (by simp) ?_)
    · apply ev_in
      refine we_def h_need_marks (hr.mono (by omega)) takesF ?_
      refine wa_cons ?_
      refine we_name 0 (q := ?_)
      refine wa_cons ?_
      refine we_name 1 (q := ?_)
      refine wa_nil ?_
      refine .inl ⟨_, _, rfl, ?_⟩
      refine ⟨(_, _), rfl, rfl, ⟨by assumption, by omega, by omega⟩, putR_dat ?_⟩ -- call need_marks(marks, drop)
      exact ⟨rfl, (by repeat (first | exact wkM_refl | exact wkM_nil | exact wkM_app | refine wkM_cons (by first | exact .inl rfl | exact .inr rfl) ?_ | refine wkM_trans wkM_app ?_))⟩
    refine wss_norm (δ' := [_, _, _, _, _, _, _, _]) (μ' := []) ?_ rfl rfl
    refine wss_cons ?_
    refine ws_expr ?_
    apply we_ev
    · repeat (first | exact lk_nil | refine lk_none ?_ | refine lk_dat ?_ | refine lk_loc (by simp) ?_)
    · apply ev_in
      refine we_def h_need_judge (hr.mono (by omega)) takesF ?_
      refine wa_cons ?_
      refine we_name 0 (q := ?_)
      refine wa_cons ?_
      refine we_name 2 (q := ?_)
      refine wa_nil ?_
      refine .inl ⟨_, _, rfl, ?_⟩
      refine ⟨(_, _), rfl, rfl, ⟨by omega, by omega⟩, putR_dat ?_⟩ -- call need_judge(marks, judge)
      exact ⟨rfl, (by repeat (first | exact wkM_refl | exact wkM_nil | exact wkM_app | refine wkM_cons (by first | exact .inl rfl | exact .inr rfl) ?_ | refine wkM_trans wkM_app ?_))⟩
    refine wss_norm (δ' := [_, _, _, _, _, _, _, _]) (μ' := []) ?_ rfl rfl
    refine wss_cons ?_
    apply ws_ifE
    · repeat (first | exact lk_nil | refine lk_none ?_ | refine lk_dat ?_ | refine lk_loc (by simp) ?_)
    · apply et_not
      apply et_val
      · apply ev_in
        refine we_def h_is_from (hr.mono (by omega)) takesF ?_
        refine wa_cons ?_
        refine we_name 3 (q := ?_)
        refine wa_cons ?_
        refine we_int ?_
        refine wa_cons ?_
        refine we_mul ?_
        refine we_gintE T.c_MOST_JUDGES ?_
        refine we_gintE T.c_LARGEST ?_
        refine .inl ⟨_, _, rfl, rfl, (by first | exact .inl ⟨by omega, by omega⟩ | exact .inr ⟨by omega, by omega⟩), ?_⟩
        refine wa_nil ?_
        refine .inl ⟨_, _, rfl, ?_⟩
        refine ⟨(.int w, 0, 12000), rfl, rfl, okD_int, putR_dat ?_⟩ -- call is_from(wished, 0, MOST_JUDGES * LARGEST)
        exact ⟨rfl, (by repeat (first | exact wkM_refl | exact wkM_nil | exact wkM_app | refine wkM_cons (by first | exact .inl rfl | exact .inr rfl) ?_ | refine wkM_trans wkM_app ?_))⟩
      · intro _; rfl
    · intro hc1
      refine wss_one ?_
      exact ws_never (by simp [isFromD] at hc1; omega)
    · intro hc1
      refine wss_nil ?_
      refine wss_cons ?_
      refine ws_asgT (tgt_pair 6 7) (pg_tup rfl (pgs_cons (pg_name (i := 6) sc_mark_range.nd rfl (by first | exact Or.inl rfl | exact Or.inr rfl)) (pgs_cons (pg_name (i := 7) sc_mark_range.nd rfl (by first | exact Or.inl rfl | exact Or.inr rfl)) pgs_nil))) ?_
      apply we_ev
      · repeat (first | exact lk_nil | refine lk_none ?_ | refine lk_dat ?_ | refine lk_loc (by simp) ?_)
      · apply ev_in
        refine we_def h_cuts (hr.mono (by omega)) takesF ?_
        refine wa_cons ?_
        refine we_name 0 (q := ?_)
        refine wa_cons ?_
        refine we_name 1 (q := ?_)
        refine wa_cons ?_
        refine we_name 2 (q := ?_)
        refine wa_nil ?_
        refine .inl ⟨_, _, rfl, ?_⟩
        refine ⟨(_, _, _), rfl, rfl, ⟨by omega, ⟨by omega, by omega⟩, ⟨by omega, by omega⟩⟩, putR_dat ?_⟩ -- call cuts(marks, drop, judge)
        exact ⟨rfl, (by repeat (first | exact wkM_refl | exact wkM_nil | exact wkM_app | refine wkM_cons (by first | exact .inl rfl | exact .inr rfl) ?_ | refine wkM_trans wkM_app ?_))⟩
      refine ⟨_, _, _, rfl, rfl, ?_⟩
      refine wss_norm (δ' := [_, _, _, _, _, _, _, _]) (μ' := []) ?_ rfl rfl
      refine wss_cons ?_
      refine ws_set 4 sc_mark_range.nd rfl (by first | exact Or.inl rfl | exact Or.inr rfl) ?_
      apply we_ev
      · repeat (first | exact lk_nil | refine lk_none ?_ | refine lk_dat ?_ | refine lk_loc (by simp) ?_)
      · apply ev_in
        refine we_sub ?_
        apply we_ev
        · repeat (first | exact lk_nil | refine lk_none ?_ | refine lk_dat ?_ | refine lk_loc (by simp) ?_)
        · apply ev_in
          refine we_def h_total (hr.mono (by omega)) takesF ?_
          refine wa_cons ?_
          apply we_ev
          · repeat (first | exact lk_nil | refine lk_none ?_ | refine lk_dat ?_ | refine lk_loc (by simp) ?_)
          · apply ev_in
            refine we_def h_replaced (hr.mono (by omega)) takesF ?_
            refine wa_cons ?_
            refine we_name 0 (q := ?_)
            refine wa_cons ?_
            refine we_name 2 (q := ?_)
            refine wa_cons ?_
            refine we_name 6 (q := ?_)
            refine wa_nil ?_
            refine .inl ⟨_, _, rfl, ?_⟩
            refine ⟨(_, _, _), rfl, rfl, ⟨by omega, ⟨by omega, by omega⟩⟩, putR_dat ?_⟩ -- call replaced(marks, judge, low)
            exact ⟨rfl, (by repeat (first | exact wkM_refl | exact wkM_nil | exact wkM_app | refine wkM_cons (by first | exact .inl rfl | exact .inr rfl) ?_ | refine wkM_trans wkM_app ?_))⟩
          refine wa_cons ?_
          refine we_name 1 (q := ?_)
          refine wa_nil ?_
          refine .inl ⟨_, _, rfl, ?_⟩
          refine ⟨(_, _, _), rfl, rfl, ⟨by first | exact .inr rfl | exact .inl rfl, by omega, by first | omega | (rw [repl_len _ _ (by omega)]; omega), by first | omega | (rw [repl_len _ _ (by omega)]; omega)⟩, putR_dat ?_⟩ -- call total(replaced(marks, judge, low), drop)
          exact ⟨rfl, (by repeat (first | exact wkM_refl | exact wkM_nil | exact wkM_app | refine wkM_cons (by first | exact .inl rfl | exact .inr rfl) ?_ | refine wkM_trans wkM_app ?_))⟩
        refine we_name 6 (q := ?_)
        refine ⟨_, _, rfl, rfl, ?_⟩
        exact ⟨rfl, (by repeat (first | exact wkM_refl | exact wkM_nil | exact wkM_app | refine wkM_cons (by first | exact .inl rfl | exact .inr rfl) ?_ | refine wkM_trans wkM_app ?_))⟩
      refine wss_norm (δ' := [_, _, _, _, _, _, _, _]) (μ' := []) ?_ rfl rfl
      refine wss_cons ?_
      refine ws_set 5 sc_mark_range.nd rfl (by first | exact Or.inl rfl | exact Or.inr rfl) ?_
      refine we_sub ?_
      refine we_name 3 (q := ?_)
      refine we_name 4 (q := ?_)
      refine ⟨_, _, rfl, rfl, ?_⟩
      refine wss_norm (δ' := [_, _, _, _, _, _, _, _]) (μ' := []) ?_ rfl rfl
      refine wss_cons ?_
      apply ws_ifE
      · repeat (first | exact lk_nil | refine lk_none ?_ | refine lk_dat ?_ | refine lk_loc (by simp) ?_)
      · apply et_not
        apply et_lele
        · repeat (first | exact lk_nil | refine lk_none ?_ | refine lk_dat ?_ | refine lk_loc (by simp) ?_)
        · apply ev_in
          refine we_name 6 (q := ?_)
          exact ⟨rfl, (by repeat (first | exact wkM_refl | exact wkM_nil | exact wkM_app | refine wkM_cons (by first | exact .inl rfl | exact .inr rfl) ?_ | refine wkM_trans wkM_app ?_))⟩
        · apply ev_in
          refine we_name 5 (q := ?_)
          exact ⟨rfl, (by repeat (first | exact wkM_refl | exact wkM_nil | exact wkM_app | refine wkM_cons (by first | exact .inl rfl | exact .inr rfl) ?_ | refine wkM_trans wkM_app ?_))⟩
        · intro hc3
          apply ev_in
          refine we_name 7 (q := ?_)
          exact ⟨rfl, (by repeat (first | exact wkM_refl | exact wkM_nil | exact wkM_app | refine wkM_cons (by first | exact .inl rfl | exact .inr rfl) ?_ | refine wkM_trans wkM_app ?_))⟩
        · with_unfolding_all rfl
      · intro hc2
        have hb := hc2
        refine wss_one ?_
        refine ws_ret ?_
        refine we_non ?_
        refine ret0 ?_
        exact Eq.mp (congrArg (fun d => post (.dat d) []) (mr_none hb)) hp
      · intro hc2
        have hb := hc2
        refine wss_nil ?_
        refine wss_one ?_
        refine ws_ret ?_
        refine we_tup ?_
        refine wa_cons ?_
        apply we_ev
        · repeat (first | exact lk_nil | refine lk_none ?_ | refine lk_dat ?_ | refine lk_loc (by simp) ?_)
        · apply ev_if
          · repeat (first | exact lk_nil | refine lk_none ?_ | refine lk_dat ?_ | refine lk_loc (by simp) ?_)
          · apply et_in
            refine wt_eq hr.units ?_
            refine we_name 5 (q := ?_)
            refine we_name 6 (q := ?_)
            refine ⟨_, _, rfl, rfl, (by with_reducible repeat (first | exact fit_int | exact fit_bl | exact fit_non | exact fit_nil | exact fit_all_int _ | refine fit_lst ?_ | refine fit_tup ?_ | refine fit_cons ?_ ?_ | exact fit_str (by decide))), (by with_reducible repeat (first | exact fit_int | exact fit_bl | exact fit_non | exact fit_nil | exact fit_all_int _ | refine fit_lst ?_ | refine fit_tup ?_ | refine fit_cons ?_ ?_ | exact fit_str (by decide))), ?_⟩
            exact ⟨_, rfl, rfl, (by repeat (first | exact wkM_refl | exact wkM_nil | exact wkM_app | refine wkM_cons (by first | exact .inl rfl | exact .inr rfl) ?_ | refine wkM_trans wkM_app ?_))⟩
          · intro hc4
            apply ev_in
            refine we_int ?_
            exact ⟨rfl, (by repeat (first | exact wkM_refl | exact wkM_nil | exact wkM_app | refine wkM_cons (by first | exact .inl rfl | exact .inr rfl) ?_ | refine wkM_trans wkM_app ?_))⟩
          · intro hc4
            apply ev_in
            refine we_name 5 (q := ?_)
            exact ⟨rfl, (by repeat (first | exact wkM_refl | exact wkM_nil | exact wkM_app | refine wkM_cons (by first | exact .inl rfl | exact .inr rfl) ?_ | refine wkM_trans wkM_app ?_))⟩
        refine wa_cons ?_
        apply we_ev
        · repeat (first | exact lk_nil | refine lk_none ?_ | refine lk_dat ?_ | refine lk_loc (by simp) ?_)
        · apply ev_if
          · repeat (first | exact lk_nil | refine lk_none ?_ | refine lk_dat ?_ | refine lk_loc (by simp) ?_)
          · apply et_in
            refine wt_eq hr.units ?_
            refine we_name 5 (q := ?_)
            refine we_name 7 (q := ?_)
            refine ⟨_, _, rfl, rfl, (by with_reducible repeat (first | exact fit_int | exact fit_bl | exact fit_non | exact fit_nil | exact fit_all_int _ | refine fit_lst ?_ | refine fit_tup ?_ | refine fit_cons ?_ ?_ | exact fit_str (by decide))), (by with_reducible repeat (first | exact fit_int | exact fit_bl | exact fit_non | exact fit_nil | exact fit_all_int _ | refine fit_lst ?_ | refine fit_tup ?_ | refine fit_cons ?_ ?_ | exact fit_str (by decide))), ?_⟩
            exact ⟨_, rfl, rfl, (by repeat (first | exact wkM_refl | exact wkM_nil | exact wkM_app | refine wkM_cons (by first | exact .inl rfl | exact .inr rfl) ?_ | refine wkM_trans wkM_app ?_))⟩
          · intro hc5
            apply ev_in
            refine we_gintE T.c_LARGEST ?_
            exact ⟨rfl, (by repeat (first | exact wkM_refl | exact wkM_nil | exact wkM_app | refine wkM_cons (by first | exact .inl rfl | exact .inr rfl) ?_ | refine wkM_trans wkM_app ?_))⟩
          · intro hc5
            apply ev_in
            refine we_name 5 (q := ?_)
            exact ⟨rfl, (by repeat (first | exact wkM_refl | exact wkM_nil | exact wkM_app | refine wkM_cons (by first | exact .inl rfl | exact .inr rfl) ?_ | refine wkM_trans wkM_app ?_))⟩
        refine wa_nil ?_
        refine ⟨_, _, rfl, by simp [sizeLine_eq], ?_⟩
        refine ret0 ?_
        exact Eq.mp (congrArg (fun d => post (.dat d) []) (mr_some hb)) hp
theorem has_all_results {f : Addr} {fd : FuncData} (dd : Def K mg "all_results" "all_results" s_all_results ["marks"] f fd) (T : Txt K mg) (h_is_marks : Has P w K mg base "is_marks" ["value"] 2 pr_is_marks) (h_total : Has P w K mg base "total" ["marks", "drop"] 1 pr_total) : Has P w K mg base "all_results" ["marks"] 3 pr_all_results := by
  refine dd.has (fn_ok 0 dd.fn sc_all_results (fun os ds post ex h => ?_) (fun cdv A outer s H E C os ds post ex hr tk hps h => ?_)) prV_mono
  · obtain ⟨a, rfl, rfl, _⟩ := h; exact ⟨rfl, rfl⟩
  · obtain ⟨ns, rfl, rfl, hn, hp⟩ := h
    refine wss_cons ?_
    apply ws_ifE
    · repeat (first | exact lk_nil | refine lk_none ?_ | refine lk_dat ?_ | refine lk_loc (by simp) ?_)
    · apply et_not
      apply et_val
      · apply ev_in
        refine we_def h_is_marks (hr.mono (by omega)) takesF ?_
        refine wa_cons ?_
        refine we_name 0 (q := ?_)
        refine wa_nil ?_
        refine .inl ⟨_, _, rfl, ?_⟩
        refine ⟨(tI ns), rfl, rfl, okM_tI, putR_dat ?_⟩ -- call is_marks(marks)
        exact ⟨rfl, (by repeat (first | exact wkM_refl | exact wkM_nil | exact wkM_app | refine wkM_cons (by first | exact .inl rfl | exact .inr rfl) ?_ | refine wkM_trans wkM_app ?_))⟩
      · intro _; rfl
    · intro hc1
      refine wss_one ?_
      exact ws_never (by rw [isMarksD_tI hn] at hc1; cases hc1)
    · intro hc1
      refine wss_nil ?_
      refine wss_one ?_
      refine ws_ret ?_
      refine we_lc0 (tgt_name 1) rfl sc_all_results.nd (blkOk_by (own := [("drop", 1)]) (by first | rfl | decide +kernel)) (fun _ _ _ _ _ => pg_name (i := 1) sc_all_results.nd rfl (Or.inl rfl)) (by decide) ?_
      refine wi_range1 T.b_range ?_
      refine wa_cons ?_
      refine we_fdiv ?_
      refine we_add ?_
      refine we_len T.b_len ?_
      refine wa_cons ?_
      refine we_name 0 (q := ?_)
      refine wa_nil ?_
      refine ⟨_, _, _, rfl, rfl, rfl, ?_⟩
      refine we_int ?_
      first | refine .inl ⟨_, _, rfl, rfl, ?_⟩ | refine .inr (.inr (.inl ⟨_, _, rfl, rfl, (by rw [sizeLine_eq]; simp; try omega), ?_⟩)) | refine .inr (.inl ⟨_, _, rfl, rfl, (by rw [sizeLine_eq]; simp; try omega), ?_⟩)
      refine we_int ?_
      refine ⟨_, _, rfl, rfl, ⟨by omega, by omega⟩, ?_⟩
      refine wa_nil ?_
      refine ⟨_, _, rfl, rfl, (by simp; omega), (by have := hn.2.1; simp; omega), ?_⟩
      refine ⟨Nat, List.range ((ns.length + 1) / 2), fun i => .int i, fun i => .int (tot ns i), ?_, ?_, fun x acc hx => ⟨_, rfl, fun s0 H0 Cc cl fp => ?_⟩, ?_⟩
      · exact (rngD_nat (by simp))
      · exact (by have := hn.2.1; simp; omega)
      · refine we_norm (δ' := [_, _]) rfl ?_
        apply we_ev
        · repeat (first | exact lk_nil | refine lk_none ?_ | refine lk_dat ?_ | refine lk_loc (by simp) ?_)
        · apply ev_in
          refine we_def h_total (hr.mono (by omega)) takesF ?_
          refine wa_cons ?_
          refine we_name 0 (q := ?_)
          refine wa_cons ?_
          refine we_name 1 (q := ?_)
          refine wa_nil ?_
          refine .inl ⟨_, _, rfl, ?_⟩
          refine ⟨(tI ns, ns, (x : Int)), rfl, rfl, ⟨.inr rfl, by omega, by have := List.mem_range.mp hx; omega, by have := hn.2.1; omega⟩, putR_dat ?_⟩ -- call total(marks, drop)
          exact ⟨rfl, (by repeat (first | exact wkM_refl | exact wkM_nil | exact wkM_app | refine wkM_cons (by first | exact .inl rfl | exact .inr rfl) ?_ | refine wkM_trans wkM_app ?_))⟩
        exact ⟨_, rfl, (by repeat (first | exact wkM_refl | exact wkM_nil | exact wkM_app | refine wkM_cons (by first | exact .inl rfl | exact .inr rfl) ?_ | refine wkM_trans wkM_app ?_))⟩
      refine ret0l rfl ?_
      simpa only [allRes, List.map_map, Function.comp_def] using hp
theorem has_surely_low {f : Addr} {fd : FuncData} (dd : Def K mg "surely_low" "surely_low" s_surely_low ["marks", "drop", "judge"] f fd) (T : Txt K mg)  : Has P w K mg base "surely_low" ["marks", "drop", "judge"] 1 pr_surely_low := by
  refine dd.has (fn_ok 0 dd.fn sc_surely_low (fun os ds post ex h => ?_) (fun cdv A outer s H E C os ds post ex hr tk hps h => ?_)) prV_mono
  · obtain ⟨a, rfl, rfl, _⟩ := h; exact ⟨rfl, rfl⟩
  · obtain ⟨⟨ns, c, j⟩, rfl, rfl, ⟨h1, h2, h3⟩, hp⟩ := h
    refine wss_one ?_
    refine ws_ret ?_
    apply we_ev
    · repeat (first | exact lk_nil | refine lk_none ?_ | refine lk_dat ?_ | refine lk_loc (by simp) ?_)
    · apply ev_in
      refine we_le ?_
      apply we_ev
      · repeat (first | exact lk_nil | refine lk_none ?_ | refine lk_dat ?_ | refine lk_loc (by simp) ?_)
      · apply ev_in
        refine we_len T.b_len ?_
        refine wa_cons ?_
        refine we_lcM (tgt_name 3) rfl sc_surely_low.nd (blkOk_by (own := [("mark", 3)]) (by first | rfl | decide +kernel)) (fun _ _ _ _ _ => pg_name (i := 3) sc_surely_low.nd rfl (Or.inl rfl)) (by decide) (by decide) ?_
        refine wi_seq ?_
        refine we_name 0 (q := ?_)
        first | refine ⟨_, _, .inl rfl, ?_⟩ | refine ⟨_, _, .inr rfl, ?_⟩
        refine ⟨Int, ns, D.int, (fun m => decide (m ≤ nth ns j)), D.int, ?_, ?_, fun x acc hx => ⟨_, rfl, fun s0 H0 Cc cl fp => ?_⟩, ?_⟩
        · exact rfl
        · exact (by omega)
        · refine wt_norm (δ' := [_, _, _, _]) rfl ?_
          apply wt_ev
          · repeat (first | exact lk_nil | refine lk_none ?_ | refine lk_dat ?_ | refine lk_loc (by simp) ?_)
          · apply et_in
            refine wt_le ?_
            refine we_name 3 (q := ?_)
            refine we_ix ?_
            refine we_name 0 (q := ?_)
            refine we_name 2 (q := ?_)
            first | refine ⟨_, _, _, .inl rfl, rfl, (by first | rfl | exact atI_ints _ (by omega) (by omega)), ?_⟩ | refine ⟨_, _, _, .inr rfl, rfl, (by first | rfl | exact atI_ints _ (by omega) (by omega)), ?_⟩
            refine ⟨_, _, rfl, rfl, ?_⟩
            exact ⟨_, rfl, rfl, (by repeat (first | exact wkM_refl | exact wkM_nil | exact wkM_app | refine wkM_cons (by first | exact .inl rfl | exact .inr rfl) ?_ | refine wkM_trans wkM_app ?_))⟩
          refine ⟨rfl, (by repeat (first | exact wkM_refl | exact wkM_nil | exact wkM_app | refine wkM_cons (by first | exact .inl rfl | exact .inr rfl) ?_ | refine wkM_trans wkM_app ?_)), fun hp0 s0 H0 Cc cl fp => ?_⟩
          refine we_norm (δ' := [_, _, _, _]) rfl ?_
          refine we_name 3 (q := ?_)
          exact ⟨_, rfl, (by repeat (first | exact wkM_refl | exact wkM_nil | exact wkM_app | refine wkM_cons (by first | exact .inl rfl | exact .inr rfl) ?_ | refine wkM_trans wkM_app ?_))⟩
        refine wa_nil ?_
        refine ⟨_, _, _, rfl, rfl, rfl, ?_⟩
        exact ⟨rfl, (by repeat (first | exact wkM_refl | exact wkM_nil | exact wkM_app | refine wkM_cons (by first | exact .inl rfl | exact .inr rfl) ?_ | refine wkM_trans wkM_app ?_))⟩
      refine we_name 1 (q := ?_)
      refine ⟨_, _, rfl, rfl, ?_⟩
      exact ⟨rfl, (by repeat (first | exact wkM_refl | exact wkM_nil | exact wkM_app | refine wkM_cons (by first | exact .inl rfl | exact .inr rfl) ?_ | refine wkM_trans wkM_app ?_))⟩
    refine ret0 ?_
    rw [List.length_map]
    exact hp
theorem has_surely_high {f : Addr} {fd : FuncData} (dd : Def K mg "surely_high" "surely_high" s_surely_high ["marks", "drop", "judge"] f fd) (T : Txt K mg)  : Has P w K mg base "surely_high" ["marks", "drop", "judge"] 1 pr_surely_high := by
  refine dd.has (fn_ok 0 dd.fn sc_surely_high (fun os ds post ex h => ?_) (fun cdv A outer s H E C os ds post ex hr tk hps h => ?_)) prV_mono
  · obtain ⟨a, rfl, rfl, _⟩ := h; exact ⟨rfl, rfl⟩
  · obtain ⟨⟨ns, c, j⟩, rfl, rfl, ⟨h1, h2, h3⟩, hp⟩ := h
    refine wss_one ?_
    refine ws_ret ?_
    apply we_ev
    · repeat (first | exact lk_nil | refine lk_none ?_ | refine lk_dat ?_ | refine lk_loc (by simp) ?_)
    · apply ev_in
      refine we_le ?_
      apply we_ev
      · repeat (first | exact lk_nil | refine lk_none ?_ | refine lk_dat ?_ | refine lk_loc (by simp) ?_)
      · apply ev_in
        refine we_len T.b_len ?_
        refine wa_cons ?_
        refine we_lcM (tgt_name 3) rfl sc_surely_high.nd (blkOk_by (own := [("mark", 3)]) (by first | rfl | decide +kernel)) (fun _ _ _ _ _ => pg_name (i := 3) sc_surely_high.nd rfl (Or.inl rfl)) (by decide) (by decide) ?_
        refine wi_seq ?_
        refine we_name 0 (q := ?_)
        first | refine ⟨_, _, .inl rfl, ?_⟩ | refine ⟨_, _, .inr rfl, ?_⟩
        refine ⟨Int, ns, D.int, (fun m => decide (nth ns j ≤ m)), D.int, ?_, ?_, fun x acc hx => ⟨_, rfl, fun s0 H0 Cc cl fp => ?_⟩, ?_⟩
        · exact rfl
        · exact (by omega)
        · refine wt_norm (δ' := [_, _, _, _]) rfl ?_
          apply wt_ev
          · repeat (first | exact lk_nil | refine lk_none ?_ | refine lk_dat ?_ | refine lk_loc (by simp) ?_)
          · apply et_in
            refine wt_ge ?_
            refine we_name 3 (q := ?_)
            refine we_ix ?_
            refine we_name 0 (q := ?_)
            refine we_name 2 (q := ?_)
            first | refine ⟨_, _, _, .inl rfl, rfl, (by first | rfl | exact atI_ints _ (by omega) (by omega)), ?_⟩ | refine ⟨_, _, _, .inr rfl, rfl, (by first | rfl | exact atI_ints _ (by omega) (by omega)), ?_⟩
            refine ⟨_, _, rfl, rfl, ?_⟩
            exact ⟨_, rfl, rfl, (by repeat (first | exact wkM_refl | exact wkM_nil | exact wkM_app | refine wkM_cons (by first | exact .inl rfl | exact .inr rfl) ?_ | refine wkM_trans wkM_app ?_))⟩
          refine ⟨rfl, (by repeat (first | exact wkM_refl | exact wkM_nil | exact wkM_app | refine wkM_cons (by first | exact .inl rfl | exact .inr rfl) ?_ | refine wkM_trans wkM_app ?_)), fun hp0 s0 H0 Cc cl fp => ?_⟩
          refine we_norm (δ' := [_, _, _, _]) rfl ?_
          refine we_name 3 (q := ?_)
          exact ⟨_, rfl, (by repeat (first | exact wkM_refl | exact wkM_nil | exact wkM_app | refine wkM_cons (by first | exact .inl rfl | exact .inr rfl) ?_ | refine wkM_trans wkM_app ?_))⟩
        refine wa_nil ?_
        refine ⟨_, _, _, rfl, rfl, rfl, ?_⟩
        exact ⟨rfl, (by repeat (first | exact wkM_refl | exact wkM_nil | exact wkM_app | refine wkM_cons (by first | exact .inl rfl | exact .inr rfl) ?_ | refine wkM_trans wkM_app ?_))⟩
      refine we_name 1 (q := ?_)
      refine ⟨_, _, rfl, rfl, ?_⟩
      exact ⟨rfl, (by repeat (first | exact wkM_refl | exact wkM_nil | exact wkM_app | refine wkM_cons (by first | exact .inl rfl | exact .inr rfl) ?_ | refine wkM_trans wkM_app ?_))⟩
    refine ret0 ?_
    rw [List.length_map]
    exact hp
theorem has_sure_dropped {f : Addr} {fd : FuncData} (dd : Def K mg "sure_dropped" "sure_dropped" s_sure_dropped ["marks", "drop"] f fd) (T : Txt K mg) (h_need_marks : Has P w K mg base "need_marks" ["marks", "drop"] 3 pr_need_marks) (h_surely_low : Has P w K mg base "surely_low" ["marks", "drop", "judge"] 1 pr_surely_low) (h_surely_high : Has P w K mg base "surely_high" ["marks", "drop", "judge"] 1 pr_surely_high) : Has P w K mg base "sure_dropped" ["marks", "drop"] 4 pr_sure_dropped := by
  refine dd.has (fn_ok 0 dd.fn sc_sure_dropped (fun os ds post ex h => ?_) (fun cdv A outer s H E C os ds post ex hr tk hps h => ?_)) prV_mono
  · obtain ⟨a, rfl, rfl, _⟩ := h; exact ⟨rfl, rfl⟩
  · obtain ⟨⟨ns, c⟩, rfl, rfl, ⟨hn, h1, h2⟩, hp⟩ := h
    have hl := hn.2.1
    refine wss_cons ?_
    refine ws_expr ?_
    apply we_ev
    · repeat (first | exact lk_nil | refine lk_none ?_ | refine lk_dat ?_ | refine lk_loc (by simp) ?_)
    · apply ev_in
      refine we_def h_need_marks (hr.mono (by omega)) takesF ?_
      refine wa_cons ?_
      refine we_name 0 (q := ?_)
      refine wa_cons ?_
      refine we_name 1 (q := ?_)
      refine wa_nil ?_
      refine .inl ⟨_, _, rfl, ?_⟩
      refine ⟨(ns, c), rfl, rfl, ⟨hn, h1, h2⟩, putR_dat ?_⟩ -- call need_marks(marks, drop)
      exact ⟨rfl, (by repeat (first | exact wkM_refl | exact wkM_nil | exact wkM_app | refine wkM_cons (by first | exact .inl rfl | exact .inr rfl) ?_ | refine wkM_trans wkM_app ?_))⟩
    refine wss_norm (δ' := [_, _, _, _]) (μ' := []) ?_ rfl rfl
    refine wss_cons ?_
    refine ws_set 2 sc_sure_dropped.nd rfl (by first | exact Or.inl rfl | exact Or.inr rfl) ?_
    refine we_lst ?_
    refine wa_nil ?_
    refine ⟨_, _, rfl, by simp [sizeLine_eq], ?_⟩
    refine wss_norm (δ' := [_, _, _, _]) (μ' := [_]) ?_ rfl rfl
    refine wss_cons ?_
    refine ws_for (tgt_name 3) (pg_name (i := 3) sc_sure_dropped.nd rfl (by first | exact Or.inl rfl | exact Or.inr rfl)) (fun i δ μ => δ = [some (.d (tI ns)), some (.d (.int c)), some (.loc 0), none] ∧ μ = [MO.lst (((((List.range i).map fun (j : Nat) => (j : Int)).filter fun j => sureLow ns c j || sureHigh ns c j)).map D.int)] ∧ i ≤ ns.length) (passes_of rfl) rfl ?_
    refine wi_range1 T.b_range ?_
    refine wa_cons ?_
    refine we_len T.b_len ?_
    refine wa_cons ?_
    refine we_name 0 (q := ?_)
    refine wa_nil ?_
    refine ⟨_, _, _, rfl, rfl, rfl, ?_⟩
    refine wa_nil ?_
    refine ⟨_, _, rfl, rfl, (by simp), (by simp; omega), ?_⟩
    refine ⟨Wk.in ⟨rfl, rfl, Nat.zero_le _⟩ (by repeat (first | exact wkM_refl | exact wkM_nil | exact wkM_app | refine wkM_cons (by first | exact .inl rfl | exact .inr rfl) ?_ | refine wkM_trans wkM_app ?_)) (by repeat (first | exact wkD_nil | refine wkD_cons (by first | exact .inl rfl | exact .inr rfl) ?_)) (by rw [hps]; simp) (by repeat (first | exact lk_nil | refine lk_none ?_ | refine lk_dat ?_ | refine lk_loc (by simp) ?_)), ?_, ?_⟩
    · rintro i y δ' μ' hy ⟨rfl, rfl, hI⟩
      obtain ⟨hi, rfl⟩ := rngD_get hy
      have hi : i < ns.length := by simpa using hi
      refine ⟨_, rfl, ?_⟩
      refine wss_norm (δ' := [_, _, _, _]) (μ' := [_]) ?_ rfl rfl
      refine wss_one ?_
      apply ws_ifE
      · repeat (first | exact lk_nil | refine lk_none ?_ | refine lk_dat ?_ | refine lk_loc (by simp) ?_)
      · apply et_ww
        apply ew_or
        · repeat (first | exact lk_nil | refine lk_none ?_ | refine lk_dat ?_ | refine lk_loc (by simp) ?_)
        · apply et_val
          · apply ev_in
            refine we_def h_surely_low (hr.mono (by omega)) takesF ?_
            refine wa_cons ?_
            refine we_name 0 (q := ?_)
            refine wa_cons ?_
            refine we_name 1 (q := ?_)
            refine wa_cons ?_
            refine we_name 3 (q := ?_)
            refine wa_nil ?_
            refine .inl ⟨_, _, rfl, ?_⟩
            refine ⟨(ns, c, ((0 : Int) + (i : Nat))), rfl, rfl, ⟨by omega, by omega, by omega⟩, putR_dat ?_⟩ -- call surely_low(marks, drop, judge)
            exact ⟨rfl, (by repeat (first | exact wkM_refl | exact wkM_nil | exact wkM_app | refine wkM_cons (by first | exact .inl rfl | exact .inr rfl) ?_ | refine wkM_trans wkM_app ?_))⟩
          · intro _; rfl
        · intro hc2
          apply ew_or1
          apply et_val
          · apply ev_in
            refine we_def h_surely_high (hr.mono (by omega)) takesF ?_
            refine wa_cons ?_
            refine we_name 0 (q := ?_)
            refine wa_cons ?_
            refine we_name 1 (q := ?_)
            refine wa_cons ?_
            refine we_name 3 (q := ?_)
            refine wa_nil ?_
            refine .inl ⟨_, _, rfl, ?_⟩
            refine ⟨(ns, c, ((0 : Int) + (i : Nat))), rfl, rfl, ⟨by omega, by omega, by omega⟩, putR_dat ?_⟩ -- call surely_high(marks, drop, judge)
            exact ⟨rfl, (by repeat (first | exact wkM_refl | exact wkM_nil | exact wkM_app | refine wkM_cons (by first | exact .inl rfl | exact .inr rfl) ?_ | refine wkM_trans wkM_app ?_))⟩
          · intro _; rfl
      · intro hc1
        refine wss_one ?_
        refine ws_expr ?_
        refine we_append ?_
        refine we_name 2 (q := ?_)
        refine ⟨⟨_, rfl⟩, ?_⟩
        refine wa_cons ?_
        refine we_name 3 (q := ?_)
        refine wa_nil ?_
        refine ⟨_, _, _, _, _, rfl, rfl, rfl, rfl, (filt_len _ _ _ i (by simp) (by omega)), ?_⟩
        first | rw [app_int] | skip
        refine Wk.in ⟨rfl, rfl, by omega⟩ (wkM_cons (.inr ?_) wkM_nil) (by repeat (first | exact wkD_nil | refine wkD_cons (by first | exact .inl rfl | exact .inr rfl) ?_)) (by rw [hps]; simp) (by repeat (first | exact lk_nil | refine lk_none ?_ | refine lk_dat ?_ | refine lk_loc (by simp) ?_))
        first | (rw [rngF_t _ _ hc1, List.map_append]; done) | (rw [rngF_t _ _ hc1, List.map_append]; rfl) | (rw [rngF_t _ _ hc1]; done) | (rw [rngF_t _ _ hc1]; rfl) | rw [rngF_f _ _ hc1]
      · intro hc1
        refine wss_nil ?_
        refine Wk.in ⟨rfl, rfl, by omega⟩ (wkM_cons (.inr ?_) wkM_nil) (by repeat (first | exact wkD_nil | refine wkD_cons (by first | exact .inl rfl | exact .inr rfl) ?_)) (by rw [hps]; simp) (by repeat (first | exact lk_nil | refine lk_none ?_ | refine lk_dat ?_ | refine lk_loc (by simp) ?_))
        first | (rw [rngF_t _ _ hc1, List.map_append]; done) | (rw [rngF_t _ _ hc1, List.map_append]; rfl) | (rw [rngF_t _ _ hc1]; done) | (rw [rngF_t _ _ hc1]; rfl) | rw [rngF_f _ _ hc1]
    · rintro δ' μ' ⟨rfl, rfl, hI⟩
      rw [rngD_len] at hI
      refine wss_one ?_
      refine ws_ret ?_
      refine we_name 2 (q := ?_)
      refine ret0l rfl ?_
      have e : (rngD 0 (((ns.map D.int).length : Nat) : Int).toNat).length = ns.length := by simp [rngD_len]
      rw [e]
      exact hp
theorem has_possibly_low {f : Addr} {fd : FuncData} (dd : Def K mg "possibly_low" "possibly_low" s_possibly_low ["marks", "drop", "judge"] f fd) (T : Txt K mg)  : Has P w K mg base "possibly_low" ["marks", "drop", "judge"] 1 pr_possibly_low := by
  refine dd.has (fn_ok 0 dd.fn sc_possibly_low (fun os ds post ex h => ?_) (fun cdv A outer s H E C os ds post ex hr tk hps h => ?_)) prV_mono
  · obtain ⟨a, rfl, rfl, _⟩ := h; exact ⟨rfl, rfl⟩
  · obtain ⟨⟨ns, c, j⟩, rfl, rfl, ⟨h1, h2, h3⟩, hp⟩ := h
    refine wss_one ?_
    refine ws_ret ?_
    apply we_ev
    · repeat (first | exact lk_nil | refine lk_none ?_ | refine lk_dat ?_ | refine lk_loc (by simp) ?_)
    · apply ev_in
      refine we_lt ?_
      apply we_ev
      · repeat (first | exact lk_nil | refine lk_none ?_ | refine lk_dat ?_ | refine lk_loc (by simp) ?_)
      · apply ev_in
        refine we_len T.b_len ?_
        refine wa_cons ?_
        refine we_lcM (tgt_name 3) rfl sc_possibly_low.nd (blkOk_by (own := [("mark", 3)]) (by first | rfl | decide +kernel)) (fun _ _ _ _ _ => pg_name (i := 3) sc_possibly_low.nd rfl (Or.inl rfl)) (by decide) (by decide) ?_
        refine wi_seq ?_
        refine we_name 0 (q := ?_)
        first | refine ⟨_, _, .inl rfl, ?_⟩ | refine ⟨_, _, .inr rfl, ?_⟩
        refine ⟨Int, ns, D.int, (fun m => decide (m < nth ns j)), D.int, ?_, ?_, fun x acc hx => ⟨_, rfl, fun s0 H0 Cc cl fp => ?_⟩, ?_⟩
        · exact rfl
        · exact (by omega)
        · refine wt_norm (δ' := [_, _, _, _]) rfl ?_
          apply wt_ev
          · repeat (first | exact lk_nil | refine lk_none ?_ | refine lk_dat ?_ | refine lk_loc (by simp) ?_)
          · apply et_in
            refine wt_lt ?_
            refine we_name 3 (q := ?_)
            refine we_ix ?_
            refine we_name 0 (q := ?_)
            refine we_name 2 (q := ?_)
            first | refine ⟨_, _, _, .inl rfl, rfl, (by first | rfl | exact atI_ints _ (by omega) (by omega)), ?_⟩ | refine ⟨_, _, _, .inr rfl, rfl, (by first | rfl | exact atI_ints _ (by omega) (by omega)), ?_⟩
            refine ⟨_, _, rfl, rfl, ?_⟩
            exact ⟨_, rfl, rfl, (by repeat (first | exact wkM_refl | exact wkM_nil | exact wkM_app | refine wkM_cons (by first | exact .inl rfl | exact .inr rfl) ?_ | refine wkM_trans wkM_app ?_))⟩
          refine ⟨rfl, (by repeat (first | exact wkM_refl | exact wkM_nil | exact wkM_app | refine wkM_cons (by first | exact .inl rfl | exact .inr rfl) ?_ | refine wkM_trans wkM_app ?_)), fun hp0 s0 H0 Cc cl fp => ?_⟩
          refine we_norm (δ' := [_, _, _, _]) rfl ?_
          refine we_name 3 (q := ?_)
          exact ⟨_, rfl, (by repeat (first | exact wkM_refl | exact wkM_nil | exact wkM_app | refine wkM_cons (by first | exact .inl rfl | exact .inr rfl) ?_ | refine wkM_trans wkM_app ?_))⟩
        refine wa_nil ?_
        refine ⟨_, _, _, rfl, rfl, rfl, ?_⟩
        exact ⟨rfl, (by repeat (first | exact wkM_refl | exact wkM_nil | exact wkM_app | refine wkM_cons (by first | exact .inl rfl | exact .inr rfl) ?_ | refine wkM_trans wkM_app ?_))⟩
      refine we_name 1 (q := ?_)
      refine ⟨_, _, rfl, rfl, ?_⟩
      exact ⟨rfl, (by repeat (first | exact wkM_refl | exact wkM_nil | exact wkM_app | refine wkM_cons (by first | exact .inl rfl | exact .inr rfl) ?_ | refine wkM_trans wkM_app ?_))⟩
    refine ret0 ?_
    rw [List.length_map]
    exact hp
theorem has_possibly_high {f : Addr} {fd : FuncData} (dd : Def K mg "possibly_high" "possibly_high" s_possibly_high ["marks", "drop", "judge"] f fd) (T : Txt K mg)  : Has P w K mg base "possibly_high" ["marks", "drop", "judge"] 1 pr_possibly_high := by
  refine dd.has (fn_ok 0 dd.fn sc_possibly_high (fun os ds post ex h => ?_) (fun cdv A outer s H E C os ds post ex hr tk hps h => ?_)) prV_mono
  · obtain ⟨a, rfl, rfl, _⟩ := h; exact ⟨rfl, rfl⟩
  · obtain ⟨⟨ns, c, j⟩, rfl, rfl, ⟨h1, h2, h3⟩, hp⟩ := h
    refine wss_one ?_
    refine ws_ret ?_
    apply we_ev
    · repeat (first | exact lk_nil | refine lk_none ?_ | refine lk_dat ?_ | refine lk_loc (by simp) ?_)
    · apply ev_in
      refine we_lt ?_
      apply we_ev
      · repeat (first | exact lk_nil | refine lk_none ?_ | refine lk_dat ?_ | refine lk_loc (by simp) ?_)
      · apply ev_in
        refine we_len T.b_len ?_
        refine wa_cons ?_
        refine we_lcM (tgt_name 3) rfl sc_possibly_high.nd (blkOk_by (own := [("mark", 3)]) (by first | rfl | decide +kernel)) (fun _ _ _ _ _ => pg_name (i := 3) sc_possibly_high.nd rfl (Or.inl rfl)) (by decide) (by decide) ?_
        refine wi_seq ?_
        refine we_name 0 (q := ?_)
        first | refine ⟨_, _, .inl rfl, ?_⟩ | refine ⟨_, _, .inr rfl, ?_⟩
        refine ⟨Int, ns, D.int, (fun m => decide (nth ns j < m)), D.int, ?_, ?_, fun x acc hx => ⟨_, rfl, fun s0 H0 Cc cl fp => ?_⟩, ?_⟩
        · exact rfl
        · exact (by omega)
        · refine wt_norm (δ' := [_, _, _, _]) rfl ?_
          apply wt_ev
          · repeat (first | exact lk_nil | refine lk_none ?_ | refine lk_dat ?_ | refine lk_loc (by simp) ?_)
          · apply et_in
            refine wt_gt ?_
            refine we_name 3 (q := ?_)
            refine we_ix ?_
            refine we_name 0 (q := ?_)
            refine we_name 2 (q := ?_)
            first | refine ⟨_, _, _, .inl rfl, rfl, (by first | rfl | exact atI_ints _ (by omega) (by omega)), ?_⟩ | refine ⟨_, _, _, .inr rfl, rfl, (by first | rfl | exact atI_ints _ (by omega) (by omega)), ?_⟩
            refine ⟨_, _, rfl, rfl, ?_⟩
            exact ⟨_, rfl, rfl, (by repeat (first | exact wkM_refl | exact wkM_nil | exact wkM_app | refine wkM_cons (by first | exact .inl rfl | exact .inr rfl) ?_ | refine wkM_trans wkM_app ?_))⟩
          refine ⟨rfl, (by repeat (first | exact wkM_refl | exact wkM_nil | exact wkM_app | refine wkM_cons (by first | exact .inl rfl | exact .inr rfl) ?_ | refine wkM_trans wkM_app ?_)), fun hp0 s0 H0 Cc cl fp => ?_⟩
          refine we_norm (δ' := [_, _, _, _]) rfl ?_
          refine we_name 3 (q := ?_)
          exact ⟨_, rfl, (by repeat (first | exact wkM_refl | exact wkM_nil | exact wkM_app | refine wkM_cons (by first | exact .inl rfl | exact .inr rfl) ?_ | refine wkM_trans wkM_app ?_))⟩
        refine wa_nil ?_
        refine ⟨_, _, _, rfl, rfl, rfl, ?_⟩
        exact ⟨rfl, (by repeat (first | exact wkM_refl | exact wkM_nil | exact wkM_app | refine wkM_cons (by first | exact .inl rfl | exact .inr rfl) ?_ | refine wkM_trans wkM_app ?_))⟩
      refine we_name 1 (q := ?_)
      refine ⟨_, _, rfl, rfl, ?_⟩
      exact ⟨rfl, (by repeat (first | exact wkM_refl | exact wkM_nil | exact wkM_app | refine wkM_cons (by first | exact .inl rfl | exact .inr rfl) ?_ | refine wkM_trans wkM_app ?_))⟩
    refine ret0 ?_
    rw [List.length_map]
    exact hp
theorem has_possible_dropped {f : Addr} {fd : FuncData} (dd : Def K mg "possible_dropped" "possible_dropped" s_possible_dropped ["marks", "drop"] f fd) (T : Txt K mg) (h_need_marks : Has P w K mg base "need_marks" ["marks", "drop"] 3 pr_need_marks) (h_possibly_low : Has P w K mg base "possibly_low" ["marks", "drop", "judge"] 1 pr_possibly_low) (h_possibly_high : Has P w K mg base "possibly_high" ["marks", "drop", "judge"] 1 pr_possibly_high) : Has P w K mg base "possible_dropped" ["marks", "drop"] 4 pr_possible_dropped := by
  refine dd.has (fn_ok 0 dd.fn sc_possible_dropped (fun os ds post ex h => ?_) (fun cdv A outer s H E C os ds post ex hr tk hps h => ?_)) prV_mono
  · obtain ⟨a, rfl, rfl, _⟩ := h; exact ⟨rfl, rfl⟩
  · obtain ⟨⟨ns, c⟩, rfl, rfl, ⟨hn, h1, h2⟩, hp⟩ := h
    have hl := hn.2.1
    refine wss_cons ?_
    refine ws_expr ?_
    apply we_ev
    · repeat (first | exact lk_nil | refine lk_none ?_ | refine lk_dat ?_ | refine lk_loc (by simp) ?_)
    · apply ev_in
      refine we_def h_need_marks (hr.mono (by omega)) takesF ?_
      refine wa_cons ?_
      refine we_name 0 (q := ?_)
      refine wa_cons ?_
      refine we_name 1 (q := ?_)
      refine wa_nil ?_
      refine .inl ⟨_, _, rfl, ?_⟩
      refine ⟨(ns, c), rfl, rfl, ⟨hn, h1, h2⟩, putR_dat ?_⟩ -- call need_marks(marks, drop)
      exact ⟨rfl, (by repeat (first | exact wkM_refl | exact wkM_nil | exact wkM_app | refine wkM_cons (by first | exact .inl rfl | exact .inr rfl) ?_ | refine wkM_trans wkM_app ?_))⟩
    refine wss_norm (δ' := [_, _, _, _]) (μ' := []) ?_ rfl rfl
    refine wss_cons ?_
    refine ws_set 2 sc_possible_dropped.nd rfl (by first | exact Or.inl rfl | exact Or.inr rfl) ?_
    refine we_lst ?_
    refine wa_nil ?_
    refine ⟨_, _, rfl, by simp [sizeLine_eq], ?_⟩
    refine wss_norm (δ' := [_, _, _, _]) (μ' := [_]) ?_ rfl rfl
    refine wss_cons ?_
    refine ws_for (tgt_name 3) (pg_name (i := 3) sc_possible_dropped.nd rfl (by first | exact Or.inl rfl | exact Or.inr rfl)) (fun i δ μ => δ = [some (.d (tI ns)), some (.d (.int c)), some (.loc 0), none] ∧ μ = [MO.lst (((((List.range i).map fun (j : Nat) => (j : Int)).filter fun j => possLow ns c j || possHigh ns c j)).map D.int)] ∧ i ≤ ns.length) (passes_of rfl) rfl ?_
    refine wi_range1 T.b_range ?_
    refine wa_cons ?_
    refine we_len T.b_len ?_
    refine wa_cons ?_
    refine we_name 0 (q := ?_)
    refine wa_nil ?_
    refine ⟨_, _, _, rfl, rfl, rfl, ?_⟩
    refine wa_nil ?_
    refine ⟨_, _, rfl, rfl, (by simp), (by simp; omega), ?_⟩
    refine ⟨Wk.in ⟨rfl, rfl, Nat.zero_le _⟩ (by repeat (first | exact wkM_refl | exact wkM_nil | exact wkM_app | refine wkM_cons (by first | exact .inl rfl | exact .inr rfl) ?_ | refine wkM_trans wkM_app ?_)) (by repeat (first | exact wkD_nil | refine wkD_cons (by first | exact .inl rfl | exact .inr rfl) ?_)) (by rw [hps]; simp) (by repeat (first | exact lk_nil | refine lk_none ?_ | refine lk_dat ?_ | refine lk_loc (by simp) ?_)), ?_, ?_⟩
    · rintro i y δ' μ' hy ⟨rfl, rfl, hI⟩
      obtain ⟨hi, rfl⟩ := rngD_get hy
      have hi : i < ns.length := by simpa using hi
      refine ⟨_, rfl, ?_⟩
      refine wss_norm (δ' := [_, _, _, _]) (μ' := [_]) ?_ rfl rfl
      refine wss_one ?_
      apply ws_ifE
      · repeat (first | exact lk_nil | refine lk_none ?_ | refine lk_dat ?_ | refine lk_loc (by simp) ?_)
      · apply et_ww
        apply ew_or
        · repeat (first | exact lk_nil | refine lk_none ?_ | refine lk_dat ?_ | refine lk_loc (by simp) ?_)
        · apply et_val
          · apply ev_in
            refine we_def h_possibly_low (hr.mono (by omega)) takesF ?_
            refine wa_cons ?_
            refine we_name 0 (q := ?_)
            refine wa_cons ?_
            refine we_name 1 (q := ?_)
            refine wa_cons ?_
            refine we_name 3 (q := ?_)
            refine wa_nil ?_
            refine .inl ⟨_, _, rfl, ?_⟩
            refine ⟨(ns, c, ((0 : Int) + (i : Nat))), rfl, rfl, ⟨by omega, by omega, by omega⟩, putR_dat ?_⟩ -- call possibly_low(marks, drop, judge)
            exact ⟨rfl, (by repeat (first | exact wkM_refl | exact wkM_nil | exact wkM_app | refine wkM_cons (by first | exact .inl rfl | exact .inr rfl) ?_ | refine wkM_trans wkM_app ?_))⟩
          · intro _; rfl
        · intro hc2
          apply ew_or1
          apply et_val
          · apply ev_in
            refine we_def h_possibly_high (hr.mono (by omega)) takesF ?_
            refine wa_cons ?_
            refine we_name 0 (q := ?_)
            refine wa_cons ?_
            refine we_name 1 (q := ?_)
            refine wa_cons ?_
            refine we_name 3 (q := ?_)
            refine wa_nil ?_
            refine .inl ⟨_, _, rfl, ?_⟩
            refine ⟨(ns, c, ((0 : Int) + (i : Nat))), rfl, rfl, ⟨by omega, by omega, by omega⟩, putR_dat ?_⟩ -- call possibly_high(marks, drop, judge)
            exact ⟨rfl, (by repeat (first | exact wkM_refl | exact wkM_nil | exact wkM_app | refine wkM_cons (by first | exact .inl rfl | exact .inr rfl) ?_ | refine wkM_trans wkM_app ?_))⟩
          · intro _; rfl
      · intro hc1
        refine wss_one ?_
        refine ws_expr ?_
        refine we_append ?_
        refine we_name 2 (q := ?_)
        refine ⟨⟨_, rfl⟩, ?_⟩
        refine wa_cons ?_
        refine we_name 3 (q := ?_)
        refine wa_nil ?_
        refine ⟨_, _, _, _, _, rfl, rfl, rfl, rfl, (filt_len _ _ _ i (by simp) (by omega)), ?_⟩
        first | rw [app_int] | skip
        refine Wk.in ⟨rfl, rfl, by omega⟩ (wkM_cons (.inr ?_) wkM_nil) (by repeat (first | exact wkD_nil | refine wkD_cons (by first | exact .inl rfl | exact .inr rfl) ?_)) (by rw [hps]; simp) (by repeat (first | exact lk_nil | refine lk_none ?_ | refine lk_dat ?_ | refine lk_loc (by simp) ?_))
        first | (rw [rngF_t _ _ hc1, List.map_append]; done) | (rw [rngF_t _ _ hc1, List.map_append]; rfl) | (rw [rngF_t _ _ hc1]; done) | (rw [rngF_t _ _ hc1]; rfl) | rw [rngF_f _ _ hc1]
      · intro hc1
        refine wss_nil ?_
        refine Wk.in ⟨rfl, rfl, by omega⟩ (wkM_cons (.inr ?_) wkM_nil) (by repeat (first | exact wkD_nil | refine wkD_cons (by first | exact .inl rfl | exact .inr rfl) ?_)) (by rw [hps]; simp) (by repeat (first | exact lk_nil | refine lk_none ?_ | refine lk_dat ?_ | refine lk_loc (by simp) ?_))
        first | (rw [rngF_t _ _ hc1, List.map_append]; done) | (rw [rngF_t _ _ hc1, List.map_append]; rfl) | (rw [rngF_t _ _ hc1]; done) | (rw [rngF_t _ _ hc1]; rfl) | rw [rngF_f _ _ hc1]
    · rintro δ' μ' ⟨rfl, rfl, hI⟩
      rw [rngD_len] at hI
      refine wss_one ?_
      refine ws_ret ?_
      refine we_name 2 (q := ?_)
      refine ret0l rfl ?_
      have e : (rngD 0 (((ns.map D.int).length : Nat) : Int).toNat).length = ns.length := by simp [rngD_len]
      rw [e]
      exact hp
theorem has_bounds {f : Addr} {fd : FuncData} (dd : Def K mg "bounds" "bounds" s_bounds ["marks", "drop", "judge"] f fd) (T : Txt K mg) (h_need_marks : Has P w K mg base "need_marks" ["marks", "drop"] 3 pr_need_marks) (h_need_judge : Has P w K mg base "need_judge" ["marks", "judge"] 2 pr_need_judge) (h_cuts : Has P w K mg base "cuts" ["marks", "drop", "judge"] 1 pr_cuts) : Has P w K mg base "bounds" ["marks", "drop", "judge"] 4 pr_bounds := by
  refine dd.has (fn_ok 0 dd.fn sc_bounds (fun os ds post ex h => ?_) (fun cdv A outer s H E C os ds post ex hr tk hps h => ?_)) prV_mono
  · obtain ⟨a, rfl, rfl, _⟩ := h; exact ⟨rfl, rfl⟩
  · obtain ⟨⟨ns, c, j⟩, rfl, rfl, ⟨hn, ⟨h1, h2⟩, h3, h4⟩, hp⟩ := h
    refine wss_cons ?_
    refine ws_expr ?_
    apply we_ev
    · repeat (first | exact lk_nil | refine lk_none ?_ | refine lk_dat ?_ | refine lk_loc (by simp) ?_)
    · apply ev_in
      refine we_def h_need_marks (hr.mono (by omega)) takesF ?_
      refine wa_cons ?_
      refine we_name 0 (q := ?_)
      refine wa_cons ?_
      refine we_name 1 (q := ?_)
      refine wa_nil ?_
      refine .inl ⟨_, _, rfl, ?_⟩
      refine ⟨(ns, c), rfl, rfl, ⟨hn, h1, h2⟩, putR_dat ?_⟩ -- call need_marks(marks, drop)
      exact ⟨rfl, (by repeat (first | exact wkM_refl | exact wkM_nil | exact wkM_app | refine wkM_cons (by first | exact .inl rfl | exact .inr rfl) ?_ | refine wkM_trans wkM_app ?_))⟩
    refine wss_norm (δ' := [_, _, _]) (μ' := []) ?_ rfl rfl
    refine wss_cons ?_
    refine ws_expr ?_
    apply we_ev
    · repeat (first | exact lk_nil | refine lk_none ?_ | refine lk_dat ?_ | refine lk_loc (by simp) ?_)
    · apply ev_in
      refine we_def h_need_judge (hr.mono (by omega)) takesF ?_
      refine wa_cons ?_
      refine we_name 0 (q := ?_)
      refine wa_cons ?_
      refine we_name 2 (q := ?_)
      refine wa_nil ?_
      refine .inl ⟨_, _, rfl, ?_⟩
      refine ⟨(ns, j), rfl, rfl, ⟨h3, h4⟩, putR_dat ?_⟩ -- call need_judge(marks, judge)
      exact ⟨rfl, (by repeat (first | exact wkM_refl | exact wkM_nil | exact wkM_app | refine wkM_cons (by first | exact .inl rfl | exact .inr rfl) ?_ | refine wkM_trans wkM_app ?_))⟩
    refine wss_norm (δ' := [_, _, _]) (μ' := []) ?_ rfl rfl
    refine wss_one ?_
    refine ws_ret ?_
    apply we_ev
    · repeat (first | exact lk_nil | refine lk_none ?_ | refine lk_dat ?_ | refine lk_loc (by simp) ?_)
    · apply ev_in
      refine we_def h_cuts (hr.mono (by omega)) takesF ?_
      refine wa_cons ?_
      refine we_name 0 (q := ?_)
      refine wa_cons ?_
      refine we_name 1 (q := ?_)
      refine wa_cons ?_
      refine we_name 2 (q := ?_)
      refine wa_nil ?_
      refine .inl ⟨_, _, rfl, ?_⟩
      refine ⟨(ns, c, j), rfl, rfl, ⟨by have := hn.2.1; omega, ⟨h1, h2⟩, h3, h4⟩, putR_dat ?_⟩ -- call cuts(marks, drop, judge)
      exact ⟨rfl, (by repeat (first | exact wkM_refl | exact wkM_nil | exact wkM_app | refine wkM_cons (by first | exact .inl rfl | exact .inr rfl) ?_ | refine wkM_trans wkM_app ?_))⟩
    refine ret0 ?_
    exact hp
theorem has_reach {f : Addr} {fd : FuncData} (dd : Def K mg "reach" "reach" s_reach ["marks", "drop", "judge"] f fd) (T : Txt K mg) (h_need_marks : Has P w K mg base "need_marks" ["marks", "drop"] 3 pr_need_marks) (h_need_judge : Has P w K mg base "need_judge" ["marks", "judge"] 2 pr_need_judge) (h_total : Has P w K mg base "total" ["marks", "drop"] 1 pr_total) (h_replaced : Has P w K mg base "replaced" ["marks", "judge", "mark"] 1 pr_replaced) : Has P w K mg base "reach" ["marks", "drop", "judge"] 4 pr_reach := by
  refine dd.has (fn_ok 0 dd.fn sc_reach (fun os ds post ex h => ?_) (fun cdv A outer s H E C os ds post ex hr tk hps h => ?_)) prV_mono
  · obtain ⟨a, rfl, rfl, _⟩ := h; exact ⟨rfl, rfl⟩
  · obtain ⟨⟨ns, c, j⟩, rfl, rfl, ⟨hn, ⟨h1, h2⟩, h3, h4⟩, hp⟩ := h
    have hl := hn.2.1
    refine wss_cons ?_
    refine ws_expr ?_
    apply we_ev
    · repeat (first | exact lk_nil | refine lk_none ?_ | refine lk_dat ?_ | refine lk_loc (by simp) ?_)
    · apply ev_in
      refine we_def h_need_marks (hr.mono (by omega)) takesF ?_
      refine wa_cons ?_
      refine we_name 0 (q := ?_)
      refine wa_cons ?_
      refine we_name 1 (q := ?_)
      refine wa_nil ?_
      refine .inl ⟨_, _, rfl, ?_⟩
      refine ⟨(_, _), rfl, rfl, ⟨by assumption, by omega, by omega⟩, putR_dat ?_⟩ -- call need_marks(marks, drop)
      exact ⟨rfl, (by repeat (first | exact wkM_refl | exact wkM_nil | exact wkM_app | refine wkM_cons (by first | exact .inl rfl | exact .inr rfl) ?_ | refine wkM_trans wkM_app ?_))⟩
    refine wss_norm (δ' := [_, _, _]) (μ' := []) ?_ rfl rfl
    refine wss_cons ?_
    refine ws_expr ?_
    apply we_ev
    · repeat (first | exact lk_nil | refine lk_none ?_ | refine lk_dat ?_ | refine lk_loc (by simp) ?_)
    · apply ev_in
      refine we_def h_need_judge (hr.mono (by omega)) takesF ?_
      refine wa_cons ?_
      refine we_name 0 (q := ?_)
      refine wa_cons ?_
      refine we_name 2 (q := ?_)
      refine wa_nil ?_
      refine .inl ⟨_, _, rfl, ?_⟩
      refine ⟨(_, _), rfl, rfl, ⟨by omega, by omega⟩, putR_dat ?_⟩ -- call need_judge(marks, judge)
      exact ⟨rfl, (by repeat (first | exact wkM_refl | exact wkM_nil | exact wkM_app | refine wkM_cons (by first | exact .inl rfl | exact .inr rfl) ?_ | refine wkM_trans wkM_app ?_))⟩
    refine wss_norm (δ' := [_, _, _]) (μ' := []) ?_ rfl rfl
    refine wss_one ?_
    refine ws_ret ?_
    apply we_ev
    · repeat (first | exact lk_nil | refine lk_none ?_ | refine lk_dat ?_ | refine lk_loc (by simp) ?_)
    · apply ev_in
      refine we_tup ?_
      refine wa_cons ?_
      apply we_ev
      · repeat (first | exact lk_nil | refine lk_none ?_ | refine lk_dat ?_ | refine lk_loc (by simp) ?_)
      · apply ev_in
        refine we_def h_total (hr.mono (by omega)) takesF ?_
        refine wa_cons ?_
        apply we_ev
        · repeat (first | exact lk_nil | refine lk_none ?_ | refine lk_dat ?_ | refine lk_loc (by simp) ?_)
        · apply ev_in
          refine we_def h_replaced (hr.mono (by omega)) takesF ?_
          refine wa_cons ?_
          refine we_name 0 (q := ?_)
          refine wa_cons ?_
          refine we_name 2 (q := ?_)
          refine wa_cons ?_
          refine we_int ?_
          refine wa_nil ?_
          refine .inl ⟨_, _, rfl, ?_⟩
          refine ⟨(_, _, _), rfl, rfl, ⟨by omega, ⟨by omega, by omega⟩⟩, putR_dat ?_⟩ -- call replaced(marks, judge, 0)
          exact ⟨rfl, (by repeat (first | exact wkM_refl | exact wkM_nil | exact wkM_app | refine wkM_cons (by first | exact .inl rfl | exact .inr rfl) ?_ | refine wkM_trans wkM_app ?_))⟩
        refine wa_cons ?_
        refine we_name 1 (q := ?_)
        refine wa_nil ?_
        refine .inl ⟨_, _, rfl, ?_⟩
        refine ⟨(_, _, _), rfl, rfl, ⟨by first | exact .inr rfl | exact .inl rfl, by omega, by first | omega | (rw [repl_len _ _ (by omega)]; omega), by first | omega | (rw [repl_len _ _ (by omega)]; omega)⟩, putR_dat ?_⟩ -- call total(replaced(marks, judge, 0), drop)
        exact ⟨rfl, (by repeat (first | exact wkM_refl | exact wkM_nil | exact wkM_app | refine wkM_cons (by first | exact .inl rfl | exact .inr rfl) ?_ | refine wkM_trans wkM_app ?_))⟩
      refine wa_cons ?_
      apply we_ev
      · repeat (first | exact lk_nil | refine lk_none ?_ | refine lk_dat ?_ | refine lk_loc (by simp) ?_)
      · apply ev_in
        refine we_def h_total (hr.mono (by omega)) takesF ?_
        refine wa_cons ?_
        apply we_ev
        · repeat (first | exact lk_nil | refine lk_none ?_ | refine lk_dat ?_ | refine lk_loc (by simp) ?_)
        · apply ev_in
          refine we_def h_replaced (hr.mono (by omega)) takesF ?_
          refine wa_cons ?_
          refine we_name 0 (q := ?_)
          refine wa_cons ?_
          refine we_name 2 (q := ?_)
          refine wa_cons ?_
          refine we_gintE T.c_LARGEST ?_
          refine wa_nil ?_
          refine .inl ⟨_, _, rfl, ?_⟩
          refine ⟨(_, _, _), rfl, rfl, ⟨by omega, ⟨by omega, by omega⟩⟩, putR_dat ?_⟩ -- call replaced(marks, judge, LARGEST)
          exact ⟨rfl, (by repeat (first | exact wkM_refl | exact wkM_nil | exact wkM_app | refine wkM_cons (by first | exact .inl rfl | exact .inr rfl) ?_ | refine wkM_trans wkM_app ?_))⟩
        refine wa_cons ?_
        refine we_name 1 (q := ?_)
        refine wa_nil ?_
        refine .inl ⟨_, _, rfl, ?_⟩
        refine ⟨(_, _, _), rfl, rfl, ⟨by first | exact .inr rfl | exact .inl rfl, by omega, by first | omega | (rw [repl_len _ _ (by omega)]; omega), by first | omega | (rw [repl_len _ _ (by omega)]; omega)⟩, putR_dat ?_⟩ -- call total(replaced(marks, judge, LARGEST), drop)
        exact ⟨rfl, (by repeat (first | exact wkM_refl | exact wkM_nil | exact wkM_app | refine wkM_cons (by first | exact .inl rfl | exact .inr rfl) ?_ | refine wkM_trans wkM_app ?_))⟩
      refine wa_nil ?_
      refine ⟨_, _, rfl, by simp [sizeLine_eq], ?_⟩
      exact ⟨rfl, (by repeat (first | exact wkM_refl | exact wkM_nil | exact wkM_app | refine wkM_cons (by first | exact .inl rfl | exact .inr rfl) ?_ | refine wkM_trans wkM_app ?_))⟩
    refine ret0 ?_
    exact hp
theorem has_with_mark {f : Addr} {fd : FuncData} (dd : Def K mg "with_mark" "with_mark" s_with_mark ["marks", "drop", "judge", "mark"] f fd) (T : Txt K mg) (h_need_marks : Has P w K mg base "need_marks" ["marks", "drop"] 3 pr_need_marks) (h_need_judge : Has P w K mg base "need_judge" ["marks", "judge"] 2 pr_need_judge) (h_total : Has P w K mg base "total" ["marks", "drop"] 1 pr_total) (h_is_from : Has P w K mg base "is_from" ["value", "low", "high"] 1 pr_is_from) (h_replaced : Has P w K mg base "replaced" ["marks", "judge", "mark"] 1 pr_replaced) : Has P w K mg base "with_mark" ["marks", "drop", "judge", "mark"] 4 pr_with_mark := by
  refine dd.has (fn_ok 0 dd.fn sc_with_mark (fun os ds post ex h => ?_) (fun cdv A outer s H E C os ds post ex hr tk hps h => ?_)) prV_mono
  · obtain ⟨a, rfl, rfl, _⟩ := h; exact ⟨rfl, rfl⟩
  · obtain ⟨⟨ns, c, j, m⟩, rfl, rfl, ⟨hn, ⟨h1, h2⟩, ⟨h3, h4⟩, h5, h6⟩, hp⟩ := h
    have hl := hn.2.1
    refine wss_cons ?_
    refine ws_expr ?_
    apply we_ev
    · repeat (first | exact lk_nil | refine lk_none ?_ | refine lk_dat ?_ | refine lk_loc (by simp) ?_)
    · apply ev_in
      refine we_def h_need_marks (hr.mono (by omega)) takesF ?_
      refine wa_cons ?_
      refine we_name 0 (q := ?_)
      refine wa_cons ?_
      refine we_name 1 (q := ?_)
      refine wa_nil ?_
      refine .inl ⟨_, _, rfl, ?_⟩
      refine ⟨(_, _), rfl, rfl, ⟨by assumption, by omega, by omega⟩, putR_dat ?_⟩ -- call need_marks(marks, drop)
      exact ⟨rfl, (by repeat (first | exact wkM_refl | exact wkM_nil | exact wkM_app | refine wkM_cons (by first | exact .inl rfl | exact .inr rfl) ?_ | refine wkM_trans wkM_app ?_))⟩
    refine wss_norm (δ' := [_, _, _, _]) (μ' := []) ?_ rfl rfl
    refine wss_cons ?_
    refine ws_expr ?_
    apply we_ev
    · repeat (first | exact lk_nil | refine lk_none ?_ | refine lk_dat ?_ | refine lk_loc (by simp) ?_)
    · apply ev_in
      refine we_def h_need_judge (hr.mono (by omega)) takesF ?_
      refine wa_cons ?_
      refine we_name 0 (q := ?_)
      refine wa_cons ?_
      refine we_name 2 (q := ?_)
      refine wa_nil ?_
      refine .inl ⟨_, _, rfl, ?_⟩
      refine ⟨(_, _), rfl, rfl, ⟨by omega, by omega⟩, putR_dat ?_⟩ -- call need_judge(marks, judge)
      exact ⟨rfl, (by repeat (first | exact wkM_refl | exact wkM_nil | exact wkM_app | refine wkM_cons (by first | exact .inl rfl | exact .inr rfl) ?_ | refine wkM_trans wkM_app ?_))⟩
    refine wss_norm (δ' := [_, _, _, _]) (μ' := []) ?_ rfl rfl
    refine wss_cons ?_
    apply ws_ifE
    · repeat (first | exact lk_nil | refine lk_none ?_ | refine lk_dat ?_ | refine lk_loc (by simp) ?_)
    · apply et_not
      apply et_val
      · apply ev_in
        refine we_def h_is_from (hr.mono (by omega)) takesF ?_
        refine wa_cons ?_
        refine we_name 3 (q := ?_)
        refine wa_cons ?_
        refine we_int ?_
        refine wa_cons ?_
        refine we_gintE T.c_LARGEST ?_
        refine wa_nil ?_
        refine .inl ⟨_, _, rfl, ?_⟩
        refine ⟨(.int m, 0, 1000), rfl, rfl, okD_int, putR_dat ?_⟩ -- call is_from(mark, 0, LARGEST)
        exact ⟨rfl, (by repeat (first | exact wkM_refl | exact wkM_nil | exact wkM_app | refine wkM_cons (by first | exact .inl rfl | exact .inr rfl) ?_ | refine wkM_trans wkM_app ?_))⟩
      · intro _; rfl
    · intro hc1
      refine wss_one ?_
      exact ws_never (by simp [isFromD] at hc1; omega)
    · intro hc1
      refine wss_nil ?_
      refine wss_one ?_
      refine ws_ret ?_
      apply we_ev
      · repeat (first | exact lk_nil | refine lk_none ?_ | refine lk_dat ?_ | refine lk_loc (by simp) ?_)
      · apply ev_in
        refine we_def h_total (hr.mono (by omega)) takesF ?_
        refine wa_cons ?_
        apply we_ev
        · repeat (first | exact lk_nil | refine lk_none ?_ | refine lk_dat ?_ | refine lk_loc (by simp) ?_)
        · apply ev_in
          refine we_def h_replaced (hr.mono (by omega)) takesF ?_
          refine wa_cons ?_
          refine we_name 0 (q := ?_)
          refine wa_cons ?_
          refine we_name 2 (q := ?_)
          refine wa_cons ?_
          refine we_name 3 (q := ?_)
          refine wa_nil ?_
          refine .inl ⟨_, _, rfl, ?_⟩
          refine ⟨(_, _, _), rfl, rfl, ⟨by omega, ⟨by omega, by omega⟩⟩, putR_dat ?_⟩ -- call replaced(marks, judge, mark)
          exact ⟨rfl, (by repeat (first | exact wkM_refl | exact wkM_nil | exact wkM_app | refine wkM_cons (by first | exact .inl rfl | exact .inr rfl) ?_ | refine wkM_trans wkM_app ?_))⟩
        refine wa_cons ?_
        refine we_name 1 (q := ?_)
        refine wa_nil ?_
        refine .inl ⟨_, _, rfl, ?_⟩
        refine ⟨(_, repl ns j.toNat m, c), rfl, rfl, ⟨.inr rfl, h1, by rw [repl_len ns m (by omega)]; exact h2, by rw [repl_len ns m (by omega)]; omega⟩, putR_dat ?_⟩ -- call total(replaced(marks, judge, mark), drop)
        exact ⟨rfl, (by repeat (first | exact wkM_refl | exact wkM_nil | exact wkM_app | refine wkM_cons (by first | exact .inl rfl | exact .inr rfl) ?_ | refine wkM_trans wkM_app ?_))⟩
      refine ret0 ?_
      exact hp
theorem has_need_result {f : Addr} {fd : FuncData} (dd : Def K mg "need_result" "need_result" s_need_result ["wished"] f fd) (T : Txt K mg) (h_is_from : Has P w K mg base "is_from" ["value", "low", "high"] 1 pr_is_from) : Has P w K mg base "need_result" ["wished"] 2 pr_need_result := by
  refine dd.has (fn_ok 0 dd.fn sc_need_result (fun os ds post ex h => ?_) (fun cdv A outer s H E C os ds post ex hr tk hps h => ?_)) prV_mono
  · obtain ⟨a, rfl, rfl, _⟩ := h; exact ⟨rfl, rfl⟩
  · obtain ⟨w, rfl, rfl, ⟨h1, h2⟩, hp⟩ := h
    refine wss_one ?_
    apply ws_ifE
    · repeat (first | exact lk_nil | refine lk_none ?_ | refine lk_dat ?_ | refine lk_loc (by simp) ?_)
    · apply et_not
      apply et_val
      · apply ev_in
        refine we_def h_is_from (hr.mono (by omega)) takesF ?_
        refine wa_cons ?_
        refine we_name 0 (q := ?_)
        refine wa_cons ?_
        refine we_int ?_
        refine wa_cons ?_
        refine we_mul ?_
        refine we_gintE T.c_MOST_JUDGES ?_
        refine we_gintE T.c_LARGEST ?_
        refine .inl ⟨_, _, rfl, rfl, (by first | exact .inl ⟨by omega, by omega⟩ | exact .inr ⟨by omega, by omega⟩), ?_⟩
        refine wa_nil ?_
        refine .inl ⟨_, _, rfl, ?_⟩
        refine ⟨(.int w, 0, 12000), rfl, rfl, okD_int, putR_dat ?_⟩ -- call is_from(wished, 0, MOST_JUDGES * LARGEST)
        exact ⟨rfl, (by repeat (first | exact wkM_refl | exact wkM_nil | exact wkM_app | refine wkM_cons (by first | exact .inl rfl | exact .inr rfl) ?_ | refine wkM_trans wkM_app ?_))⟩
      · intro _; rfl
    · intro hc1
      refine wss_one ?_
      exact ws_never (by simp [isFromD] at hc1; omega)
    · intro hc1
      refine wss_nil ?_
      refine ret0 ?_
      exact hp
theorem has_fewest_raisers {f : Addr} {fd : FuncData} (dd : Def K mg "fewest_raisers" "fewest_raisers" s_fewest_raisers ["marks", "drop", "wished"] f fd) (T : Txt K mg) (h_need_marks : Has P w K mg base "need_marks" ["marks", "drop"] 3 pr_need_marks) (h_need_result : Has P w K mg base "need_result" ["wished"] 2 pr_need_result) (h_total : Has P w K mg base "total" ["marks", "drop"] 1 pr_total) : Has P w K mg base "fewest_raisers" ["marks", "drop", "wished"] 4 pr_fewest_raisers := by
  refine dd.has (fn_ok 0 dd.fn sc_fewest_raisers (fun os ds post ex h => ?_) (fun cdv A outer s H E C os ds post ex hr tk hps h => ?_)) prV_mono
  · obtain ⟨a, rfl, rfl, _⟩ := h; exact ⟨rfl, rfl⟩
  · obtain ⟨⟨ns, c, w⟩, rfl, rfl, ⟨hn, ⟨h1, h2⟩, h3, h4⟩, hp⟩ := h
    have hl := hn.2.1
    refine wss_cons ?_
    refine ws_expr ?_
    apply we_ev
    · repeat (first | exact lk_nil | refine lk_none ?_ | refine lk_dat ?_ | refine lk_loc (by simp) ?_)
    · apply ev_in
      refine we_def h_need_marks (hr.mono (by omega)) takesF ?_
      refine wa_cons ?_
      refine we_name 0 (q := ?_)
      refine wa_cons ?_
      refine we_name 1 (q := ?_)
      refine wa_nil ?_
      refine .inl ⟨_, _, rfl, ?_⟩
      refine ⟨(_, _), rfl, rfl, ⟨by assumption, by omega, by omega⟩, putR_dat ?_⟩ -- call need_marks(marks, drop)
      exact ⟨rfl, (by repeat (first | exact wkM_refl | exact wkM_nil | exact wkM_app | refine wkM_cons (by first | exact .inl rfl | exact .inr rfl) ?_ | refine wkM_trans wkM_app ?_))⟩
    refine wss_norm (δ' := [_, _, _, _, _]) (μ' := []) ?_ rfl rfl
    refine wss_cons ?_
    refine ws_expr ?_
    apply we_ev
    · repeat (first | exact lk_nil | refine lk_none ?_ | refine lk_dat ?_ | refine lk_loc (by simp) ?_)
    · apply ev_in
      refine we_def h_need_result (hr.mono (by omega)) takesF ?_
      refine wa_cons ?_
      refine we_name 2 (q := ?_)
      refine wa_nil ?_
      refine .inl ⟨_, _, rfl, ?_⟩
      refine ⟨_, rfl, rfl, ⟨by omega, by omega⟩, putR_dat ?_⟩ -- call need_result(wished)
      exact ⟨rfl, (by repeat (first | exact wkM_refl | exact wkM_nil | exact wkM_app | refine wkM_cons (by first | exact .inl rfl | exact .inr rfl) ?_ | refine wkM_trans wkM_app ?_))⟩
    refine wss_norm (δ' := [_, _, _, _, _]) (μ' := []) ?_ rfl rfl
    refine wss_cons ?_
    refine ws_set 3 sc_fewest_raisers.nd rfl (by first | exact Or.inl rfl | exact Or.inr rfl) ?_
    refine we_sorted T.b_sorted ?_
    refine wa_cons ?_
    refine we_name 0 (q := ?_)
    refine wa_nil ?_
    first | refine ⟨_, _, rfl, .inl rfl, ?_⟩ | refine ⟨_, _, rfl, .inr rfl, ?_⟩
    refine wss_norm (δ' := [_, _, _, _, _]) (μ' := [_]) ?_ rfl rfl
    refine wss_cons ?_
    refine ws_for (tgt_name 4) (pg_name (i := 4) sc_fewest_raisers.nd rfl (by first | exact Or.inl rfl | exact Or.inr rfl)) (fun i δ μ => δ = [some (.d (tI ns)), some (.d (.int (c))), some (.d (.int (w))), some (.loc 0), none] ∧ μ = [MO.lst ((srt ns).map D.int)] ∧ i ≤ ns.length + 1 ∧ ∀ k < i, fewT ns c.toNat w k = false) (passes_of rfl) rfl ?_
    refine wi_range1 T.b_range ?_
    refine wa_cons ?_
    refine we_add ?_
    refine we_len T.b_len ?_
    refine wa_cons ?_
    refine we_name 0 (q := ?_)
    refine wa_nil ?_
    refine ⟨_, _, _, rfl, rfl, rfl, ?_⟩
    refine we_int ?_
    first | refine .inl ⟨_, _, rfl, rfl, ?_⟩ | refine .inr (.inr (.inl ⟨_, _, rfl, rfl, (by rw [sizeLine_eq]; simp; try omega), ?_⟩)) | refine .inr (.inl ⟨_, _, rfl, rfl, (by rw [sizeLine_eq]; simp; try omega), ?_⟩)
    refine wa_nil ?_
    refine ⟨_, _, rfl, rfl, (by rw [List.length_map]; omega), (by rw [List.length_map]; omega), ?_⟩
    refine ⟨Wk.in ⟨rfl, rfl, ⟨Nat.zero_le _, fun k hk => absurd hk (Nat.not_lt_zero _)⟩⟩ (by repeat (first | exact wkM_refl | exact wkM_nil | exact wkM_app | refine wkM_cons (by first | exact .inl rfl | exact .inr rfl) ?_ | refine wkM_trans wkM_app ?_)) (by repeat (first | exact wkD_nil | refine wkD_cons (by first | exact .inl rfl | exact .inr rfl) ?_)) (by rw [hps]; simp) (by repeat (first | exact lk_nil | refine lk_none ?_ | refine lk_dat ?_ | refine lk_loc (by simp) ?_)), ?_, ?_⟩
    · rintro i y δ' μ' hy ⟨rfl, rfl, ⟨g1, g2⟩⟩
      obtain ⟨hi, rfl⟩ := rngD_get0 hy
      rw [List.length_map] at hi
      refine ⟨_, rfl, ?_⟩
      refine wss_norm (δ' := [_, _, _, _, _]) (μ' := [_]) ?_ rfl rfl
      refine wss_one ?_
      apply ws_ifE
      · repeat (first | exact lk_nil | refine lk_none ?_ | refine lk_dat ?_ | refine lk_loc (by simp) ?_)
      · apply et_in
        refine wt_ge ?_
        apply we_ev
        · repeat (first | exact lk_nil | refine lk_none ?_ | refine lk_dat ?_ | refine lk_loc (by simp) ?_)
        · apply ev_in
          refine we_def h_total (hr.mono (by omega)) takesF ?_
          refine wa_cons ?_
          refine we_add ?_
          refine we_slice ?_
          refine we_name 3 (q := ?_)
          refine wo_some ?_
          refine we_name 4 (q := ?_)
          refine ⟨_, rfl, ?_⟩
          refine wo_none ?_
          first | refine .inl ⟨_, rfl, ?_⟩ | refine .inr ⟨_, rfl, ?_⟩
          refine we_mul ?_
          refine we_lst ?_
          refine wa_cons ?_
          refine we_gintE T.c_LARGEST ?_
          refine wa_nil ?_
          refine ⟨_, _, rfl, by simp [sizeLine_eq], ?_⟩
          refine we_name 4 (q := ?_)
          refine .inr (.inl ⟨_, _, _, rfl, rfl, rfl, (by omega), (by omega), (by rw [sizeLine_eq]; simp; try omega), ?_⟩)
          refine .inr (.inr (.inr ⟨_, _, rfl, rfl, (few_cat ns (by omega) hl), ?_⟩))
          refine wa_cons ?_
          refine we_name 1 (q := ?_)
          refine wa_nil ?_
          refine .inl ⟨_, _, rfl, ?_⟩
          refine ⟨(_, (srt ns).drop i ++ List.replicate i 1000, c), rfl, (by rw [few_ds]), ⟨.inl rfl, h1, by rw [few_len ns (by omega)]; omega, by rw [few_len ns (by omega)]; omega⟩, putR_dat ?_⟩ -- call total(rising[many:] + [LARGEST] * many, drop)
          exact ⟨rfl, (by repeat (first | exact wkM_refl | exact wkM_nil | exact wkM_app | refine wkM_cons (by first | exact .inl rfl | exact .inr rfl) ?_ | refine wkM_trans wkM_app ?_))⟩
        refine we_name 2 (q := ?_)
        refine ⟨_, _, rfl, rfl, ?_⟩
        exact ⟨_, rfl, rfl, (by repeat (first | exact wkM_refl | exact wkM_nil | exact wkM_app | refine wkM_cons (by first | exact .inl rfl | exact .inr rfl) ?_ | refine wkM_trans wkM_app ?_))⟩
      · intro hc1
        have hb := hc1
        refine wss_one ?_
        refine ws_ret ?_
        refine we_name 4 (q := ?_)
        refine ret0 ?_
        exact Eq.mp (congrArg (fun d => post (.dat d) []) (congrArg oD (few_some hi g2 hb))) hp
      · intro hc1
        have hb := hc1
        refine wss_nil ?_
        exact Wk.in ⟨rfl, rfl, by omega, few_lt g2 hb⟩ (by repeat (first | exact wkM_refl | exact wkM_nil | exact wkM_app | refine wkM_cons (by first | exact .inl rfl | exact .inr rfl) ?_ | refine wkM_trans wkM_app ?_)) (by repeat (first | exact wkD_nil | refine wkD_cons (by first | exact .inl rfl | exact .inr rfl) ?_)) (by rw [hps]; simp) (by repeat (first | exact lk_nil | refine lk_none ?_ | refine lk_dat ?_ | refine lk_loc (by simp) ?_))
    · rintro δ' μ' ⟨rfl, rfl, ⟨g1, g2⟩⟩
      rw [rngD_len, List.length_map] at g1 g2
      refine wss_one ?_
      refine ws_ret ?_
      refine we_non ?_
      refine ret0 ?_
      exact Eq.mp (congrArg (fun d => post (.dat d) []) (congrArg oD (few_none g2))) hp
theorem has_filled {f : Addr} {fd : FuncData} (dd : Def K mg "filled" "filled" s_filled ["seen", "mark"] f fd) (T : Txt K mg)  : Has P w K mg base "filled" ["seen", "mark"] 1 pr_filled := by
  refine dd.has (fn_ok 0 dd.fn sc_filled (fun os ds post ex h => ?_) (fun cdv A outer s H E C os ds post ex hr tk hps h => ?_)) prV_mono
  · obtain ⟨a, rfl, rfl, _⟩ := h; exact ⟨rfl, rfl⟩
  · obtain ⟨⟨s, m⟩, rfl, rfl, hl, hp⟩ := h
    refine wss_one ?_
    refine ws_ret ?_
    apply we_ev
    · repeat (first | exact lk_nil | refine lk_none ?_ | refine lk_dat ?_ | refine lk_loc (by simp) ?_)
    · apply ev_in
      refine we_tuple T.b_tuple ?_
      refine wa_cons ?_
      refine we_lc0 (tgt_name 2) rfl sc_filled.nd (blkOk_by (own := [("one", 2)]) (by first | rfl | decide +kernel)) (fun _ _ _ _ _ => pg_name (i := 2) sc_filled.nd rfl (Or.inl rfl)) (by decide) ?_
      refine wi_seq ?_
      refine we_name 0 (q := ?_)
      first | refine ⟨_, _, .inl rfl, ?_⟩ | refine ⟨_, _, .inr rfl, ?_⟩
      refine ⟨(Option Int), s, oD, fun o => D.int (o.getD m), ?_, ?_, fun x acc hx => ⟨_, rfl, fun s0 H0 Cc cl fp => ?_⟩, ?_⟩
      · exact rfl
      · exact (by omega)
      · refine we_norm (δ' := [_, _, _]) rfl ?_
        apply we_ev
        · repeat (first | exact lk_nil | refine lk_none ?_ | refine lk_dat ?_ | refine lk_loc (by simp) ?_)
        · apply ev_if
          · repeat (first | exact lk_nil | refine lk_none ?_ | refine lk_dat ?_ | refine lk_loc (by simp) ?_)
          · apply et_in
            refine wt_is ?_
            refine we_name 2 (q := ?_)
            refine we_non ?_
            first | refine .inl ⟨_, rfl, rfl, (noRaw_oD _), ?_⟩ | refine .inr ⟨_, _, rfl, rfl, ?_⟩
            exact ⟨_, rfl, rfl, (by repeat (first | exact wkM_refl | exact wkM_nil | exact wkM_app | refine wkM_cons (by first | exact .inl rfl | exact .inr rfl) ?_ | refine wkM_trans wkM_app ?_))⟩
          · intro hc1
            apply ev_in
            refine we_name 1 (q := ?_)
            exact ⟨rfl, (by repeat (first | exact wkM_refl | exact wkM_nil | exact wkM_app | refine wkM_cons (by first | exact .inl rfl | exact .inr rfl) ?_ | refine wkM_trans wkM_app ?_))⟩
          · intro hc1
            apply ev_in
            refine we_name 2 (q := ?_)
            exact ⟨rfl, (by repeat (first | exact wkM_refl | exact wkM_nil | exact wkM_app | refine wkM_cons (by first | exact .inl rfl | exact .inr rfl) ?_ | refine wkM_trans wkM_app ?_))⟩
        exact ⟨_, (by rw [fill_if]; rfl), (by repeat (first | exact wkM_refl | exact wkM_nil | exact wkM_app | refine wkM_cons (by first | exact .inl rfl | exact .inr rfl) ?_ | refine wkM_trans wkM_app ?_))⟩
      refine wa_nil ?_
      first | refine ⟨_, _, rfl, .inl rfl, ?_⟩ | refine ⟨_, _, rfl, .inr rfl, ?_⟩
      exact ⟨rfl, (by repeat (first | exact wkM_refl | exact wkM_nil | exact wkM_app | refine wkM_cons (by first | exact .inl rfl | exact .inr rfl) ?_ | refine wkM_trans wkM_app ?_))⟩
    refine ret0 ?_
    simpa only [tI, fillO, List.map_map, Function.comp_def] using hp
theorem has_ends {f : Addr} {fd : FuncData} (dd : Def K mg "ends" "ends" s_ends ["seen", "drop"] f fd) (T : Txt K mg) (h_total : Has P w K mg base "total" ["marks", "drop"] 1 pr_total) (h_filled : Has P w K mg base "filled" ["seen", "mark"] 1 pr_filled) : Has P w K mg base "ends" ["seen", "drop"] 2 pr_ends := by
  refine dd.has (fn_ok 0 dd.fn sc_ends (fun os ds post ex h => ?_) (fun cdv A outer s H E C os ds post ex hr tk hps h => ?_)) prV_mono
  · obtain ⟨a, rfl, rfl, _⟩ := h; exact ⟨rfl, rfl⟩
  · obtain ⟨⟨s, c⟩, rfl, rfl, ⟨hl, h1, h2⟩, hp⟩ := h
    have hl0 := fillO_len s 0
    have hl1 := fillO_len s 1000
    refine wss_one ?_
    refine ws_ret ?_
    apply we_ev
    · repeat (first | exact lk_nil | refine lk_none ?_ | refine lk_dat ?_ | refine lk_loc (by simp) ?_)
    · apply ev_in
      refine we_tup ?_
      refine wa_cons ?_
      apply we_ev
      · repeat (first | exact lk_nil | refine lk_none ?_ | refine lk_dat ?_ | refine lk_loc (by simp) ?_)
      · apply ev_in
        refine we_def h_total (hr.mono (by omega)) takesF ?_
        refine wa_cons ?_
        apply we_ev
        · repeat (first | exact lk_nil | refine lk_none ?_ | refine lk_dat ?_ | refine lk_loc (by simp) ?_)
        · apply ev_in
          refine we_def h_filled (hr.mono (by omega)) takesF ?_
          refine wa_cons ?_
          refine we_name 0 (q := ?_)
          refine wa_cons ?_
          refine we_int ?_
          refine wa_nil ?_
          refine .inl ⟨_, _, rfl, ?_⟩
          refine ⟨(_, _), rfl, rfl, (by omega), putR_dat ?_⟩ -- call filled(seen, 0)
          exact ⟨rfl, (by repeat (first | exact wkM_refl | exact wkM_nil | exact wkM_app | refine wkM_cons (by first | exact .inl rfl | exact .inr rfl) ?_ | refine wkM_trans wkM_app ?_))⟩
        refine wa_cons ?_
        refine we_name 1 (q := ?_)
        refine wa_nil ?_
        refine .inl ⟨_, _, rfl, ?_⟩
        refine ⟨(_, _, _), rfl, rfl, ⟨by first | exact .inr rfl | exact .inl rfl, by omega, by first | omega | (rw [repl_len _ _ (by omega)]; omega), by first | omega | (rw [repl_len _ _ (by omega)]; omega)⟩, putR_dat ?_⟩ -- call total(filled(seen, 0), drop)
        exact ⟨rfl, (by repeat (first | exact wkM_refl | exact wkM_nil | exact wkM_app | refine wkM_cons (by first | exact .inl rfl | exact .inr rfl) ?_ | refine wkM_trans wkM_app ?_))⟩
      refine wa_cons ?_
      apply we_ev
      · repeat (first | exact lk_nil | refine lk_none ?_ | refine lk_dat ?_ | refine lk_loc (by simp) ?_)
      · apply ev_in
        refine we_def h_total (hr.mono (by omega)) takesF ?_
        refine wa_cons ?_
        apply we_ev
        · repeat (first | exact lk_nil | refine lk_none ?_ | refine lk_dat ?_ | refine lk_loc (by simp) ?_)
        · apply ev_in
          refine we_def h_filled (hr.mono (by omega)) takesF ?_
          refine wa_cons ?_
          refine we_name 0 (q := ?_)
          refine wa_cons ?_
          refine we_gintE T.c_LARGEST ?_
          refine wa_nil ?_
          refine .inl ⟨_, _, rfl, ?_⟩
          refine ⟨(_, _), rfl, rfl, (by omega), putR_dat ?_⟩ -- call filled(seen, LARGEST)
          exact ⟨rfl, (by repeat (first | exact wkM_refl | exact wkM_nil | exact wkM_app | refine wkM_cons (by first | exact .inl rfl | exact .inr rfl) ?_ | refine wkM_trans wkM_app ?_))⟩
        refine wa_cons ?_
        refine we_name 1 (q := ?_)
        refine wa_nil ?_
        refine .inl ⟨_, _, rfl, ?_⟩
        refine ⟨(_, _, _), rfl, rfl, ⟨by first | exact .inr rfl | exact .inl rfl, by omega, by first | omega | (rw [repl_len _ _ (by omega)]; omega), by first | omega | (rw [repl_len _ _ (by omega)]; omega)⟩, putR_dat ?_⟩ -- call total(filled(seen, LARGEST), drop)
        exact ⟨rfl, (by repeat (first | exact wkM_refl | exact wkM_nil | exact wkM_app | refine wkM_cons (by first | exact .inl rfl | exact .inr rfl) ?_ | refine wkM_trans wkM_app ?_))⟩
      refine wa_nil ?_
      refine ⟨_, _, rfl, by simp [sizeLine_eq], ?_⟩
      exact ⟨rfl, (by repeat (first | exact wkM_refl | exact wkM_nil | exact wkM_app | refine wkM_cons (by first | exact .inl rfl | exact .inr rfl) ?_ | refine wkM_trans wkM_app ?_))⟩
    refine ret0 ?_
    exact hp
theorem has_narrowing {f : Addr} {fd : FuncData} (dd : Def K mg "narrowing" "narrowing" s_narrowing ["marks", "drop"] f fd) (T : Txt K mg) (h_need_marks : Has P w K mg base "need_marks" ["marks", "drop"] 3 pr_need_marks) (h_ends : Has P w K mg base "ends" ["seen", "drop"] 2 pr_ends) : HasG P w K mg base "narrowing" ["marks", "drop"] 4 pr_narrowing := by
  refine dd.hasG (gfn_ok dd.fn sc_narrowing (fun ds post h => ?_) (fun cdv A outer s H E pn C ds post hr hps h => ?_)) (fun ds p q hpq h => ?_)
  · obtain ⟨ns, c, rfl, _⟩ := h; rfl
  · obtain ⟨ns, c, rfl, hn, ⟨h1, h2⟩, hp⟩ := h
    have hl := hn.2.1
    have hlm : (ns.map D.int).length = ns.length := List.length_map ..
    refine gwss_cons (gws_ws ?_)
    refine ws_expr ?_
    apply we_ev
    · repeat (first | exact lk_nil | refine lk_none ?_ | refine lk_dat ?_ | refine lk_loc (by simp) ?_)
    · apply ev_in
      refine we_def h_need_marks (hr.mono (by omega)) takesF ?_
      refine wa_cons ?_
      refine we_name 0 (q := ?_)
      refine wa_cons ?_
      refine we_name 1 (q := ?_)
      refine wa_nil ?_
      refine .inl ⟨_, _, rfl, ?_⟩
      refine ⟨(_, _), rfl, rfl, ⟨by assumption, by omega, by omega⟩, putR_dat ?_⟩
      exact ⟨rfl, (by repeat (first | exact wkM_refl | exact wkM_nil | exact wkM_app | refine wkM_cons (by first | exact .inl rfl | exact .inr rfl) ?_ | refine wkM_trans wkM_app ?_))⟩
    show GWSs _ _ _ _ _ _ _
    refine gwss_norm (δ' := [_, _, _]) (μ' := []) ?_ rfl rfl
    refine gwss_one (gws_for (tgt_name 2) (pg_name (i := 2) sc_narrowing.nd rfl (by first | exact Or.inl rfl | exact Or.inr rfl)) (fun i ds δ μ => ds = ((List.range i).map fun k => dPair (endsD (part ns k) c.toNat)) ∧ (∃ o, δ = [some (.d (tI ns)), some (.d (.int c)), o]) ∧ μ = []) (L2.owns_gcx) rfl ?_)
    refine wi_range1 T.b_range ?_
    refine wa_cons ?_
    refine we_add ?_
    refine we_len T.b_len ?_
    refine wa_cons ?_
    refine we_name 0 (q := ?_)
    refine wa_nil ?_
    refine ⟨_, _, _, rfl, rfl, rfl, ?_⟩
    refine we_int ?_
    refine .inl ⟨_, _, rfl, rfl, ?_⟩
    refine wa_nil ?_
    refine ⟨_, _, rfl, rfl, by omega, by omega, ?_⟩
    refine ⟨⟨rfl, ⟨_, rfl⟩, rfl⟩, ?_, ?_⟩
    · rintro i y ds1 δ1 μ2 hy ⟨rfl, ⟨o, rfl⟩, rfl⟩
      obtain ⟨hi, rfl⟩ := rngD_get0 hy
      have hi2 : i ≤ ns.length := by omega
      refine ⟨_, rfl, ?_⟩
      refine gwss_norm (δ' := [_, _, _]) (μ' := []) ?_ rfl rfl
      refine gwss_one (gws_yield (by rw [List.length_map, List.length_range, sizeLine_eq]; omega) ?_)
      refine we_def h_ends (hr.mono (by omega)) takesF ?_
      refine wa_cons ?_
      refine we_add ?_
      refine we_slice ?_
      refine we_name 0 (q := ?_)
      refine wo_none ?_
      refine wo_some ?_
      refine we_name 2 (q := ?_)
      refine ⟨_, rfl, ?_⟩
      first | refine .inl ⟨_, rfl, ?_⟩ | refine .inr ⟨_, rfl, ?_⟩
      refine we_mul ?_
      refine we_tup ?_
      refine wa_cons ?_
      refine we_non ?_
      refine wa_nil ?_
      refine ⟨_, _, rfl, by simp [sizeLine_eq], ?_⟩
      refine we_sub ?_
      refine we_len T.b_len ?_
      refine wa_cons ?_
      refine we_name 0 (q := ?_)
      refine wa_nil ?_
      refine ⟨_, _, _, rfl, rfl, rfl, ?_⟩
      refine we_name 2 (q := ?_)
      refine ⟨_, _, rfl, rfl, ?_⟩
      refine .inr (.inr ⟨_, _, rfl, rfl, by omega, by omega, by simp, ?_⟩)
      refine .inr (.inr (.inl ⟨_, _, rfl, rfl, (sure_cat ns i hl), ?_⟩))
      refine wa_cons ?_
      refine we_name 1 (q := ?_)
      refine wa_nil ?_
      refine .inl ⟨_, _, rfl, ?_⟩
      refine ⟨(part ns i, c), rfl, (by rw [sure_ds ns hi2]), ⟨by rw [part_len ns hi2]; omega, by omega, by rw [part_len ns hi2]; omega⟩, putR_dat ?_⟩
      refine ⟨_, _, rfl, ?_⟩
      exact ⟨by rw [List.range_succ, List.map_append]; rfl, ⟨_, rfl⟩, rfl⟩
    · rintro ds1 δ1 μ2 ⟨rfl, -, rfl⟩
      rw [rngD_len, show ((((ns.map D.int).length : Nat) : Int) + 1).toNat = ns.length + 1 from by omega]
      simpa only [narD, List.map_map, Function.comp_def] using hp
  · obtain ⟨ns, c, h1, h2, h3, h4⟩ := h
    exact ⟨ns, c, h1, h2, h3, hpq _ h4⟩

theorem has_law_six_right {f : Addr} {fd : FuncData} (dd : Def K mg "_law_six_right" "_law_six_right" s_law_six_right ["f"] f fd) (T : Txt K mg) (h_mark_range : Has P w K mg base "mark_range" ["marks", "drop", "judge", "wished"] 4 pr_mark_range) (h_all_results : Has P w K mg base "all_results" ["marks"] 3 pr_all_results) (h_sure_dropped : Has P w K mg base "sure_dropped" ["marks", "drop"] 4 pr_sure_dropped) (h_possible_dropped : Has P w K mg base "possible_dropped" ["marks", "drop"] 4 pr_possible_dropped) (h_bounds : Has P w K mg base "bounds" ["marks", "drop", "judge"] 4 pr_bounds) (h_reach : Has P w K mg base "reach" ["marks", "drop", "judge"] 4 pr_reach) (h_with_mark : Has P w K mg base "with_mark" ["marks", "drop", "judge", "mark"] 4 pr_with_mark) (h_fewest_raisers : Has P w K mg base "fewest_raisers" ["marks", "drop", "wished"] 4 pr_fewest_raisers) (h_slack : Has P w K mg base "slack" ["judges", "results"] 3 pr_slack) (h_narrowing : HasG P w K mg base "narrowing" ["marks", "drop"] 4 pr_narrowing) (h_row_at : Has P w K mg base "row_at" ["judges", "results", "place"] 4 pr_row_at) : Has P w K mg base "_law_six_right" ["f"] 12 pr_law_six_right := by
  refine dd.has (fn_ok 0 dd.fn sc_law_six_right (fun os ds post ex h => ?_) (fun cdv A outer s H E C os ds post ex hr tk hps h => ?_)) prV_mono
  · obtain ⟨a, rfl, rfl, _⟩ := h; exact ⟨rfl, rfl⟩
  · obtain ⟨f, rfl, rfl, ⟨h1, h2⟩, hp⟩ := h
    have hM : (M6 f).length = 6 := rfl
    have hP := pan_M6 h1 h2
    have hR := ress_T3 h1 h2
    obtain ⟨⟨e1, e2, e3, e4⟩, ⟨e5, e6⟩, ⟨e7, e8, e9, e10⟩, ⟨e11, e12, e13⟩, ⟨e14, e15, e16⟩, ⟨e17, e18, e19, e20, e21⟩, e22⟩ := six_F h1 h2
    refine wss_cons ?_
    refine ws_set 1 sc_law_six_right.nd rfl (by first | exact Or.inl rfl | exact Or.inr rfl) ?_
    refine we_tup ?_
    refine wa_cons ?_
    refine we_mul ?_
    refine we_int ?_
    refine we_name 0 (q := ?_)
    refine .inl ⟨_, _, rfl, rfl, (by first | exact .inl ⟨by omega, by omega⟩ | exact .inr ⟨by omega, by omega⟩), ?_⟩
    refine wa_cons ?_
    refine we_mul ?_
    refine we_int ?_
    refine we_name 0 (q := ?_)
    refine .inl ⟨_, _, rfl, rfl, (by first | exact .inl ⟨by omega, by omega⟩ | exact .inr ⟨by omega, by omega⟩), ?_⟩
    refine wa_cons ?_
    refine we_mul ?_
    refine we_int ?_
    refine we_name 0 (q := ?_)
    refine .inl ⟨_, _, rfl, rfl, (by first | exact .inl ⟨by omega, by omega⟩ | exact .inr ⟨by omega, by omega⟩), ?_⟩
    refine wa_cons ?_
    refine we_mul ?_
    refine we_int ?_
    refine we_name 0 (q := ?_)
    refine .inl ⟨_, _, rfl, rfl, (by first | exact .inl ⟨by omega, by omega⟩ | exact .inr ⟨by omega, by omega⟩), ?_⟩
    refine wa_cons ?_
    refine we_mul ?_
    refine we_int ?_
    refine we_name 0 (q := ?_)
    refine .inl ⟨_, _, rfl, rfl, (by first | exact .inl ⟨by omega, by omega⟩ | exact .inr ⟨by omega, by omega⟩), ?_⟩
    refine wa_cons ?_
    refine we_mul ?_
    refine we_int ?_
    refine we_name 0 (q := ?_)
    refine .inl ⟨_, _, rfl, rfl, (by first | exact .inl ⟨by omega, by omega⟩ | exact .inr ⟨by omega, by omega⟩), ?_⟩
    refine wa_nil ?_
    refine ⟨_, _, rfl, by simp [sizeLine_eq], ?_⟩
    refine wss_norm (δ' := [some (.d (.int (f))), some (.d (tI (M6 f))), none]) (μ' := []) ?_ rfl rfl
    refine wss_cons ?_
    apply ws_ifE
    · repeat (first | exact lk_nil | refine lk_none ?_ | refine lk_dat ?_ | refine lk_loc (by simp) ?_)
    · apply et_ww
      apply ew_or
      · repeat (first | exact lk_nil | refine lk_none ?_ | refine lk_dat ?_ | refine lk_loc (by simp) ?_)
      · apply et_in
        refine wt_ne hr.units ?_
        refine we_def h_all_results (hr.mono (by omega)) takesF ?_
        refine wa_cons ?_
        refine we_name 1 (q := ?_)
        refine wa_nil ?_
        refine .inl ⟨_, _, rfl, ?_⟩
        refine ⟨_, rfl, rfl, (by assumption), putR_new ?_⟩ -- call all_results(some)
        refine we_lst ?_
        refine wa_cons ?_
        refine we_mul ?_
        refine we_int ?_
        refine we_name 0 (q := ?_)
        refine .inl ⟨_, _, rfl, rfl, (by first | exact .inl ⟨by omega, by omega⟩ | exact .inr ⟨by omega, by omega⟩), ?_⟩
        refine wa_cons ?_
        refine we_mul ?_
        refine we_int ?_
        refine we_name 0 (q := ?_)
        refine .inl ⟨_, _, rfl, rfl, (by first | exact .inl ⟨by omega, by omega⟩ | exact .inr ⟨by omega, by omega⟩), ?_⟩
        refine wa_cons ?_
        refine we_mul ?_
        refine we_int ?_
        refine we_name 0 (q := ?_)
        refine .inl ⟨_, _, rfl, rfl, (by first | exact .inl ⟨by omega, by omega⟩ | exact .inr ⟨by omega, by omega⟩), ?_⟩
        refine wa_nil ?_
        refine ⟨_, _, rfl, by simp [sizeLine_eq], ?_⟩
        refine ⟨_, _, rfl, rfl, (by with_reducible repeat (first | exact fit_int | exact fit_bl | exact fit_non | exact fit_nil | exact fit_all_int _ | refine fit_lst ?_ | refine fit_tup ?_ | refine fit_cons ?_ ?_ | exact fit_str (by decide))), (by with_reducible repeat (first | exact fit_int | exact fit_bl | exact fit_non | exact fit_nil | exact fit_all_int _ | refine fit_lst ?_ | refine fit_tup ?_ | refine fit_cons ?_ ?_ | exact fit_str (by decide))), ?_⟩
        exact ⟨_, rfl, rfl, (by repeat (first | exact wkM_refl | exact wkM_nil | exact wkM_app | refine wkM_cons (by first | exact .inl rfl | exact .inr rfl) ?_ | refine wkM_trans wkM_app ?_))⟩
      · intro hc2
        apply ew_or1
        apply et_in
        refine wt_ne hr.units ?_
        refine we_def h_sure_dropped (hr.mono (by omega)) takesF ?_
        refine wa_cons ?_
        refine we_name 1 (q := ?_)
        refine wa_cons ?_
        refine we_int ?_
        refine wa_nil ?_
        refine .inl ⟨_, _, rfl, ?_⟩
        refine ⟨(_, _), rfl, rfl, ⟨by assumption, by omega, by omega⟩, putR_new ?_⟩ -- call sure_dropped(some, 1)
        refine we_lst ?_
        refine wa_cons ?_
        refine we_int ?_
        refine wa_cons ?_
        refine we_int ?_
        refine wa_nil ?_
        refine ⟨_, _, rfl, by simp [sizeLine_eq], ?_⟩
        refine ⟨_, _, rfl, rfl, (by with_reducible repeat (first | exact fit_int | exact fit_bl | exact fit_non | exact fit_nil | exact fit_all_int _ | refine fit_lst ?_ | refine fit_tup ?_ | refine fit_cons ?_ ?_ | exact fit_str (by decide))), (by with_reducible repeat (first | exact fit_int | exact fit_bl | exact fit_non | exact fit_nil | exact fit_all_int _ | refine fit_lst ?_ | refine fit_tup ?_ | refine fit_cons ?_ ?_ | exact fit_str (by decide))), ?_⟩
        exact ⟨_, rfl, rfl, (by repeat (first | exact wkM_refl | exact wkM_nil | exact wkM_app | refine wkM_cons (by first | exact .inl rfl | exact .inr rfl) ?_ | refine wkM_trans wkM_app ?_))⟩
    · intro hc1
      exact nope hc1 (orF (neF (n := 4) (congrArg (fun l => D.lst (l.map D.int)) e1) (by with_reducible repeat (first | exact fit_int | exact fit_bl | exact fit_non | exact fit_nil | exact fit_all_int _ | refine fit_lst ?_ | refine fit_tup ?_ | refine fit_cons ?_ ?_))) (neF (n := 4) (congrArg (fun l => D.lst (l.map D.int)) e2) (by with_reducible repeat (first | exact fit_int | exact fit_bl | exact fit_non | exact fit_nil | exact fit_all_int _ | refine fit_lst ?_ | refine fit_tup ?_ | refine fit_cons ?_ ?_))))
    · intro hc1
      refine wss_nil ?_
      refine wss_cons ?_
      apply ws_ifE
      · repeat (first | exact lk_nil | refine lk_none ?_ | refine lk_dat ?_ | refine lk_loc (by simp) ?_)
      · apply et_ww
        apply ew_or
        · repeat (first | exact lk_nil | refine lk_none ?_ | refine lk_dat ?_ | refine lk_loc (by simp) ?_)
        · apply et_in
          refine wt_ne hr.units ?_
          refine we_def h_sure_dropped (hr.mono (by omega)) takesF ?_
          refine wa_cons ?_
          refine we_name 1 (q := ?_)
          refine wa_cons ?_
          refine we_int ?_
          refine wa_nil ?_
          refine .inl ⟨_, _, rfl, ?_⟩
          refine ⟨(_, _), rfl, rfl, ⟨by assumption, by omega, by omega⟩, putR_new ?_⟩ -- call sure_dropped(some, 2)
          refine we_lst ?_
          refine wa_cons ?_
          refine we_int ?_
          refine wa_cons ?_
          refine we_int ?_
          refine wa_cons ?_
          refine we_int ?_
          refine wa_nil ?_
          refine ⟨_, _, rfl, by simp [sizeLine_eq], ?_⟩
          refine ⟨_, _, rfl, rfl, (by with_reducible repeat (first | exact fit_int | exact fit_bl | exact fit_non | exact fit_nil | exact fit_all_int _ | refine fit_lst ?_ | refine fit_tup ?_ | refine fit_cons ?_ ?_ | exact fit_str (by decide))), (by with_reducible repeat (first | exact fit_int | exact fit_bl | exact fit_non | exact fit_nil | exact fit_all_int _ | refine fit_lst ?_ | refine fit_tup ?_ | refine fit_cons ?_ ?_ | exact fit_str (by decide))), ?_⟩
          exact ⟨_, rfl, rfl, (by repeat (first | exact wkM_refl | exact wkM_nil | exact wkM_app | refine wkM_cons (by first | exact .inl rfl | exact .inr rfl) ?_ | refine wkM_trans wkM_app ?_))⟩
        · intro hc4
          apply ew_or1
          apply et_in
          refine wt_ne hr.units ?_
          refine we_def h_possible_dropped (hr.mono (by omega)) takesF ?_
          refine wa_cons ?_
          refine we_name 1 (q := ?_)
          refine wa_cons ?_
          refine we_int ?_
          refine wa_nil ?_
          refine .inl ⟨_, _, rfl, ?_⟩
          refine ⟨(_, _), rfl, rfl, ⟨by assumption, by omega, by omega⟩, putR_new ?_⟩ -- call possible_dropped(some, 2)
          refine we_lst ?_
          refine wa_cons ?_
          refine we_int ?_
          refine wa_cons ?_
          refine we_int ?_
          refine wa_cons ?_
          refine we_int ?_
          refine wa_cons ?_
          refine we_int ?_
          refine wa_cons ?_
          refine we_int ?_
          refine wa_nil ?_
          refine ⟨_, _, rfl, by simp [sizeLine_eq], ?_⟩
          refine ⟨_, _, rfl, rfl, (by with_reducible repeat (first | exact fit_int | exact fit_bl | exact fit_non | exact fit_nil | exact fit_all_int _ | refine fit_lst ?_ | refine fit_tup ?_ | refine fit_cons ?_ ?_ | exact fit_str (by decide))), (by with_reducible repeat (first | exact fit_int | exact fit_bl | exact fit_non | exact fit_nil | exact fit_all_int _ | refine fit_lst ?_ | refine fit_tup ?_ | refine fit_cons ?_ ?_ | exact fit_str (by decide))), ?_⟩
          exact ⟨_, rfl, rfl, (by repeat (first | exact wkM_refl | exact wkM_nil | exact wkM_app | refine wkM_cons (by first | exact .inl rfl | exact .inr rfl) ?_ | refine wkM_trans wkM_app ?_))⟩
      · intro hc3
        exact nope hc3 (orF (neF (n := 4) (congrArg (fun l => D.lst (l.map D.int)) e3) (by with_reducible repeat (first | exact fit_int | exact fit_bl | exact fit_non | exact fit_nil | exact fit_all_int _ | refine fit_lst ?_ | refine fit_tup ?_ | refine fit_cons ?_ ?_))) (neF (n := 4) (congrArg (fun l => D.lst (l.map D.int)) e4) (by with_reducible repeat (first | exact fit_int | exact fit_bl | exact fit_non | exact fit_nil | exact fit_all_int _ | refine fit_lst ?_ | refine fit_tup ?_ | refine fit_cons ?_ ?_))))
      · intro hc3
        refine wss_nil ?_
        refine wss_cons ?_
        apply ws_ifE
        · repeat (first | exact lk_nil | refine lk_none ?_ | refine lk_dat ?_ | refine lk_loc (by simp) ?_)
        · apply et_ww
          apply ew_or
          · repeat (first | exact lk_nil | refine lk_none ?_ | refine lk_dat ?_ | refine lk_loc (by simp) ?_)
          · apply et_in
            refine wt_ne hr.units ?_
            apply we_ev
            · repeat (first | exact lk_nil | refine lk_none ?_ | refine lk_dat ?_ | refine lk_loc (by simp) ?_)
            · apply ev_in
              refine we_def h_bounds (hr.mono (by omega)) takesF ?_
              refine wa_cons ?_
              refine we_name 1 (q := ?_)
              refine wa_cons ?_
              refine we_int ?_
              refine wa_cons ?_
              refine we_int ?_
              refine wa_nil ?_
              refine .inl ⟨_, _, rfl, ?_⟩
              refine ⟨(_, _, _), rfl, rfl, ⟨by assumption, ⟨by omega, by omega⟩, ⟨by omega, by omega⟩⟩, putR_dat ?_⟩ -- call bounds(some, 2, 2)
              exact ⟨rfl, (by repeat (first | exact wkM_refl | exact wkM_nil | exact wkM_app | refine wkM_cons (by first | exact .inl rfl | exact .inr rfl) ?_ | refine wkM_trans wkM_app ?_))⟩
            refine we_tup ?_
            refine wa_cons ?_
            refine we_mul ?_
            refine we_int ?_
            refine we_name 0 (q := ?_)
            refine .inl ⟨_, _, rfl, rfl, (by first | exact .inl ⟨by omega, by omega⟩ | exact .inr ⟨by omega, by omega⟩), ?_⟩
            refine wa_cons ?_
            refine we_mul ?_
            refine we_int ?_
            refine we_name 0 (q := ?_)
            refine .inl ⟨_, _, rfl, rfl, (by first | exact .inl ⟨by omega, by omega⟩ | exact .inr ⟨by omega, by omega⟩), ?_⟩
            refine wa_nil ?_
            refine ⟨_, _, rfl, by simp [sizeLine_eq], ?_⟩
            refine ⟨_, _, rfl, rfl, (by with_reducible repeat (first | exact fit_int | exact fit_bl | exact fit_non | exact fit_nil | exact fit_all_int _ | refine fit_lst ?_ | refine fit_tup ?_ | refine fit_cons ?_ ?_ | exact fit_str (by decide))), (by with_reducible repeat (first | exact fit_int | exact fit_bl | exact fit_non | exact fit_nil | exact fit_all_int _ | refine fit_lst ?_ | refine fit_tup ?_ | refine fit_cons ?_ ?_ | exact fit_str (by decide))), ?_⟩
            exact ⟨_, rfl, rfl, (by repeat (first | exact wkM_refl | exact wkM_nil | exact wkM_app | refine wkM_cons (by first | exact .inl rfl | exact .inr rfl) ?_ | refine wkM_trans wkM_app ?_))⟩
          · intro hc6
            apply ew_or1
            apply et_in
            refine wt_ne hr.units ?_
            apply we_ev
            · repeat (first | exact lk_nil | refine lk_none ?_ | refine lk_dat ?_ | refine lk_loc (by simp) ?_)
            · apply ev_in
              refine we_def h_bounds (hr.mono (by omega)) takesF ?_
              refine wa_cons ?_
              refine we_name 1 (q := ?_)
              refine wa_cons ?_
              refine we_int ?_
              refine wa_cons ?_
              refine we_int ?_
              refine wa_nil ?_
              refine .inl ⟨_, _, rfl, ?_⟩
              refine ⟨(_, _, _), rfl, rfl, ⟨by assumption, ⟨by omega, by omega⟩, ⟨by omega, by omega⟩⟩, putR_dat ?_⟩ -- call bounds(some, 1, 0)
              exact ⟨rfl, (by repeat (first | exact wkM_refl | exact wkM_nil | exact wkM_app | refine wkM_cons (by first | exact .inl rfl | exact .inr rfl) ?_ | refine wkM_trans wkM_app ?_))⟩
            refine we_tup ?_
            refine wa_cons ?_
            refine we_mul ?_
            refine we_int ?_
            refine we_name 0 (q := ?_)
            refine .inl ⟨_, _, rfl, rfl, (by first | exact .inl ⟨by omega, by omega⟩ | exact .inr ⟨by omega, by omega⟩), ?_⟩
            refine wa_cons ?_
            refine we_mul ?_
            refine we_int ?_
            refine we_name 0 (q := ?_)
            refine .inl ⟨_, _, rfl, rfl, (by first | exact .inl ⟨by omega, by omega⟩ | exact .inr ⟨by omega, by omega⟩), ?_⟩
            refine wa_nil ?_
            refine ⟨_, _, rfl, by simp [sizeLine_eq], ?_⟩
            refine ⟨_, _, rfl, rfl, (by with_reducible repeat (first | exact fit_int | exact fit_bl | exact fit_non | exact fit_nil | exact fit_all_int _ | refine fit_lst ?_ | refine fit_tup ?_ | refine fit_cons ?_ ?_ | exact fit_str (by decide))), (by with_reducible repeat (first | exact fit_int | exact fit_bl | exact fit_non | exact fit_nil | exact fit_all_int _ | refine fit_lst ?_ | refine fit_tup ?_ | refine fit_cons ?_ ?_ | exact fit_str (by decide))), ?_⟩
            exact ⟨_, rfl, rfl, (by repeat (first | exact wkM_refl | exact wkM_nil | exact wkM_app | refine wkM_cons (by first | exact .inl rfl | exact .inr rfl) ?_ | refine wkM_trans wkM_app ?_))⟩
        · intro hc5
          exact nope hc5 (orF (neF (n := 4) (congrArg dPair e5) (by with_reducible repeat (first | exact fit_int | exact fit_bl | exact fit_non | exact fit_nil | exact fit_all_int _ | refine fit_lst ?_ | refine fit_tup ?_ | refine fit_cons ?_ ?_))) (neF (n := 4) (congrArg dPair e6) (by with_reducible repeat (first | exact fit_int | exact fit_bl | exact fit_non | exact fit_nil | exact fit_all_int _ | refine fit_lst ?_ | refine fit_tup ?_ | refine fit_cons ?_ ?_))))
        · intro hc5
          refine wss_nil ?_
          refine wss_cons ?_
          apply ws_ifE
          · repeat (first | exact lk_nil | refine lk_none ?_ | refine lk_dat ?_ | refine lk_loc (by simp) ?_)
          · apply et_ww
            apply ew_or
            · repeat (first | exact lk_nil | refine lk_none ?_ | refine lk_dat ?_ | refine lk_loc (by simp) ?_)
            · apply et_in
              refine wt_ne hr.units ?_
              apply we_ev
              · repeat (first | exact lk_nil | refine lk_none ?_ | refine lk_dat ?_ | refine lk_loc (by simp) ?_)
              · apply ev_in
                refine we_def h_reach (hr.mono (by omega)) takesF ?_
                refine wa_cons ?_
                refine we_name 1 (q := ?_)
                refine wa_cons ?_
                refine we_int ?_
                refine wa_cons ?_
                refine we_int ?_
                refine wa_nil ?_
                refine .inl ⟨_, _, rfl, ?_⟩
                refine ⟨(_, _, _), rfl, rfl, ⟨by assumption, ⟨by omega, by omega⟩, ⟨by omega, by omega⟩⟩, putR_dat ?_⟩ -- call reach(some, 2, 2)
                exact ⟨rfl, (by repeat (first | exact wkM_refl | exact wkM_nil | exact wkM_app | refine wkM_cons (by first | exact .inl rfl | exact .inr rfl) ?_ | refine wkM_trans wkM_app ?_))⟩
              refine we_tup ?_
              refine wa_cons ?_
              refine we_mul ?_
              refine we_int ?_
              refine we_name 0 (q := ?_)
              refine .inl ⟨_, _, rfl, rfl, (by first | exact .inl ⟨by omega, by omega⟩ | exact .inr ⟨by omega, by omega⟩), ?_⟩
              refine wa_cons ?_
              refine we_mul ?_
              refine we_int ?_
              refine we_name 0 (q := ?_)
              refine .inl ⟨_, _, rfl, rfl, (by first | exact .inl ⟨by omega, by omega⟩ | exact .inr ⟨by omega, by omega⟩), ?_⟩
              refine wa_nil ?_
              refine ⟨_, _, rfl, by simp [sizeLine_eq], ?_⟩
              refine ⟨_, _, rfl, rfl, (by with_reducible repeat (first | exact fit_int | exact fit_bl | exact fit_non | exact fit_nil | exact fit_all_int _ | refine fit_lst ?_ | refine fit_tup ?_ | refine fit_cons ?_ ?_ | exact fit_str (by decide))), (by with_reducible repeat (first | exact fit_int | exact fit_bl | exact fit_non | exact fit_nil | exact fit_all_int _ | refine fit_lst ?_ | refine fit_tup ?_ | refine fit_cons ?_ ?_ | exact fit_str (by decide))), ?_⟩
              exact ⟨_, rfl, rfl, (by repeat (first | exact wkM_refl | exact wkM_nil | exact wkM_app | refine wkM_cons (by first | exact .inl rfl | exact .inr rfl) ?_ | refine wkM_trans wkM_app ?_))⟩
            · intro hc8
              apply ew_or1
              apply et_in
              refine wt_ne hr.units ?_
              apply we_ev
              · repeat (first | exact lk_nil | refine lk_none ?_ | refine lk_dat ?_ | refine lk_loc (by simp) ?_)
              · apply ev_in
                refine we_def h_with_mark (hr.mono (by omega)) takesF ?_
                refine wa_cons ?_
                refine we_name 1 (q := ?_)
                refine wa_cons ?_
                refine we_int ?_
                refine wa_cons ?_
                refine we_int ?_
                refine wa_cons ?_
                refine we_int ?_
                refine wa_nil ?_
                refine .inl ⟨_, _, rfl, ?_⟩
                refine ⟨(_, _, _, _), rfl, rfl, ⟨by assumption, ⟨by omega, by omega⟩, ⟨by omega, by omega⟩, by omega, by omega⟩, putR_dat ?_⟩ -- call with_mark(some, 1, 3, 0)
                exact ⟨rfl, (by repeat (first | exact wkM_refl | exact wkM_nil | exact wkM_app | refine wkM_cons (by first | exact .inl rfl | exact .inr rfl) ?_ | refine wkM_trans wkM_app ?_))⟩
              refine we_mul ?_
              refine we_int ?_
              refine we_name 0 (q := ?_)
              refine .inl ⟨_, _, rfl, rfl, (by first | exact .inl ⟨by omega, by omega⟩ | exact .inr ⟨by omega, by omega⟩), ?_⟩
              refine ⟨_, _, rfl, rfl, (by with_reducible repeat (first | exact fit_int | exact fit_bl | exact fit_non | exact fit_nil | exact fit_all_int _ | refine fit_lst ?_ | refine fit_tup ?_ | refine fit_cons ?_ ?_ | exact fit_str (by decide))), (by with_reducible repeat (first | exact fit_int | exact fit_bl | exact fit_non | exact fit_nil | exact fit_all_int _ | refine fit_lst ?_ | refine fit_tup ?_ | refine fit_cons ?_ ?_ | exact fit_str (by decide))), ?_⟩
              exact ⟨_, rfl, rfl, (by repeat (first | exact wkM_refl | exact wkM_nil | exact wkM_app | refine wkM_cons (by first | exact .inl rfl | exact .inr rfl) ?_ | refine wkM_trans wkM_app ?_))⟩
          · intro hc7
            exact nope hc7 (orF (neF (n := 4) (by rw [e7, e8]) (by with_reducible repeat (first | exact fit_int | exact fit_bl | exact fit_non | exact fit_nil | exact fit_all_int _ | refine fit_lst ?_ | refine fit_tup ?_ | refine fit_cons ?_ ?_))) (neF (n := 4) (congrArg D.int e9) (by with_reducible repeat (first | exact fit_int | exact fit_bl | exact fit_non | exact fit_nil | exact fit_all_int _ | refine fit_lst ?_ | refine fit_tup ?_ | refine fit_cons ?_ ?_))))
          · intro hc7
            refine wss_nil ?_
            refine wss_cons ?_
            apply ws_ifE
            · repeat (first | exact lk_nil | refine lk_none ?_ | refine lk_dat ?_ | refine lk_loc (by simp) ?_)
            · apply et_ww
              apply ew_or
              · repeat (first | exact lk_nil | refine lk_none ?_ | refine lk_dat ?_ | refine lk_loc (by simp) ?_)
              · apply et_in
                refine wt_ne hr.units ?_
                apply we_ev
                · repeat (first | exact lk_nil | refine lk_none ?_ | refine lk_dat ?_ | refine lk_loc (by simp) ?_)
                · apply ev_in
                  refine we_def h_with_mark (hr.mono (by omega)) takesF ?_
                  refine wa_cons ?_
                  refine we_name 1 (q := ?_)
                  refine wa_cons ?_
                  refine we_int ?_
                  refine wa_cons ?_
                  refine we_int ?_
                  refine wa_cons ?_
                  refine we_int ?_
                  refine wa_nil ?_
                  refine .inl ⟨_, _, rfl, ?_⟩
                  refine ⟨(_, _, _, _), rfl, rfl, ⟨by assumption, ⟨by omega, by omega⟩, ⟨by omega, by omega⟩, by omega, by omega⟩, putR_dat ?_⟩ -- call with_mark(some, 1, 0, 1000)
                  exact ⟨rfl, (by repeat (first | exact wkM_refl | exact wkM_nil | exact wkM_app | refine wkM_cons (by first | exact .inl rfl | exact .inr rfl) ?_ | refine wkM_trans wkM_app ?_))⟩
                refine we_mul ?_
                refine we_int ?_
                refine we_name 0 (q := ?_)
                refine .inl ⟨_, _, rfl, rfl, (by first | exact .inl ⟨by omega, by omega⟩ | exact .inr ⟨by omega, by omega⟩), ?_⟩
                refine ⟨_, _, rfl, rfl, (by with_reducible repeat (first | exact fit_int | exact fit_bl | exact fit_non | exact fit_nil | exact fit_all_int _ | refine fit_lst ?_ | refine fit_tup ?_ | refine fit_cons ?_ ?_ | exact fit_str (by decide))), (by with_reducible repeat (first | exact fit_int | exact fit_bl | exact fit_non | exact fit_nil | exact fit_all_int _ | refine fit_lst ?_ | refine fit_tup ?_ | refine fit_cons ?_ ?_ | exact fit_str (by decide))), ?_⟩
                exact ⟨_, rfl, rfl, (by repeat (first | exact wkM_refl | exact wkM_nil | exact wkM_app | refine wkM_cons (by first | exact .inl rfl | exact .inr rfl) ?_ | refine wkM_trans wkM_app ?_))⟩
              · intro hc10
                apply ew_or1
                apply et_in
                refine wt_isnot ?_
                apply we_ev
                · repeat (first | exact lk_nil | refine lk_none ?_ | refine lk_dat ?_ | refine lk_loc (by simp) ?_)
                · apply ev_in
                  refine we_def h_fewest_raisers (hr.mono (by omega)) takesF ?_
                  refine wa_cons ?_
                  refine we_name 1 (q := ?_)
                  refine wa_cons ?_
                  refine we_int ?_
                  refine wa_cons ?_
                  refine we_int ?_
                  refine wa_nil ?_
                  refine .inl ⟨_, _, rfl, ?_⟩
                  refine ⟨(_, _, _), rfl, rfl, ⟨by assumption, ⟨by omega, by omega⟩, by omega, by omega⟩, putR_dat ?_⟩ -- call fewest_raisers(some, 2, 3000)
                  exact ⟨rfl, (by repeat (first | exact wkM_refl | exact wkM_nil | exact wkM_app | refine wkM_cons (by first | exact .inl rfl | exact .inr rfl) ?_ | refine wkM_trans wkM_app ?_))⟩
                refine we_non ?_
                refine ⟨_, rfl, rfl, (noRaw_oD _), ?_⟩
                exact ⟨_, rfl, rfl, (by repeat (first | exact wkM_refl | exact wkM_nil | exact wkM_app | refine wkM_cons (by first | exact .inl rfl | exact .inr rfl) ?_ | refine wkM_trans wkM_app ?_))⟩
            · intro hc9
              exact nope hc9 (orF (neF (n := 4) (congrArg D.int e10) (by with_reducible repeat (first | exact fit_int | exact fit_bl | exact fit_non | exact fit_nil | exact fit_all_int _ | refine fit_lst ?_ | refine fit_tup ?_ | refine fit_cons ?_ ?_))) (nonF e11))
            · intro hc9
              refine wss_nil ?_
              refine wss_cons ?_
              apply ws_ifE
              · repeat (first | exact lk_nil | refine lk_none ?_ | refine lk_dat ?_ | refine lk_loc (by simp) ?_)
              · apply et_ww
                apply ew_or
                · repeat (first | exact lk_nil | refine lk_none ?_ | refine lk_dat ?_ | refine lk_loc (by simp) ?_)
                · apply et_in
                  refine wt_ne hr.units ?_
                  apply we_ev
                  · repeat (first | exact lk_nil | refine lk_none ?_ | refine lk_dat ?_ | refine lk_loc (by simp) ?_)
                  · apply ev_in
                    refine we_def h_mark_range (hr.mono (by omega)) takesF ?_
                    refine wa_cons ?_
                    refine we_name 1 (q := ?_)
                    refine wa_cons ?_
                    refine we_int ?_
                    refine wa_cons ?_
                    refine we_int ?_
                    refine wa_cons ?_
                    refine we_mul ?_
                    refine we_int ?_
                    refine we_name 0 (q := ?_)
                    refine .inl ⟨_, _, rfl, rfl, (by first | exact .inl ⟨by omega, by omega⟩ | exact .inr ⟨by omega, by omega⟩), ?_⟩
                    refine wa_nil ?_
                    refine .inl ⟨_, _, rfl, ?_⟩
                    refine ⟨(_, _, _, _), rfl, rfl, ⟨by assumption, ⟨by omega, by omega⟩, ⟨by omega, by omega⟩, by omega, by omega⟩, putR_dat ?_⟩ -- call mark_range(some, 2, 2, 14 * f)
                    exact ⟨rfl, (by repeat (first | exact wkM_refl | exact wkM_nil | exact wkM_app | refine wkM_cons (by first | exact .inl rfl | exact .inr rfl) ?_ | refine wkM_trans wkM_app ?_))⟩
                  refine we_tup ?_
                  refine wa_cons ?_
                  refine we_mul ?_
                  refine we_int ?_
                  refine we_name 0 (q := ?_)
                  refine .inl ⟨_, _, rfl, rfl, (by first | exact .inl ⟨by omega, by omega⟩ | exact .inr ⟨by omega, by omega⟩), ?_⟩
                  refine wa_cons ?_
                  refine we_mul ?_
                  refine we_int ?_
                  refine we_name 0 (q := ?_)
                  refine .inl ⟨_, _, rfl, rfl, (by first | exact .inl ⟨by omega, by omega⟩ | exact .inr ⟨by omega, by omega⟩), ?_⟩
                  refine wa_nil ?_
                  refine ⟨_, _, rfl, by simp [sizeLine_eq], ?_⟩
                  refine ⟨_, _, rfl, rfl, (oPair_fit _), (by with_reducible repeat (first | exact fit_int | exact fit_bl | exact fit_non | exact fit_nil | exact fit_all_int _ | refine fit_lst ?_ | refine fit_tup ?_ | refine fit_cons ?_ ?_ | exact fit_str (by decide))), ?_⟩
                  exact ⟨_, rfl, rfl, (by repeat (first | exact wkM_refl | exact wkM_nil | exact wkM_app | refine wkM_cons (by first | exact .inl rfl | exact .inr rfl) ?_ | refine wkM_trans wkM_app ?_))⟩
                · intro hc12
                  apply ew_or1
                  apply et_in
                  refine wt_ne hr.units ?_
                  apply we_ev
                  · repeat (first | exact lk_nil | refine lk_none ?_ | refine lk_dat ?_ | refine lk_loc (by simp) ?_)
                  · apply ev_in
                    refine we_def h_mark_range (hr.mono (by omega)) takesF ?_
                    refine wa_cons ?_
                    refine we_name 1 (q := ?_)
                    refine wa_cons ?_
                    refine we_int ?_
                    refine wa_cons ?_
                    refine we_int ?_
                    refine wa_cons ?_
                    refine we_mul ?_
                    refine we_int ?_
                    refine we_name 0 (q := ?_)
                    refine .inl ⟨_, _, rfl, rfl, (by first | exact .inl ⟨by omega, by omega⟩ | exact .inr ⟨by omega, by omega⟩), ?_⟩
                    refine wa_nil ?_
                    refine .inl ⟨_, _, rfl, ?_⟩
                    refine ⟨(_, _, _, _), rfl, rfl, ⟨by assumption, ⟨by omega, by omega⟩, ⟨by omega, by omega⟩, by omega, by omega⟩, putR_dat ?_⟩ -- call mark_range(some, 2, 2, 16 * f)
                    exact ⟨rfl, (by repeat (first | exact wkM_refl | exact wkM_nil | exact wkM_app | refine wkM_cons (by first | exact .inl rfl | exact .inr rfl) ?_ | refine wkM_trans wkM_app ?_))⟩
                  refine we_tup ?_
                  refine wa_cons ?_
                  refine we_mul ?_
                  refine we_int ?_
                  refine we_name 0 (q := ?_)
                  refine .inl ⟨_, _, rfl, rfl, (by first | exact .inl ⟨by omega, by omega⟩ | exact .inr ⟨by omega, by omega⟩), ?_⟩
                  refine wa_cons ?_
                  refine we_int ?_
                  refine wa_nil ?_
                  refine ⟨_, _, rfl, by simp [sizeLine_eq], ?_⟩
                  refine ⟨_, _, rfl, rfl, (oPair_fit _), (by with_reducible repeat (first | exact fit_int | exact fit_bl | exact fit_non | exact fit_nil | exact fit_all_int _ | refine fit_lst ?_ | refine fit_tup ?_ | refine fit_cons ?_ ?_ | exact fit_str (by decide))), ?_⟩
                  exact ⟨_, rfl, rfl, (by repeat (first | exact wkM_refl | exact wkM_nil | exact wkM_app | refine wkM_cons (by first | exact .inl rfl | exact .inr rfl) ?_ | refine wkM_trans wkM_app ?_))⟩
              · intro hc11
                exact nope hc11 (orF (neF (n := 4) (congrArg oPair e14) (by with_reducible repeat (first | exact fit_int | exact fit_bl | exact fit_non | exact fit_nil | exact fit_all_int _ | refine fit_lst ?_ | refine fit_tup ?_ | refine fit_cons ?_ ?_))) (neF (n := 4) (congrArg oPair e15) (by with_reducible repeat (first | exact fit_int | exact fit_bl | exact fit_non | exact fit_nil | exact fit_all_int _ | refine fit_lst ?_ | refine fit_tup ?_ | refine fit_cons ?_ ?_))))
              · intro hc11
                refine wss_nil ?_
                refine wss_cons ?_
                apply ws_ifE
                · repeat (first | exact lk_nil | refine lk_none ?_ | refine lk_dat ?_ | refine lk_loc (by simp) ?_)
                · apply et_in
                  refine wt_ne hr.units ?_
                  apply we_ev
                  · repeat (first | exact lk_nil | refine lk_none ?_ | refine lk_dat ?_ | refine lk_loc (by simp) ?_)
                  · apply ev_in
                    refine we_def h_mark_range (hr.mono (by omega)) takesF ?_
                    refine wa_cons ?_
                    refine we_name 1 (q := ?_)
                    refine wa_cons ?_
                    refine we_int ?_
                    refine wa_cons ?_
                    refine we_int ?_
                    refine wa_cons ?_
                    refine we_mul ?_
                    refine we_int ?_
                    refine we_name 0 (q := ?_)
                    refine .inl ⟨_, _, rfl, rfl, (by first | exact .inl ⟨by omega, by omega⟩ | exact .inr ⟨by omega, by omega⟩), ?_⟩
                    refine wa_nil ?_
                    refine .inl ⟨_, _, rfl, ?_⟩
                    refine ⟨(_, _, _, _), rfl, rfl, ⟨by assumption, ⟨by omega, by omega⟩, ⟨by omega, by omega⟩, by omega, by omega⟩, putR_dat ?_⟩ -- call mark_range(some, 2, 5, 13 * f)
                    exact ⟨rfl, (by repeat (first | exact wkM_refl | exact wkM_nil | exact wkM_app | refine wkM_cons (by first | exact .inl rfl | exact .inr rfl) ?_ | refine wkM_trans wkM_app ?_))⟩
                  refine we_tup ?_
                  refine wa_cons ?_
                  refine we_int ?_
                  refine wa_cons ?_
                  refine we_mul ?_
                  refine we_int ?_
                  refine we_name 0 (q := ?_)
                  refine .inl ⟨_, _, rfl, rfl, (by first | exact .inl ⟨by omega, by omega⟩ | exact .inr ⟨by omega, by omega⟩), ?_⟩
                  refine wa_nil ?_
                  refine ⟨_, _, rfl, by simp [sizeLine_eq], ?_⟩
                  refine ⟨_, _, rfl, rfl, (oPair_fit _), (by with_reducible repeat (first | exact fit_int | exact fit_bl | exact fit_non | exact fit_nil | exact fit_all_int _ | refine fit_lst ?_ | refine fit_tup ?_ | refine fit_cons ?_ ?_ | exact fit_str (by decide))), ?_⟩
                  exact ⟨_, rfl, rfl, (by repeat (first | exact wkM_refl | exact wkM_nil | exact wkM_app | refine wkM_cons (by first | exact .inl rfl | exact .inr rfl) ?_ | refine wkM_trans wkM_app ?_))⟩
                · intro hc13
                  exact nope hc13 (neF (n := 4) (congrArg oPair e16) (by with_reducible repeat (first | exact fit_int | exact fit_bl | exact fit_non | exact fit_nil | exact fit_all_int _ | refine fit_lst ?_ | refine fit_tup ?_ | refine fit_cons ?_ ?_)))
                · intro hc13
                  refine wss_nil ?_
                  refine wss_cons ?_
                  apply ws_ifE
                  · repeat (first | exact lk_nil | refine lk_none ?_ | refine lk_dat ?_ | refine lk_loc (by simp) ?_)
                  · apply et_ww
                    apply ew_or
                    · repeat (first | exact lk_nil | refine lk_none ?_ | refine lk_dat ?_ | refine lk_loc (by simp) ?_)
                    · apply et_in
                      refine wt_ne hr.units ?_
                      apply we_ev
                      · repeat (first | exact lk_nil | refine lk_none ?_ | refine lk_dat ?_ | refine lk_loc (by simp) ?_)
                      · apply ev_in
                        refine we_def h_fewest_raisers (hr.mono (by omega)) takesF ?_
                        refine wa_cons ?_
                        refine we_name 1 (q := ?_)
                        refine wa_cons ?_
                        refine we_int ?_
                        refine wa_cons ?_
                        refine we_mul ?_
                        refine we_int ?_
                        refine we_name 0 (q := ?_)
                        refine .inl ⟨_, _, rfl, rfl, (by first | exact .inl ⟨by omega, by omega⟩ | exact .inr ⟨by omega, by omega⟩), ?_⟩
                        refine wa_nil ?_
                        refine .inl ⟨_, _, rfl, ?_⟩
                        refine ⟨(_, _, _), rfl, rfl, ⟨by assumption, ⟨by omega, by omega⟩, by omega, by omega⟩, putR_dat ?_⟩ -- call fewest_raisers(some, 1, 25 * f)
                        exact ⟨rfl, (by repeat (first | exact wkM_refl | exact wkM_nil | exact wkM_app | refine wkM_cons (by first | exact .inl rfl | exact .inr rfl) ?_ | refine wkM_trans wkM_app ?_))⟩
                      refine we_int ?_
                      refine ⟨_, _, rfl, rfl, (oD_fit' _), (by with_reducible repeat (first | exact fit_int | exact fit_bl | exact fit_non | exact fit_nil | exact fit_all_int _ | refine fit_lst ?_ | refine fit_tup ?_ | refine fit_cons ?_ ?_ | exact fit_str (by decide))), ?_⟩
                      exact ⟨_, rfl, rfl, (by repeat (first | exact wkM_refl | exact wkM_nil | exact wkM_app | refine wkM_cons (by first | exact .inl rfl | exact .inr rfl) ?_ | refine wkM_trans wkM_app ?_))⟩
                    · intro hc15
                      apply ew_or1
                      apply et_in
                      refine wt_ne hr.units ?_
                      apply we_ev
                      · repeat (first | exact lk_nil | refine lk_none ?_ | refine lk_dat ?_ | refine lk_loc (by simp) ?_)
                      · apply ev_in
                        refine we_def h_fewest_raisers (hr.mono (by omega)) takesF ?_
                        refine wa_cons ?_
                        refine we_name 1 (q := ?_)
                        refine wa_cons ?_
                        refine we_int ?_
                        refine wa_cons ?_
                        refine we_mul ?_
                        refine we_int ?_
                        refine we_name 0 (q := ?_)
                        refine .inl ⟨_, _, rfl, rfl, (by first | exact .inl ⟨by omega, by omega⟩ | exact .inr ⟨by omega, by omega⟩), ?_⟩
                        refine wa_nil ?_
                        refine .inl ⟨_, _, rfl, ?_⟩
                        refine ⟨(_, _, _), rfl, rfl, ⟨by assumption, ⟨by omega, by omega⟩, by omega, by omega⟩, putR_dat ?_⟩ -- call fewest_raisers(some, 1, 31 * f)
                        exact ⟨rfl, (by repeat (first | exact wkM_refl | exact wkM_nil | exact wkM_app | refine wkM_cons (by first | exact .inl rfl | exact .inr rfl) ?_ | refine wkM_trans wkM_app ?_))⟩
                      refine we_int ?_
                      refine ⟨_, _, rfl, rfl, (oD_fit' _), (by with_reducible repeat (first | exact fit_int | exact fit_bl | exact fit_non | exact fit_nil | exact fit_all_int _ | refine fit_lst ?_ | refine fit_tup ?_ | refine fit_cons ?_ ?_ | exact fit_str (by decide))), ?_⟩
                      exact ⟨_, rfl, rfl, (by repeat (first | exact wkM_refl | exact wkM_nil | exact wkM_app | refine wkM_cons (by first | exact .inl rfl | exact .inr rfl) ?_ | refine wkM_trans wkM_app ?_))⟩
                  · intro hc14
                    exact nope hc14 (orF (neF (n := 4) (congrArg oD e12) (by with_reducible repeat (first | exact fit_int | exact fit_bl | exact fit_non | exact fit_nil | exact fit_all_int _ | refine fit_lst ?_ | refine fit_tup ?_ | refine fit_cons ?_ ?_))) (neF (n := 4) (congrArg oD e13) (by with_reducible repeat (first | exact fit_int | exact fit_bl | exact fit_non | exact fit_nil | exact fit_all_int _ | refine fit_lst ?_ | refine fit_tup ?_ | refine fit_cons ?_ ?_))))
                  · intro hc14
                    refine wss_nil ?_
                    refine wss_cons ?_
                    refine ws_set 2 sc_law_six_right.nd rfl (by first | exact Or.inl rfl | exact Or.inr rfl) ?_
                    refine we_tup ?_
                    refine wa_cons ?_
                    refine we_mul ?_
                    refine we_int ?_
                    refine we_name 0 (q := ?_)
                    refine .inl ⟨_, _, rfl, rfl, (by first | exact .inl ⟨by omega, by omega⟩ | exact .inr ⟨by omega, by omega⟩), ?_⟩
                    refine wa_cons ?_
                    refine we_mul ?_
                    refine we_int ?_
                    refine we_name 0 (q := ?_)
                    refine .inl ⟨_, _, rfl, rfl, (by first | exact .inl ⟨by omega, by omega⟩ | exact .inr ⟨by omega, by omega⟩), ?_⟩
                    refine wa_cons ?_
                    refine we_mul ?_
                    refine we_int ?_
                    refine we_name 0 (q := ?_)
                    refine .inl ⟨_, _, rfl, rfl, (by first | exact .inl ⟨by omega, by omega⟩ | exact .inr ⟨by omega, by omega⟩), ?_⟩
                    refine wa_nil ?_
                    refine ⟨_, _, rfl, by simp [sizeLine_eq], ?_⟩
                    refine wss_norm (δ' := [some (.d (.int (f))), some (.d (tI (M6 f))), some (.d (tI (T3 f)))]) (μ' := []) ?_ rfl rfl
                    refine wss_cons ?_
                    apply ws_ifE
                    · repeat (first | exact lk_nil | refine lk_none ?_ | refine lk_dat ?_ | refine lk_loc (by simp) ?_)
                    · apply et_ww
                      apply ew_or
                      · repeat (first | exact lk_nil | refine lk_none ?_ | refine lk_dat ?_ | refine lk_loc (by simp) ?_)
                      · apply et_in
                        refine wt_ne hr.units ?_
                        apply we_ev
                        · repeat (first | exact lk_nil | refine lk_none ?_ | refine lk_dat ?_ | refine lk_loc (by simp) ?_)
                        · apply ev_in
                          refine we_def h_slack (hr.mono (by omega)) takesF ?_
                          refine wa_cons ?_
                          refine we_int ?_
                          refine wa_cons ?_
                          refine we_name 2 (q := ?_)
                          refine wa_nil ?_
                          refine .inl ⟨_, _, rfl, ?_⟩
                          refine ⟨(_, _), rfl, rfl, (by assumption), putR_dat ?_⟩ -- call slack(6, told)
                          exact ⟨rfl, (by repeat (first | exact wkM_refl | exact wkM_nil | exact wkM_app | refine wkM_cons (by first | exact .inl rfl | exact .inr rfl) ?_ | refine wkM_trans wkM_app ?_))⟩
                        refine we_sub ?_
                        refine we_mul ?_
                        refine we_int ?_
                        refine we_name 0 (q := ?_)
                        refine .inl ⟨_, _, rfl, rfl, (by first | exact .inl ⟨by omega, by omega⟩ | exact .inr ⟨by omega, by omega⟩), ?_⟩
                        refine we_fdiv ?_
                        refine we_add ?_
                        refine we_name 0 (q := ?_)
                        refine we_mod ?_
                        refine we_name 0 (q := ?_)
                        refine we_int ?_
                        refine ⟨_, _, rfl, rfl, by omega, ?_⟩
                        first | refine .inl ⟨_, _, rfl, rfl, ?_⟩ | refine .inr (.inr (.inl ⟨_, _, rfl, rfl, (by rw [sizeLine_eq]; simp; try omega), ?_⟩)) | refine .inr (.inl ⟨_, _, rfl, rfl, (by rw [sizeLine_eq]; simp; try omega), ?_⟩)
                        refine we_int ?_
                        refine ⟨_, _, rfl, rfl, ⟨by omega, by omega⟩, ?_⟩
                        refine ⟨_, _, rfl, rfl, ?_⟩
                        refine ⟨_, _, rfl, rfl, (oD_fit' _), (by with_reducible repeat (first | exact fit_int | exact fit_bl | exact fit_non | exact fit_nil | exact fit_all_int _ | refine fit_lst ?_ | refine fit_tup ?_ | refine fit_cons ?_ ?_ | exact fit_str (by decide))), ?_⟩
                        exact ⟨_, rfl, rfl, (by repeat (first | exact wkM_refl | exact wkM_nil | exact wkM_app | refine wkM_cons (by first | exact .inl rfl | exact .inr rfl) ?_ | refine wkM_trans wkM_app ?_))⟩
                      · intro hc17
                        apply ew_or1
                        apply et_in
                        refine wt_ne hr.units ?_
                        apply we_ev
                        · repeat (first | exact lk_nil | refine lk_none ?_ | refine lk_dat ?_ | refine lk_loc (by simp) ?_)
                        · apply ev_in
                          refine we_ix ?_
                          apply we_ev
                          · repeat (first | exact lk_nil | refine lk_none ?_ | refine lk_dat ?_ | refine lk_loc (by simp) ?_)
                          · apply ev_in
                            refine we_def h_row_at (hr.mono (by omega)) takesF ?_
                            refine wa_cons ?_
                            refine we_int ?_
                            refine wa_cons ?_
                            refine we_name 2 (q := ?_)
                            refine wa_cons ?_
                            refine we_int ?_
                            refine wa_nil ?_
                            refine .inl ⟨_, _, rfl, ?_⟩
                            refine ⟨(6, T3 f, 0), rfl, rfl, ⟨hR, e18, by decide, by rw [e19]; have := bin_pos ((slk (Int.toNat 6) (T3 f)).toNat + 3) 3 (by omega); omega⟩, putR_dat ?_⟩ -- call row_at(6, told, 0)
                            exact ⟨rfl, (by repeat (first | exact wkM_refl | exact wkM_nil | exact wkM_app | refine wkM_cons (by first | exact .inl rfl | exact .inr rfl) ?_ | refine wkM_trans wkM_app ?_))⟩
                          refine we_int ?_
                          first | refine ⟨_, _, _, .inl rfl, rfl, (atI_ints _ (by decide) (by rw [e19, e20]; decide)), ?_⟩ | refine ⟨_, _, _, .inr rfl, rfl, (atI_ints _ (by decide) (by rw [e19, e20]; decide)), ?_⟩
                          exact ⟨rfl, (by repeat (first | exact wkM_refl | exact wkM_nil | exact wkM_app | refine wkM_cons (by first | exact .inl rfl | exact .inr rfl) ?_ | refine wkM_trans wkM_app ?_))⟩
                        refine we_int ?_
                        refine ⟨_, _, rfl, rfl, (by with_reducible repeat (first | exact fit_int | exact fit_bl | exact fit_non | exact fit_nil | exact fit_all_int _ | refine fit_lst ?_ | refine fit_tup ?_ | refine fit_cons ?_ ?_ | exact fit_str (by decide))), (by with_reducible repeat (first | exact fit_int | exact fit_bl | exact fit_non | exact fit_nil | exact fit_all_int _ | refine fit_lst ?_ | refine fit_tup ?_ | refine fit_cons ?_ ?_ | exact fit_str (by decide))), ?_⟩
                        exact ⟨_, rfl, rfl, (by repeat (first | exact wkM_refl | exact wkM_nil | exact wkM_app | refine wkM_cons (by first | exact .inl rfl | exact .inr rfl) ?_ | refine wkM_trans wkM_app ?_))⟩
                    · intro hc16
                      exact nope hc16 (orF (neF (n := 4) (by unfold slackO; rw [if_pos e18, e17]; rfl) (by with_reducible repeat (first | exact fit_int | exact fit_bl | exact fit_non | exact fit_nil | exact fit_all_int _ | refine fit_lst ?_ | refine fit_tup ?_ | refine fit_cons ?_ ?_))) (neF (n := 4) (by rw [e19, e21]) (by with_reducible repeat (first | exact fit_int | exact fit_bl | exact fit_non | exact fit_nil | exact fit_all_int _ | refine fit_lst ?_ | refine fit_tup ?_ | refine fit_cons ?_ ?_))))
                    · intro hc16
                      refine wss_nil ?_
                      refine wss_one ?_
                      refine ws_ret ?_
                      apply we_ev
                      · repeat (first | exact lk_nil | refine lk_none ?_ | refine lk_dat ?_ | refine lk_loc (by simp) ?_)
                      · apply ev_in
                        refine we_eq hr.units ?_
                        refine we_listG h_narrowing (hr.mono (by omega)) T.b_list ?_
                        refine wa_cons ?_
                        refine we_slice ?_
                        refine we_name 1 (q := ?_)
                        refine wo_none ?_
                        refine wo_some ?_
                        refine we_int ?_
                        refine ⟨_, rfl, ?_⟩
                        first | refine .inl ⟨_, rfl, ?_⟩ | refine .inr ⟨_, rfl, ?_⟩
                        refine wa_cons ?_
                        refine we_int ?_
                        refine wa_nil ?_
                        refine ⟨_, _, rfl, ?_⟩
                        refine ⟨(M3 f), _, rfl, pan_M3 h1 h2, ⟨by decide, (by decide : (2 * 1 : Int) < ((3 : Nat) : Int))⟩, ?_⟩
                        refine we_lst ?_
                        refine wa_cons ?_
                        refine we_tup ?_
                        refine wa_cons ?_
                        refine we_int ?_
                        refine wa_cons ?_
                        refine we_int ?_
                        refine wa_nil ?_
                        refine ⟨_, _, rfl, by simp [sizeLine_eq], ?_⟩
                        refine wa_cons ?_
                        refine we_tup ?_
                        refine wa_cons ?_
                        refine we_int ?_
                        refine wa_cons ?_
                        refine we_int ?_
                        refine wa_nil ?_
                        refine ⟨_, _, rfl, by simp [sizeLine_eq], ?_⟩
                        refine wa_cons ?_
                        refine we_tup ?_
                        refine wa_cons ?_
                        refine we_mul ?_
                        refine we_int ?_
                        refine we_name 0 (q := ?_)
                        refine .inl ⟨_, _, rfl, rfl, (by first | exact .inl ⟨by omega, by omega⟩ | exact .inr ⟨by omega, by omega⟩), ?_⟩
                        refine wa_cons ?_
                        refine we_mul ?_
                        refine we_int ?_
                        refine we_name 0 (q := ?_)
                        refine .inl ⟨_, _, rfl, rfl, (by first | exact .inl ⟨by omega, by omega⟩ | exact .inr ⟨by omega, by omega⟩), ?_⟩
                        refine wa_nil ?_
                        refine ⟨_, _, rfl, by simp [sizeLine_eq], ?_⟩
                        refine wa_cons ?_
                        refine we_tup ?_
                        refine wa_cons ?_
                        refine we_mul ?_
                        refine we_int ?_
                        refine we_name 0 (q := ?_)
                        refine .inl ⟨_, _, rfl, rfl, (by first | exact .inl ⟨by omega, by omega⟩ | exact .inr ⟨by omega, by omega⟩), ?_⟩
                        refine wa_cons ?_
                        refine we_mul ?_
                        refine we_int ?_
                        refine we_name 0 (q := ?_)
                        refine .inl ⟨_, _, rfl, rfl, (by first | exact .inl ⟨by omega, by omega⟩ | exact .inr ⟨by omega, by omega⟩), ?_⟩
                        refine wa_nil ?_
                        refine ⟨_, _, rfl, by simp [sizeLine_eq], ?_⟩
                        refine wa_nil ?_
                        refine ⟨_, _, rfl, by simp [sizeLine_eq], ?_⟩
                        refine ⟨_, _, rfl, rfl, (fit_pairs _), (by with_reducible repeat (first | exact fit_int | exact fit_bl | exact fit_non | exact fit_nil | exact fit_all_int _ | refine fit_lst ?_ | refine fit_tup ?_ | refine fit_cons ?_ ?_ | exact fit_str (by decide))), ?_⟩
                        exact ⟨rfl, (by repeat (first | exact wkM_refl | exact wkM_nil | exact wkM_app | refine wkM_cons (by first | exact .inl rfl | exact .inr rfl) ?_ | refine wkM_trans wkM_app ?_))⟩
                      refine ret0 ?_
                      exact Eq.mp (congrArg (fun d => post (.dat d) []) ((congrArg D.bl (eqT (n := 4) (congrArg (fun l => D.lst (l.map fun p => dPair p)) e22) (fit_pairs [(0, 1000), (0, 1000), (3 * f, 8 * f), (5 * f, 5 * f)])).symm))) hp
theorem has_need_seen {f : Addr} {fd : FuncData} (dd : Def K mg "need_seen" "need_seen" s_need_seen ["seen", "drop"] f fd) (T : Txt K mg) (h_need_drop : Has P w K mg base "need_drop" ["judges", "drop"] 2 pr_need_drop) (h_is_from : Has P w K mg base "is_from" ["value", "low", "high"] 1 pr_is_from) : Has P w K mg base "need_seen" ["seen", "drop"] 3 pr_need_seen := by
  refine dd.has (fn_ok 0 dd.fn sc_need_seen (fun os ds post ex h => ?_) (fun cdv A outer s H E C os ds post ex hr tk hps h => ?_)) prV_mono
  · obtain ⟨a, rfl, rfl, _⟩ := h; exact ⟨rfl, rfl⟩
  · obtain ⟨⟨s, c⟩, rfl, rfl, ⟨hs, h1, h2⟩, hp⟩ := h
    obtain ⟨hs1, hs2, hs3⟩ := id hs
    refine wss_cons ?_
    apply ws_ifE
    · repeat (first | exact lk_nil | refine lk_none ?_ | refine lk_dat ?_ | refine lk_loc (by simp) ?_)
    · apply et_ww
      apply ew_or
      · repeat (first | exact lk_nil | refine lk_none ?_ | refine lk_dat ?_ | refine lk_loc (by simp) ?_)
      · apply et_not
        apply et_val
        · apply ev_in
          refine we_isi T.b_isinstance ?_
          refine wa_cons ?_
          refine we_name 0 (q := ?_)
          refine wa_cons ?_
          refine we_bty (T := "tuple") T.b_tuple (by decide +kernel) ?_
          refine wa_nil ?_
          refine ⟨_, _, _, _, rfl, by decide, rfl, rfl, ?_⟩
          exact ⟨rfl, (by repeat (first | exact wkM_refl | exact wkM_nil | exact wkM_app | refine wkM_cons (by first | exact .inl rfl | exact .inr rfl) ?_ | refine wkM_trans wkM_app ?_))⟩
        · intro _; rfl
      · intro hc2
        apply ew_or1
        apply et_not
        apply et_lele
        · repeat (first | exact lk_nil | refine lk_none ?_ | refine lk_dat ?_ | refine lk_loc (by simp) ?_)
        · apply ev_in
          refine we_int ?_
          exact ⟨rfl, (by repeat (first | exact wkM_refl | exact wkM_nil | exact wkM_app | refine wkM_cons (by first | exact .inl rfl | exact .inr rfl) ?_ | refine wkM_trans wkM_app ?_))⟩
        · apply ev_in
          refine we_len T.b_len ?_
          refine wa_cons ?_
          refine we_name 0 (q := ?_)
          refine wa_nil ?_
          refine ⟨_, _, _, rfl, rfl, rfl, ?_⟩
          exact ⟨rfl, (by repeat (first | exact wkM_refl | exact wkM_nil | exact wkM_app | refine wkM_cons (by first | exact .inl rfl | exact .inr rfl) ?_ | refine wkM_trans wkM_app ?_))⟩
        · intro hc3
          apply ev_in
          refine we_gintE T.c_MOST_JUDGES ?_
          exact ⟨rfl, (by repeat (first | exact wkM_refl | exact wkM_nil | exact wkM_app | refine wkM_cons (by first | exact .inl rfl | exact .inr rfl) ?_ | refine wkM_trans wkM_app ?_))⟩
        · with_unfolding_all rfl
    · intro hc1
      exact nope hc1 (seen_len1 hs)
    · intro hc1
      refine wss_nil ?_
      refine wss_cons ?_
      apply ws_ifE
      · repeat (first | exact lk_nil | refine lk_none ?_ | refine lk_dat ?_ | refine lk_loc (by simp) ?_)
      · apply et_not
        apply et_val
        · apply ev_in
          refine we_all rfl T.b_all ?_
          refine wa_cons ?_
          refine we_lc0 (tgt_name 2) rfl sc_need_seen.nd (blkOk_by (own := [("mark", 2)]) (by first | rfl | decide +kernel)) (fun _ _ _ _ _ => pg_name (i := 2) sc_need_seen.nd rfl (Or.inl rfl)) (by decide) ?_
          refine wi_seq ?_
          refine we_name 0 (q := ?_)
          first | refine ⟨_, _, .inl rfl, ?_⟩ | refine ⟨_, _, .inr rfl, ?_⟩
          refine ⟨(Option Int), s, oD, fun o => D.bl (DS.isNon (oD o) || isFromD (oD o) 0 1000), ?_, ?_, fun x acc hx => ⟨_, rfl, fun s0 H0 Cc cl fp => ?_⟩, ?_⟩
          · exact rfl
          · exact (by omega)
          · refine we_norm (δ' := [_, _, _]) rfl ?_
            apply we_ev
            · repeat (first | exact lk_nil | refine lk_none ?_ | refine lk_dat ?_ | refine lk_loc (by simp) ?_)
            · apply ev_or
              · repeat (first | exact lk_nil | refine lk_none ?_ | refine lk_dat ?_ | refine lk_loc (by simp) ?_)
              · apply ev_in
                refine we_is ?_
                refine we_name 2 (q := ?_)
                refine we_non ?_
                first | refine .inl ⟨_, rfl, rfl, (noRaw_oD _), ?_⟩ | refine .inr ⟨_, _, rfl, rfl, ?_⟩
                exact ⟨rfl, (by repeat (first | exact wkM_refl | exact wkM_nil | exact wkM_app | refine wkM_cons (by first | exact .inl rfl | exact .inr rfl) ?_ | refine wkM_trans wkM_app ?_))⟩
              · intro hc5
                apply ev_one
                apply ev_in
                refine we_def h_is_from (hr.mono (by omega)) takesF ?_
                refine wa_cons ?_
                refine we_name 2 (q := ?_)
                refine wa_cons ?_
                refine we_int ?_
                refine wa_cons ?_
                refine we_gintE T.c_LARGEST ?_
                refine wa_nil ?_
                refine .inl ⟨_, _, rfl, ?_⟩
                refine ⟨(oD x, 0, 1000), rfl, rfl, okD_oD _, putR_dat ?_⟩ -- call is_from(mark, 0, LARGEST)
                exact ⟨rfl, (by repeat (first | exact wkM_refl | exact wkM_nil | exact wkM_app | refine wkM_cons (by first | exact .inl rfl | exact .inr rfl) ?_ | refine wkM_trans wkM_app ?_))⟩
            exact ⟨_, rfl, (by repeat (first | exact wkM_refl | exact wkM_nil | exact wkM_app | refine wkM_cons (by first | exact .inl rfl | exact .inr rfl) ?_ | refine wkM_trans wkM_app ?_))⟩
          refine wa_nil ?_
          refine ⟨_, s.map fun o => (DS.isNon (oD o) || isFromD (oD o) 0 1000), rfl, (by simp [cnt, Function.comp_def]), ?_⟩
          exact ⟨rfl, (by repeat (first | exact wkM_refl | exact wkM_nil | exact wkM_app | refine wkM_cons (by first | exact .inl rfl | exact .inr rfl) ?_ | refine wkM_trans wkM_app ?_))⟩
        · intro _; rfl
      · intro hc4
        exact nope hc4 (seen_all hs)
      · intro hc4
        refine wss_nil ?_
        refine wss_one ?_
        refine ws_expr ?_
        apply we_ev
        · repeat (first | exact lk_nil | refine lk_none ?_ | refine lk_dat ?_ | refine lk_loc (by simp) ?_)
        · apply ev_in
          refine we_def h_need_drop (hr.mono (by omega)) takesF ?_
          refine wa_cons ?_
          refine we_len T.b_len ?_
          refine wa_cons ?_
          refine we_name 0 (q := ?_)
          refine wa_nil ?_
          refine ⟨_, _, _, rfl, rfl, rfl, ?_⟩
          refine wa_cons ?_
          refine we_name 1 (q := ?_)
          refine wa_nil ?_
          refine .inl ⟨_, _, rfl, ?_⟩
          refine ⟨(_, _), rfl, rfl, ⟨by omega, by first | omega | (rw [List.length_map]; omega)⟩, putR_dat ?_⟩ -- call need_drop(len(seen), drop)
          exact ⟨rfl, (by repeat (first | exact wkM_refl | exact wkM_nil | exact wkM_app | refine wkM_cons (by first | exact .inl rfl | exact .inr rfl) ?_ | refine wkM_trans wkM_app ?_))⟩
        refine ret0 ?_
        exact hp
theorem walk_first_of (T : Txt K mg) {A : Around} {outer : List Env} {s : Shared} {H : Hp} {E : XK} {f : Addr} {cdv : Value} {C : DX} {k : Nat} (hr : Room k (A.deeper (PyProof.Rows.envOfC "first_of" (defScope s_first_of) s.heap.objs.size f cdv))) (hps : C.ps.length = 0) {post : Res → List MO → Prop} {fl : Addr} {tst : Int → Bool} (hclo : CloRule C (cxOf (L2.CX P w) P w K mg base ["low", "high", "test", "middle"] "first_of" (defScope s_first_of) f cdv A outer s H E) (defScope s_first_of) fl (fun m => .bl (tst m))) (lo hi : Int) (hpost : post (.dat (.int (firstOf tst lo hi))) []) (hb : -1000000 ≤ lo ∧ lo ≤ 1000000 ∧ -1000000 ≤ hi ∧ hi ≤ 1000000) : WSs C (cxOf (L2.CX P w) P w K mg base ["low", "high", "test", "middle"] "first_of" (defScope s_first_of) f cdv A outer s H E) (defBody s_first_of) (startD ["low", "high", "test", "middle"] 0 [.int lo, .int hi, .raw (.ref fl)]) [] ⟨fun _ _ => False, retQ 0 post, fun _ _ => False, fun _ _ => False⟩ := by
  obtain ⟨hb1, hb2, hb3, hb4⟩ := hb
  refine wss_cons ?_
  refine ws_while (fun m δ μ => ∃ (l h : Int), δ = [some (.d (.int (l))), some (.d (.int (h))), some (.d (.raw (.ref fl))), none] ∧ μ = [] ∧ m = (h - l + 1).toNat ∧ (∀ n, (h - l + 1).toNat ≤ n → foN tst n l h = firstOf tst lo hi) ∧ -1000000 ≤ l ∧ l ≤ 1000002 ∧ -1000002 ≤ h ∧ h ≤ 1000000) ((hi - lo + 1).toNat) (passes_of rfl) ⟨lo, hi, rfl, rfl, ⟨rfl, fun n hn => foN_more _ _ _ _ hn (Nat.le_refl _), by omega, by omega, by omega, by omega⟩⟩ ?_
  rintro m δ' μ' ⟨l, h, rfl, rfl, ⟨g0, g1, g2, g3, g4, g5⟩⟩
  apply wt_ev
  · repeat (first | exact lk_nil | refine lk_none ?_ | refine lk_dat ?_ | refine lk_loc (by simp) ?_)
  · apply et_in
    refine wt_le ?_
    refine we_name 0 (q := ?_)
    refine we_name 1 (q := ?_)
    refine ⟨_, _, rfl, rfl, ?_⟩
    exact ⟨_, rfl, rfl, (by repeat (first | exact wkM_refl | exact wkM_nil | exact wkM_app | refine wkM_cons (by first | exact .inl rfl | exact .inr rfl) ?_ | refine wkM_trans wkM_app ?_))⟩
  refine ⟨fun hc1 => ?_, fun hc1 => ?_⟩
  · have hle := of_decide_eq_true hc1
    refine wss_cons ?_
    refine ws_set 3 sc_first_of.nd rfl (by first | exact Or.inl rfl | exact Or.inr rfl) ?_
    refine we_fdiv ?_
    refine we_add ?_
    refine we_name 0 (q := ?_)
    refine we_name 1 (q := ?_)
    first | refine .inl ⟨_, _, rfl, rfl, ?_⟩ | refine .inr (.inr (.inl ⟨_, _, rfl, rfl, (by rw [sizeLine_eq]; simp; try omega), ?_⟩)) | refine .inr (.inl ⟨_, _, rfl, rfl, (by rw [sizeLine_eq]; simp; try omega), ?_⟩)
    refine we_int ?_
    refine ⟨_, _, rfl, rfl, ⟨by omega, by omega⟩, ?_⟩
    refine wss_norm (δ' := [_, _, _, _]) (μ' := []) ?_ rfl rfl
    refine wss_one ?_
    apply ws_ifE
    · repeat (first | exact lk_nil | refine lk_none ?_ | refine lk_dat ?_ | refine lk_loc (by simp) ?_)
    · apply et_val
      · apply ev_in
        refine hclo 2 _ _ _ _ _ _ _ rfl (by first | exact Or.inl rfl | exact Or.inr (Or.inl rfl) | exact Or.inr (Or.inr rfl)) rfl (by decide) (by decide) rfl ?_
        refine wa_cons ?_
        refine we_name 3 (q := ?_)
        refine wa_nil ?_
        refine ⟨_, _, rfl, rfl, ?_⟩
        exact ⟨rfl, (by repeat (first | exact wkM_refl | exact wkM_nil | exact wkM_app | refine wkM_cons (by first | exact .inl rfl | exact .inr rfl) ?_ | refine wkM_trans wkM_app ?_))⟩
      · intro _; rfl
    · intro hc2
      have hjb := hc2
      refine wss_one ?_
      refine ws_set 1 sc_first_of.nd rfl (by first | exact Or.inl rfl | exact Or.inr rfl) ?_
      refine we_sub ?_
      refine we_name 3 (q := ?_)
      refine we_int ?_
      refine ⟨_, _, rfl, rfl, ?_⟩
      subst g0
      first | exact Wk.in ⟨((l + h) / 2 - 1 - l + 1).toNat, by omega, l, (l + h) / 2 - 1, rfl, rfl, rfl, fo_t g1 hle hjb, by omega, by omega, by omega, by omega⟩ (by repeat (first | exact wkM_refl | exact wkM_nil | exact wkM_app | refine wkM_cons (by first | exact .inl rfl | exact .inr rfl) ?_ | refine wkM_trans wkM_app ?_)) (by repeat (first | exact wkD_nil | refine wkD_cons (by first | exact .inl rfl | exact .inr rfl) ?_)) (by rw [hps]; simp) (by repeat (first | exact lk_nil | refine lk_none ?_ | refine lk_dat ?_ | refine lk_loc (by simp) ?_)) | exact Wk.in ⟨(h - ((l + h) / 2 + 1) + 1).toNat, by omega, (l + h) / 2 + 1, h, rfl, rfl, rfl, fo_f g1 hle hjb, by omega, by omega, by omega, by omega⟩ (by repeat (first | exact wkM_refl | exact wkM_nil | exact wkM_app | refine wkM_cons (by first | exact .inl rfl | exact .inr rfl) ?_ | refine wkM_trans wkM_app ?_)) (by repeat (first | exact wkD_nil | refine wkD_cons (by first | exact .inl rfl | exact .inr rfl) ?_)) (by rw [hps]; simp) (by repeat (first | exact lk_nil | refine lk_none ?_ | refine lk_dat ?_ | refine lk_loc (by simp) ?_))
    · intro hc2
      have hjb := hc2
      refine wss_one ?_
      refine ws_set 0 sc_first_of.nd rfl (by first | exact Or.inl rfl | exact Or.inr rfl) ?_
      refine we_add ?_
      refine we_name 3 (q := ?_)
      refine we_int ?_
      first | refine .inl ⟨_, _, rfl, rfl, ?_⟩ | refine .inr (.inr (.inl ⟨_, _, rfl, rfl, (by rw [sizeLine_eq]; simp; try omega), ?_⟩)) | refine .inr (.inl ⟨_, _, rfl, rfl, (by rw [sizeLine_eq]; simp; try omega), ?_⟩)
      subst g0
      first | exact Wk.in ⟨((l + h) / 2 - 1 - l + 1).toNat, by omega, l, (l + h) / 2 - 1, rfl, rfl, rfl, fo_t g1 hle hjb, by omega, by omega, by omega, by omega⟩ (by repeat (first | exact wkM_refl | exact wkM_nil | exact wkM_app | refine wkM_cons (by first | exact .inl rfl | exact .inr rfl) ?_ | refine wkM_trans wkM_app ?_)) (by repeat (first | exact wkD_nil | refine wkD_cons (by first | exact .inl rfl | exact .inr rfl) ?_)) (by rw [hps]; simp) (by repeat (first | exact lk_nil | refine lk_none ?_ | refine lk_dat ?_ | refine lk_loc (by simp) ?_)) | exact Wk.in ⟨(h - ((l + h) / 2 + 1) + 1).toNat, by omega, (l + h) / 2 + 1, h, rfl, rfl, rfl, fo_f g1 hle hjb, by omega, by omega, by omega, by omega⟩ (by repeat (first | exact wkM_refl | exact wkM_nil | exact wkM_app | refine wkM_cons (by first | exact .inl rfl | exact .inr rfl) ?_ | refine wkM_trans wkM_app ?_)) (by repeat (first | exact wkD_nil | refine wkD_cons (by first | exact .inl rfl | exact .inr rfl) ?_)) (by rw [hps]; simp) (by repeat (first | exact lk_nil | refine lk_none ?_ | refine lk_dat ?_ | refine lk_loc (by simp) ?_))
  · have hnl := of_decide_eq_false hc1
    refine wss_one ?_
    refine ws_ret ?_
    refine we_name 0 (q := ?_)
    refine ret0 ?_
    rw [fo_end g1 hnl]
    exact hpost
theorem has_placed {f : Addr} {fd : FuncData} (dd : Def K mg "placed" "placed" s_placed ["seen", "judge", "mark"] f fd) (T : Txt K mg)  : Has P w K mg base "placed" ["seen", "judge", "mark"] 1 pr_placed := by
  refine dd.has (fn_ok 0 dd.fn sc_placed (fun os ds post ex h => ?_) (fun cdv A outer s H E C os ds post ex hr tk hps h => ?_)) prV_mono
  · obtain ⟨a, rfl, rfl, _⟩ := h; exact ⟨rfl, rfl⟩
  · obtain ⟨⟨s, j, m⟩, rfl, rfl, ⟨hl, h1, h2⟩, hp⟩ := h
    refine wss_one ?_
    refine ws_ret ?_
    refine we_add ?_
    refine we_add ?_
    refine we_slice ?_
    refine we_name 0 (q := ?_)
    refine wo_none ?_
    refine wo_some ?_
    refine we_name 1 (q := ?_)
    refine ⟨_, rfl, ?_⟩
    first | refine .inl ⟨_, rfl, ?_⟩ | refine .inr ⟨_, rfl, ?_⟩
    refine we_tup ?_
    refine wa_cons ?_
    refine we_name 2 (q := ?_)
    refine wa_nil ?_
    refine ⟨_, _, rfl, by simp [sizeLine_eq], ?_⟩
    first | refine .inl ⟨_, _, rfl, rfl, ?_⟩ | refine .inr (.inr (.inl ⟨_, _, rfl, rfl, (by have h5 := cut_le (s.map oD) none (some j); rw [List.length_map] at h5; rw [sizeLine_eq]; simp only [List.length_cons, List.length_nil]; omega), ?_⟩)) | refine .inr (.inl ⟨_, _, rfl, rfl, (by have h5 := cut_le (s.map oD) none (some j); rw [List.length_map] at h5; rw [sizeLine_eq]; simp only [List.length_cons, List.length_nil]; omega), ?_⟩)
    refine we_slice ?_
    refine we_name 0 (q := ?_)
    refine wo_some ?_
    refine we_add ?_
    refine we_name 1 (q := ?_)
    refine we_int ?_
    first | refine .inl ⟨_, _, rfl, rfl, ?_⟩ | refine .inr (.inr (.inl ⟨_, _, rfl, rfl, (by rw [sizeLine_eq]; simp; try omega), ?_⟩)) | refine .inr (.inl ⟨_, _, rfl, rfl, (by rw [sizeLine_eq]; simp; try omega), ?_⟩)
    refine ⟨_, rfl, ?_⟩
    refine wo_none ?_
    first | refine .inl ⟨_, rfl, ?_⟩ | refine .inr ⟨_, rfl, ?_⟩
    first | refine .inl ⟨_, _, rfl, rfl, ?_⟩ | refine .inr (.inr (.inl ⟨_, _, rfl, rfl, (by have h5 := cut_le (s.map oD) none (some j); have h6 := cut_le (s.map oD) (some (j + 1)) none; rw [List.length_map] at h5 h6; rw [sizeLine_eq, List.length_append]; simp only [List.length_cons, List.length_nil]; omega), ?_⟩)) | refine .inr (.inl ⟨_, _, rfl, rfl, (by have h5 := cut_le (s.map oD) none (some j); have h6 := cut_le (s.map oD) (some (j + 1)) none; rw [List.length_map] at h5 h6; rw [sizeLine_eq, List.length_append]; simp only [List.length_cons, List.length_nil]; omega), ?_⟩)
    refine ret0 ?_
    rw [repl_oD s m h1]
    exact hp
theorem has_mark_ranges {f : Addr} {fd : FuncData} {tc tp : Addr} {f_first_of : Addr} {fd_first_of : FuncData} (d_first_of : Def K mg "first_of" "first_of" s_first_of ["low", "high", "test"] f_first_of fd_first_of) (hTB : LamX.TabB base mg tc tp) (hcode : fd.code = .ref tc) (hmT : (tp, (("mark_ranges" : Str) ++ (".<locals>." : Str)) ++ ("<lambda>" : Str)) ∈ Tbs.tabs) (hu : ∀ t ∈ Tbs.tabs, t.1 = tp → t.2 = (("mark_ranges" : Str) ++ (".<locals>." : Str)) ++ ("<lambda>" : Str)) (dd : Def K mg "mark_ranges" "mark_ranges" s_mark_ranges ["seen", "drop", "wished"] f fd) (T : Txt K mg) (h_need_seen : Has P w K mg base "need_seen" ["seen", "drop"] 3 pr_need_seen) (h_need_result : Has P w K mg base "need_result" ["wished"] 2 pr_need_result) (h_ends : Has P w K mg base "ends" ["seen", "drop"] 2 pr_ends) (h_placed : Has P w K mg base "placed" ["seen", "judge", "mark"] 1 pr_placed) : Has P w K mg base "mark_ranges" ["seen", "drop", "wished"] 9 pr_mark_ranges := by
  refine dd.has (fn_okC 0 dd.fn sc_mark_ranges (fun os ds post ex h => ?_) (fun cdv A outer s H E C os ds post ex hcdv hr tk hps h => ?_)) prV_mono
  · obtain ⟨a, rfl, rfl, _⟩ := h; exact ⟨rfl, rfl⟩
  · obtain ⟨⟨s, c, w⟩, rfl, rfl, ⟨hs, ⟨h1, h2⟩, h3, h4, h5, h6⟩, hp⟩ := h
    have hl := hs.2.1
    refine wss_cons ?_
    refine ws_expr ?_
    apply we_ev
    · repeat (first | exact lk_nil | refine lk_none ?_ | refine lk_dat ?_ | refine lk_loc (by simp) ?_)
    · apply ev_in
      refine we_def h_need_seen (hr.mono (by omega)) takesF ?_
      refine wa_cons ?_
      refine we_name 0 (q := ?_)
      refine wa_cons ?_
      refine we_name 1 (q := ?_)
      refine wa_nil ?_
      refine .inl ⟨_, _, rfl, ?_⟩
      refine ⟨(_, _), rfl, rfl, ⟨by assumption, by omega, by omega⟩, putR_dat ?_⟩ -- call need_seen(seen, drop)
      exact ⟨rfl, (by repeat (first | exact wkM_refl | exact wkM_nil | exact wkM_app | refine wkM_cons (by first | exact .inl rfl | exact .inr rfl) ?_ | refine wkM_trans wkM_app ?_))⟩
    refine wss_norm (δ' := [_, _, _, _, _, _, _, _, _, _]) (μ' := []) ?_ rfl rfl
    refine wss_cons ?_
    refine ws_expr ?_
    apply we_ev
    · repeat (first | exact lk_nil | refine lk_none ?_ | refine lk_dat ?_ | refine lk_loc (by simp) ?_)
    · apply ev_in
      refine we_def h_need_result (hr.mono (by omega)) takesF ?_
      refine wa_cons ?_
      refine we_name 2 (q := ?_)
      refine wa_nil ?_
      refine .inl ⟨_, _, rfl, ?_⟩
      refine ⟨_, rfl, rfl, ⟨by omega, by omega⟩, putR_dat ?_⟩ -- call need_result(wished)
      exact ⟨rfl, (by repeat (first | exact wkM_refl | exact wkM_nil | exact wkM_app | refine wkM_cons (by first | exact .inl rfl | exact .inr rfl) ?_ | refine wkM_trans wkM_app ?_))⟩
    refine wss_norm (δ' := [_, _, _, _, _, _, _, _, _, _]) (μ' := []) ?_ rfl rfl
    refine wss_cons ?_
    refine ws_asgT (tgt_pair 4 5) (pg_tup rfl (pgs_cons (pg_name (i := 4) sc_mark_ranges.nd rfl (by first | exact Or.inl rfl | exact Or.inr rfl)) (pgs_cons (pg_name (i := 5) sc_mark_ranges.nd rfl (by first | exact Or.inl rfl | exact Or.inr rfl)) pgs_nil))) ?_
    apply we_ev
    · repeat (first | exact lk_nil | refine lk_none ?_ | refine lk_dat ?_ | refine lk_loc (by simp) ?_)
    · apply ev_in
      refine we_def h_ends (hr.mono (by omega)) takesF ?_
      refine wa_cons ?_
      refine we_name 0 (q := ?_)
      refine wa_cons ?_
      refine we_name 1 (q := ?_)
      refine wa_nil ?_
      refine .inl ⟨_, _, rfl, ?_⟩
      refine ⟨(_, _), rfl, rfl, ⟨by omega, by omega, by omega⟩, putR_dat ?_⟩ -- call ends(seen, drop)
      exact ⟨rfl, (by repeat (first | exact wkM_refl | exact wkM_nil | exact wkM_app | refine wkM_cons (by first | exact .inl rfl | exact .inr rfl) ?_ | refine wkM_trans wkM_app ?_))⟩
    refine ⟨_, _, _, rfl, rfl, ?_⟩
    refine wss_norm (δ' := [_, _, _, _, _, _, _, _, _, _]) (μ' := []) ?_ rfl rfl
    refine wss_cons ?_
    apply ws_ifE
    · repeat (first | exact lk_nil | refine lk_none ?_ | refine lk_dat ?_ | refine lk_loc (by simp) ?_)
    · apply et_not
      apply et_lele
      · repeat (first | exact lk_nil | refine lk_none ?_ | refine lk_dat ?_ | refine lk_loc (by simp) ?_)
      · apply ev_in
        refine we_name 4 (q := ?_)
        exact ⟨rfl, (by repeat (first | exact wkM_refl | exact wkM_nil | exact wkM_app | refine wkM_cons (by first | exact .inl rfl | exact .inr rfl) ?_ | refine wkM_trans wkM_app ?_))⟩
      · apply ev_in
        refine we_name 2 (q := ?_)
        exact ⟨rfl, (by repeat (first | exact wkM_refl | exact wkM_nil | exact wkM_app | refine wkM_cons (by first | exact .inl rfl | exact .inr rfl) ?_ | refine wkM_trans wkM_app ?_))⟩
      · intro hc2
        apply ev_in
        refine we_name 5 (q := ?_)
        exact ⟨rfl, (by repeat (first | exact wkM_refl | exact wkM_nil | exact wkM_app | refine wkM_cons (by first | exact .inl rfl | exact .inr rfl) ?_ | refine wkM_trans wkM_app ?_))⟩
      · with_unfolding_all rfl
    · intro hc1
      exact nope hc1 (wish_in h5 h6)
    · intro hc1
      refine wss_nil ?_
      refine wss_cons ?_
      refine ws_set 3 sc_mark_ranges.nd rfl (by first | exact Or.inl rfl | exact Or.inr rfl) ?_
      refine we_lst ?_
      refine wa_nil ?_
      refine ⟨_, _, rfl, by simp [sizeLine_eq], ?_⟩
      refine wss_norm (δ' := [_, _, _, _, _, _, _, _, _, _]) (μ' := [_]) ?_ rfl rfl
      refine wss_cons ?_
      refine ws_for (tgt_pair 6 7) (pg_tup rfl (pgs_cons (pg_name (i := 6) sc_mark_ranges.nd rfl (by first | exact Or.inl rfl | exact Or.inr rfl)) (pgs_cons (pg_name (i := 7) sc_mark_ranges.nd rfl (by first | exact Or.inl rfl | exact Or.inr rfl)) pgs_nil))) (fun i δ μ => δ = [some (.d (tO s)), some (.d (.int (c))), some (.d (.int (w))), some (.loc 0), some (.d (.int ((endsD s c.toNat).1))), some (.d (.int ((endsD s c.toNat).2))), none, none, none, none] ∧ μ = [MO.lst ((mrsL s c.toNat w i).map fun p => dPair p)] ∧ i ≤ s.length) (passes_of rfl) rfl ?_
      refine wi_enum T.b_enumerate ?_
      refine wa_cons ?_
      refine we_name 0 (q := ?_)
      refine wa_nil ?_
      first | refine ⟨_, _, _, rfl, .inl rfl, ?_⟩ | refine ⟨_, _, _, rfl, .inr rfl, ?_⟩
      refine ⟨Wk.in ⟨rfl, rfl, (Nat.zero_le _)⟩ (by repeat (first | exact wkM_refl | exact wkM_nil | exact wkM_app | refine wkM_cons (by first | exact .inl rfl | exact .inr rfl) ?_ | refine wkM_trans wkM_app ?_)) (by repeat (first | exact wkD_nil | refine wkD_cons (by first | exact .inl rfl | exact .inr rfl) ?_)) (by rw [hps]; simp) (by repeat (first | exact lk_nil | refine lk_none ?_ | refine lk_dat ?_ | refine lk_loc (by simp) ?_)), ?_, ?_⟩
      · rintro i y δ' μ' hy ⟨rfl, rfl, hil⟩
        obtain ⟨o, ho, rfl⟩ := enumO_get hy
        have hi : i < s.length := (List.getElem?_eq_some_iff.mp ho).1
        refine ⟨_, rfl, ?_⟩
        refine wss_norm (δ' := [_, _, _, _, _, _, _, _, _, _]) (μ' := [_]) ?_ rfl rfl
        refine wss_one ?_
        apply ws_ifE
        · repeat (first | exact lk_nil | refine lk_none ?_ | refine lk_dat ?_ | refine lk_loc (by simp) ?_)
        · apply et_in
          refine wt_isnot ?_
          refine we_name 7 (q := ?_)
          refine we_non ?_
          refine ⟨_, rfl, rfl, (noRaw_oD _), ?_⟩
          exact ⟨_, rfl, rfl, (by repeat (first | exact wkM_refl | exact wkM_nil | exact wkM_app | refine wkM_cons (by first | exact .inl rfl | exact .inr rfl) ?_ | refine wkM_trans wkM_app ?_))⟩
        · intro hc3
          obtain ⟨x, hx⟩ : ∃ x, o = some x := by cases o with | none => cases hc3 | some x => exact ⟨x, rfl⟩
          subst hx
          refine wss_one ?_
          refine ws_expr ?_
          refine we_append ?_
          refine we_name 3 (q := ?_)
          refine ⟨⟨_, rfl⟩, ?_⟩
          refine wa_cons ?_
          refine we_tup ?_
          refine wa_cons ?_
          refine we_name 7 (q := ?_)
          refine wa_cons ?_
          refine we_name 7 (q := ?_)
          refine wa_nil ?_
          refine ⟨_, _, rfl, by simp [sizeLine_eq], ?_⟩
          refine wa_nil ?_
          refine ⟨_, _, _, _, _, rfl, rfl, rfl, rfl, (by rw [sizeLine_eq, List.length_map]; unfold mrsL; rw [List.length_map, List.length_range]; omega), ?_⟩
          first | rw [app_int] | skip
          first | exact Wk.in ⟨rfl, rfl, hi⟩ (wkM_cons (.inr (congrArg MO.lst (mrsL_succ_s ho))) wkM_nil) (by repeat (first | exact wkD_nil | refine wkD_cons (by first | exact .inl rfl | exact .inr rfl) ?_)) (by rw [hps]; simp) (by repeat (first | exact lk_nil | refine lk_none ?_ | refine lk_dat ?_ | refine lk_loc (by simp) ?_)) | exact Wk.in ⟨rfl, rfl, hi⟩ (wkM_cons (.inr (congrArg MO.lst (mrsL_succ_n ho))) wkM_nil) (by repeat (first | exact wkD_nil | refine wkD_cons (by first | exact .inl rfl | exact .inr rfl) ?_)) (by rw [hps]; simp) (by repeat (first | exact lk_nil | refine lk_none ?_ | refine lk_dat ?_ | refine lk_loc (by simp) ?_))
        · intro hc3
          have hx : o = none := by cases o with | none => rfl | some x => cases hc3
          subst hx
          refine wss_cons ?_
          refine ws_set 8 sc_mark_ranges.nd rfl (by first | exact Or.inl rfl | exact Or.inr rfl) ?_
          apply we_ev
          · repeat (first | exact lk_nil | refine lk_none ?_ | refine lk_dat ?_ | refine lk_loc (by simp) ?_)
          · apply ev_in
            refine we_lam3 (pb := (fun m => .bl (lowT s c.toNat ((i : Int)).toNat w m))) (st := s_first_of) (k := 4) d_first_of.fn d_first_of.gl d_first_of.bd sc_first_of (show LamP ["seen", "drop", "wished", "found", "least", "most", "judge", "mark", "low", "high"] (defScope s_mark_ranges) _ "one" from lamP_by (by decide +kernel)) hTB (by rw [← hcode]; exact hcdv.symm) hmT hu rfl (fun _ _ _ _ _ _ => rfl) (hr.mono (by omega)) (fun _ => rfl) (fun fl c1 A1 outer1 s2 H2 E1 Cl m hrl hpl => ?_) (fun fl cdv1 s1 H1 E1 C1 hr1 hps1 hclo => walk_first_of T hr1 hps1 hclo 0 1000 rfl (by decide)) ?_
            · have hr := hrl
              refine we_norm (δ' := [_, _, _, _, _, _, _, _, _, _, _]) rfl ?_
              have hrep := replO_len s (some m) (j := ((i : Int)).toNat) (by rw [Int.toNat_natCast]; exact hi)
              apply we_ev
              · repeat (first | exact lk_nil | refine lk_none ?_ | refine lk_dat ?_ | refine lk_loc (by simp) ?_)
              · apply ev_in
                refine we_ge ?_
                apply we_ev
                · repeat (first | exact lk_nil | refine lk_none ?_ | refine lk_dat ?_ | refine lk_loc (by simp) ?_)
                · apply ev_in
                  refine we_ix ?_
                  apply we_ev
                  · repeat (first | exact lk_nil | refine lk_none ?_ | refine lk_dat ?_ | refine lk_loc (by simp) ?_)
                  · apply ev_in
                    refine we_def h_ends (hr.mono (by omega)) takesF ?_
                    refine wa_cons ?_
                    apply we_ev
                    · repeat (first | exact lk_nil | refine lk_none ?_ | refine lk_dat ?_ | refine lk_loc (by simp) ?_)
                    · apply ev_in
                      refine we_def h_placed (hr.mono (by omega)) takesF ?_
                      refine wa_cons ?_
                      refine we_name 0 (q := ?_)
                      refine wa_cons ?_
                      refine we_name 6 (q := ?_)
                      refine wa_cons ?_
                      refine we_name 10 (q := ?_)
                      refine wa_nil ?_
                      refine .inl ⟨_, _, rfl, ?_⟩
                      refine ⟨(_, _, _), rfl, rfl, ⟨by omega, by omega, by omega⟩, putR_dat ?_⟩ -- call placed(seen, judge, one)
                      exact ⟨rfl, (by repeat (first | exact wkM_refl | exact wkM_nil | exact wkM_app | refine wkM_cons (by first | exact .inl rfl | exact .inr rfl) ?_ | refine wkM_trans wkM_app ?_))⟩
                    refine wa_cons ?_
                    refine we_name 1 (q := ?_)
                    refine wa_nil ?_
                    refine .inl ⟨_, _, rfl, ?_⟩
                    refine ⟨(_, _), rfl, rfl, ⟨by omega, by omega, by omega⟩, putR_dat ?_⟩ -- call ends(placed(seen, judge, one), drop)
                    exact ⟨rfl, (by repeat (first | exact wkM_refl | exact wkM_nil | exact wkM_app | refine wkM_cons (by first | exact .inl rfl | exact .inr rfl) ?_ | refine wkM_trans wkM_app ?_))⟩
                  refine we_int ?_
                  first | refine ⟨_, _, _, .inl rfl, rfl, rfl, ?_⟩ | refine ⟨_, _, _, .inr rfl, rfl, rfl, ?_⟩
                  exact ⟨rfl, (by repeat (first | exact wkM_refl | exact wkM_nil | exact wkM_app | refine wkM_cons (by first | exact .inl rfl | exact .inr rfl) ?_ | refine wkM_trans wkM_app ?_))⟩
                refine we_name 2 (q := ?_)
                refine ⟨_, _, rfl, rfl, ?_⟩
                exact ⟨rfl, (by repeat (first | exact wkM_refl | exact wkM_nil | exact wkM_app | refine wkM_cons (by first | exact .inl rfl | exact .inr rfl) ?_ | refine wkM_trans wkM_app ?_))⟩
              exact ⟨rfl, (by repeat (first | exact wkM_refl | exact wkM_nil | exact wkM_app | refine wkM_cons (by first | exact .inl rfl | exact .inr rfl) ?_ | refine wkM_trans wkM_app ?_))⟩
            refine we_int ?_
            refine ⟨rfl, ?_⟩
            refine we_gintE T.c_LARGEST ?_
            refine ⟨rfl, ?_⟩
            exact ⟨rfl, (by repeat (first | exact wkM_refl | exact wkM_nil | exact wkM_app | refine wkM_cons (by first | exact .inl rfl | exact .inr rfl) ?_ | refine wkM_trans wkM_app ?_))⟩
          refine wss_norm (δ' := [_, _, _, _, _, _, _, _, _, _]) (μ' := [_]) ?_ rfl rfl
          refine wss_cons ?_
          refine ws_set 9 sc_mark_ranges.nd rfl (by first | exact Or.inl rfl | exact Or.inr rfl) ?_
          apply we_ev
          · repeat (first | exact lk_nil | refine lk_none ?_ | refine lk_dat ?_ | refine lk_loc (by simp) ?_)
          · apply ev_in
            refine we_sub ?_
            apply we_ev
            · repeat (first | exact lk_nil | refine lk_none ?_ | refine lk_dat ?_ | refine lk_loc (by simp) ?_)
            · apply ev_in
              refine we_lam3 (pb := (fun m => .bl (highT s c.toNat ((i : Int)).toNat w m))) (st := s_first_of) (k := 4) d_first_of.fn d_first_of.gl d_first_of.bd sc_first_of (show LamP ["seen", "drop", "wished", "found", "least", "most", "judge", "mark", "low", "high"] (defScope s_mark_ranges) _ "one" from lamP_by (by decide +kernel)) hTB (by rw [← hcode]; exact hcdv.symm) hmT hu rfl (fun _ _ _ _ _ _ => rfl) (hr.mono (by omega)) (fun _ => rfl) (fun fl c1 A1 outer1 s2 H2 E1 Cl m hrl hpl => ?_) (fun fl cdv1 s1 H1 E1 C1 hr1 hps1 hclo => walk_first_of T hr1 hps1 hclo 0 1000 rfl (by decide)) ?_
              · have hr := hrl
                refine we_norm (δ' := [_, _, _, _, _, _, _, _, _, _, _]) rfl ?_
                have hrep := replO_len s (some m) (j := ((i : Int)).toNat) (by rw [Int.toNat_natCast]; exact hi)
                apply we_ev
                · repeat (first | exact lk_nil | refine lk_none ?_ | refine lk_dat ?_ | refine lk_loc (by simp) ?_)
                · apply ev_in
                  refine we_gt ?_
                  apply we_ev
                  · repeat (first | exact lk_nil | refine lk_none ?_ | refine lk_dat ?_ | refine lk_loc (by simp) ?_)
                  · apply ev_in
                    refine we_ix ?_
                    apply we_ev
                    · repeat (first | exact lk_nil | refine lk_none ?_ | refine lk_dat ?_ | refine lk_loc (by simp) ?_)
                    · apply ev_in
                      refine we_def h_ends (hr.mono (by omega)) takesF ?_
                      refine wa_cons ?_
                      apply we_ev
                      · repeat (first | exact lk_nil | refine lk_none ?_ | refine lk_dat ?_ | refine lk_loc (by simp) ?_)
                      · apply ev_in
                        refine we_def h_placed (hr.mono (by omega)) takesF ?_
                        refine wa_cons ?_
                        refine we_name 0 (q := ?_)
                        refine wa_cons ?_
                        refine we_name 6 (q := ?_)
                        refine wa_cons ?_
                        refine we_name 10 (q := ?_)
                        refine wa_nil ?_
                        refine .inl ⟨_, _, rfl, ?_⟩
                        refine ⟨(_, _, _), rfl, rfl, ⟨by omega, by omega, by omega⟩, putR_dat ?_⟩ -- call placed(seen, judge, one)
                        exact ⟨rfl, (by repeat (first | exact wkM_refl | exact wkM_nil | exact wkM_app | refine wkM_cons (by first | exact .inl rfl | exact .inr rfl) ?_ | refine wkM_trans wkM_app ?_))⟩
                      refine wa_cons ?_
                      refine we_name 1 (q := ?_)
                      refine wa_nil ?_
                      refine .inl ⟨_, _, rfl, ?_⟩
                      refine ⟨(_, _), rfl, rfl, ⟨by omega, by omega, by omega⟩, putR_dat ?_⟩ -- call ends(placed(seen, judge, one), drop)
                      exact ⟨rfl, (by repeat (first | exact wkM_refl | exact wkM_nil | exact wkM_app | refine wkM_cons (by first | exact .inl rfl | exact .inr rfl) ?_ | refine wkM_trans wkM_app ?_))⟩
                    refine we_int ?_
                    first | refine ⟨_, _, _, .inl rfl, rfl, rfl, ?_⟩ | refine ⟨_, _, _, .inr rfl, rfl, rfl, ?_⟩
                    exact ⟨rfl, (by repeat (first | exact wkM_refl | exact wkM_nil | exact wkM_app | refine wkM_cons (by first | exact .inl rfl | exact .inr rfl) ?_ | refine wkM_trans wkM_app ?_))⟩
                  refine we_name 2 (q := ?_)
                  refine ⟨_, _, rfl, rfl, ?_⟩
                  exact ⟨rfl, (by repeat (first | exact wkM_refl | exact wkM_nil | exact wkM_app | refine wkM_cons (by first | exact .inl rfl | exact .inr rfl) ?_ | refine wkM_trans wkM_app ?_))⟩
                exact ⟨rfl, (by repeat (first | exact wkM_refl | exact wkM_nil | exact wkM_app | refine wkM_cons (by first | exact .inl rfl | exact .inr rfl) ?_ | refine wkM_trans wkM_app ?_))⟩
              refine we_int ?_
              refine ⟨rfl, ?_⟩
              refine we_gintE T.c_LARGEST ?_
              refine ⟨rfl, ?_⟩
              exact ⟨rfl, (by repeat (first | exact wkM_refl | exact wkM_nil | exact wkM_app | refine wkM_cons (by first | exact .inl rfl | exact .inr rfl) ?_ | refine wkM_trans wkM_app ?_))⟩
            refine we_int ?_
            refine ⟨_, _, rfl, rfl, ?_⟩
            exact ⟨rfl, (by repeat (first | exact wkM_refl | exact wkM_nil | exact wkM_app | refine wkM_cons (by first | exact .inl rfl | exact .inr rfl) ?_ | refine wkM_trans wkM_app ?_))⟩
          refine wss_norm (δ' := [_, _, _, _, _, _, _, _, _, _]) (μ' := [_]) ?_ rfl rfl
          refine wss_one ?_
          refine ws_expr ?_
          refine we_append ?_
          refine we_name 3 (q := ?_)
          refine ⟨⟨_, rfl⟩, ?_⟩
          refine wa_cons ?_
          refine we_tup ?_
          refine wa_cons ?_
          refine we_name 8 (q := ?_)
          refine wa_cons ?_
          refine we_name 9 (q := ?_)
          refine wa_nil ?_
          refine ⟨_, _, rfl, by simp [sizeLine_eq], ?_⟩
          refine wa_nil ?_
          refine ⟨_, _, _, _, _, rfl, rfl, rfl, rfl, (by rw [sizeLine_eq, List.length_map]; unfold mrsL; rw [List.length_map, List.length_range]; omega), ?_⟩
          first | rw [app_int] | skip
          first | exact Wk.in ⟨rfl, rfl, hi⟩ (wkM_cons (.inr (congrArg MO.lst (mrsL_succ_s ho))) wkM_nil) (by repeat (first | exact wkD_nil | refine wkD_cons (by first | exact .inl rfl | exact .inr rfl) ?_)) (by rw [hps]; simp) (by repeat (first | exact lk_nil | refine lk_none ?_ | refine lk_dat ?_ | refine lk_loc (by simp) ?_)) | exact Wk.in ⟨rfl, rfl, hi⟩ (wkM_cons (.inr (congrArg MO.lst (mrsL_succ_n ho))) wkM_nil) (by repeat (first | exact wkD_nil | refine wkD_cons (by first | exact .inl rfl | exact .inr rfl) ?_)) (by rw [hps]; simp) (by repeat (first | exact lk_nil | refine lk_none ?_ | refine lk_dat ?_ | refine lk_loc (by simp) ?_))
      · rintro δ' μ' ⟨rfl, rfl, hil⟩
        rw [enumD_lenO]
        refine wss_one ?_
        refine ws_ret ?_
        refine we_name 3 (q := ?_)
        refine ret0l rfl ?_
        exact hp
theorem has_mark_rangesN {f : Addr} {fd : FuncData} (dd : Def K mg "mark_ranges" "mark_ranges" s_mark_ranges ["seen", "drop", "wished"] f fd) (T : Txt K mg) (h_need_seen : Has P w K mg base "need_seen" ["seen", "drop"] 3 pr_need_seen) (h_need_result : Has P w K mg base "need_result" ["wished"] 2 pr_need_result) (h_ends : Has P w K mg base "ends" ["seen", "drop"] 2 pr_ends) (h_placed : Has P w K mg base "placed" ["seen", "judge", "mark"] 1 pr_placed) : Has P w K mg base "mark_ranges" ["seen", "drop", "wished"] 9 pr_mark_rangesN := by
  refine dd.has (fn_ok 0 dd.fn sc_mark_ranges (fun os ds post ex h => ?_) (fun cdv A outer s H E C os ds post ex hr tk hps h => ?_)) prV_mono
  · obtain ⟨a, rfl, rfl, _⟩ := h; exact ⟨rfl, rfl⟩
  · obtain ⟨⟨s, c, w⟩, rfl, rfl, ⟨hs, ⟨h1, h2⟩, h3, h4, h5⟩, hp⟩ := h
    have hl := hs.2.1
    refine wss_cons ?_
    refine ws_expr ?_
    apply we_ev
    · repeat (first | exact lk_nil | refine lk_none ?_ | refine lk_dat ?_ | refine lk_loc (by simp) ?_)
    · apply ev_in
      refine we_def h_need_seen (hr.mono (by omega)) takesF ?_
      refine wa_cons ?_
      refine we_name 0 (q := ?_)
      refine wa_cons ?_
      refine we_name 1 (q := ?_)
      refine wa_nil ?_
      refine .inl ⟨_, _, rfl, ?_⟩
      refine ⟨(_, _), rfl, rfl, ⟨by assumption, by omega, by omega⟩, putR_dat ?_⟩ -- call need_seen(seen, drop)
      exact ⟨rfl, (by repeat (first | exact wkM_refl | exact wkM_nil | exact wkM_app | refine wkM_cons (by first | exact .inl rfl | exact .inr rfl) ?_ | refine wkM_trans wkM_app ?_))⟩
    refine wss_norm (δ' := [_, _, _, _, _, _, _, _, _, _]) (μ' := []) ?_ rfl rfl
    refine wss_cons ?_
    refine ws_expr ?_
    apply we_ev
    · repeat (first | exact lk_nil | refine lk_none ?_ | refine lk_dat ?_ | refine lk_loc (by simp) ?_)
    · apply ev_in
      refine we_def h_need_result (hr.mono (by omega)) takesF ?_
      refine wa_cons ?_
      refine we_name 2 (q := ?_)
      refine wa_nil ?_
      refine .inl ⟨_, _, rfl, ?_⟩
      refine ⟨_, rfl, rfl, ⟨by omega, by omega⟩, putR_dat ?_⟩ -- call need_result(wished)
      exact ⟨rfl, (by repeat (first | exact wkM_refl | exact wkM_nil | exact wkM_app | refine wkM_cons (by first | exact .inl rfl | exact .inr rfl) ?_ | refine wkM_trans wkM_app ?_))⟩
    refine wss_norm (δ' := [_, _, _, _, _, _, _, _, _, _]) (μ' := []) ?_ rfl rfl
    refine wss_cons ?_
    refine ws_asgT (tgt_pair 4 5) (pg_tup rfl (pgs_cons (pg_name (i := 4) sc_mark_ranges.nd rfl (by first | exact Or.inl rfl | exact Or.inr rfl)) (pgs_cons (pg_name (i := 5) sc_mark_ranges.nd rfl (by first | exact Or.inl rfl | exact Or.inr rfl)) pgs_nil))) ?_
    apply we_ev
    · repeat (first | exact lk_nil | refine lk_none ?_ | refine lk_dat ?_ | refine lk_loc (by simp) ?_)
    · apply ev_in
      refine we_def h_ends (hr.mono (by omega)) takesF ?_
      refine wa_cons ?_
      refine we_name 0 (q := ?_)
      refine wa_cons ?_
      refine we_name 1 (q := ?_)
      refine wa_nil ?_
      refine .inl ⟨_, _, rfl, ?_⟩
      refine ⟨(_, _), rfl, rfl, ⟨by omega, by omega, by omega⟩, putR_dat ?_⟩ -- call ends(seen, drop)
      exact ⟨rfl, (by repeat (first | exact wkM_refl | exact wkM_nil | exact wkM_app | refine wkM_cons (by first | exact .inl rfl | exact .inr rfl) ?_ | refine wkM_trans wkM_app ?_))⟩
    refine ⟨_, _, _, rfl, rfl, ?_⟩
    refine wss_norm (δ' := [_, _, _, _, _, _, _, _, _, _]) (μ' := []) ?_ rfl rfl
    refine wss_cons ?_
    apply ws_ifE
    · repeat (first | exact lk_nil | refine lk_none ?_ | refine lk_dat ?_ | refine lk_loc (by simp) ?_)
    · apply et_not
      apply et_lele
      · repeat (first | exact lk_nil | refine lk_none ?_ | refine lk_dat ?_ | refine lk_loc (by simp) ?_)
      · apply ev_in
        refine we_name 4 (q := ?_)
        exact ⟨rfl, (by repeat (first | exact wkM_refl | exact wkM_nil | exact wkM_app | refine wkM_cons (by first | exact .inl rfl | exact .inr rfl) ?_ | refine wkM_trans wkM_app ?_))⟩
      · apply ev_in
        refine we_name 2 (q := ?_)
        exact ⟨rfl, (by repeat (first | exact wkM_refl | exact wkM_nil | exact wkM_app | refine wkM_cons (by first | exact .inl rfl | exact .inr rfl) ?_ | refine wkM_trans wkM_app ?_))⟩
      · intro hc2
        apply ev_in
        refine we_name 5 (q := ?_)
        exact ⟨rfl, (by repeat (first | exact wkM_refl | exact wkM_nil | exact wkM_app | refine wkM_cons (by first | exact .inl rfl | exact .inr rfl) ?_ | refine wkM_trans wkM_app ?_))⟩
      · with_unfolding_all rfl
    · intro hc1
      refine wss_one ?_
      refine ws_ret ?_
      refine we_non ?_
      refine ret0 ?_
      exact hp
    · intro hc1
      rw [wish_out h5] at hc1
      cases hc1
theorem has_result_range {f : Addr} {fd : FuncData} (dd : Def K mg "result_range" "result_range" s_result_range ["seen", "drop"] f fd) (T : Txt K mg) (h_need_seen : Has P w K mg base "need_seen" ["seen", "drop"] 3 pr_need_seen) (h_ends : Has P w K mg base "ends" ["seen", "drop"] 2 pr_ends) : Has P w K mg base "result_range" ["seen", "drop"] 4 pr_result_range := by
  refine dd.has (fn_ok 0 dd.fn sc_result_range (fun os ds post ex h => ?_) (fun cdv A outer s H E C os ds post ex hr tk hps h => ?_)) prV_mono
  · obtain ⟨a, rfl, rfl, _⟩ := h; exact ⟨rfl, rfl⟩
  · obtain ⟨⟨s, c⟩, rfl, rfl, ⟨hs, h1, h2⟩, hp⟩ := h
    have hl := hs.2.1
    refine wss_cons ?_
    refine ws_expr ?_
    apply we_ev
    · repeat (first | exact lk_nil | refine lk_none ?_ | refine lk_dat ?_ | refine lk_loc (by simp) ?_)
    · apply ev_in
      refine we_def h_need_seen (hr.mono (by omega)) takesF ?_
      refine wa_cons ?_
      refine we_name 0 (q := ?_)
      refine wa_cons ?_
      refine we_name 1 (q := ?_)
      refine wa_nil ?_
      refine .inl ⟨_, _, rfl, ?_⟩
      refine ⟨(_, _), rfl, rfl, ⟨by assumption, by omega, by omega⟩, putR_dat ?_⟩ -- call need_seen(seen, drop)
      exact ⟨rfl, (by repeat (first | exact wkM_refl | exact wkM_nil | exact wkM_app | refine wkM_cons (by first | exact .inl rfl | exact .inr rfl) ?_ | refine wkM_trans wkM_app ?_))⟩
    refine wss_norm (δ' := [_, _]) (μ' := []) ?_ rfl rfl
    refine wss_one ?_
    refine ws_ret ?_
    apply we_ev
    · repeat (first | exact lk_nil | refine lk_none ?_ | refine lk_dat ?_ | refine lk_loc (by simp) ?_)
    · apply ev_in
      refine we_def h_ends (hr.mono (by omega)) takesF ?_
      refine wa_cons ?_
      refine we_name 0 (q := ?_)
      refine wa_cons ?_
      refine we_name 1 (q := ?_)
      refine wa_nil ?_
      refine .inl ⟨_, _, rfl, ?_⟩
      refine ⟨(_, _), rfl, rfl, ⟨by omega, by omega, by omega⟩, putR_dat ?_⟩ -- call ends(seen, drop)
      exact ⟨rfl, (by repeat (first | exact wkM_refl | exact wkM_nil | exact wkM_app | refine wkM_cons (by first | exact .inl rfl | exact .inr rfl) ?_ | refine wkM_trans wkM_app ?_))⟩
    refine ret0 ?_
    exact hp
theorem has_sure_from {f : Addr} {fd : FuncData} (dd : Def K mg "sure_from" "sure_from" s_sure_from ["marks", "drop", "wished"] f fd) (T : Txt K mg) (h_need_marks : Has P w K mg base "need_marks" ["marks", "drop"] 3 pr_need_marks) (h_need_result : Has P w K mg base "need_result" ["wished"] 2 pr_need_result) (h_ends : Has P w K mg base "ends" ["seen", "drop"] 2 pr_ends) : Has P w K mg base "sure_from" ["marks", "drop", "wished"] 4 pr_sure_from := by
  refine dd.has (fn_ok 0 dd.fn sc_sure_from (fun os ds post ex h => ?_) (fun cdv A outer s H E C os ds post ex hr tk hps h => ?_)) prV_mono
  · obtain ⟨a, rfl, rfl, _⟩ := h; exact ⟨rfl, rfl⟩
  · obtain ⟨⟨ns, c, w⟩, rfl, rfl, ⟨hn, ⟨h1, h2⟩, h3, h4⟩, hp⟩ := h
    have hl := hn.2.1
    have hlm : (ns.map D.int).length = ns.length := List.length_map ..
    refine wss_cons ?_
    refine ws_expr ?_
    apply we_ev
    · repeat (first | exact lk_nil | refine lk_none ?_ | refine lk_dat ?_ | refine lk_loc (by simp) ?_)
    · apply ev_in
      refine we_def h_need_marks (hr.mono (by omega)) takesF ?_
      refine wa_cons ?_
      refine we_name 0 (q := ?_)
      refine wa_cons ?_
      refine we_name 1 (q := ?_)
      refine wa_nil ?_
      refine .inl ⟨_, _, rfl, ?_⟩
      refine ⟨(_, _), rfl, rfl, ⟨by assumption, by omega, by omega⟩, putR_dat ?_⟩ -- call need_marks(marks, drop)
      exact ⟨rfl, (by repeat (first | exact wkM_refl | exact wkM_nil | exact wkM_app | refine wkM_cons (by first | exact .inl rfl | exact .inr rfl) ?_ | refine wkM_trans wkM_app ?_))⟩
    refine wss_norm (δ' := [_, _, _, _, _, _, _]) (μ' := []) ?_ rfl rfl
    refine wss_cons ?_
    refine ws_expr ?_
    apply we_ev
    · repeat (first | exact lk_nil | refine lk_none ?_ | refine lk_dat ?_ | refine lk_loc (by simp) ?_)
    · apply ev_in
      refine we_def h_need_result (hr.mono (by omega)) takesF ?_
      refine wa_cons ?_
      refine we_name 2 (q := ?_)
      refine wa_nil ?_
      refine .inl ⟨_, _, rfl, ?_⟩
      refine ⟨_, rfl, rfl, ⟨by omega, by omega⟩, putR_dat ?_⟩ -- call need_result(wished)
      exact ⟨rfl, (by repeat (first | exact wkM_refl | exact wkM_nil | exact wkM_app | refine wkM_cons (by first | exact .inl rfl | exact .inr rfl) ?_ | refine wkM_trans wkM_app ?_))⟩
    refine wss_norm (δ' := [_, _, _, _, _, _, _]) (μ' := []) ?_ rfl rfl
    refine wss_cons ?_
    refine ws_asgT (tgt_pair 3 4) (pg_tup rfl (pgs_cons (pg_name (i := 3) sc_sure_from.nd rfl (by first | exact Or.inl rfl | exact Or.inr rfl)) (pgs_cons (pg_name (i := 4) sc_sure_from.nd rfl (by first | exact Or.inl rfl | exact Or.inr rfl)) pgs_nil))) ?_
    refine we_tup ?_
    refine wa_cons ?_
    refine we_int ?_
    refine wa_cons ?_
    refine we_bl ?_
    refine wa_nil ?_
    refine ⟨_, _, rfl, by simp [sizeLine_eq], ?_⟩
    refine ⟨_, _, _, rfl, rfl, ?_⟩
    refine wss_norm (δ' := [_, _, _, _, _, _, _]) (μ' := []) ?_ rfl rfl
    refine wss_cons ?_
    refine ws_while (fun m δ μ => ∃ (k : Nat) (s : Bool), δ = [some (.d (tI ns)), some (.d (.int (c))), some (.d (.int (w))), some (.d (.int (((k : Nat) : Int)))), some (.d (.bl s)), none, none] ∧ μ = [] ∧ m = ns.length + 2 - k ∧ SureI ns c.toNat w k s) (ns.length + 2) (passes_of rfl) ⟨0, false, rfl, rfl, ⟨rfl, sure_start⟩⟩ ?_
    rintro m δ' μ' ⟨k, s, rfl, rfl, ⟨g0, g1⟩⟩
    apply wt_ev
    · repeat (first | exact lk_nil | refine lk_none ?_ | refine lk_dat ?_ | refine lk_loc (by simp) ?_)
    · apply et_not
      apply et_val
      · apply ev_in
        refine we_name 4 (q := ?_)
        exact ⟨rfl, (by repeat (first | exact wkM_refl | exact wkM_nil | exact wkM_app | refine wkM_cons (by first | exact .inl rfl | exact .inr rfl) ?_ | refine wkM_trans wkM_app ?_))⟩
      · intro _; rfl
    refine ⟨fun hc1 => ?_, fun hc1 => ?_⟩
    · have hs := sure_go hc1
      subst hs
      have hk := sure_le hn.1 (by omega) h2 g1
      refine wss_cons ?_
      refine ws_asgT (tgt_pair 5 6) (pg_tup rfl (pgs_cons (pg_name (i := 5) sc_sure_from.nd rfl (by first | exact Or.inl rfl | exact Or.inr rfl)) (pgs_cons (pg_name (i := 6) sc_sure_from.nd rfl (by first | exact Or.inl rfl | exact Or.inr rfl)) pgs_nil))) ?_
      apply we_ev
      · repeat (first | exact lk_nil | refine lk_none ?_ | refine lk_dat ?_ | refine lk_loc (by simp) ?_)
      · apply ev_in
        refine we_def h_ends (hr.mono (by omega)) takesF ?_
        refine wa_cons ?_
        refine we_add ?_
        refine we_slice ?_
        refine we_name 0 (q := ?_)
        refine wo_none ?_
        refine wo_some ?_
        refine we_name 3 (q := ?_)
        refine ⟨_, rfl, ?_⟩
        first | refine .inl ⟨_, rfl, ?_⟩ | refine .inr ⟨_, rfl, ?_⟩
        refine we_mul ?_
        refine we_tup ?_
        refine wa_cons ?_
        refine we_non ?_
        refine wa_nil ?_
        refine ⟨_, _, rfl, by simp [sizeLine_eq], ?_⟩
        refine we_sub ?_
        refine we_len T.b_len ?_
        refine wa_cons ?_
        refine we_name 0 (q := ?_)
        refine wa_nil ?_
        refine ⟨_, _, _, rfl, rfl, rfl, ?_⟩
        refine we_name 3 (q := ?_)
        refine ⟨_, _, rfl, rfl, ?_⟩
        refine .inr (.inr ⟨_, _, rfl, rfl, by omega, by omega, by simp, ?_⟩)
        first | refine .inl ⟨_, _, rfl, rfl, ?_⟩ | refine .inr (.inr (.inl ⟨_, _, rfl, rfl, (sure_cat ns k hl), ?_⟩)) | refine .inr (.inl ⟨_, _, rfl, rfl, (sure_cat ns k hl), ?_⟩)
        refine wa_cons ?_
        refine we_name 1 (q := ?_)
        refine wa_nil ?_
        refine .inl ⟨_, _, rfl, ?_⟩
        refine ⟨(part ns k, c), rfl, (by rw [sure_ds ns hk]), ⟨by rw [part_len ns hk]; omega, by omega, by rw [part_len ns hk]; omega⟩, putR_dat ?_⟩ -- call ends(marks[:many] + (None,) * (len(marks) - many), drop)
        exact ⟨rfl, (by repeat (first | exact wkM_refl | exact wkM_nil | exact wkM_app | refine wkM_cons (by first | exact .inl rfl | exact .inr rfl) ?_ | refine wkM_trans wkM_app ?_))⟩
      refine ⟨_, _, _, rfl, rfl, ?_⟩
      refine wss_norm (δ' := [_, _, _, _, _, _, _]) (μ' := []) ?_ rfl rfl
      refine wss_cons ?_
      refine ws_set 4 sc_sure_from.nd rfl (by first | exact Or.inl rfl | exact Or.inr rfl) ?_
      apply we_ev
      · repeat (first | exact lk_nil | refine lk_none ?_ | refine lk_dat ?_ | refine lk_loc (by simp) ?_)
      · apply ev_or
        · repeat (first | exact lk_nil | refine lk_none ?_ | refine lk_dat ?_ | refine lk_loc (by simp) ?_)
        · apply ev_in
          refine we_ge ?_
          refine we_name 5 (q := ?_)
          refine we_name 2 (q := ?_)
          refine ⟨_, _, rfl, rfl, ?_⟩
          exact ⟨rfl, (by repeat (first | exact wkM_refl | exact wkM_nil | exact wkM_app | refine wkM_cons (by first | exact .inl rfl | exact .inr rfl) ?_ | refine wkM_trans wkM_app ?_))⟩
        · intro hc2
          apply ev_one
          apply ev_in
          refine we_lt ?_
          refine we_name 6 (q := ?_)
          refine we_name 2 (q := ?_)
          refine ⟨_, _, rfl, rfl, ?_⟩
          exact ⟨rfl, (by repeat (first | exact wkM_refl | exact wkM_nil | exact wkM_app | refine wkM_cons (by first | exact .inl rfl | exact .inr rfl) ?_ | refine wkM_trans wkM_app ?_))⟩
      refine wss_norm (δ' := [_, _, _, _, _, _, _]) (μ' := []) ?_ rfl rfl
      refine wss_one ?_
      refine ws_augadd 3 sc_sure_from.nd rfl (by first | exact Or.inl rfl | exact Or.inr rfl) rfl ?_
      refine we_int ?_
      refine ⟨_, rfl, ?_⟩
      exact Wk.in ⟨ns.length + 1 - k, by omega, k + 1, _, rfl, rfl, by omega, sure_next hk g1⟩ (by repeat (first | exact wkM_refl | exact wkM_nil | exact wkM_app | refine wkM_cons (by first | exact .inl rfl | exact .inr rfl) ?_ | refine wkM_trans wkM_app ?_)) (by repeat (first | exact wkD_nil | refine wkD_cons (by first | exact .inl rfl | exact .inr rfl) ?_)) (by rw [hps]; simp) (by repeat (first | exact lk_nil | refine lk_none ?_ | refine lk_dat ?_ | refine lk_loc (by simp) ?_))
    · have hs := sure_stop hc1
      subst hs
      refine wss_one ?_
      refine ws_ret ?_
      refine we_sub ?_
      refine we_name 3 (q := ?_)
      refine we_int ?_
      refine ⟨_, _, rfl, rfl, ?_⟩
      refine ret0 ?_
      exact Eq.mp (congrArg (fun d => post (.dat d) []) (sure_ret g1)) hp
theorem has_need_works {f : Addr} {fd : FuncData} (dd : Def K mg "need_works" "need_works" s_need_works ["first", "second"] f fd) (T : Txt K mg) (h_is_marks : Has P w K mg base "is_marks" ["value"] 2 pr_is_marks) : Has P w K mg base "need_works" ["first", "second"] 3 pr_need_works := by
  refine dd.has (fn_ok 0 dd.fn sc_need_works (fun os ds post ex h => ?_) (fun cdv A outer s H E C os ds post ex hr tk hps h => ?_)) prV_mono
  · obtain ⟨a, rfl, rfl, _⟩ := h; exact ⟨rfl, rfl⟩
  · obtain ⟨⟨a, b⟩, rfl, rfl, ⟨ha, hb, hl⟩, hp⟩ := h
    refine wss_cons ?_
    apply ws_ifE
    · repeat (first | exact lk_nil | refine lk_none ?_ | refine lk_dat ?_ | refine lk_loc (by simp) ?_)
    · apply et_not
      apply et_val
      · apply ev_in
        refine we_def h_is_marks (hr.mono (by omega)) takesF ?_
        refine wa_cons ?_
        refine we_name 0 (q := ?_)
        refine wa_nil ?_
        refine .inl ⟨_, _, rfl, ?_⟩
        refine ⟨(tI a), rfl, rfl, okM_tI, putR_dat ?_⟩ -- call is_marks(first)
        exact ⟨rfl, (by repeat (first | exact wkM_refl | exact wkM_nil | exact wkM_app | refine wkM_cons (by first | exact .inl rfl | exact .inr rfl) ?_ | refine wkM_trans wkM_app ?_))⟩
      · intro _; rfl
    · intro hc1
      refine wss_one ?_
      exact ws_never (by rw [isMarksD_tI ha] at hc1; cases hc1)
    · intro hc1
      refine wss_nil ?_
      refine wss_one ?_
      apply ws_ifE
      · repeat (first | exact lk_nil | refine lk_none ?_ | refine lk_dat ?_ | refine lk_loc (by simp) ?_)
      · apply et_ww
        apply ew_or
        · repeat (first | exact lk_nil | refine lk_none ?_ | refine lk_dat ?_ | refine lk_loc (by simp) ?_)
        · apply et_not
          apply et_val
          · apply ev_in
            refine we_def h_is_marks (hr.mono (by omega)) takesF ?_
            refine wa_cons ?_
            refine we_name 1 (q := ?_)
            refine wa_nil ?_
            refine .inl ⟨_, _, rfl, ?_⟩
            refine ⟨(tI b), rfl, rfl, okM_tI, putR_dat ?_⟩ -- call is_marks(second)
            exact ⟨rfl, (by repeat (first | exact wkM_refl | exact wkM_nil | exact wkM_app | refine wkM_cons (by first | exact .inl rfl | exact .inr rfl) ?_ | refine wkM_trans wkM_app ?_))⟩
          · intro _; rfl
        · intro hc3
          apply ew_or1
          apply et_in
          refine wt_ne hr.units ?_
          refine we_len T.b_len ?_
          refine wa_cons ?_
          refine we_name 1 (q := ?_)
          refine wa_nil ?_
          refine ⟨_, _, _, rfl, rfl, rfl, ?_⟩
          refine we_len T.b_len ?_
          refine wa_cons ?_
          refine we_name 0 (q := ?_)
          refine wa_nil ?_
          refine ⟨_, _, _, rfl, rfl, rfl, ?_⟩
          refine ⟨_, _, rfl, rfl, (by with_reducible repeat (first | exact fit_int | exact fit_bl | exact fit_non | exact fit_nil | exact fit_all_int _ | refine fit_lst ?_ | refine fit_tup ?_ | refine fit_cons ?_ ?_ | exact fit_str (by decide))), (by with_reducible repeat (first | exact fit_int | exact fit_bl | exact fit_non | exact fit_nil | exact fit_all_int _ | refine fit_lst ?_ | refine fit_tup ?_ | refine fit_cons ?_ ?_ | exact fit_str (by decide))), ?_⟩
          exact ⟨_, rfl, rfl, (by repeat (first | exact wkM_refl | exact wkM_nil | exact wkM_app | refine wkM_cons (by first | exact .inl rfl | exact .inr rfl) ?_ | refine wkM_trans wkM_app ?_))⟩
      · intro hc2
        refine wss_one ?_
        exact ws_never (by rw [isMarksD_tI hb] at hc2; simp [eqD_int, hl] at hc2)
      · intro hc2
        refine wss_nil ?_
        refine ret0 ?_
        exact hp
theorem has_leads {f : Addr} {fd : FuncData} (dd : Def K mg "leads" "leads" s_leads ["first", "second"] f fd) (T : Txt K mg) (h_need_works : Has P w K mg base "need_works" ["first", "second"] 3 pr_need_works) (h_total : Has P w K mg base "total" ["marks", "drop"] 1 pr_total) : Has P w K mg base "leads" ["first", "second"] 4 pr_leads := by
  refine dd.has (fn_ok 0 dd.fn sc_leads (fun os ds post ex h => ?_) (fun cdv A outer s H E C os ds post ex hr tk hps h => ?_)) prV_mono
  · obtain ⟨a, rfl, rfl, _⟩ := h; exact ⟨rfl, rfl⟩
  · obtain ⟨⟨a, b⟩, rfl, rfl, ⟨ha, hb, hl⟩, hp⟩ := h
    have hl1 := ha.2.1
    refine wss_cons ?_
    refine ws_expr ?_
    apply we_ev
    · repeat (first | exact lk_nil | refine lk_none ?_ | refine lk_dat ?_ | refine lk_loc (by simp) ?_)
    · apply ev_in
      refine we_def h_need_works (hr.mono (by omega)) takesF ?_
      refine wa_cons ?_
      refine we_name 0 (q := ?_)
      refine wa_cons ?_
      refine we_name 1 (q := ?_)
      refine wa_nil ?_
      refine .inl ⟨_, _, rfl, ?_⟩
      refine ⟨(_, _), rfl, rfl, ⟨by assumption, by assumption, by omega⟩, putR_dat ?_⟩ -- call need_works(first, second)
      exact ⟨rfl, (by repeat (first | exact wkM_refl | exact wkM_nil | exact wkM_app | refine wkM_cons (by first | exact .inl rfl | exact .inr rfl) ?_ | refine wkM_trans wkM_app ?_))⟩
    refine wss_norm (δ' := [_, _, _]) (μ' := []) ?_ rfl rfl
    refine wss_one ?_
    refine ws_ret ?_
    refine we_lc0 (tgt_name 2) rfl sc_leads.nd (blkOk_by (own := [("drop", 2)]) (by first | rfl | decide +kernel)) (fun _ _ _ _ _ => pg_name (i := 2) sc_leads.nd rfl (Or.inl rfl)) (by decide) ?_
    refine wi_range1 T.b_range ?_
    refine wa_cons ?_
    refine we_fdiv ?_
    refine we_add ?_
    refine we_len T.b_len ?_
    refine wa_cons ?_
    refine we_name 0 (q := ?_)
    refine wa_nil ?_
    refine ⟨_, _, _, rfl, rfl, rfl, ?_⟩
    refine we_int ?_
    first | refine .inl ⟨_, _, rfl, rfl, ?_⟩ | refine .inr (.inr (.inl ⟨_, _, rfl, rfl, (by rw [sizeLine_eq]; simp; try omega), ?_⟩)) | refine .inr (.inl ⟨_, _, rfl, rfl, (by rw [sizeLine_eq]; simp; try omega), ?_⟩)
    refine we_int ?_
    refine ⟨_, _, rfl, rfl, ⟨by omega, by omega⟩, ?_⟩
    refine wa_nil ?_
    refine ⟨_, _, rfl, rfl, (by simp; omega), (by simp; omega), ?_⟩
    refine ⟨Nat, List.range ((a.length + 1) / 2), fun i => D.int i, fun i => D.int (tot a i - tot b i), ?_, ?_, fun x acc hx => ⟨_, rfl, fun s0 H0 Cc cl fp => ?_⟩, ?_⟩
    · exact (rngD_nat (by simp))
    · exact (by simp; omega)
    · refine we_norm (δ' := [_, _, _]) rfl ?_
      apply we_ev
      · repeat (first | exact lk_nil | refine lk_none ?_ | refine lk_dat ?_ | refine lk_loc (by simp) ?_)
      · apply ev_in
        refine we_sub ?_
        apply we_ev
        · repeat (first | exact lk_nil | refine lk_none ?_ | refine lk_dat ?_ | refine lk_loc (by simp) ?_)
        · apply ev_in
          refine we_def h_total (hr.mono (by omega)) takesF ?_
          refine wa_cons ?_
          refine we_name 0 (q := ?_)
          refine wa_cons ?_
          refine we_name 2 (q := ?_)
          refine wa_nil ?_
          refine .inl ⟨_, _, rfl, ?_⟩
          refine ⟨(tI a, a, (x : Int)), rfl, rfl, ⟨.inr rfl, by omega, by have := List.mem_range.mp hx; omega, by omega⟩, putR_dat ?_⟩ -- call total(first, drop)
          exact ⟨rfl, (by repeat (first | exact wkM_refl | exact wkM_nil | exact wkM_app | refine wkM_cons (by first | exact .inl rfl | exact .inr rfl) ?_ | refine wkM_trans wkM_app ?_))⟩
        apply we_ev
        · repeat (first | exact lk_nil | refine lk_none ?_ | refine lk_dat ?_ | refine lk_loc (by simp) ?_)
        · apply ev_in
          refine we_def h_total (hr.mono (by omega)) takesF ?_
          refine wa_cons ?_
          refine we_name 1 (q := ?_)
          refine wa_cons ?_
          refine we_name 2 (q := ?_)
          refine wa_nil ?_
          refine .inl ⟨_, _, rfl, ?_⟩
          refine ⟨(tI b, b, (x : Int)), rfl, rfl, ⟨.inr rfl, by omega, by have := List.mem_range.mp hx; omega, by omega⟩, putR_dat ?_⟩ -- call total(second, drop)
          exact ⟨rfl, (by repeat (first | exact wkM_refl | exact wkM_nil | exact wkM_app | refine wkM_cons (by first | exact .inl rfl | exact .inr rfl) ?_ | refine wkM_trans wkM_app ?_))⟩
        refine ⟨_, _, rfl, rfl, ?_⟩
        exact ⟨rfl, (by repeat (first | exact wkM_refl | exact wkM_nil | exact wkM_app | refine wkM_cons (by first | exact .inl rfl | exact .inr rfl) ?_ | refine wkM_trans wkM_app ?_))⟩
      exact ⟨_, rfl, (by repeat (first | exact wkM_refl | exact wkM_nil | exact wkM_app | refine wkM_cons (by first | exact .inl rfl | exact .inr rfl) ?_ | refine wkM_trans wkM_app ?_))⟩
    refine ret0l rfl ?_
    simpa only [leadsD, List.map_map, Function.comp_def] using hp
theorem has_turned_by {f : Addr} {fd : FuncData} (dd : Def K mg "turned_by" "turned_by" s_turned_by ["first", "second", "drop", "judge"] f fd) (T : Txt K mg) (h_total : Has P w K mg base "total" ["marks", "drop"] 1 pr_total) (h_replaced : Has P w K mg base "replaced" ["marks", "judge", "mark"] 1 pr_replaced) : Has P w K mg base "turned_by" ["first", "second", "drop", "judge"] 2 pr_turned_by := by
  refine dd.has (fn_ok 0 dd.fn sc_turned_by (fun os ds post ex h => ?_) (fun cdv A outer s H E C os ds post ex hr tk hps h => ?_)) prV_mono
  · obtain ⟨a, rfl, rfl, _⟩ := h; exact ⟨rfl, rfl⟩
  · obtain ⟨⟨a, b, c, j⟩, rfl, rfl, ⟨ha, hb, hl, ⟨h1, h2⟩, h3, h4⟩, hp⟩ := h
    have hl1 := ha.2.1
    have hl2 := repl_len a 0 (j := j.toNat) (by omega)
    have hl3 := repl_len b 1000 (j := j.toNat) (by omega)
    refine wss_cons ?_
    refine ws_set 4 sc_turned_by.nd rfl (by first | exact Or.inl rfl | exact Or.inr rfl) ?_
    apply we_ev
    · repeat (first | exact lk_nil | refine lk_none ?_ | refine lk_dat ?_ | refine lk_loc (by simp) ?_)
    · apply ev_in
      refine we_def h_total (hr.mono (by omega)) takesF ?_
      refine wa_cons ?_
      apply we_ev
      · repeat (first | exact lk_nil | refine lk_none ?_ | refine lk_dat ?_ | refine lk_loc (by simp) ?_)
      · apply ev_in
        refine we_def h_replaced (hr.mono (by omega)) takesF ?_
        refine wa_cons ?_
        refine we_name 1 (q := ?_)
        refine wa_cons ?_
        refine we_name 3 (q := ?_)
        refine wa_cons ?_
        refine we_gintE T.c_LARGEST ?_
        refine wa_nil ?_
        refine .inl ⟨_, _, rfl, ?_⟩
        refine ⟨(_, _, _), rfl, rfl, ⟨by omega, ⟨by omega, by omega⟩⟩, putR_dat ?_⟩ -- call replaced(second, judge, LARGEST)
        exact ⟨rfl, (by repeat (first | exact wkM_refl | exact wkM_nil | exact wkM_app | refine wkM_cons (by first | exact .inl rfl | exact .inr rfl) ?_ | refine wkM_trans wkM_app ?_))⟩
      refine wa_cons ?_
      refine we_name 2 (q := ?_)
      refine wa_nil ?_
      refine .inl ⟨_, _, rfl, ?_⟩
      refine ⟨(_, _, _), rfl, rfl, ⟨by first | exact .inr rfl | exact .inl rfl, by omega, by first | omega | (rw [repl_len _ _ (by omega)]; omega), by first | omega | (rw [repl_len _ _ (by omega)]; omega)⟩, putR_dat ?_⟩ -- call total(replaced(second, judge, LARGEST), drop)
      exact ⟨rfl, (by repeat (first | exact wkM_refl | exact wkM_nil | exact wkM_app | refine wkM_cons (by first | exact .inl rfl | exact .inr rfl) ?_ | refine wkM_trans wkM_app ?_))⟩
    refine wss_norm (δ' := [_, _, _, _, _]) (μ' := []) ?_ rfl rfl
    refine wss_one ?_
    refine ws_ret ?_
    apply we_ev
    · repeat (first | exact lk_nil | refine lk_none ?_ | refine lk_dat ?_ | refine lk_loc (by simp) ?_)
    · apply ev_in
      refine we_gt ?_
      refine we_name 4 (q := ?_)
      apply we_ev
      · repeat (first | exact lk_nil | refine lk_none ?_ | refine lk_dat ?_ | refine lk_loc (by simp) ?_)
      · apply ev_in
        refine we_def h_total (hr.mono (by omega)) takesF ?_
        refine wa_cons ?_
        apply we_ev
        · repeat (first | exact lk_nil | refine lk_none ?_ | refine lk_dat ?_ | refine lk_loc (by simp) ?_)
        · apply ev_in
          refine we_def h_replaced (hr.mono (by omega)) takesF ?_
          refine wa_cons ?_
          refine we_name 0 (q := ?_)
          refine wa_cons ?_
          refine we_name 3 (q := ?_)
          refine wa_cons ?_
          refine we_int ?_
          refine wa_nil ?_
          refine .inl ⟨_, _, rfl, ?_⟩
          refine ⟨(_, _, _), rfl, rfl, ⟨by omega, ⟨by omega, by omega⟩⟩, putR_dat ?_⟩ -- call replaced(first, judge, 0)
          exact ⟨rfl, (by repeat (first | exact wkM_refl | exact wkM_nil | exact wkM_app | refine wkM_cons (by first | exact .inl rfl | exact .inr rfl) ?_ | refine wkM_trans wkM_app ?_))⟩
        refine wa_cons ?_
        refine we_name 2 (q := ?_)
        refine wa_nil ?_
        refine .inl ⟨_, _, rfl, ?_⟩
        refine ⟨(_, _, _), rfl, rfl, ⟨by first | exact .inr rfl | exact .inl rfl, by omega, by first | omega | (rw [repl_len _ _ (by omega)]; omega), by first | omega | (rw [repl_len _ _ (by omega)]; omega)⟩, putR_dat ?_⟩ -- call total(replaced(first, judge, 0), drop)
        exact ⟨rfl, (by repeat (first | exact wkM_refl | exact wkM_nil | exact wkM_app | refine wkM_cons (by first | exact .inl rfl | exact .inr rfl) ?_ | refine wkM_trans wkM_app ?_))⟩
      refine ⟨_, _, rfl, rfl, ?_⟩
      exact ⟨rfl, (by repeat (first | exact wkM_refl | exact wkM_nil | exact wkM_app | refine wkM_cons (by first | exact .inl rfl | exact .inr rfl) ?_ | refine wkM_trans wkM_app ?_))⟩
    refine ret0 ?_
    exact hp
theorem has_turners {f : Addr} {fd : FuncData} (dd : Def K mg "turners" "turners" s_turners ["first", "second", "drop"] f fd) (T : Txt K mg) (h_need_works : Has P w K mg base "need_works" ["first", "second"] 3 pr_need_works) (h_need_drop : Has P w K mg base "need_drop" ["judges", "drop"] 2 pr_need_drop) (h_turned_by : Has P w K mg base "turned_by" ["first", "second", "drop", "judge"] 2 pr_turned_by) : Has P w K mg base "turners" ["first", "second", "drop"] 4 pr_turners := by
  refine dd.has (fn_ok 0 dd.fn sc_turners (fun os ds post ex h => ?_) (fun cdv A outer s H E C os ds post ex hr tk hps h => ?_)) prV_mono
  · obtain ⟨a, rfl, rfl, _⟩ := h; exact ⟨rfl, rfl⟩
  · obtain ⟨⟨a, b, c⟩, rfl, rfl, ⟨ha, hb, hl, h1, h2⟩, hp⟩ := h
    have hl1 := ha.2.1
    refine wss_cons ?_
    refine ws_expr ?_
    apply we_ev
    · repeat (first | exact lk_nil | refine lk_none ?_ | refine lk_dat ?_ | refine lk_loc (by simp) ?_)
    · apply ev_in
      refine we_def h_need_works (hr.mono (by omega)) takesF ?_
      refine wa_cons ?_
      refine we_name 0 (q := ?_)
      refine wa_cons ?_
      refine we_name 1 (q := ?_)
      refine wa_nil ?_
      refine .inl ⟨_, _, rfl, ?_⟩
      refine ⟨(_, _), rfl, rfl, ⟨by assumption, by assumption, by omega⟩, putR_dat ?_⟩ -- call need_works(first, second)
      exact ⟨rfl, (by repeat (first | exact wkM_refl | exact wkM_nil | exact wkM_app | refine wkM_cons (by first | exact .inl rfl | exact .inr rfl) ?_ | refine wkM_trans wkM_app ?_))⟩
    refine wss_norm (δ' := [_, _, _, _]) (μ' := []) ?_ rfl rfl
    refine wss_cons ?_
    refine ws_expr ?_
    apply we_ev
    · repeat (first | exact lk_nil | refine lk_none ?_ | refine lk_dat ?_ | refine lk_loc (by simp) ?_)
    · apply ev_in
      refine we_def h_need_drop (hr.mono (by omega)) takesF ?_
      refine wa_cons ?_
      refine we_len T.b_len ?_
      refine wa_cons ?_
      refine we_name 0 (q := ?_)
      refine wa_nil ?_
      refine ⟨_, _, _, rfl, rfl, rfl, ?_⟩
      refine wa_cons ?_
      refine we_name 2 (q := ?_)
      refine wa_nil ?_
      refine .inl ⟨_, _, rfl, ?_⟩
      refine ⟨(_, _), rfl, rfl, ⟨by omega, by first | omega | (rw [List.length_map]; omega)⟩, putR_dat ?_⟩ -- call need_drop(len(first), drop)
      exact ⟨rfl, (by repeat (first | exact wkM_refl | exact wkM_nil | exact wkM_app | refine wkM_cons (by first | exact .inl rfl | exact .inr rfl) ?_ | refine wkM_trans wkM_app ?_))⟩
    refine wss_norm (δ' := [_, _, _, _]) (μ' := []) ?_ rfl rfl
    refine wss_one ?_
    refine ws_ret ?_
    refine we_lcM (tgt_name 3) rfl sc_turners.nd (blkOk_by (own := [("judge", 3)]) (by first | rfl | decide +kernel)) (fun _ _ _ _ _ => pg_name (i := 3) sc_turners.nd rfl (Or.inl rfl)) (by decide) (by decide) ?_
    refine wi_range1 T.b_range ?_
    refine wa_cons ?_
    refine we_len T.b_len ?_
    refine wa_cons ?_
    refine we_name 0 (q := ?_)
    refine wa_nil ?_
    refine ⟨_, _, _, rfl, rfl, rfl, ?_⟩
    refine wa_nil ?_
    refine ⟨_, _, rfl, rfl, (by simp), (by simp; omega), ?_⟩
    refine ⟨Nat, List.range a.length, fun i => D.int i, (fun j => turnB a b c.toNat j), (fun i => D.int i), ?_, ?_, fun x acc hx => ⟨_, rfl, fun s0 H0 Cc cl fp => ?_⟩, ?_⟩
    · exact (rngD_nat (by simp))
    · exact (by simp; omega)
    · refine wt_norm (δ' := [_, _, _, _]) rfl ?_
      apply wt_ev
      · repeat (first | exact lk_nil | refine lk_none ?_ | refine lk_dat ?_ | refine lk_loc (by simp) ?_)
      · apply et_val
        · apply ev_in
          refine we_def h_turned_by (hr.mono (by omega)) takesF ?_
          refine wa_cons ?_
          refine we_name 0 (q := ?_)
          refine wa_cons ?_
          refine we_name 1 (q := ?_)
          refine wa_cons ?_
          refine we_name 2 (q := ?_)
          refine wa_cons ?_
          refine we_name 3 (q := ?_)
          refine wa_nil ?_
          refine .inl ⟨_, _, rfl, ?_⟩
          refine ⟨(_, _, _, _), rfl, rfl, ⟨ha, hb, hl, ⟨h1, h2⟩, by omega, by have := List.mem_range.mp hx; omega⟩, putR_dat ?_⟩ -- call turned_by(first, second, drop, judge)
          exact ⟨rfl, (by repeat (first | exact wkM_refl | exact wkM_nil | exact wkM_app | refine wkM_cons (by first | exact .inl rfl | exact .inr rfl) ?_ | refine wkM_trans wkM_app ?_))⟩
        · intro _; rfl
      refine ⟨rfl, (by repeat (first | exact wkM_refl | exact wkM_nil | exact wkM_app | refine wkM_cons (by first | exact .inl rfl | exact .inr rfl) ?_ | refine wkM_trans wkM_app ?_)), fun hp0 s0 H0 Cc cl fp => ?_⟩
      refine we_norm (δ' := [_, _, _, _]) rfl ?_
      refine we_name 3 (q := ?_)
      exact ⟨_, rfl, (by repeat (first | exact wkM_refl | exact wkM_nil | exact wkM_app | refine wkM_cons (by first | exact .inl rfl | exact .inr rfl) ?_ | refine wkM_trans wkM_app ?_))⟩
    refine ret0l rfl ?_
    simpa only [turnD, List.map_map, Function.comp_def] using hp
theorem has_moves {f : Addr} {fd : FuncData} (dd : Def K mg "moves" "moves" s_moves ["marks", "drop", "judge", "up"] f fd) (T : Txt K mg) (h_cuts : Has P w K mg base "cuts" ["marks", "drop", "judge"] 1 pr_cuts) : Has P w K mg base "moves" ["marks", "drop", "judge", "up"] 2 pr_moves := by
  refine dd.has (fn_ok 0 dd.fn sc_moves (fun os ds post ex h => ?_) (fun cdv A outer s H E C os ds post ex hr tk hps h => ?_)) prV_mono
  · obtain ⟨a, rfl, rfl, _⟩ := h; exact ⟨rfl, rfl⟩
  · obtain ⟨⟨ns, c, j, u⟩, rfl, rfl, ⟨hl, ⟨h1, h2⟩, h3, h4⟩, hp⟩ := h
    refine wss_cons ?_
    refine ws_asgT (tgt_pair 5 6) (pg_tup rfl (pgs_cons (pg_name (i := 5) sc_moves.nd rfl (by first | exact Or.inl rfl | exact Or.inr rfl)) (pgs_cons (pg_name (i := 6) sc_moves.nd rfl (by first | exact Or.inl rfl | exact Or.inr rfl)) pgs_nil))) ?_
    apply we_ev
    · repeat (first | exact lk_nil | refine lk_none ?_ | refine lk_dat ?_ | refine lk_loc (by simp) ?_)
    · apply ev_in
      refine we_def h_cuts (hr.mono (by omega)) takesF ?_
      refine wa_cons ?_
      refine we_name 0 (q := ?_)
      refine wa_cons ?_
      refine we_name 1 (q := ?_)
      refine wa_cons ?_
      refine we_name 2 (q := ?_)
      refine wa_nil ?_
      refine .inl ⟨_, _, rfl, ?_⟩
      refine ⟨(_, _, _), rfl, rfl, ⟨by omega, ⟨by omega, by omega⟩, ⟨by omega, by omega⟩⟩, putR_dat ?_⟩ -- call cuts(marks, drop, judge)
      exact ⟨rfl, (by repeat (first | exact wkM_refl | exact wkM_nil | exact wkM_app | refine wkM_cons (by first | exact .inl rfl | exact .inr rfl) ?_ | refine wkM_trans wkM_app ?_))⟩
    refine ⟨_, _, _, rfl, rfl, ?_⟩
    refine wss_norm (δ' := [_, _, _, _, _, _, _]) (μ' := []) ?_ rfl rfl
    refine wss_cons ?_
    refine ws_set 4 sc_moves.nd rfl (by first | exact Or.inl rfl | exact Or.inr rfl) ?_
    refine we_ix ?_
    refine we_name 0 (q := ?_)
    refine we_name 2 (q := ?_)
    first | refine ⟨_, _, _, .inl rfl, rfl, (by first | rfl | exact atI_ints _ (by omega) (by omega)), ?_⟩ | refine ⟨_, _, _, .inr rfl, rfl, (by first | rfl | exact atI_ints _ (by omega) (by omega)), ?_⟩
    refine wss_norm (δ' := [_, _, _, _, _, _, _]) (μ' := []) ?_ rfl rfl
    refine wss_cons ?_
    apply ws_ifE
    · repeat (first | exact lk_nil | refine lk_none ?_ | refine lk_dat ?_ | refine lk_loc (by simp) ?_)
    · apply et_val
      · apply ev_in
        refine we_name 3 (q := ?_)
        exact ⟨rfl, (by repeat (first | exact wkM_refl | exact wkM_nil | exact wkM_app | refine wkM_cons (by first | exact .inl rfl | exact .inr rfl) ?_ | refine wkM_trans wkM_app ?_))⟩
      · intro _; rfl
    · intro hc1
      have hu : u = true := hc1
      subst hu
      refine wss_one ?_
      refine ws_ret ?_
      refine we_tup ?_
      refine wa_cons ?_
      refine we_max rfl T.b_max ?_
      refine wa_cons ?_
      refine we_int ?_
      refine wa_cons ?_
      refine we_sub ?_
      refine we_name 5 (q := ?_)
      refine we_name 4 (q := ?_)
      refine ⟨_, _, rfl, rfl, ?_⟩
      refine wa_nil ?_
      refine .inr ⟨_, _, _, _, rfl, rfl, rfl, ?_⟩
      refine wa_cons ?_
      refine we_max rfl T.b_max ?_
      refine wa_cons ?_
      refine we_int ?_
      refine wa_cons ?_
      refine we_sub ?_
      refine we_name 6 (q := ?_)
      refine we_max rfl T.b_max ?_
      refine wa_cons ?_
      refine we_name 4 (q := ?_)
      refine wa_cons ?_
      refine we_name 5 (q := ?_)
      refine wa_nil ?_
      refine .inr ⟨_, _, _, _, rfl, rfl, rfl, ?_⟩
      refine ⟨_, _, rfl, rfl, ?_⟩
      refine wa_nil ?_
      refine .inr ⟨_, _, _, _, rfl, rfl, rfl, ?_⟩
      refine wa_nil ?_
      refine ⟨_, _, rfl, by simp [sizeLine_eq], ?_⟩
      refine ret0 ?_
      exact hp
    · intro hc1
      have hu : u = false := hc1
      subst hu
      refine wss_nil ?_
      refine wss_one ?_
      refine ws_ret ?_
      refine we_tup ?_
      refine wa_cons ?_
      refine we_max rfl T.b_max ?_
      refine wa_cons ?_
      refine we_int ?_
      refine wa_cons ?_
      refine we_sub ?_
      refine we_name 4 (q := ?_)
      refine we_name 6 (q := ?_)
      refine ⟨_, _, rfl, rfl, ?_⟩
      refine wa_nil ?_
      refine .inr ⟨_, _, _, _, rfl, rfl, rfl, ?_⟩
      refine wa_cons ?_
      refine we_max rfl T.b_max ?_
      refine wa_cons ?_
      refine we_int ?_
      refine wa_cons ?_
      refine we_sub ?_
      refine we_min rfl T.b_min ?_
      refine wa_cons ?_
      refine we_name 4 (q := ?_)
      refine wa_cons ?_
      refine we_name 6 (q := ?_)
      refine wa_nil ?_
      refine .inr ⟨_, _, _, _, rfl, rfl, rfl, ?_⟩
      refine we_name 5 (q := ?_)
      refine ⟨_, _, rfl, rfl, ?_⟩
      refine wa_nil ?_
      refine .inr ⟨_, _, _, _, rfl, rfl, rfl, ?_⟩
      refine wa_nil ?_
      refine ⟨_, _, rfl, by simp [sizeLine_eq], ?_⟩
      refine ret0 ?_
      exact hp
theorem has_least_change {f : Addr} {fd : FuncData} (dd : Def K mg "least_change" "least_change" s_least_change ["first", "second", "drop", "judge"] f fd) (T : Txt K mg) (h_need_works : Has P w K mg base "need_works" ["first", "second"] 3 pr_need_works) (h_need_drop : Has P w K mg base "need_drop" ["judges", "drop"] 2 pr_need_drop) (h_need_judge : Has P w K mg base "need_judge" ["marks", "judge"] 2 pr_need_judge) (h_moves : Has P w K mg base "moves" ["marks", "drop", "judge", "up"] 2 pr_moves) (h_total : Has P w K mg base "total" ["marks", "drop"] 1 pr_total) : Has P w K mg base "least_change" ["first", "second", "drop", "judge"] 4 pr_least_change := by
  refine dd.has (fn_ok 0 dd.fn sc_least_change (fun os ds post ex h => ?_) (fun cdv A outer s H E C os ds post ex hr tk hps h => ?_)) prV_mono
  · obtain ⟨a, rfl, rfl, _⟩ := h; exact ⟨rfl, rfl⟩
  · obtain ⟨⟨a, b, c, j⟩, rfl, rfl, ⟨ha, hb, hl, ⟨h1, h2⟩, h3, h4⟩, hp⟩ := h
    have hl1 := ha.2.1
    refine wss_cons ?_
    refine ws_expr ?_
    apply we_ev
    · repeat (first | exact lk_nil | refine lk_none ?_ | refine lk_dat ?_ | refine lk_loc (by simp) ?_)
    · apply ev_in
      refine we_def h_need_works (hr.mono (by omega)) takesF ?_
      refine wa_cons ?_
      refine we_name 0 (q := ?_)
      refine wa_cons ?_
      refine we_name 1 (q := ?_)
      refine wa_nil ?_
      refine .inl ⟨_, _, rfl, ?_⟩
      refine ⟨(_, _), rfl, rfl, ⟨by assumption, by assumption, by omega⟩, putR_dat ?_⟩ -- call need_works(first, second)
      exact ⟨rfl, (by repeat (first | exact wkM_refl | exact wkM_nil | exact wkM_app | refine wkM_cons (by first | exact .inl rfl | exact .inr rfl) ?_ | refine wkM_trans wkM_app ?_))⟩
    refine wss_norm (δ' := [_, _, _, _, _, _, _, _, _, _]) (μ' := []) ?_ rfl rfl
    refine wss_cons ?_
    refine ws_expr ?_
    apply we_ev
    · repeat (first | exact lk_nil | refine lk_none ?_ | refine lk_dat ?_ | refine lk_loc (by simp) ?_)
    · apply ev_in
      refine we_def h_need_drop (hr.mono (by omega)) takesF ?_
      refine wa_cons ?_
      refine we_len T.b_len ?_
      refine wa_cons ?_
      refine we_name 0 (q := ?_)
      refine wa_nil ?_
      refine ⟨_, _, _, rfl, rfl, rfl, ?_⟩
      refine wa_cons ?_
      refine we_name 2 (q := ?_)
      refine wa_nil ?_
      refine .inl ⟨_, _, rfl, ?_⟩
      refine ⟨(_, _), rfl, rfl, ⟨by omega, by first | omega | (rw [List.length_map]; omega)⟩, putR_dat ?_⟩ -- call need_drop(len(first), drop)
      exact ⟨rfl, (by repeat (first | exact wkM_refl | exact wkM_nil | exact wkM_app | refine wkM_cons (by first | exact .inl rfl | exact .inr rfl) ?_ | refine wkM_trans wkM_app ?_))⟩
    refine wss_norm (δ' := [_, _, _, _, _, _, _, _, _, _]) (μ' := []) ?_ rfl rfl
    refine wss_cons ?_
    refine ws_expr ?_
    apply we_ev
    · repeat (first | exact lk_nil | refine lk_none ?_ | refine lk_dat ?_ | refine lk_loc (by simp) ?_)
    · apply ev_in
      refine we_def h_need_judge (hr.mono (by omega)) takesF ?_
      refine wa_cons ?_
      refine we_name 0 (q := ?_)
      refine wa_cons ?_
      refine we_name 3 (q := ?_)
      refine wa_nil ?_
      refine .inl ⟨_, _, rfl, ?_⟩
      refine ⟨(_, _), rfl, rfl, ⟨by omega, by omega⟩, putR_dat ?_⟩ -- call need_judge(first, judge)
      exact ⟨rfl, (by repeat (first | exact wkM_refl | exact wkM_nil | exact wkM_app | refine wkM_cons (by first | exact .inl rfl | exact .inr rfl) ?_ | refine wkM_trans wkM_app ?_))⟩
    refine wss_norm (δ' := [_, _, _, _, _, _, _, _, _, _]) (μ' := []) ?_ rfl rfl
    refine wss_cons ?_
    refine ws_set 4 sc_least_change.nd rfl (by first | exact Or.inl rfl | exact Or.inr rfl) ?_
    apply we_ev
    · repeat (first | exact lk_nil | refine lk_none ?_ | refine lk_dat ?_ | refine lk_loc (by simp) ?_)
    · apply ev_in
      refine we_add ?_
      apply we_ev
      · repeat (first | exact lk_nil | refine lk_none ?_ | refine lk_dat ?_ | refine lk_loc (by simp) ?_)
      · apply ev_in
        refine we_sub ?_
        apply we_ev
        · repeat (first | exact lk_nil | refine lk_none ?_ | refine lk_dat ?_ | refine lk_loc (by simp) ?_)
        · apply ev_in
          refine we_def h_total (hr.mono (by omega)) takesF ?_
          refine wa_cons ?_
          refine we_name 0 (q := ?_)
          refine wa_cons ?_
          refine we_name 2 (q := ?_)
          refine wa_nil ?_
          refine .inl ⟨_, _, rfl, ?_⟩
          refine ⟨(_, _, _), rfl, rfl, ⟨by first | exact .inr rfl | exact .inl rfl, by omega, by first | omega | (rw [repl_len _ _ (by omega)]; omega), by first | omega | (rw [repl_len _ _ (by omega)]; omega)⟩, putR_dat ?_⟩ -- call total(first, drop)
          exact ⟨rfl, (by repeat (first | exact wkM_refl | exact wkM_nil | exact wkM_app | refine wkM_cons (by first | exact .inl rfl | exact .inr rfl) ?_ | refine wkM_trans wkM_app ?_))⟩
        apply we_ev
        · repeat (first | exact lk_nil | refine lk_none ?_ | refine lk_dat ?_ | refine lk_loc (by simp) ?_)
        · apply ev_in
          refine we_def h_total (hr.mono (by omega)) takesF ?_
          refine wa_cons ?_
          refine we_name 1 (q := ?_)
          refine wa_cons ?_
          refine we_name 2 (q := ?_)
          refine wa_nil ?_
          refine .inl ⟨_, _, rfl, ?_⟩
          refine ⟨(_, _, _), rfl, rfl, ⟨by first | exact .inr rfl | exact .inl rfl, by omega, by first | omega | (rw [repl_len _ _ (by omega)]; omega), by first | omega | (rw [repl_len _ _ (by omega)]; omega)⟩, putR_dat ?_⟩ -- call total(second, drop)
          exact ⟨rfl, (by repeat (first | exact wkM_refl | exact wkM_nil | exact wkM_app | refine wkM_cons (by first | exact .inl rfl | exact .inr rfl) ?_ | refine wkM_trans wkM_app ?_))⟩
        refine ⟨_, _, rfl, rfl, ?_⟩
        exact ⟨rfl, (by repeat (first | exact wkM_refl | exact wkM_nil | exact wkM_app | refine wkM_cons (by first | exact .inl rfl | exact .inr rfl) ?_ | refine wkM_trans wkM_app ?_))⟩
      refine we_int ?_
      first | refine .inl ⟨_, _, rfl, rfl, ?_⟩ | refine .inr (.inr (.inl ⟨_, _, rfl, rfl, (by rw [sizeLine_eq]; simp; try omega), ?_⟩)) | refine .inr (.inl ⟨_, _, rfl, rfl, (by rw [sizeLine_eq]; simp; try omega), ?_⟩)
      exact ⟨rfl, (by repeat (first | exact wkM_refl | exact wkM_nil | exact wkM_app | refine wkM_cons (by first | exact .inl rfl | exact .inr rfl) ?_ | refine wkM_trans wkM_app ?_))⟩
    refine wss_norm (δ' := [some (.d (tI a)), some (.d (tI b)), some (.d (.int (c))), some (.d (.int (j))), some (.d (.int (needD a b c.toNat))), none, none, none, none, none]) (μ' := []) ?_ rfl rfl
    refine wss_cons ?_
    apply ws_ifE
    · repeat (first | exact lk_nil | refine lk_none ?_ | refine lk_dat ?_ | refine lk_loc (by simp) ?_)
    · apply et_in
      refine wt_le ?_
      refine we_name 4 (q := ?_)
      refine we_int ?_
      refine ⟨_, _, rfl, rfl, ?_⟩
      exact ⟨_, rfl, rfl, (by repeat (first | exact wkM_refl | exact wkM_nil | exact wkM_app | refine wkM_cons (by first | exact .inl rfl | exact .inr rfl) ?_ | refine wkM_trans wkM_app ?_))⟩
    · intro hc1
      have hq := of_decide_eq_true hc1
      refine wss_one ?_
      refine ws_ret ?_
      refine we_int ?_
      refine ret0 ?_
      exact Eq.mp (congrArg (fun d => post (.dat d) []) ((by unfold lcD; rw [if_pos hq]; rfl : D.int 0 = oD (lcD a b c.toNat j.toNat))).symm) hp
    · intro hc1
      have hq := of_decide_eq_false hc1
      refine wss_nil ?_
      refine wss_cons ?_
      refine ws_asgT (tgt_pair 6 7) (pg_tup rfl (pgs_cons (pg_name (i := 6) sc_least_change.nd rfl (by first | exact Or.inl rfl | exact Or.inr rfl)) (pgs_cons (pg_name (i := 7) sc_least_change.nd rfl (by first | exact Or.inl rfl | exact Or.inr rfl)) pgs_nil))) ?_
      apply we_ev
      · repeat (first | exact lk_nil | refine lk_none ?_ | refine lk_dat ?_ | refine lk_loc (by simp) ?_)
      · apply ev_in
        refine we_def h_moves (hr.mono (by omega)) takesF ?_
        refine wa_cons ?_
        refine we_name 0 (q := ?_)
        refine wa_cons ?_
        refine we_name 2 (q := ?_)
        refine wa_cons ?_
        refine we_name 3 (q := ?_)
        refine wa_cons ?_
        refine we_bl ?_
        refine wa_nil ?_
        refine .inl ⟨_, _, rfl, ?_⟩
        refine ⟨(_, _, _, _), rfl, rfl, ⟨by omega, ⟨by omega, by omega⟩, ⟨by omega, by omega⟩⟩, putR_dat ?_⟩ -- call moves(first, drop, judge, False)
        exact ⟨rfl, (by repeat (first | exact wkM_refl | exact wkM_nil | exact wkM_app | refine wkM_cons (by first | exact .inl rfl | exact .inr rfl) ?_ | refine wkM_trans wkM_app ?_))⟩
      refine ⟨_, _, _, rfl, rfl, ?_⟩
      refine wss_norm (δ' := [_, _, _, _, _, _, _, _, _, _]) (μ' := []) ?_ rfl rfl
      refine wss_cons ?_
      refine ws_asgT (tgt_pair 8 9) (pg_tup rfl (pgs_cons (pg_name (i := 8) sc_least_change.nd rfl (by first | exact Or.inl rfl | exact Or.inr rfl)) (pgs_cons (pg_name (i := 9) sc_least_change.nd rfl (by first | exact Or.inl rfl | exact Or.inr rfl)) pgs_nil))) ?_
      apply we_ev
      · repeat (first | exact lk_nil | refine lk_none ?_ | refine lk_dat ?_ | refine lk_loc (by simp) ?_)
      · apply ev_in
        refine we_def h_moves (hr.mono (by omega)) takesF ?_
        refine wa_cons ?_
        refine we_name 1 (q := ?_)
        refine wa_cons ?_
        refine we_name 2 (q := ?_)
        refine wa_cons ?_
        refine we_name 3 (q := ?_)
        refine wa_cons ?_
        refine we_bl ?_
        refine wa_nil ?_
        refine .inl ⟨_, _, rfl, ?_⟩
        refine ⟨(_, _, _, _), rfl, rfl, ⟨by omega, ⟨by omega, by omega⟩, ⟨by omega, by omega⟩⟩, putR_dat ?_⟩ -- call moves(second, drop, judge, True)
        exact ⟨rfl, (by repeat (first | exact wkM_refl | exact wkM_nil | exact wkM_app | refine wkM_cons (by first | exact .inl rfl | exact .inr rfl) ?_ | refine wkM_trans wkM_app ?_))⟩
      refine ⟨_, _, _, rfl, rfl, ?_⟩
      refine wss_norm (δ' := [_, _, _, _, _, _, _, _, _, _]) (μ' := []) ?_ rfl rfl
      refine wss_cons ?_
      refine ws_set 5 sc_least_change.nd rfl (by first | exact Or.inl rfl | exact Or.inr rfl) ?_
      refine we_lst ?_
      refine wa_nil ?_
      refine ⟨_, _, rfl, by simp [sizeLine_eq], ?_⟩
      refine wss_norm (δ' := [_, _, _, _, _, _, _, _, _, _]) (μ' := [_]) ?_ rfl rfl
      refine wss_cut (sts1 := []) (fun δ μ => ∃ (L : List Int), δ = [some (.d (tI a)), some (.d (tI b)), some (.d (.int (c))), some (.d (.int (j))), some (.d (.int (needD a b c.toNat))), some (.loc 0), some (.d (.int ((movesD a c.toNat j.toNat false).1))), some (.d (.int ((movesD a c.toNat j.toNat false).2))), some (.d (.int ((movesD b c.toNat j.toNat true).1))), some (.d (.int ((movesD b c.toNat j.toNat true).2)))] ∧ μ = [MO.lst (L.map D.int)] ∧ L = l1 a b c.toNat j.toNat) ?_ ?_
      · apply ws_ifE
        · repeat (first | exact lk_nil | refine lk_none ?_ | refine lk_dat ?_ | refine lk_loc (by simp) ?_)
        · apply et_in
          refine wt_ge ?_
          refine we_name 7 (q := ?_)
          refine we_name 4 (q := ?_)
          refine ⟨_, _, rfl, rfl, ?_⟩
          exact ⟨_, rfl, rfl, (by repeat (first | exact wkM_refl | exact wkM_nil | exact wkM_app | refine wkM_cons (by first | exact .inl rfl | exact .inr rfl) ?_ | refine wkM_trans wkM_app ?_))⟩
        · intro hc2
          have hq := of_decide_eq_true hc2
          refine wss_one ?_
          refine ws_expr ?_
          refine we_append ?_
          refine we_name 5 (q := ?_)
          refine ⟨⟨_, rfl⟩, ?_⟩
          refine wa_cons ?_
          refine we_add ?_
          refine we_name 6 (q := ?_)
          refine we_name 4 (q := ?_)
          first | refine .inl ⟨_, _, rfl, rfl, ?_⟩ | refine .inr (.inr (.inl ⟨_, _, rfl, rfl, (by rw [sizeLine_eq]; simp; try omega), ?_⟩)) | refine .inr (.inl ⟨_, _, rfl, rfl, (by rw [sizeLine_eq]; simp; try omega), ?_⟩)
          refine wa_nil ?_
          refine ⟨_, _, _, _, _, rfl, rfl, rfl, rfl, (by rw [sizeLine_eq]; decide), ?_⟩
          first | rw [app_int] | skip
          exact Wk.in ⟨[(movesD a c.toNat j.toNat false).1 + needD a b c.toNat], rfl, rfl, by unfold l1; rw [if_pos hq]⟩ (by repeat (first | exact wkM_refl | exact wkM_nil | exact wkM_app | refine wkM_cons (by first | exact .inl rfl | exact .inr rfl) ?_ | refine wkM_trans wkM_app ?_)) (by repeat (first | exact wkD_nil | refine wkD_cons (by first | exact .inl rfl | exact .inr rfl) ?_)) (by rw [hps]; simp) (by repeat (first | exact lk_nil | refine lk_none ?_ | refine lk_dat ?_ | refine lk_loc (by simp) ?_))
        · intro hc2
          have hq := of_decide_eq_false hc2
          refine wss_nil ?_
          exact Wk.in ⟨[], rfl, rfl, by unfold l1; rw [if_neg hq]⟩ (by repeat (first | exact wkM_refl | exact wkM_nil | exact wkM_app | refine wkM_cons (by first | exact .inl rfl | exact .inr rfl) ?_ | refine wkM_trans wkM_app ?_)) (by repeat (first | exact wkD_nil | refine wkD_cons (by first | exact .inl rfl | exact .inr rfl) ?_)) (by rw [hps]; simp) (by repeat (first | exact lk_nil | refine lk_none ?_ | refine lk_dat ?_ | refine lk_loc (by simp) ?_))
      rintro δ' μ' ⟨L, rfl, rfl, hL⟩
      subst hL
      refine wss_cut (sts1 := []) (fun δ μ => ∃ (L : List Int), δ = [some (.d (tI a)), some (.d (tI b)), some (.d (.int (c))), some (.d (.int (j))), some (.d (.int (needD a b c.toNat))), some (.loc 0), some (.d (.int ((movesD a c.toNat j.toNat false).1))), some (.d (.int ((movesD a c.toNat j.toNat false).2))), some (.d (.int ((movesD b c.toNat j.toNat true).1))), some (.d (.int ((movesD b c.toNat j.toNat true).2)))] ∧ μ = [MO.lst (L.map D.int)] ∧ L = l2 a b c.toNat j.toNat) ?_ ?_
      · apply ws_ifE
        · repeat (first | exact lk_nil | refine lk_none ?_ | refine lk_dat ?_ | refine lk_loc (by simp) ?_)
        · apply et_in
          refine wt_ge ?_
          refine we_name 9 (q := ?_)
          refine we_name 4 (q := ?_)
          refine ⟨_, _, rfl, rfl, ?_⟩
          exact ⟨_, rfl, rfl, (by repeat (first | exact wkM_refl | exact wkM_nil | exact wkM_app | refine wkM_cons (by first | exact .inl rfl | exact .inr rfl) ?_ | refine wkM_trans wkM_app ?_))⟩
        · intro hc3
          have hq := of_decide_eq_true hc3
          refine wss_one ?_
          refine ws_expr ?_
          refine we_append ?_
          refine we_name 5 (q := ?_)
          refine ⟨⟨_, rfl⟩, ?_⟩
          refine wa_cons ?_
          refine we_add ?_
          refine we_name 8 (q := ?_)
          refine we_name 4 (q := ?_)
          first | refine .inl ⟨_, _, rfl, rfl, ?_⟩ | refine .inr (.inr (.inl ⟨_, _, rfl, rfl, (by rw [sizeLine_eq]; simp; try omega), ?_⟩)) | refine .inr (.inl ⟨_, _, rfl, rfl, (by rw [sizeLine_eq]; simp; try omega), ?_⟩)
          refine wa_nil ?_
          refine ⟨_, _, _, _, _, rfl, rfl, rfl, rfl, (by rw [sizeLine_eq, List.length_map]; have := l1_len a b c.toNat j.toNat; omega), ?_⟩
          first | rw [app_int] | skip
          exact Wk.in ⟨l1 a b c.toNat j.toNat ++ [(movesD b c.toNat j.toNat true).1 + needD a b c.toNat], rfl, rfl, by unfold l2; rw [if_pos hq]⟩ (by repeat (first | exact wkM_refl | exact wkM_nil | exact wkM_app | refine wkM_cons (by first | exact .inl rfl | exact .inr rfl) ?_ | refine wkM_trans wkM_app ?_)) (by repeat (first | exact wkD_nil | refine wkD_cons (by first | exact .inl rfl | exact .inr rfl) ?_)) (by rw [hps]; simp) (by repeat (first | exact lk_nil | refine lk_none ?_ | refine lk_dat ?_ | refine lk_loc (by simp) ?_))
        · intro hc3
          have hq := of_decide_eq_false hc3
          refine wss_nil ?_
          exact Wk.in ⟨l1 a b c.toNat j.toNat, rfl, rfl, by unfold l2; rw [if_neg hq, List.append_nil]⟩ (by repeat (first | exact wkM_refl | exact wkM_nil | exact wkM_app | refine wkM_cons (by first | exact .inl rfl | exact .inr rfl) ?_ | refine wkM_trans wkM_app ?_)) (by repeat (first | exact wkD_nil | refine wkD_cons (by first | exact .inl rfl | exact .inr rfl) ?_)) (by rw [hps]; simp) (by repeat (first | exact lk_nil | refine lk_none ?_ | refine lk_dat ?_ | refine lk_loc (by simp) ?_))
      rintro δ' μ' ⟨L, rfl, rfl, hL⟩
      subst hL
      refine wss_cut (sts1 := []) (fun δ μ => ∃ (L : List Int), δ = [some (.d (tI a)), some (.d (tI b)), some (.d (.int (c))), some (.d (.int (j))), some (.d (.int (needD a b c.toNat))), some (.loc 0), some (.d (.int ((movesD a c.toNat j.toNat false).1))), some (.d (.int ((movesD a c.toNat j.toNat false).2))), some (.d (.int ((movesD b c.toNat j.toNat true).1))), some (.d (.int ((movesD b c.toNat j.toNat true).2)))] ∧ μ = [MO.lst (L.map D.int)] ∧ L = l3 a b c.toNat j.toNat) ?_ ?_
      · apply ws_ifE
        · repeat (first | exact lk_nil | refine lk_none ?_ | refine lk_dat ?_ | refine lk_loc (by simp) ?_)
        · apply et_in
          refine wt_ge ?_
          refine we_add ?_
          refine we_name 7 (q := ?_)
          refine we_name 9 (q := ?_)
          first | refine .inl ⟨_, _, rfl, rfl, ?_⟩ | refine .inr (.inr (.inl ⟨_, _, rfl, rfl, (by rw [sizeLine_eq]; simp; try omega), ?_⟩)) | refine .inr (.inl ⟨_, _, rfl, rfl, (by rw [sizeLine_eq]; simp; try omega), ?_⟩)
          refine we_name 4 (q := ?_)
          refine ⟨_, _, rfl, rfl, ?_⟩
          exact ⟨_, rfl, rfl, (by repeat (first | exact wkM_refl | exact wkM_nil | exact wkM_app | refine wkM_cons (by first | exact .inl rfl | exact .inr rfl) ?_ | refine wkM_trans wkM_app ?_))⟩
        · intro hc4
          have hq := of_decide_eq_true hc4
          refine wss_one ?_
          refine ws_expr ?_
          refine we_append ?_
          refine we_name 5 (q := ?_)
          refine ⟨⟨_, rfl⟩, ?_⟩
          refine wa_cons ?_
          refine we_add ?_
          refine we_add ?_
          refine we_name 6 (q := ?_)
          refine we_name 8 (q := ?_)
          first | refine .inl ⟨_, _, rfl, rfl, ?_⟩ | refine .inr (.inr (.inl ⟨_, _, rfl, rfl, (by rw [sizeLine_eq]; simp; try omega), ?_⟩)) | refine .inr (.inl ⟨_, _, rfl, rfl, (by rw [sizeLine_eq]; simp; try omega), ?_⟩)
          refine we_name 4 (q := ?_)
          first | refine .inl ⟨_, _, rfl, rfl, ?_⟩ | refine .inr (.inr (.inl ⟨_, _, rfl, rfl, (by rw [sizeLine_eq]; simp; try omega), ?_⟩)) | refine .inr (.inl ⟨_, _, rfl, rfl, (by rw [sizeLine_eq]; simp; try omega), ?_⟩)
          refine wa_nil ?_
          refine ⟨_, _, _, _, _, rfl, rfl, rfl, rfl, (by rw [sizeLine_eq, List.length_map]; have := l2_len a b c.toNat j.toNat; omega), ?_⟩
          first | rw [app_int] | skip
          exact Wk.in ⟨l2 a b c.toNat j.toNat ++ [(movesD a c.toNat j.toNat false).1 + (movesD b c.toNat j.toNat true).1 + needD a b c.toNat], rfl, rfl, by unfold l3; rw [if_pos hq]⟩ (by repeat (first | exact wkM_refl | exact wkM_nil | exact wkM_app | refine wkM_cons (by first | exact .inl rfl | exact .inr rfl) ?_ | refine wkM_trans wkM_app ?_)) (by repeat (first | exact wkD_nil | refine wkD_cons (by first | exact .inl rfl | exact .inr rfl) ?_)) (by rw [hps]; simp) (by repeat (first | exact lk_nil | refine lk_none ?_ | refine lk_dat ?_ | refine lk_loc (by simp) ?_))
        · intro hc4
          have hq := of_decide_eq_false hc4
          refine wss_nil ?_
          exact Wk.in ⟨l2 a b c.toNat j.toNat, rfl, rfl, by unfold l3; rw [if_neg hq, List.append_nil]⟩ (by repeat (first | exact wkM_refl | exact wkM_nil | exact wkM_app | refine wkM_cons (by first | exact .inl rfl | exact .inr rfl) ?_ | refine wkM_trans wkM_app ?_)) (by repeat (first | exact wkD_nil | refine wkD_cons (by first | exact .inl rfl | exact .inr rfl) ?_)) (by rw [hps]; simp) (by repeat (first | exact lk_nil | refine lk_none ?_ | refine lk_dat ?_ | refine lk_loc (by simp) ?_))
      rintro δ' μ' ⟨L, rfl, rfl, hL⟩
      subst hL
      refine wss_one ?_
      refine ws_ret ?_
      apply we_ev
      · repeat (first | exact lk_nil | refine lk_none ?_ | refine lk_dat ?_ | refine lk_loc (by simp) ?_)
      · apply (ev_if (x := D.int (minL (l3 a b c.toNat j.toNat))))
        · repeat (first | exact lk_nil | refine lk_none ?_ | refine lk_dat ?_ | refine lk_loc (by simp) ?_)
        · apply et_in
          refine wt_ne hr.units ?_
          refine we_name 5 (q := ?_)
          refine we_lst ?_
          refine wa_nil ?_
          refine ⟨_, _, rfl, by simp [sizeLine_eq], ?_⟩
          refine ⟨_, _, rfl, rfl, (by with_reducible repeat (first | exact fit_int | exact fit_bl | exact fit_non | exact fit_nil | exact fit_all_int _ | refine fit_lst ?_ | refine fit_tup ?_ | refine fit_cons ?_ ?_ | exact fit_str (by decide))), (by with_reducible repeat (first | exact fit_int | exact fit_bl | exact fit_non | exact fit_nil | exact fit_all_int _ | refine fit_lst ?_ | refine fit_tup ?_ | refine fit_cons ?_ ?_ | exact fit_str (by decide))), ?_⟩
          exact ⟨_, rfl, rfl, (by repeat (first | exact wkM_refl | exact wkM_nil | exact wkM_app | refine wkM_cons (by first | exact .inl rfl | exact .inr rfl) ?_ | refine wkM_trans wkM_app ?_))⟩
        · intro hc5
          apply ev_in
          refine we_min rfl T.b_min ?_
          refine wa_cons ?_
          refine we_name 5 (q := ?_)
          refine wa_nil ?_
          refine .inl ⟨_, (l3 a b c.toNat j.toNat), rfl, rfl, (List.length_pos_iff.mpr (ne_nil_of hc5)), fun m hm hle => ?_⟩
          exact ⟨(by rw [minL_eq hm hle]), (by repeat (first | exact wkM_refl | exact wkM_nil | exact wkM_app | refine wkM_cons (by first | exact .inl rfl | exact .inr rfl) ?_ | refine wkM_trans wkM_app ?_))⟩
        · intro hc5
          apply ev_in
          refine we_non ?_
          exact ⟨rfl, (by repeat (first | exact wkM_refl | exact wkM_nil | exact wkM_app | refine wkM_cons (by first | exact .inl rfl | exact .inr rfl) ?_ | refine wkM_trans wkM_app ?_))⟩
      refine ret0 ?_
      exact Eq.mp (congrArg (fun d => post (.dat d) []) (lc_ret hq).symm) hp
theorem has_lead {f : Addr} {fd : FuncData} (dd : Def K mg "lead" "lead" s_lead ["first", "second", "drop"] f fd) (T : Txt K mg) (h_need_works : Has P w K mg base "need_works" ["first", "second"] 3 pr_need_works) (h_need_drop : Has P w K mg base "need_drop" ["judges", "drop"] 2 pr_need_drop) (h_total : Has P w K mg base "total" ["marks", "drop"] 1 pr_total) : Has P w K mg base "lead" ["first", "second", "drop"] 4 pr_lead := by
  refine dd.has (fn_ok 0 dd.fn sc_lead (fun os ds post ex h => ?_) (fun cdv A outer s H E C os ds post ex hr tk hps h => ?_)) prV_mono
  · obtain ⟨a, rfl, rfl, _⟩ := h; exact ⟨rfl, rfl⟩
  · obtain ⟨⟨a, b, c⟩, rfl, rfl, ⟨ha, hb, hl, h1, h2⟩, hp⟩ := h
    have hl1 := ha.2.1
    refine wss_cons ?_
    refine ws_expr ?_
    apply we_ev
    · repeat (first | exact lk_nil | refine lk_none ?_ | refine lk_dat ?_ | refine lk_loc (by simp) ?_)
    · apply ev_in
      refine we_def h_need_works (hr.mono (by omega)) takesF ?_
      refine wa_cons ?_
      refine we_name 0 (q := ?_)
      refine wa_cons ?_
      refine we_name 1 (q := ?_)
      refine wa_nil ?_
      refine .inl ⟨_, _, rfl, ?_⟩
      refine ⟨(_, _), rfl, rfl, ⟨by assumption, by assumption, by omega⟩, putR_dat ?_⟩ -- call need_works(first, second)
      exact ⟨rfl, (by repeat (first | exact wkM_refl | exact wkM_nil | exact wkM_app | refine wkM_cons (by first | exact .inl rfl | exact .inr rfl) ?_ | refine wkM_trans wkM_app ?_))⟩
    refine wss_norm (δ' := [_, _, _]) (μ' := []) ?_ rfl rfl
    refine wss_cons ?_
    refine ws_expr ?_
    apply we_ev
    · repeat (first | exact lk_nil | refine lk_none ?_ | refine lk_dat ?_ | refine lk_loc (by simp) ?_)
    · apply ev_in
      refine we_def h_need_drop (hr.mono (by omega)) takesF ?_
      refine wa_cons ?_
      refine we_len T.b_len ?_
      refine wa_cons ?_
      refine we_name 0 (q := ?_)
      refine wa_nil ?_
      refine ⟨_, _, _, rfl, rfl, rfl, ?_⟩
      refine wa_cons ?_
      refine we_name 2 (q := ?_)
      refine wa_nil ?_
      refine .inl ⟨_, _, rfl, ?_⟩
      refine ⟨(_, _), rfl, rfl, ⟨by omega, by first | omega | (rw [List.length_map]; omega)⟩, putR_dat ?_⟩ -- call need_drop(len(first), drop)
      exact ⟨rfl, (by repeat (first | exact wkM_refl | exact wkM_nil | exact wkM_app | refine wkM_cons (by first | exact .inl rfl | exact .inr rfl) ?_ | refine wkM_trans wkM_app ?_))⟩
    refine wss_norm (δ' := [_, _, _]) (μ' := []) ?_ rfl rfl
    refine wss_one ?_
    refine ws_ret ?_
    apply we_ev
    · repeat (first | exact lk_nil | refine lk_none ?_ | refine lk_dat ?_ | refine lk_loc (by simp) ?_)
    · apply ev_in
      refine we_sub ?_
      apply we_ev
      · repeat (first | exact lk_nil | refine lk_none ?_ | refine lk_dat ?_ | refine lk_loc (by simp) ?_)
      · apply ev_in
        refine we_def h_total (hr.mono (by omega)) takesF ?_
        refine wa_cons ?_
        refine we_name 0 (q := ?_)
        refine wa_cons ?_
        refine we_name 2 (q := ?_)
        refine wa_nil ?_
        refine .inl ⟨_, _, rfl, ?_⟩
        refine ⟨(_, _, _), rfl, rfl, ⟨by first | exact .inr rfl | exact .inl rfl, by omega, by first | omega | (rw [repl_len _ _ (by omega)]; omega), by first | omega | (rw [repl_len _ _ (by omega)]; omega)⟩, putR_dat ?_⟩ -- call total(first, drop)
        exact ⟨rfl, (by repeat (first | exact wkM_refl | exact wkM_nil | exact wkM_app | refine wkM_cons (by first | exact .inl rfl | exact .inr rfl) ?_ | refine wkM_trans wkM_app ?_))⟩
      apply we_ev
      · repeat (first | exact lk_nil | refine lk_none ?_ | refine lk_dat ?_ | refine lk_loc (by simp) ?_)
      · apply ev_in
        refine we_def h_total (hr.mono (by omega)) takesF ?_
        refine wa_cons ?_
        refine we_name 1 (q := ?_)
        refine wa_cons ?_
        refine we_name 2 (q := ?_)
        refine wa_nil ?_
        refine .inl ⟨_, _, rfl, ?_⟩
        refine ⟨(_, _, _), rfl, rfl, ⟨by first | exact .inr rfl | exact .inl rfl, by omega, by first | omega | (rw [repl_len _ _ (by omega)]; omega), by first | omega | (rw [repl_len _ _ (by omega)]; omega)⟩, putR_dat ?_⟩ -- call total(second, drop)
        exact ⟨rfl, (by repeat (first | exact wkM_refl | exact wkM_nil | exact wkM_app | refine wkM_cons (by first | exact .inl rfl | exact .inr rfl) ?_ | refine wkM_trans wkM_app ?_))⟩
      refine ⟨_, _, rfl, rfl, ?_⟩
      exact ⟨rfl, (by repeat (first | exact wkM_refl | exact wkM_nil | exact wkM_app | refine wkM_cons (by first | exact .inl rfl | exact .inr rfl) ?_ | refine wkM_trans wkM_app ?_))⟩
    refine ret0 ?_
    exact hp
theorem has_law_rest_right {f : Addr} {fd : FuncData} (dd : Def K mg "_law_rest_right" "_law_rest_right" s_law_rest_right ["f"] f fd) (T : Txt K mg) (h_mark_ranges : Has P w K mg base "mark_ranges" ["seen", "drop", "wished"] 9 pr_mark_ranges) (h_result_range : Has P w K mg base "result_range" ["seen", "drop"] 4 pr_result_range) (h_sure_from : Has P w K mg base "sure_from" ["marks", "drop", "wished"] 4 pr_sure_from) (h_leads : Has P w K mg base "leads" ["first", "second"] 4 pr_leads) (h_turners : Has P w K mg base "turners" ["first", "second", "drop"] 4 pr_turners) (h_least_change : Has P w K mg base "least_change" ["first", "second", "drop", "judge"] 4 pr_least_change) (h_lead : Has P w K mg base "lead" ["first", "second", "drop"] 4 pr_lead) (h_mark_rangesN : Has P w K mg base "mark_ranges" ["seen", "drop", "wished"] 9 pr_mark_rangesN) : Has P w K mg base "_law_rest_right" ["f"] 12 pr_law_rest_right := by
  refine dd.has (fn_ok 0 dd.fn sc_law_rest_right (fun os ds post ex h => ?_) (fun cdv A outer s H E C os ds post ex hr tk hps h => ?_)) prV_mono
  · obtain ⟨a, rfl, rfl, _⟩ := h; exact ⟨rfl, rfl⟩
  · obtain ⟨f, rfl, rfl, ⟨h1, h2⟩, hp⟩ := h
    have hl5 : (S5 f).length = 5 := rfl
    have hv1 : (V1 f).length = 4 := rfl
    have hv2 : (V2 f).length = 4 := rfl
    have hS := seen_S5 h1 h2
    have hV1 := pan_V1 h1 h2
    have hV2 := pan_V2 h1 h2
    have hP3 := pan_M3 h1 h2
    obtain ⟨⟨e1, e2, e3⟩, ⟨e4, e5, e6⟩, ⟨e7, e8⟩, ⟨e9, e10, e11, e12, e13⟩, e14⟩ := rest_F h1 h2
    refine wss_cons ?_
    refine ws_set 1 sc_law_rest_right.nd rfl (by first | exact Or.inl rfl | exact Or.inr rfl) ?_
    refine we_tup ?_
    refine wa_cons ?_
    refine we_mul ?_
    refine we_int ?_
    refine we_name 0 (q := ?_)
    refine .inl ⟨_, _, rfl, rfl, (by first | exact .inl ⟨by omega, by omega⟩ | exact .inr ⟨by omega, by omega⟩), ?_⟩
    refine wa_cons ?_
    refine we_non ?_
    refine wa_cons ?_
    refine we_mul ?_
    refine we_int ?_
    refine we_name 0 (q := ?_)
    refine .inl ⟨_, _, rfl, rfl, (by first | exact .inl ⟨by omega, by omega⟩ | exact .inr ⟨by omega, by omega⟩), ?_⟩
    refine wa_cons ?_
    refine we_non ?_
    refine wa_cons ?_
    refine we_mul ?_
    refine we_int ?_
    refine we_name 0 (q := ?_)
    refine .inl ⟨_, _, rfl, rfl, (by first | exact .inl ⟨by omega, by omega⟩ | exact .inr ⟨by omega, by omega⟩), ?_⟩
    refine wa_nil ?_
    refine ⟨_, _, rfl, by simp [sizeLine_eq], ?_⟩
    refine wss_norm (δ' := [some (.d (.int (f))), some (.d (tO (S5 f))), none, none, none]) (μ' := []) ?_ rfl rfl
    refine wss_cons ?_
    apply ws_ifE
    · repeat (first | exact lk_nil | refine lk_none ?_ | refine lk_dat ?_ | refine lk_loc (by simp) ?_)
    · apply et_ww
      apply ew_or
      · repeat (first | exact lk_nil | refine lk_none ?_ | refine lk_dat ?_ | refine lk_loc (by simp) ?_)
      · apply et_in
        refine wt_ne hr.units ?_
        apply we_ev
        · repeat (first | exact lk_nil | refine lk_none ?_ | refine lk_dat ?_ | refine lk_loc (by simp) ?_)
        · apply ev_in
          refine we_def h_result_range (hr.mono (by omega)) takesF ?_
          refine wa_cons ?_
          refine we_name 1 (q := ?_)
          refine wa_cons ?_
          refine we_int ?_
          refine wa_nil ?_
          refine .inl ⟨_, _, rfl, ?_⟩
          refine ⟨(_, _), rfl, rfl, ⟨by assumption, by omega, by omega⟩, putR_dat ?_⟩ -- call result_range(seen, 2)
          exact ⟨rfl, (by repeat (first | exact wkM_refl | exact wkM_nil | exact wkM_app | refine wkM_cons (by first | exact .inl rfl | exact .inr rfl) ?_ | refine wkM_trans wkM_app ?_))⟩
        refine we_tup ?_
        refine wa_cons ?_
        refine we_mul ?_
        refine we_int ?_
        refine we_name 0 (q := ?_)
        refine .inl ⟨_, _, rfl, rfl, (by first | exact .inl ⟨by omega, by omega⟩ | exact .inr ⟨by omega, by omega⟩), ?_⟩
        refine wa_cons ?_
        refine we_mul ?_
        refine we_int ?_
        refine we_name 0 (q := ?_)
        refine .inl ⟨_, _, rfl, rfl, (by first | exact .inl ⟨by omega, by omega⟩ | exact .inr ⟨by omega, by omega⟩), ?_⟩
        refine wa_nil ?_
        refine ⟨_, _, rfl, by simp [sizeLine_eq], ?_⟩
        refine ⟨_, _, rfl, rfl, (by with_reducible repeat (first | exact fit_int | exact fit_bl | exact fit_non | exact fit_nil | exact fit_all_int _ | refine fit_lst ?_ | refine fit_tup ?_ | refine fit_cons ?_ ?_ | exact fit_str (by decide))), (by with_reducible repeat (first | exact fit_int | exact fit_bl | exact fit_non | exact fit_nil | exact fit_all_int _ | refine fit_lst ?_ | refine fit_tup ?_ | refine fit_cons ?_ ?_ | exact fit_str (by decide))), ?_⟩
        exact ⟨_, rfl, rfl, (by repeat (first | exact wkM_refl | exact wkM_nil | exact wkM_app | refine wkM_cons (by first | exact .inl rfl | exact .inr rfl) ?_ | refine wkM_trans wkM_app ?_))⟩
      · intro hc2
        apply ew_or1
        apply et_in
        refine wt_ne hr.units ?_
        apply we_ev
        · repeat (first | exact lk_nil | refine lk_none ?_ | refine lk_dat ?_ | refine lk_loc (by simp) ?_)
        · apply ev_in
          refine we_def h_result_range (hr.mono (by omega)) takesF ?_
          refine wa_cons ?_
          refine we_name 1 (q := ?_)
          refine wa_cons ?_
          refine we_int ?_
          refine wa_nil ?_
          refine .inl ⟨_, _, rfl, ?_⟩
          refine ⟨(_, _), rfl, rfl, ⟨by assumption, by omega, by omega⟩, putR_dat ?_⟩ -- call result_range(seen, 1)
          exact ⟨rfl, (by repeat (first | exact wkM_refl | exact wkM_nil | exact wkM_app | refine wkM_cons (by first | exact .inl rfl | exact .inr rfl) ?_ | refine wkM_trans wkM_app ?_))⟩
        refine we_tup ?_
        refine wa_cons ?_
        refine we_mul ?_
        refine we_int ?_
        refine we_name 0 (q := ?_)
        refine .inl ⟨_, _, rfl, rfl, (by first | exact .inl ⟨by omega, by omega⟩ | exact .inr ⟨by omega, by omega⟩), ?_⟩
        refine wa_cons ?_
        refine we_add ?_
        refine we_mul ?_
        refine we_int ?_
        refine we_name 0 (q := ?_)
        refine .inl ⟨_, _, rfl, rfl, (by first | exact .inl ⟨by omega, by omega⟩ | exact .inr ⟨by omega, by omega⟩), ?_⟩
        refine we_int ?_
        first | refine .inl ⟨_, _, rfl, rfl, ?_⟩ | refine .inr (.inr (.inl ⟨_, _, rfl, rfl, (by rw [sizeLine_eq]; simp; try omega), ?_⟩)) | refine .inr (.inl ⟨_, _, rfl, rfl, (by rw [sizeLine_eq]; simp; try omega), ?_⟩)
        refine wa_nil ?_
        refine ⟨_, _, rfl, by simp [sizeLine_eq], ?_⟩
        refine ⟨_, _, rfl, rfl, (by with_reducible repeat (first | exact fit_int | exact fit_bl | exact fit_non | exact fit_nil | exact fit_all_int _ | refine fit_lst ?_ | refine fit_tup ?_ | refine fit_cons ?_ ?_ | exact fit_str (by decide))), (by with_reducible repeat (first | exact fit_int | exact fit_bl | exact fit_non | exact fit_nil | exact fit_all_int _ | refine fit_lst ?_ | refine fit_tup ?_ | refine fit_cons ?_ ?_ | exact fit_str (by decide))), ?_⟩
        exact ⟨_, rfl, rfl, (by repeat (first | exact wkM_refl | exact wkM_nil | exact wkM_app | refine wkM_cons (by first | exact .inl rfl | exact .inr rfl) ?_ | refine wkM_trans wkM_app ?_))⟩
    · intro hc1
      exact nope hc1 (orF (neF (n := 4) (congrArg dPair e1) (by with_reducible repeat (first | exact fit_int | exact fit_bl | exact fit_non | exact fit_nil | exact fit_all_int _ | refine fit_lst ?_ | refine fit_tup ?_ | refine fit_cons ?_ ?_))) (neF (n := 4) (congrArg dPair e2) (by with_reducible repeat (first | exact fit_int | exact fit_bl | exact fit_non | exact fit_nil | exact fit_all_int _ | refine fit_lst ?_ | refine fit_tup ?_ | refine fit_cons ?_ ?_))))
    · intro hc1
      refine wss_nil ?_
      refine wss_cons ?_
      apply ws_ifE
      · repeat (first | exact lk_nil | refine lk_none ?_ | refine lk_dat ?_ | refine lk_loc (by simp) ?_)
      · apply et_in
        refine wt_ne hr.units ?_
        refine we_def h_mark_ranges (hr.mono (by omega)) takesF ?_
        refine wa_cons ?_
        refine we_name 1 (q := ?_)
        refine wa_cons ?_
        refine we_int ?_
        refine wa_cons ?_
        refine we_mul ?_
        refine we_int ?_
        refine we_name 0 (q := ?_)
        refine .inl ⟨_, _, rfl, rfl, (by first | exact .inl ⟨by omega, by omega⟩ | exact .inr ⟨by omega, by omega⟩), ?_⟩
        refine wa_nil ?_
        refine .inl ⟨_, _, rfl, ?_⟩
        refine ⟨(S5 f, 2, 4 * f), rfl, rfl, ⟨hS, ⟨by decide, by omega⟩, by omega, by omega, by rw [e1]; show 3 * f ≤ _; omega, by rw [e1]; show _ ≤ 8 * f; omega⟩, putR_new ?_⟩ -- call mark_ranges(seen, 2, 4 * f)
        refine we_lst ?_
        refine wa_cons ?_
        refine we_mul ?_
        refine we_tup ?_
        refine wa_cons ?_
        refine we_mul ?_
        refine we_int ?_
        refine we_name 0 (q := ?_)
        refine .inl ⟨_, _, rfl, rfl, (by first | exact .inl ⟨by omega, by omega⟩ | exact .inr ⟨by omega, by omega⟩), ?_⟩
        refine wa_nil ?_
        refine ⟨_, _, rfl, by simp [sizeLine_eq], ?_⟩
        refine we_int ?_
        refine .inr (.inr ⟨_, _, rfl, rfl, by omega, by omega, by simp, ?_⟩)
        refine wa_cons ?_
        refine we_tup ?_
        refine wa_cons ?_
        refine we_int ?_
        refine wa_cons ?_
        refine we_mul ?_
        refine we_int ?_
        refine we_name 0 (q := ?_)
        refine .inl ⟨_, _, rfl, rfl, (by first | exact .inl ⟨by omega, by omega⟩ | exact .inr ⟨by omega, by omega⟩), ?_⟩
        refine wa_nil ?_
        refine ⟨_, _, rfl, by simp [sizeLine_eq], ?_⟩
        refine wa_cons ?_
        refine we_mul ?_
        refine we_tup ?_
        refine wa_cons ?_
        refine we_mul ?_
        refine we_int ?_
        refine we_name 0 (q := ?_)
        refine .inl ⟨_, _, rfl, rfl, (by first | exact .inl ⟨by omega, by omega⟩ | exact .inr ⟨by omega, by omega⟩), ?_⟩
        refine wa_nil ?_
        refine ⟨_, _, rfl, by simp [sizeLine_eq], ?_⟩
        refine we_int ?_
        refine .inr (.inr ⟨_, _, rfl, rfl, by omega, by omega, by simp, ?_⟩)
        refine wa_cons ?_
        refine we_tup ?_
        refine wa_cons ?_
        refine we_int ?_
        refine wa_cons ?_
        refine we_mul ?_
        refine we_int ?_
        refine we_name 0 (q := ?_)
        refine .inl ⟨_, _, rfl, rfl, (by first | exact .inl ⟨by omega, by omega⟩ | exact .inr ⟨by omega, by omega⟩), ?_⟩
        refine wa_nil ?_
        refine ⟨_, _, rfl, by simp [sizeLine_eq], ?_⟩
        refine wa_cons ?_
        refine we_mul ?_
        refine we_tup ?_
        refine wa_cons ?_
        refine we_mul ?_
        refine we_int ?_
        refine we_name 0 (q := ?_)
        refine .inl ⟨_, _, rfl, rfl, (by first | exact .inl ⟨by omega, by omega⟩ | exact .inr ⟨by omega, by omega⟩), ?_⟩
        refine wa_nil ?_
        refine ⟨_, _, rfl, by simp [sizeLine_eq], ?_⟩
        refine we_int ?_
        refine .inr (.inr ⟨_, _, rfl, rfl, by omega, by omega, by simp, ?_⟩)
        refine wa_nil ?_
        refine ⟨_, _, rfl, by simp [sizeLine_eq], ?_⟩
        refine ⟨_, _, rfl, rfl, (fit_pairs _), (fit_pairs [(3 * f, 3 * f), (0, 4 * f), (5 * f, 5 * f), (0, 4 * f), (8 * f, 8 * f)]), ?_⟩
        exact ⟨_, rfl, rfl, (by repeat (first | exact wkM_refl | exact wkM_nil | exact wkM_app | refine wkM_cons (by first | exact .inl rfl | exact .inr rfl) ?_ | refine wkM_trans wkM_app ?_))⟩
      · intro hc3
        exact nope hc3 (neF (n := 4) (congrArg (fun l => D.lst (l.map fun p => dPair p)) e3) (fit_pairs [(3 * f, 3 * f), (0, 4 * f), (5 * f, 5 * f), (0, 4 * f), (8 * f, 8 * f)]))
      · intro hc3
        refine wss_nil ?_
        refine wss_cons ?_
        apply ws_ifE
        · repeat (first | exact lk_nil | refine lk_none ?_ | refine lk_dat ?_ | refine lk_loc (by simp) ?_)
        · apply et_in
          refine wt_isnot ?_
          refine we_def h_mark_rangesN (hr.mono (by omega)) takesF ?_
          refine wa_cons ?_
          refine we_name 1 (q := ?_)
          refine wa_cons ?_
          refine we_int ?_
          refine wa_cons ?_
          refine we_add ?_
          refine we_mul ?_
          refine we_int ?_
          refine we_name 0 (q := ?_)
          refine .inl ⟨_, _, rfl, rfl, (by first | exact .inl ⟨by omega, by omega⟩ | exact .inr ⟨by omega, by omega⟩), ?_⟩
          refine we_int ?_
          first | refine .inl ⟨_, _, rfl, rfl, ?_⟩ | refine .inr (.inr (.inl ⟨_, _, rfl, rfl, (by rw [sizeLine_eq]; simp; try omega), ?_⟩)) | refine .inr (.inl ⟨_, _, rfl, rfl, (by rw [sizeLine_eq]; simp; try omega), ?_⟩)
          refine wa_nil ?_
          refine .inl ⟨_, _, rfl, ?_⟩
          refine ⟨(S5 f, 2, 8 * f + 1), rfl, rfl, ⟨hS, ⟨by decide, by omega⟩, by omega, by omega, .inr (by rw [e1]; show 8 * f < _; omega)⟩, putR_dat ?_⟩ -- call mark_ranges(seen, 2, 8 * f + 1)
          refine we_non ?_
          refine ⟨_, rfl, rfl, rfl, ?_⟩
          exact ⟨_, rfl, rfl, (by repeat (first | exact wkM_refl | exact wkM_nil | exact wkM_app | refine wkM_cons (by first | exact .inl rfl | exact .inr rfl) ?_ | refine wkM_trans wkM_app ?_))⟩
        · intro hc4
          exact nope hc4 rfl
        · intro hc4
          refine wss_nil ?_
          refine wss_cons ?_
          apply ws_ifE
          · repeat (first | exact lk_nil | refine lk_none ?_ | refine lk_dat ?_ | refine lk_loc (by simp) ?_)
          · apply et_in
            refine wt_ne hr.units ?_
            refine we_lc0 (tgt_name 4) rfl sc_law_rest_right.nd (blkOk_by (own := [("wished", 4)]) (by first | rfl | decide +kernel)) (fun _ _ _ _ _ => pg_name (i := 4) sc_law_rest_right.nd rfl (Or.inl rfl)) (by decide) ?_
            refine wi_seq ?_
            refine we_tup ?_
            refine wa_cons ?_
            refine we_mul ?_
            refine we_int ?_
            refine we_name 0 (q := ?_)
            refine .inl ⟨_, _, rfl, rfl, (by first | exact .inl ⟨by omega, by omega⟩ | exact .inr ⟨by omega, by omega⟩), ?_⟩
            refine wa_cons ?_
            refine we_mul ?_
            refine we_int ?_
            refine we_name 0 (q := ?_)
            refine .inl ⟨_, _, rfl, rfl, (by first | exact .inl ⟨by omega, by omega⟩ | exact .inr ⟨by omega, by omega⟩), ?_⟩
            refine wa_cons ?_
            refine we_mul ?_
            refine we_int ?_
            refine we_name 0 (q := ?_)
            refine .inl ⟨_, _, rfl, rfl, (by first | exact .inl ⟨by omega, by omega⟩ | exact .inr ⟨by omega, by omega⟩), ?_⟩
            refine wa_nil ?_
            refine ⟨_, _, rfl, by simp [sizeLine_eq], ?_⟩
            first | refine ⟨_, _, .inl rfl, ?_⟩ | refine ⟨_, _, .inr rfl, ?_⟩
            refine ⟨Int, [3 * f, 4 * f, 9 * f], D.int, (fun w => D.int ((sureN (M3 f) (Int.toNat 1) w : Nat) : Int)), ?_, ?_, fun x acc hx => ⟨_, rfl, fun s0 H0 Cc cl fp => ?_⟩, ?_⟩
            · exact rfl
            · exact (by show 3 ≤ _; decide)
            · refine we_norm (δ' := [_, _, _, _, _]) rfl ?_
              apply we_ev
              · repeat (first | exact lk_nil | refine lk_none ?_ | refine lk_dat ?_ | refine lk_loc (by simp) ?_)
              · apply ev_in
                refine we_def h_sure_from (hr.mono (by omega)) takesF ?_
                refine wa_cons ?_
                refine we_tup ?_
                refine wa_cons ?_
                refine we_mul ?_
                refine we_int ?_
                refine we_name 0 (q := ?_)
                refine .inl ⟨_, _, rfl, rfl, (by first | exact .inl ⟨by omega, by omega⟩ | exact .inr ⟨by omega, by omega⟩), ?_⟩
                refine wa_cons ?_
                refine we_mul ?_
                refine we_int ?_
                refine we_name 0 (q := ?_)
                refine .inl ⟨_, _, rfl, rfl, (by first | exact .inl ⟨by omega, by omega⟩ | exact .inr ⟨by omega, by omega⟩), ?_⟩
                refine wa_cons ?_
                refine we_mul ?_
                refine we_int ?_
                refine we_name 0 (q := ?_)
                refine .inl ⟨_, _, rfl, rfl, (by first | exact .inl ⟨by omega, by omega⟩ | exact .inr ⟨by omega, by omega⟩), ?_⟩
                refine wa_nil ?_
                refine ⟨_, _, rfl, by simp [sizeLine_eq], ?_⟩
                refine wa_cons ?_
                refine we_int ?_
                refine wa_cons ?_
                refine we_name 4 (q := ?_)
                refine wa_nil ?_
                refine .inl ⟨_, _, rfl, ?_⟩
                refine ⟨(M3 f, 1, x), rfl, rfl, ⟨hP3, ⟨by decide, (by decide : (2 * 1 : Int) < ((3 : Nat) : Int))⟩, by simp at hx; omega, by simp at hx; omega⟩, putR_dat ?_⟩ -- call sure_from((3 * f, 8 * f, 5 * f), 1, wished)
                exact ⟨rfl, (by repeat (first | exact wkM_refl | exact wkM_nil | exact wkM_app | refine wkM_cons (by first | exact .inl rfl | exact .inr rfl) ?_ | refine wkM_trans wkM_app ?_))⟩
              exact ⟨_, rfl, (by repeat (first | exact wkM_refl | exact wkM_nil | exact wkM_app | refine wkM_cons (by first | exact .inl rfl | exact .inr rfl) ?_ | refine wkM_trans wkM_app ?_))⟩
            refine we_lst ?_
            refine wa_cons ?_
            refine we_int ?_
            refine wa_cons ?_
            refine we_int ?_
            refine wa_cons ?_
            refine we_int ?_
            refine wa_nil ?_
            refine ⟨_, _, rfl, by simp [sizeLine_eq], ?_⟩
            refine ⟨_, _, rfl, rfl, (fit_lst (fit_ints' _ _)), (by with_reducible repeat (first | exact fit_int | exact fit_bl | exact fit_non | exact fit_nil | exact fit_all_int _ | refine fit_lst ?_ | refine fit_tup ?_ | refine fit_cons ?_ ?_ | exact fit_str (by decide))), ?_⟩
            exact ⟨_, rfl, rfl, (by repeat (first | exact wkM_refl | exact wkM_nil | exact wkM_app | refine wkM_cons (by first | exact .inl rfl | exact .inr rfl) ?_ | refine wkM_trans wkM_app ?_))⟩
          · intro hc5
            exact nope hc5 (neF (n := 4) (by show D.lst [.int ((sureN (M3 f) (Int.toNat 1) (3 * f) : Nat) : Int), .int ((sureN (M3 f) (Int.toNat 1) (4 * f) : Nat) : Int), .int ((sureN (M3 f) (Int.toNat 1) (9 * f) : Nat) : Int)] = _; rw [e4, e5, e6]; rfl) (by with_reducible repeat (first | exact fit_int | exact fit_bl | exact fit_non | exact fit_nil | exact fit_all_int _ | refine fit_lst ?_ | refine fit_tup ?_ | refine fit_cons ?_ ?_)))
          · intro hc5
            refine wss_nil ?_
            refine wss_cons ?_
            refine ws_par 2 3 rfl sc_law_rest_right.nd rfl rfl (by decide) rfl rfl ?_ (by rfl)
            refine wa_cons ?_
            refine we_tup ?_
            refine wa_cons ?_
            refine we_mul ?_
            refine we_int ?_
            refine we_name 0 (q := ?_)
            refine .inl ⟨_, _, rfl, rfl, (by first | exact .inl ⟨by omega, by omega⟩ | exact .inr ⟨by omega, by omega⟩), ?_⟩
            refine wa_cons ?_
            refine we_mul ?_
            refine we_int ?_
            refine we_name 0 (q := ?_)
            refine .inl ⟨_, _, rfl, rfl, (by first | exact .inl ⟨by omega, by omega⟩ | exact .inr ⟨by omega, by omega⟩), ?_⟩
            refine wa_cons ?_
            refine we_mul ?_
            refine we_int ?_
            refine we_name 0 (q := ?_)
            refine .inl ⟨_, _, rfl, rfl, (by first | exact .inl ⟨by omega, by omega⟩ | exact .inr ⟨by omega, by omega⟩), ?_⟩
            refine wa_cons ?_
            refine we_mul ?_
            refine we_int ?_
            refine we_name 0 (q := ?_)
            refine .inl ⟨_, _, rfl, rfl, (by first | exact .inl ⟨by omega, by omega⟩ | exact .inr ⟨by omega, by omega⟩), ?_⟩
            refine wa_nil ?_
            refine ⟨_, _, rfl, by simp [sizeLine_eq], ?_⟩
            refine wa_cons ?_
            refine we_tup ?_
            refine wa_cons ?_
            refine we_mul ?_
            refine we_int ?_
            refine we_name 0 (q := ?_)
            refine .inl ⟨_, _, rfl, rfl, (by first | exact .inl ⟨by omega, by omega⟩ | exact .inr ⟨by omega, by omega⟩), ?_⟩
            refine wa_cons ?_
            refine we_mul ?_
            refine we_int ?_
            refine we_name 0 (q := ?_)
            refine .inl ⟨_, _, rfl, rfl, (by first | exact .inl ⟨by omega, by omega⟩ | exact .inr ⟨by omega, by omega⟩), ?_⟩
            refine wa_cons ?_
            refine we_mul ?_
            refine we_int ?_
            refine we_name 0 (q := ?_)
            refine .inl ⟨_, _, rfl, rfl, (by first | exact .inl ⟨by omega, by omega⟩ | exact .inr ⟨by omega, by omega⟩), ?_⟩
            refine wa_cons ?_
            refine we_mul ?_
            refine we_int ?_
            refine we_name 0 (q := ?_)
            refine .inl ⟨_, _, rfl, rfl, (by first | exact .inl ⟨by omega, by omega⟩ | exact .inr ⟨by omega, by omega⟩), ?_⟩
            refine wa_nil ?_
            refine ⟨_, _, rfl, by simp [sizeLine_eq], ?_⟩
            refine wa_nil ?_
            refine ⟨_, _, rfl, ?_⟩
            refine wss_norm (δ' := [some (.d (.int (f))), some (.d (tO (S5 f))), some (.d (tI (V1 f))), some (.d (tI (V2 f))), none]) (μ' := []) ?_ rfl rfl
            refine wss_cons ?_
            apply ws_ifE
            · repeat (first | exact lk_nil | refine lk_none ?_ | refine lk_dat ?_ | refine lk_loc (by simp) ?_)
            · apply et_ww
              apply ew_or
              · repeat (first | exact lk_nil | refine lk_none ?_ | refine lk_dat ?_ | refine lk_loc (by simp) ?_)
              · apply et_in
                refine wt_ne hr.units ?_
                refine we_def h_leads (hr.mono (by omega)) takesF ?_
                refine wa_cons ?_
                refine we_name 2 (q := ?_)
                refine wa_cons ?_
                refine we_name 3 (q := ?_)
                refine wa_nil ?_
                refine .inl ⟨_, _, rfl, ?_⟩
                refine ⟨(_, _), rfl, rfl, ⟨by assumption, by assumption, by omega⟩, putR_new ?_⟩ -- call leads(first, second)
                refine we_lst ?_
                refine wa_cons ?_
                refine we_mul ?_
                refine we_int ?_
                refine we_name 0 (q := ?_)
                refine .inl ⟨_, _, rfl, rfl, (by first | exact .inl ⟨by omega, by omega⟩ | exact .inr ⟨by omega, by omega⟩), ?_⟩
                refine wa_cons ?_
                refine we_mul ?_
                refine we_int ?_
                refine we_name 0 (q := ?_)
                refine .inl ⟨_, _, rfl, rfl, (by first | exact .inl ⟨by omega, by omega⟩ | exact .inr ⟨by omega, by omega⟩), ?_⟩
                refine wa_nil ?_
                refine ⟨_, _, rfl, by simp [sizeLine_eq], ?_⟩
                refine ⟨_, _, rfl, rfl, (by with_reducible repeat (first | exact fit_int | exact fit_bl | exact fit_non | exact fit_nil | exact fit_all_int _ | refine fit_lst ?_ | refine fit_tup ?_ | refine fit_cons ?_ ?_ | exact fit_str (by decide))), (by with_reducible repeat (first | exact fit_int | exact fit_bl | exact fit_non | exact fit_nil | exact fit_all_int _ | refine fit_lst ?_ | refine fit_tup ?_ | refine fit_cons ?_ ?_ | exact fit_str (by decide))), ?_⟩
                exact ⟨_, rfl, rfl, (by repeat (first | exact wkM_refl | exact wkM_nil | exact wkM_app | refine wkM_cons (by first | exact .inl rfl | exact .inr rfl) ?_ | refine wkM_trans wkM_app ?_))⟩
              · intro hc7
                apply ew_or1
                apply et_in
                refine wt_ne hr.units ?_
                refine we_def h_turners (hr.mono (by omega)) takesF ?_
                refine wa_cons ?_
                refine we_name 2 (q := ?_)
                refine wa_cons ?_
                refine we_name 3 (q := ?_)
                refine wa_cons ?_
                refine we_int ?_
                refine wa_nil ?_
                refine .inl ⟨_, _, rfl, ?_⟩
                refine ⟨(_, _, _), rfl, rfl, ⟨by assumption, by assumption, by omega, by omega, by omega⟩, putR_new ?_⟩ -- call turners(first, second, 1)
                refine we_lst ?_
                refine wa_cons ?_
                refine we_int ?_
                refine wa_cons ?_
                refine we_int ?_
                refine wa_cons ?_
                refine we_int ?_
                refine wa_nil ?_
                refine ⟨_, _, rfl, by simp [sizeLine_eq], ?_⟩
                refine ⟨_, _, rfl, rfl, (by with_reducible repeat (first | exact fit_int | exact fit_bl | exact fit_non | exact fit_nil | exact fit_all_int _ | refine fit_lst ?_ | refine fit_tup ?_ | refine fit_cons ?_ ?_ | exact fit_str (by decide))), (by with_reducible repeat (first | exact fit_int | exact fit_bl | exact fit_non | exact fit_nil | exact fit_all_int _ | refine fit_lst ?_ | refine fit_tup ?_ | refine fit_cons ?_ ?_ | exact fit_str (by decide))), ?_⟩
                exact ⟨_, rfl, rfl, (by repeat (first | exact wkM_refl | exact wkM_nil | exact wkM_app | refine wkM_cons (by first | exact .inl rfl | exact .inr rfl) ?_ | refine wkM_trans wkM_app ?_))⟩
            · intro hc6
              exact nope hc6 (orF (neF (n := 4) (congrArg (fun l => D.lst (l.map D.int)) e7) (by with_reducible repeat (first | exact fit_int | exact fit_bl | exact fit_non | exact fit_nil | exact fit_all_int _ | refine fit_lst ?_ | refine fit_tup ?_ | refine fit_cons ?_ ?_))) (neF (n := 4) (congrArg (fun l => D.lst (l.map D.int)) e8) (by with_reducible repeat (first | exact fit_int | exact fit_bl | exact fit_non | exact fit_nil | exact fit_all_int _ | refine fit_lst ?_ | refine fit_tup ?_ | refine fit_cons ?_ ?_))))
            · intro hc6
              refine wss_nil ?_
              refine wss_cons ?_
              apply ws_ifE
              · repeat (first | exact lk_nil | refine lk_none ?_ | refine lk_dat ?_ | refine lk_loc (by simp) ?_)
              · apply et_ww
                apply ew_or
                · repeat (first | exact lk_nil | refine lk_none ?_ | refine lk_dat ?_ | refine lk_loc (by simp) ?_)
                · apply et_in
                  refine wt_ne hr.units ?_
                  apply we_ev
                  · repeat (first | exact lk_nil | refine lk_none ?_ | refine lk_dat ?_ | refine lk_loc (by simp) ?_)
                  · apply ev_in
                    refine we_def h_least_change (hr.mono (by omega)) takesF ?_
                    refine wa_cons ?_
                    refine we_name 2 (q := ?_)
                    refine wa_cons ?_
                    refine we_name 3 (q := ?_)
                    refine wa_cons ?_
                    refine we_int ?_
                    refine wa_cons ?_
                    refine we_int ?_
                    refine wa_nil ?_
                    refine .inl ⟨_, _, rfl, ?_⟩
                    refine ⟨(_, _, _, _), rfl, rfl, ⟨by assumption, by assumption, by omega, ⟨by omega, by omega⟩, ⟨by omega, by omega⟩⟩, putR_dat ?_⟩ -- call least_change(first, second, 0, 3)
                    exact ⟨rfl, (by repeat (first | exact wkM_refl | exact wkM_nil | exact wkM_app | refine wkM_cons (by first | exact .inl rfl | exact .inr rfl) ?_ | refine wkM_trans wkM_app ?_))⟩
                  refine we_add ?_
                  refine we_mul ?_
                  refine we_int ?_
                  refine we_name 0 (q := ?_)
                  refine .inl ⟨_, _, rfl, rfl, (by first | exact .inl ⟨by omega, by omega⟩ | exact .inr ⟨by omega, by omega⟩), ?_⟩
                  refine we_int ?_
                  first | refine .inl ⟨_, _, rfl, rfl, ?_⟩ | refine .inr (.inr (.inl ⟨_, _, rfl, rfl, (by rw [sizeLine_eq]; simp; try omega), ?_⟩)) | refine .inr (.inl ⟨_, _, rfl, rfl, (by rw [sizeLine_eq]; simp; try omega), ?_⟩)
                  refine ⟨_, _, rfl, rfl, (oD_fit' _), (by with_reducible repeat (first | exact fit_int | exact fit_bl | exact fit_non | exact fit_nil | exact fit_all_int _ | refine fit_lst ?_ | refine fit_tup ?_ | refine fit_cons ?_ ?_ | exact fit_str (by decide))), ?_⟩
                  exact ⟨_, rfl, rfl, (by repeat (first | exact wkM_refl | exact wkM_nil | exact wkM_app | refine wkM_cons (by first | exact .inl rfl | exact .inr rfl) ?_ | refine wkM_trans wkM_app ?_))⟩
                · intro hc9
                  apply ew_or1
                  apply et_in
                  refine wt_isnot ?_
                  apply we_ev
                  · repeat (first | exact lk_nil | refine lk_none ?_ | refine lk_dat ?_ | refine lk_loc (by simp) ?_)
                  · apply ev_in
                    refine we_def h_least_change (hr.mono (by omega)) takesF ?_
                    refine wa_cons ?_
                    refine we_name 2 (q := ?_)
                    refine wa_cons ?_
                    refine we_name 3 (q := ?_)
                    refine wa_cons ?_
                    refine we_int ?_
                    refine wa_cons ?_
                    refine we_int ?_
                    refine wa_nil ?_
                    refine .inl ⟨_, _, rfl, ?_⟩
                    refine ⟨(_, _, _, _), rfl, rfl, ⟨by assumption, by assumption, by omega, ⟨by omega, by omega⟩, ⟨by omega, by omega⟩⟩, putR_dat ?_⟩ -- call least_change(first, second, 1, 3)
                    exact ⟨rfl, (by repeat (first | exact wkM_refl | exact wkM_nil | exact wkM_app | refine wkM_cons (by first | exact .inl rfl | exact .inr rfl) ?_ | refine wkM_trans wkM_app ?_))⟩
                  refine we_non ?_
                  refine ⟨_, rfl, rfl, (noRaw_oD _), ?_⟩
                  exact ⟨_, rfl, rfl, (by repeat (first | exact wkM_refl | exact wkM_nil | exact wkM_app | refine wkM_cons (by first | exact .inl rfl | exact .inr rfl) ?_ | refine wkM_trans wkM_app ?_))⟩
              · intro hc8
                exact nope hc8 (orF (neF (n := 4) (congrArg oD e9) (by with_reducible repeat (first | exact fit_int | exact fit_bl | exact fit_non | exact fit_nil | exact fit_all_int _ | refine fit_lst ?_ | refine fit_tup ?_ | refine fit_cons ?_ ?_))) (nonF e10))
              · intro hc8
                refine wss_nil ?_
                refine wss_cons ?_
                apply ws_ifE
                · repeat (first | exact lk_nil | refine lk_none ?_ | refine lk_dat ?_ | refine lk_loc (by simp) ?_)
                · apply et_ww
                  apply ew_or
                  · repeat (first | exact lk_nil | refine lk_none ?_ | refine lk_dat ?_ | refine lk_loc (by simp) ?_)
                  · apply et_in
                    refine wt_ne hr.units ?_
                    apply we_ev
                    · repeat (first | exact lk_nil | refine lk_none ?_ | refine lk_dat ?_ | refine lk_loc (by simp) ?_)
                    · apply ev_in
                      refine we_def h_least_change (hr.mono (by omega)) takesF ?_
                      refine wa_cons ?_
                      refine we_name 2 (q := ?_)
                      refine wa_cons ?_
                      refine we_name 3 (q := ?_)
                      refine wa_cons ?_
                      refine we_int ?_
                      refine wa_cons ?_
                      refine we_int ?_
                      refine wa_nil ?_
                      refine .inl ⟨_, _, rfl, ?_⟩
                      refine ⟨(_, _, _, _), rfl, rfl, ⟨by assumption, by assumption, by omega, ⟨by omega, by omega⟩, ⟨by omega, by omega⟩⟩, putR_dat ?_⟩ -- call least_change(first, second, 1, 0)
                      exact ⟨rfl, (by repeat (first | exact wkM_refl | exact wkM_nil | exact wkM_app | refine wkM_cons (by first | exact .inl rfl | exact .inr rfl) ?_ | refine wkM_trans wkM_app ?_))⟩
                    refine we_add ?_
                    refine we_mul ?_
                    refine we_int ?_
                    refine we_name 0 (q := ?_)
                    refine .inl ⟨_, _, rfl, rfl, (by first | exact .inl ⟨by omega, by omega⟩ | exact .inr ⟨by omega, by omega⟩), ?_⟩
                    refine we_int ?_
                    first | refine .inl ⟨_, _, rfl, rfl, ?_⟩ | refine .inr (.inr (.inl ⟨_, _, rfl, rfl, (by rw [sizeLine_eq]; simp; try omega), ?_⟩)) | refine .inr (.inl ⟨_, _, rfl, rfl, (by rw [sizeLine_eq]; simp; try omega), ?_⟩)
                    refine ⟨_, _, rfl, rfl, (oD_fit' _), (by with_reducible repeat (first | exact fit_int | exact fit_bl | exact fit_non | exact fit_nil | exact fit_all_int _ | refine fit_lst ?_ | refine fit_tup ?_ | refine fit_cons ?_ ?_ | exact fit_str (by decide))), ?_⟩
                    exact ⟨_, rfl, rfl, (by repeat (first | exact wkM_refl | exact wkM_nil | exact wkM_app | refine wkM_cons (by first | exact .inl rfl | exact .inr rfl) ?_ | refine wkM_trans wkM_app ?_))⟩
                  · intro hc11
                    apply ew_or1
                    apply et_in
                    refine wt_ne hr.units ?_
                    apply we_ev
                    · repeat (first | exact lk_nil | refine lk_none ?_ | refine lk_dat ?_ | refine lk_loc (by simp) ?_)
                    · apply ev_in
                      refine we_def h_least_change (hr.mono (by omega)) takesF ?_
                      refine wa_cons ?_
                      refine we_name 2 (q := ?_)
                      refine wa_cons ?_
                      refine we_name 3 (q := ?_)
                      refine wa_cons ?_
                      refine we_int ?_
                      refine wa_cons ?_
                      refine we_int ?_
                      refine wa_nil ?_
                      refine .inl ⟨_, _, rfl, ?_⟩
                      refine ⟨(_, _, _, _), rfl, rfl, ⟨by assumption, by assumption, by omega, ⟨by omega, by omega⟩, ⟨by omega, by omega⟩⟩, putR_dat ?_⟩ -- call least_change(first, second, 1, 1)
                      exact ⟨rfl, (by repeat (first | exact wkM_refl | exact wkM_nil | exact wkM_app | refine wkM_cons (by first | exact .inl rfl | exact .inr rfl) ?_ | refine wkM_trans wkM_app ?_))⟩
                    refine we_add ?_
                    refine we_mul ?_
                    refine we_int ?_
                    refine we_name 0 (q := ?_)
                    refine .inl ⟨_, _, rfl, rfl, (by first | exact .inl ⟨by omega, by omega⟩ | exact .inr ⟨by omega, by omega⟩), ?_⟩
                    refine we_int ?_
                    first | refine .inl ⟨_, _, rfl, rfl, ?_⟩ | refine .inr (.inr (.inl ⟨_, _, rfl, rfl, (by rw [sizeLine_eq]; simp; try omega), ?_⟩)) | refine .inr (.inl ⟨_, _, rfl, rfl, (by rw [sizeLine_eq]; simp; try omega), ?_⟩)
                    refine ⟨_, _, rfl, rfl, (oD_fit' _), (by with_reducible repeat (first | exact fit_int | exact fit_bl | exact fit_non | exact fit_nil | exact fit_all_int _ | refine fit_lst ?_ | refine fit_tup ?_ | refine fit_cons ?_ ?_ | exact fit_str (by decide))), ?_⟩
                    exact ⟨_, rfl, rfl, (by repeat (first | exact wkM_refl | exact wkM_nil | exact wkM_app | refine wkM_cons (by first | exact .inl rfl | exact .inr rfl) ?_ | refine wkM_trans wkM_app ?_))⟩
                · intro hc10
                  exact nope hc10 (orF (neF (n := 4) (congrArg oD e11) (by with_reducible repeat (first | exact fit_int | exact fit_bl | exact fit_non | exact fit_nil | exact fit_all_int _ | refine fit_lst ?_ | refine fit_tup ?_ | refine fit_cons ?_ ?_))) (neF (n := 4) (congrArg oD e12) (by with_reducible repeat (first | exact fit_int | exact fit_bl | exact fit_non | exact fit_nil | exact fit_all_int _ | refine fit_lst ?_ | refine fit_tup ?_ | refine fit_cons ?_ ?_))))
                · intro hc10
                  refine wss_nil ?_
                  refine wss_one ?_
                  refine ws_ret ?_
                  apply we_ev
                  · repeat (first | exact lk_nil | refine lk_none ?_ | refine lk_dat ?_ | refine lk_loc (by simp) ?_)
                  · apply ev_and
                    · repeat (first | exact lk_nil | refine lk_none ?_ | refine lk_dat ?_ | refine lk_loc (by simp) ?_)
                    · apply ev_in
                      refine we_eq hr.units ?_
                      apply we_ev
                      · repeat (first | exact lk_nil | refine lk_none ?_ | refine lk_dat ?_ | refine lk_loc (by simp) ?_)
                      · apply ev_in
                        refine we_def h_least_change (hr.mono (by omega)) takesF ?_
                        refine wa_cons ?_
                        refine we_name 2 (q := ?_)
                        refine wa_cons ?_
                        refine we_name 3 (q := ?_)
                        refine wa_cons ?_
                        refine we_int ?_
                        refine wa_cons ?_
                        refine we_int ?_
                        refine wa_nil ?_
                        refine .inl ⟨_, _, rfl, ?_⟩
                        refine ⟨(_, _, _, _), rfl, rfl, ⟨by assumption, by assumption, by omega, ⟨by omega, by omega⟩, ⟨by omega, by omega⟩⟩, putR_dat ?_⟩ -- call least_change(first, second, 1, 2)
                        exact ⟨rfl, (by repeat (first | exact wkM_refl | exact wkM_nil | exact wkM_app | refine wkM_cons (by first | exact .inl rfl | exact .inr rfl) ?_ | refine wkM_trans wkM_app ?_))⟩
                      refine we_add ?_
                      refine we_mul ?_
                      refine we_int ?_
                      refine we_name 0 (q := ?_)
                      refine .inl ⟨_, _, rfl, rfl, (by first | exact .inl ⟨by omega, by omega⟩ | exact .inr ⟨by omega, by omega⟩), ?_⟩
                      refine we_int ?_
                      first | refine .inl ⟨_, _, rfl, rfl, ?_⟩ | refine .inr (.inr (.inl ⟨_, _, rfl, rfl, (by rw [sizeLine_eq]; simp; try omega), ?_⟩)) | refine .inr (.inl ⟨_, _, rfl, rfl, (by rw [sizeLine_eq]; simp; try omega), ?_⟩)
                      refine ⟨_, _, rfl, rfl, (oD_fit' _), (by with_reducible repeat (first | exact fit_int | exact fit_bl | exact fit_non | exact fit_nil | exact fit_all_int _ | refine fit_lst ?_ | refine fit_tup ?_ | refine fit_cons ?_ ?_ | exact fit_str (by decide))), ?_⟩
                      exact ⟨rfl, (by repeat (first | exact wkM_refl | exact wkM_nil | exact wkM_app | refine wkM_cons (by first | exact .inl rfl | exact .inr rfl) ?_ | refine wkM_trans wkM_app ?_))⟩
                    · intro hc12
                      apply ev_one
                      apply ev_in
                      refine we_eq hr.units ?_
                      apply we_ev
                      · repeat (first | exact lk_nil | refine lk_none ?_ | refine lk_dat ?_ | refine lk_loc (by simp) ?_)
                      · apply ev_in
                        refine we_def h_lead (hr.mono (by omega)) takesF ?_
                        refine wa_cons ?_
                        refine we_name 2 (q := ?_)
                        refine wa_cons ?_
                        refine we_name 3 (q := ?_)
                        refine wa_cons ?_
                        refine we_int ?_
                        refine wa_nil ?_
                        refine .inl ⟨_, _, rfl, ?_⟩
                        refine ⟨(_, _, _), rfl, rfl, ⟨by assumption, by assumption, by omega, by omega, by omega⟩, putR_dat ?_⟩ -- call lead(first, second, 1)
                        exact ⟨rfl, (by repeat (first | exact wkM_refl | exact wkM_nil | exact wkM_app | refine wkM_cons (by first | exact .inl rfl | exact .inr rfl) ?_ | refine wkM_trans wkM_app ?_))⟩
                      refine we_mul ?_
                      refine we_int ?_
                      refine we_name 0 (q := ?_)
                      refine .inl ⟨_, _, rfl, rfl, (by first | exact .inl ⟨by omega, by omega⟩ | exact .inr ⟨by omega, by omega⟩), ?_⟩
                      refine ⟨_, _, rfl, rfl, (by with_reducible repeat (first | exact fit_int | exact fit_bl | exact fit_non | exact fit_nil | exact fit_all_int _ | refine fit_lst ?_ | refine fit_tup ?_ | refine fit_cons ?_ ?_ | exact fit_str (by decide))), (by with_reducible repeat (first | exact fit_int | exact fit_bl | exact fit_non | exact fit_nil | exact fit_all_int _ | refine fit_lst ?_ | refine fit_tup ?_ | refine fit_cons ?_ ?_ | exact fit_str (by decide))), ?_⟩
                      exact ⟨rfl, (by repeat (first | exact wkM_refl | exact wkM_nil | exact wkM_app | refine wkM_cons (by first | exact .inl rfl | exact .inr rfl) ?_ | refine wkM_trans wkM_app ?_))⟩
                  refine ret0 ?_
                  exact Eq.mp (congrArg (fun d => post (.dat d) []) ((congrArg D.bl (andT (eqT (n := 4) (congrArg oD e13) (oD_fit' _)) (eqT (n := 4) (congrArg D.int e14) (by with_reducible repeat (first | exact fit_int | exact fit_bl | exact fit_non | exact fit_nil | exact fit_all_int _ | refine fit_lst ?_ | refine fit_tup ?_ | refine fit_cons ?_ ?_)))).symm))) hp
theorem ok_law {f : Addr} {fd : FuncData} (dd : Def K mg "law" "law" s_law ["script"] f fd) (T : Txt K mg) (h__law_pick : Has P w K mg base "_law_pick" ["deck", "limit"] 1 pr_law_pick) (h_slack : Has P w K mg base "slack" ["judges", "results"] 3 pr_slack) (h_row_at : Has P w K mg base "row_at" ["judges", "results", "place"] 4 pr_row_at) (h__law_deck : Has P w K mg base "_law_deck" ["cell", "turn"] 1 pr_law_deck) (h__law_six_right : Has P w K mg base "_law_six_right" ["f"] 12 pr_law_six_right) (h__law_rest_right : Has P w K mg base "_law_rest_right" ["f"] 12 pr_law_rest_right) : FnOk P w K mg base (L2.CX P w) 14 f fd ["script"] (spOf K pr_law) := by
  refine fn_ok 0 dd.fn sc_law (fun os ds post ex h => ?_) (fun cdv A outer s H E C os ds post ex hr tk hps h => ?_)
  · obtain ⟨a, rfl, rfl, _⟩ := h; exact ⟨rfl, rfl⟩
  · obtain ⟨sc, rfl, rfl, hsc, hp⟩ := h
    have hsc : sc.length ≤ 63 := hsc
    refine wss_cons ?_
    refine ws_for (tgt_name 1) (pg_name (i := 1) sc_law.nd rfl (by first | exact Or.inl rfl | exact Or.inr rfl)) (fun i δ μ => δ = [some (.d (lI sc)), none, none] ∧ μ = [] ∧ True) (passes_of rfl) rfl ?_
    refine wi_seq ?_
    refine we_slice ?_
    refine we_add ?_
    refine we_lst ?_
    refine wa_cons ?_
    refine we_int ?_
    refine wa_nil ?_
    refine ⟨_, _, rfl, by simp [sizeLine_eq], ?_⟩
    refine we_name 0 (q := ?_)
    refine .inr (.inr (.inr ⟨_, _, rfl, rfl, (by rw [sizeLine_eq]; simp; try omega), ?_⟩))
    refine wo_none ?_
    refine wo_some ?_
    refine we_int ?_
    refine ⟨_, rfl, ?_⟩
    first | refine .inl ⟨_, rfl, ?_⟩ | refine .inr ⟨_, rfl, ?_⟩
    first | refine ⟨_, _, .inl rfl, ?_⟩ | refine ⟨_, _, .inr rfl, ?_⟩
    refine ⟨Wk.in ⟨rfl, rfl, trivial⟩ (by repeat (first | exact wkM_refl | exact wkM_nil | exact wkM_app | refine wkM_cons (by first | exact .inl rfl | exact .inr rfl) ?_ | refine wkM_trans wkM_app ?_)) (by repeat (first | exact wkD_nil | refine wkD_cons (by first | exact .inl rfl | exact .inr rfl) ?_)) (by rw [hps]; simp) (by repeat (first | exact lk_nil | refine lk_none ?_ | refine lk_dat ?_ | refine lk_loc (by simp) ?_)), ?_, ?_⟩
    · rintro i y δ' μ' hy ⟨rfl, rfl, hI⟩
      obtain ⟨c, rfl⟩ := cell_int hy
      refine ⟨_, rfl, ?_⟩
      refine wss_norm (δ' := [_, _, _]) (μ' := []) ?_ rfl rfl
      refine wss_cons ?_
      refine ws_set 2 sc_law.nd rfl (by first | exact Or.inl rfl | exact Or.inr rfl) ?_
      refine we_add ?_
      refine we_int ?_
      refine we_def h__law_pick (hr.mono (by omega)) takesF ?_
      refine wa_cons ?_
      refine we_def h__law_deck (hr.mono (by omega)) takesF ?_
      refine wa_cons ?_
      refine we_name 1 (q := ?_)
      refine wa_cons ?_
      refine we_int ?_
      refine wa_nil ?_
      refine .inl ⟨_, _, rfl, ?_⟩
      refine ⟨(c, 16), rfl, rfl, trivial, putR_new ?_⟩ -- call _law_deck(cell, 16)
      refine wa_cons ?_
      refine we_int ?_
      refine wa_nil ?_
      refine .inr (.inl ⟨_, _, _, _, _, rfl, rfl, rfl, rfl, ?_⟩)
      refine ⟨(_, _, _, _), rfl, rfl, ⟨⟨deck_a c, Int.emod_nonneg _ (by decide), Int.emod_lt_of_pos c (by decide), by decide, by decide⟩, by decide, by decide⟩, fun r os2 hS => ?_⟩ -- call _law_pick(_law_deck(cell, 16), 70)
      obtain ⟨r, a, t, rfl, rfl, pk0, pk1, pk2, pk3, pk4⟩ := hS
      refine ⟨_, rfl, rfl, putR_dat ?_⟩
      first | refine .inl ⟨_, _, rfl, rfl, ?_⟩ | refine .inr (.inr (.inl ⟨_, _, rfl, rfl, (by rw [sizeLine_eq]; simp; try omega), ?_⟩)) | refine .inr (.inl ⟨_, _, rfl, rfl, (by rw [sizeLine_eq]; simp; try omega), ?_⟩)
      refine wss_norm (δ' := [_, _, _]) (μ' := [_]) ?_ rfl rfl
      refine wss_one ?_
      apply ws_ifE
      · repeat (first | exact lk_nil | refine lk_none ?_ | refine lk_dat ?_ | refine lk_loc (by simp) ?_)
      · apply et_ww
        apply ew_or
        · repeat (first | exact lk_nil | refine lk_none ?_ | refine lk_dat ?_ | refine lk_loc (by simp) ?_)
        · apply et_not
          apply et_val
          · apply ev_in
            refine we_def h__law_six_right (hr.mono (by omega)) takesF ?_
            refine wa_cons ?_
            refine we_name 2 (q := ?_)
            refine wa_nil ?_
            refine .inl ⟨_, _, rfl, ?_⟩
            refine ⟨_, rfl, rfl, ⟨by omega, by omega⟩, putR_dat ?_⟩ -- call _law_six_right(f)
            exact ⟨rfl, (by repeat (first | exact wkM_refl | exact wkM_nil | exact wkM_app | refine wkM_cons (by first | exact .inl rfl | exact .inr rfl) ?_ | refine wkM_trans wkM_app ?_))⟩
          · intro _; rfl
        · intro hc2
          apply ew_or1
          apply et_not
          apply et_val
          · apply ev_in
            refine we_def h__law_rest_right (hr.mono (by omega)) takesF ?_
            refine wa_cons ?_
            refine we_name 2 (q := ?_)
            refine wa_nil ?_
            refine .inl ⟨_, _, rfl, ?_⟩
            refine ⟨_, rfl, rfl, ⟨by omega, by omega⟩, putR_dat ?_⟩ -- call _law_rest_right(f)
            exact ⟨rfl, (by repeat (first | exact wkM_refl | exact wkM_nil | exact wkM_app | refine wkM_cons (by first | exact .inl rfl | exact .inr rfl) ?_ | refine wkM_trans wkM_app ?_))⟩
          · intro _; rfl
      · intro hc1
        exact nope hc1 rfl
      · intro hc1
        refine wss_nil ?_
        exact Wk.in ⟨rfl, rfl, trivial⟩ (by repeat (first | exact wkM_refl | exact wkM_nil | exact wkM_app | refine wkM_cons (by first | exact .inl rfl | exact .inr rfl) ?_ | refine wkM_trans wkM_app ?_)) (by repeat (first | exact wkD_nil | refine wkD_cons (by first | exact .inl rfl | exact .inr rfl) ?_)) (by rw [hps]; simp) (by repeat (first | exact lk_nil | refine lk_none ?_ | refine lk_dat ?_ | refine lk_loc (by simp) ?_))
    · rintro δ' μ' ⟨rfl, rfl, hI⟩
      refine wss_one ?_
      refine ws_ret ?_
      apply we_ev
      · repeat (first | exact lk_nil | refine lk_none ?_ | refine lk_dat ?_ | refine lk_loc (by simp) ?_)
      · apply ev_and
        · repeat (first | exact lk_nil | refine lk_none ?_ | refine lk_dat ?_ | refine lk_loc (by simp) ?_)
        · apply ev_in
          refine we_eq hr.units ?_
          apply we_ev
          · repeat (first | exact lk_nil | refine lk_none ?_ | refine lk_dat ?_ | refine lk_loc (by simp) ?_)
          · apply ev_in
            refine we_def h_slack (hr.mono (by omega)) takesF ?_
            refine wa_cons ?_
            refine we_int ?_
            refine wa_cons ?_
            refine we_tup ?_
            refine wa_cons ?_
            refine we_int ?_
            refine wa_nil ?_
            refine ⟨_, _, rfl, by simp [sizeLine_eq], ?_⟩
            refine wa_nil ?_
            refine .inl ⟨_, _, rfl, ?_⟩
            refine ⟨(2, [9]), rfl, rfl, (by unfold Ress; decide +kernel), putR_dat ?_⟩ -- call slack(2, (9,))
            exact ⟨rfl, (by repeat (first | exact wkM_refl | exact wkM_nil | exact wkM_app | refine wkM_cons (by first | exact .inl rfl | exact .inr rfl) ?_ | refine wkM_trans wkM_app ?_))⟩
          refine we_int ?_
          refine ⟨_, _, rfl, rfl, (oD_fit' _), (by with_reducible repeat (first | exact fit_int | exact fit_bl | exact fit_non | exact fit_nil | exact fit_all_int _ | refine fit_lst ?_ | refine fit_tup ?_ | refine fit_cons ?_ ?_ | exact fit_str (by decide))), ?_⟩
          exact ⟨rfl, (by repeat (first | exact wkM_refl | exact wkM_nil | exact wkM_app | refine wkM_cons (by first | exact .inl rfl | exact .inr rfl) ?_ | refine wkM_trans wkM_app ?_))⟩
        · intro hc3
          apply ev_and
          · repeat (first | exact lk_nil | refine lk_none ?_ | refine lk_dat ?_ | refine lk_loc (by simp) ?_)
          · apply ev_in
            refine we_eq hr.units ?_
            apply we_ev
            · repeat (first | exact lk_nil | refine lk_none ?_ | refine lk_dat ?_ | refine lk_loc (by simp) ?_)
            · apply ev_in
              refine we_def h_row_at (hr.mono (by omega)) takesF ?_
              refine wa_cons ?_
              refine we_int ?_
              refine wa_cons ?_
              refine we_tup ?_
              refine wa_cons ?_
              refine we_int ?_
              refine wa_nil ?_
              refine ⟨_, _, rfl, by simp [sizeLine_eq], ?_⟩
              refine wa_cons ?_
              refine we_int ?_
              refine wa_nil ?_
              refine .inl ⟨_, _, rfl, ?_⟩
              refine ⟨(2, [9], 4), rfl, rfl, (by unfold Ress; decide +kernel), putR_dat ?_⟩ -- call row_at(2, (9,), 4)
              exact ⟨rfl, (by repeat (first | exact wkM_refl | exact wkM_nil | exact wkM_app | refine wkM_cons (by first | exact .inl rfl | exact .inr rfl) ?_ | refine wkM_trans wkM_app ?_))⟩
            refine we_tup ?_
            refine wa_cons ?_
            refine we_int ?_
            refine wa_cons ?_
            refine we_int ?_
            refine wa_nil ?_
            refine ⟨_, _, rfl, by simp [sizeLine_eq], ?_⟩
            refine ⟨_, _, rfl, rfl, (by with_reducible repeat (first | exact fit_int | exact fit_bl | exact fit_non | exact fit_nil | exact fit_all_int _ | refine fit_lst ?_ | refine fit_tup ?_ | refine fit_cons ?_ ?_ | exact fit_str (by decide))), (by with_reducible repeat (first | exact fit_int | exact fit_bl | exact fit_non | exact fit_nil | exact fit_all_int _ | refine fit_lst ?_ | refine fit_tup ?_ | refine fit_cons ?_ ?_ | exact fit_str (by decide))), ?_⟩
            exact ⟨rfl, (by repeat (first | exact wkM_refl | exact wkM_nil | exact wkM_app | refine wkM_cons (by first | exact .inl rfl | exact .inr rfl) ?_ | refine wkM_trans wkM_app ?_))⟩
          · intro hc4
            apply ev_one
            apply ev_in
            refine we_eq hr.units ?_
            apply we_ev
            · repeat (first | exact lk_nil | refine lk_none ?_ | refine lk_dat ?_ | refine lk_loc (by simp) ?_)
            · apply ev_in
              refine we_def h_slack (hr.mono (by omega)) takesF ?_
              refine wa_cons ?_
              refine we_int ?_
              refine wa_cons ?_
              refine we_tup ?_
              refine wa_cons ?_
              refine we_int ?_
              refine wa_nil ?_
              refine ⟨_, _, rfl, by simp [sizeLine_eq], ?_⟩
              refine wa_nil ?_
              refine .inl ⟨_, _, rfl, ?_⟩
              refine ⟨(2, [1999]), rfl, rfl, (by unfold Ress; decide +kernel), putR_dat ?_⟩ -- call slack(2, (1999,))
              exact ⟨rfl, (by repeat (first | exact wkM_refl | exact wkM_nil | exact wkM_app | refine wkM_cons (by first | exact .inl rfl | exact .inr rfl) ?_ | refine wkM_trans wkM_app ?_))⟩
            refine we_int ?_
            refine ⟨_, _, rfl, rfl, (oD_fit' _), (by with_reducible repeat (first | exact fit_int | exact fit_bl | exact fit_non | exact fit_nil | exact fit_all_int _ | refine fit_lst ?_ | refine fit_tup ?_ | refine fit_cons ?_ ?_ | exact fit_str (by decide))), ?_⟩
            exact ⟨rfl, (by repeat (first | exact wkM_refl | exact wkM_nil | exact wkM_app | refine wkM_cons (by first | exact .inl rfl | exact .inr rfl) ?_ | refine wkM_trans wkM_app ?_))⟩
      refine ret0 ?_
      exact Eq.mp (congrArg (fun d => post (.dat d) []) ((congrArg D.bl l16_end.symm))) hp
end

theorem def_mk {K : PySem.W.Frag} {h : Heap} {mg : Str → Option Value} {x : Str} {st : Stmt} {ps : List Str} {f : Addr} {oc : Value} {od an : Option Addr} {osl : Array (Option Value)} {kV doc pm cdv ct : Value} (X : K.In h) (G : h.Ns mainGlobals mg)
    (a : PySem.W.nsIn K mainGlobals x = some (some (.ref f))) (l : K.lookup f = some ⟨oc, od, .func (PySem.W.fnOf x x (defArgs st) (defBody st) (defScope st) .none kV doc pm an cdv ct), osl⟩) (c : PySem.W.codeIn K cdv x = true) (k : PySem.W.keepIn K (.ref f) = true)
    (b : ∀ (kV doc pm : Value) (an : Option Addr) (cdv ct : Value) (us : List Value), us.length = ps.length → bindArgs (PySem.W.fnOf x x (defArgs st) (defBody st) (defScope st) .none kV doc pm an cdv ct) ⟨us, []⟩ = pure (ps.zip us)) :
    Def K mg x x st ps f (PySem.W.fnOf x x (defArgs st) (defBody st) (defScope st) .none kV doc pm an cdv ct) := by
  have F := fun_mk (st := st) l c k
  exact ⟨F, PySem.W.mg_of X G a, F.binds b⟩
/-- the lambdas' name -/
def nmL : Str := (("mark_ranges" : Str) ++ (".<locals>." : Str)) ++ ("<lambda>" : Str)
theorem law_sp [Tbs] {K : PySem.W.Frag} {H : Hp} {a tP : Addr} {ns : List Int} (hI : Tbs.tabs = [(tP, nmL)]) (hP : H tP = some (.tbl #[])) (h1 : ns.length ≤ 63) (hS : SqL K H a (ns.map V.int)) : spOf K pr_law [.ref a] H (fun v _ => v = .bl true) fun _ _ _ => False :=
  ⟨ntp H, [], [], [lI ns], [.ref a], rfl, RepA.ntp (.cons (.lst hS (RepA.ints ns)) .nil), ntp_same H, own0, ntp_nt H, (fun p hp => by rw [hI] at hp; rw [List.mem_singleton.mp hp]; exact LamX.TabS.nil hP), ns, rfl, rfl, h1, fun v F' H' _ r => by cases r; rfl⟩

theorem all_mk {l : PySem.W.OpenLaw} {w : World} {K : PySem.W.Frag} {h : Heap} {mg : Str → Option Value} {fa : Addr} (X : K.In h) (G : h.Ns mainGlobals mg) (hfa : mg "law" = some (.ref fa))
    {od0 od1 od2 od3 od4 od5 od6 od7 od8 od9 od10 od11 od12 od13 od14 od15 od16 od17 od18 od19 od20 od21 od22 od23 od24 od25 od26 od27 od28 od29 od30 od31 od32 od33 od34 od35 od36 od37 od38 od39 od40 od41 od42 od43 od44 od45 od46 od47 od48 od49 od50 an0 an1 an2 an3 an4 an5 an6 an7 an8 an9 an10 an11 an12 an13 an14 an15 an16 an17 an18 an19 an20 an21 an22 an23 an24 an25 an26 an27 an28 an29 an30 an31 an32 an33 an34 an35 an36 an37 an38 an39 an40 an41 an42 an43 an44 an45 an46 an47 an48 an49 an50 : Option Addr} {sl0 sl1 sl2 sl3 sl4 sl5 sl6 sl7 sl8 sl9 sl10 sl11 sl12 sl13 sl14 sl15 sl16 sl17 sl18 sl19 sl20 sl21 sl22 sl23 sl24 sl25 sl26 sl27 sl28 sl29 sl30 sl31 sl32 sl33 sl34 sl35 sl36 sl37 sl38 sl39 sl40 sl41 sl42 sl43 sl44 sl45 sl46 sl47 sl48 sl49 sl50 : Array (Option Value)} {oc0 kV0 dc0 pm0 cd0 ct0 oc1 kV1 dc1 pm1 cd1 ct1 oc2 kV2 dc2 pm2 cd2 ct2 oc3 kV3 dc3 pm3 cd3 ct3 oc4 kV4 dc4 pm4 cd4 ct4 oc5 kV5 dc5 pm5 cd5 ct5 oc6 kV6 dc6 pm6 cd6 ct6 oc7 kV7 dc7 pm7 cd7 ct7 oc8 kV8 dc8 pm8 cd8 ct8 oc9 kV9 dc9 pm9 cd9 ct9 oc10 kV10 dc10 pm10 cd10 ct10 oc11 kV11 dc11 pm11 cd11 ct11 oc12 kV12 dc12 pm12 cd12 ct12 oc13 kV13 dc13 pm13 cd13 ct13 oc14 kV14 dc14 pm14 cd14 ct14 oc15 kV15 dc15 pm15 cd15 ct15 oc16 kV16 dc16 pm16 cd16 ct16 oc17 kV17 dc17 pm17 cd17 ct17 oc18 kV18 dc18 pm18 cd18 ct18 oc19 kV19 dc19 pm19 cd19 ct19 oc20 kV20 dc20 pm20 cd20 ct20 oc21 kV21 dc21 pm21 cd21 ct21 oc22 kV22 dc22 pm22 cd22 ct22 oc23 kV23 dc23 pm23 cd23 ct23 oc24 kV24 dc24 pm24 cd24 ct24 oc25 kV25 dc25 pm25 cd25 ct25 oc26 kV26 dc26 pm26 cd26 ct26 oc27 kV27 dc27 pm27 cd27 ct27 oc28 kV28 dc28 pm28 cd28 ct28 oc29 kV29 dc29 pm29 cd29 ct29 oc30 kV30 dc30 pm30 cd30 ct30 oc31 kV31 dc31 pm31 cd31 ct31 oc32 kV32 dc32 pm32 cd32 ct32 oc33 kV33 dc33 pm33 cd33 ct33 oc34 kV34 dc34 pm34 cd34 ct34 oc35 kV35 dc35 pm35 cd35 ct35 oc36 kV36 dc36 pm36 cd36 ct36 oc37 kV37 dc37 pm37 cd37 ct37 oc38 kV38 dc38 pm38 cd38 ct38 oc39 kV39 dc39 pm39 cd39 ct39 oc40 kV40 dc40 pm40 cd40 ct40 oc41 kV41 dc41 pm41 cd41 ct41 oc42 kV42 dc42 pm42 cd42 ct42 oc43 kV43 dc43 pm43 cd43 ct43 oc44 kV44 dc44 pm44 cd44 ct44 oc45 kV45 dc45 pm45 cd45 ct45 oc46 kV46 dc46 pm46 cd46 ct46 oc47 kV47 dc47 pm47 cd47 ct47 oc48 kV48 dc48 pm48 cd48 ct48 oc49 kV49 dc49 pm49 cd49 ct49 oc50 kV50 dc50 pm50 cd50 ct50 : Value} {f0 f1 f2 f3 f4 f5 f6 f7 f8 f9 f10 f11 f12 f13 f14 f15 f16 f17 f18 f19 f20 f21 f22 f23 f24 f25 f26 f27 f28 f29 f30 f31 f32 f33 f34 f35 f36 f37 f38 f39 f40 f41 f42 f43 f44 f45 f46 f47 f48 f49 f50 : Addr} {tk0 tk1 : Tok}
    (a0 : PySem.W.nsIn K mainGlobals "_law_pick" = some (some (.ref f0))) (l0 : K.lookup f0 = some ⟨oc0, od0, .func (PySem.W.fnOf "_law_pick" "_law_pick" (defArgs s_law_pick) (defBody s_law_pick) (defScope s_law_pick) .none kV0 dc0 pm0 an0 cd0 ct0), sl0⟩) (c0 : PySem.W.codeIn K cd0 "_law_pick" = true) (k0 : PySem.W.keepIn K (.ref f0) = true)
    (a1 : PySem.W.nsIn K mainGlobals "is_from" = some (some (.ref f1))) (l1 : K.lookup f1 = some ⟨oc1, od1, .func (PySem.W.fnOf "is_from" "is_from" (defArgs s_is_from) (defBody s_is_from) (defScope s_is_from) .none kV1 dc1 pm1 an1 cd1 ct1), sl1⟩) (c1 : PySem.W.codeIn K cd1 "is_from" = true) (k1 : PySem.W.keepIn K (.ref f1) = true)
    (a2 : PySem.W.nsIn K mainGlobals "need_results" = some (some (.ref f2))) (l2 : K.lookup f2 = some ⟨oc2, od2, .func (PySem.W.fnOf "need_results" "need_results" (defArgs s_need_results) (defBody s_need_results) (defScope s_need_results) .none kV2 dc2 pm2 an2 cd2 ct2), sl2⟩) (c2 : PySem.W.codeIn K cd2 "need_results" = true) (k2 : PySem.W.keepIn K (.ref f2) = true)
    (a3 : PySem.W.nsIn K mainGlobals "sums_of" = some (some (.ref f3))) (l3 : K.lookup f3 = some ⟨oc3, od3, .func (PySem.W.fnOf "sums_of" "sums_of" (defArgs s_sums_of) (defBody s_sums_of) (defScope s_sums_of) .none kV3 dc3 pm3 an3 cd3 ct3), sl3⟩) (c3 : PySem.W.codeIn K cd3 "sums_of" = true) (k3 : PySem.W.keepIn K (.ref f3) = true)
    (a4 : PySem.W.nsIn K mainGlobals "least_gaps" = some (some (.ref f4))) (l4 : K.lookup f4 = some ⟨oc4, od4, .func (PySem.W.fnOf "least_gaps" "least_gaps" (defArgs s_least_gaps) (defBody s_least_gaps) (defScope s_least_gaps) .none kV4 dc4 pm4 an4 cd4 ct4), sl4⟩) (c4 : PySem.W.codeIn K cd4 "least_gaps" = true) (k4 : PySem.W.keepIn K (.ref f4) = true)
    (a5 : PySem.W.nsIn K mainGlobals "slack_of" = some (some (.ref f5))) (l5 : K.lookup f5 = some ⟨oc5, od5, .func (PySem.W.fnOf "slack_of" "slack_of" (defArgs s_slack_of) (defBody s_slack_of) (defScope s_slack_of) .none kV5 dc5 pm5 an5 cd5 ct5), sl5⟩) (c5 : PySem.W.codeIn K cd5 "slack_of" = true) (k5 : PySem.W.keepIn K (.ref f5) = true)
    (a6 : PySem.W.nsIn K mainGlobals "slack" = some (some (.ref f6))) (l6 : K.lookup f6 = some ⟨oc6, od6, .func (PySem.W.fnOf "slack" "slack" (defArgs s_slack) (defBody s_slack) (defScope s_slack) .none kV6 dc6 pm6 an6 cd6 ct6), sl6⟩) (c6 : PySem.W.codeIn K cd6 "slack" = true) (k6 : PySem.W.keepIn K (.ref f6) = true)
    (a7 : PySem.W.nsIn K mainGlobals "need_slack" = some (some (.ref f7))) (l7 : K.lookup f7 = some ⟨oc7, od7, .func (PySem.W.fnOf "need_slack" "need_slack" (defArgs s_need_slack) (defBody s_need_slack) (defScope s_need_slack) .none kV7 dc7 pm7 an7 cd7 ct7), sl7⟩) (c7 : PySem.W.codeIn K cd7 "need_slack" = true) (k7 : PySem.W.keepIn K (.ref f7) = true)
    (a8 : PySem.W.nsIn K mainGlobals "row_of" = some (some (.ref f8))) (l8 : K.lookup f8 = some ⟨oc8, od8, .func (PySem.W.fnOf "row_of" "row_of" (defArgs s_row_of) (defBody s_row_of) (defScope s_row_of) .none kV8 dc8 pm8 an8 cd8 ct8), sl8⟩) (c8 : PySem.W.codeIn K cd8 "row_of" = true) (k8 : PySem.W.keepIn K (.ref f8) = true)
    (a9 : PySem.W.nsIn K mainGlobals "choose" = some (some (.ref f9))) (l9 : K.lookup f9 = some ⟨oc9, od9, .func (PySem.W.fnOf "choose" "choose" (defArgs s_choose) (defBody s_choose) (defScope s_choose) .none kV9 dc9 pm9 an9 cd9 ct9), sl9⟩) (c9 : PySem.W.codeIn K cd9 "choose" = true) (k9 : PySem.W.keepIn K (.ref f9) = true)
    (a10 : PySem.W.nsIn K mainGlobals "row_at" = some (some (.ref f10))) (l10 : K.lookup f10 = some ⟨oc10, od10, .func (PySem.W.fnOf "row_at" "row_at" (defArgs s_row_at) (defBody s_row_at) (defScope s_row_at) .none kV10 dc10 pm10 an10 cd10 ct10), sl10⟩) (c10 : PySem.W.codeIn K cd10 "row_at" = true) (k10 : PySem.W.keepIn K (.ref f10) = true)
    (a11 : PySem.W.nsIn K mainGlobals "_law_deck" = some (some (.ref f11))) (l11 : K.lookup f11 = some ⟨oc11, od11, .func (PySem.W.fnOf "_law_deck" "_law_deck" (defArgs s_law_deck) (defBody s_law_deck) (defScope s_law_deck) .none kV11 dc11 pm11 an11 cd11 ct11), sl11⟩) (c11 : PySem.W.codeIn K cd11 "_law_deck" = true) (k11 : PySem.W.keepIn K (.ref f11) = true)
    (a12 : PySem.W.nsIn K mainGlobals "need_drop" = some (some (.ref f12))) (l12 : K.lookup f12 = some ⟨oc12, od12, .func (PySem.W.fnOf "need_drop" "need_drop" (defArgs s_need_drop) (defBody s_need_drop) (defScope s_need_drop) .none kV12 dc12 pm12 an12 cd12 ct12), sl12⟩) (c12 : PySem.W.codeIn K cd12 "need_drop" = true) (k12 : PySem.W.keepIn K (.ref f12) = true)
    (a13 : PySem.W.nsIn K mainGlobals "is_marks" = some (some (.ref f13))) (l13 : K.lookup f13 = some ⟨oc13, od13, .func (PySem.W.fnOf "is_marks" "is_marks" (defArgs s_is_marks) (defBody s_is_marks) (defScope s_is_marks) .none kV13 dc13 pm13 an13 cd13 ct13), sl13⟩) (c13 : PySem.W.codeIn K cd13 "is_marks" = true) (k13 : PySem.W.keepIn K (.ref f13) = true)
    (a14 : PySem.W.nsIn K mainGlobals "need_marks" = some (some (.ref f14))) (l14 : K.lookup f14 = some ⟨oc14, od14, .func (PySem.W.fnOf "need_marks" "need_marks" (defArgs s_need_marks) (defBody s_need_marks) (defScope s_need_marks) .none kV14 dc14 pm14 an14 cd14 ct14), sl14⟩) (c14 : PySem.W.codeIn K cd14 "need_marks" = true) (k14 : PySem.W.keepIn K (.ref f14) = true)
    (a15 : PySem.W.nsIn K mainGlobals "need_judge" = some (some (.ref f15))) (l15 : K.lookup f15 = some ⟨oc15, od15, .func (PySem.W.fnOf "need_judge" "need_judge" (defArgs s_need_judge) (defBody s_need_judge) (defScope s_need_judge) .none kV15 dc15 pm15 an15 cd15 ct15), sl15⟩) (c15 : PySem.W.codeIn K cd15 "need_judge" = true) (k15 : PySem.W.keepIn K (.ref f15) = true)
    (a16 : PySem.W.nsIn K mainGlobals "cuts" = some (some (.ref f16))) (l16 : K.lookup f16 = some ⟨oc16, od16, .func (PySem.W.fnOf "cuts" "cuts" (defArgs s_cuts) (defBody s_cuts) (defScope s_cuts) .none kV16 dc16 pm16 an16 cd16 ct16), sl16⟩) (c16 : PySem.W.codeIn K cd16 "cuts" = true) (k16 : PySem.W.keepIn K (.ref f16) = true)
    (a17 : PySem.W.nsIn K mainGlobals "total" = some (some (.ref f17))) (l17 : K.lookup f17 = some ⟨oc17, od17, .func (PySem.W.fnOf "total" "total" (defArgs s_total) (defBody s_total) (defScope s_total) .none kV17 dc17 pm17 an17 cd17 ct17), sl17⟩) (c17 : PySem.W.codeIn K cd17 "total" = true) (k17 : PySem.W.keepIn K (.ref f17) = true)
    (a18 : PySem.W.nsIn K mainGlobals "replaced" = some (some (.ref f18))) (l18 : K.lookup f18 = some ⟨oc18, od18, .func (PySem.W.fnOf "replaced" "replaced" (defArgs s_replaced) (defBody s_replaced) (defScope s_replaced) .none kV18 dc18 pm18 an18 cd18 ct18), sl18⟩) (c18 : PySem.W.codeIn K cd18 "replaced" = true) (k18 : PySem.W.keepIn K (.ref f18) = true)
    (a19 : PySem.W.nsIn K mainGlobals "mark_range" = some (some (.ref f19))) (l19 : K.lookup f19 = some ⟨oc19, od19, .func (PySem.W.fnOf "mark_range" "mark_range" (defArgs s_mark_range) (defBody s_mark_range) (defScope s_mark_range) .none kV19 dc19 pm19 an19 cd19 ct19), sl19⟩) (c19 : PySem.W.codeIn K cd19 "mark_range" = true) (k19 : PySem.W.keepIn K (.ref f19) = true)
    (a20 : PySem.W.nsIn K mainGlobals "all_results" = some (some (.ref f20))) (l20 : K.lookup f20 = some ⟨oc20, od20, .func (PySem.W.fnOf "all_results" "all_results" (defArgs s_all_results) (defBody s_all_results) (defScope s_all_results) .none kV20 dc20 pm20 an20 cd20 ct20), sl20⟩) (c20 : PySem.W.codeIn K cd20 "all_results" = true) (k20 : PySem.W.keepIn K (.ref f20) = true)
    (a21 : PySem.W.nsIn K mainGlobals "surely_low" = some (some (.ref f21))) (l21 : K.lookup f21 = some ⟨oc21, od21, .func (PySem.W.fnOf "surely_low" "surely_low" (defArgs s_surely_low) (defBody s_surely_low) (defScope s_surely_low) .none kV21 dc21 pm21 an21 cd21 ct21), sl21⟩) (c21 : PySem.W.codeIn K cd21 "surely_low" = true) (k21 : PySem.W.keepIn K (.ref f21) = true)
    (a22 : PySem.W.nsIn K mainGlobals "surely_high" = some (some (.ref f22))) (l22 : K.lookup f22 = some ⟨oc22, od22, .func (PySem.W.fnOf "surely_high" "surely_high" (defArgs s_surely_high) (defBody s_surely_high) (defScope s_surely_high) .none kV22 dc22 pm22 an22 cd22 ct22), sl22⟩) (c22 : PySem.W.codeIn K cd22 "surely_high" = true) (k22 : PySem.W.keepIn K (.ref f22) = true)
    (a23 : PySem.W.nsIn K mainGlobals "sure_dropped" = some (some (.ref f23))) (l23 : K.lookup f23 = some ⟨oc23, od23, .func (PySem.W.fnOf "sure_dropped" "sure_dropped" (defArgs s_sure_dropped) (defBody s_sure_dropped) (defScope s_sure_dropped) .none kV23 dc23 pm23 an23 cd23 ct23), sl23⟩) (c23 : PySem.W.codeIn K cd23 "sure_dropped" = true) (k23 : PySem.W.keepIn K (.ref f23) = true)
    (a24 : PySem.W.nsIn K mainGlobals "possibly_low" = some (some (.ref f24))) (l24 : K.lookup f24 = some ⟨oc24, od24, .func (PySem.W.fnOf "possibly_low" "possibly_low" (defArgs s_possibly_low) (defBody s_possibly_low) (defScope s_possibly_low) .none kV24 dc24 pm24 an24 cd24 ct24), sl24⟩) (c24 : PySem.W.codeIn K cd24 "possibly_low" = true) (k24 : PySem.W.keepIn K (.ref f24) = true)
    (a25 : PySem.W.nsIn K mainGlobals "possibly_high" = some (some (.ref f25))) (l25 : K.lookup f25 = some ⟨oc25, od25, .func (PySem.W.fnOf "possibly_high" "possibly_high" (defArgs s_possibly_high) (defBody s_possibly_high) (defScope s_possibly_high) .none kV25 dc25 pm25 an25 cd25 ct25), sl25⟩) (c25 : PySem.W.codeIn K cd25 "possibly_high" = true) (k25 : PySem.W.keepIn K (.ref f25) = true)
    (a26 : PySem.W.nsIn K mainGlobals "possible_dropped" = some (some (.ref f26))) (l26 : K.lookup f26 = some ⟨oc26, od26, .func (PySem.W.fnOf "possible_dropped" "possible_dropped" (defArgs s_possible_dropped) (defBody s_possible_dropped) (defScope s_possible_dropped) .none kV26 dc26 pm26 an26 cd26 ct26), sl26⟩) (c26 : PySem.W.codeIn K cd26 "possible_dropped" = true) (k26 : PySem.W.keepIn K (.ref f26) = true)
    (a27 : PySem.W.nsIn K mainGlobals "bounds" = some (some (.ref f27))) (l27 : K.lookup f27 = some ⟨oc27, od27, .func (PySem.W.fnOf "bounds" "bounds" (defArgs s_bounds) (defBody s_bounds) (defScope s_bounds) .none kV27 dc27 pm27 an27 cd27 ct27), sl27⟩) (c27 : PySem.W.codeIn K cd27 "bounds" = true) (k27 : PySem.W.keepIn K (.ref f27) = true)
    (a28 : PySem.W.nsIn K mainGlobals "reach" = some (some (.ref f28))) (l28 : K.lookup f28 = some ⟨oc28, od28, .func (PySem.W.fnOf "reach" "reach" (defArgs s_reach) (defBody s_reach) (defScope s_reach) .none kV28 dc28 pm28 an28 cd28 ct28), sl28⟩) (c28 : PySem.W.codeIn K cd28 "reach" = true) (k28 : PySem.W.keepIn K (.ref f28) = true)
    (a29 : PySem.W.nsIn K mainGlobals "with_mark" = some (some (.ref f29))) (l29 : K.lookup f29 = some ⟨oc29, od29, .func (PySem.W.fnOf "with_mark" "with_mark" (defArgs s_with_mark) (defBody s_with_mark) (defScope s_with_mark) .none kV29 dc29 pm29 an29 cd29 ct29), sl29⟩) (c29 : PySem.W.codeIn K cd29 "with_mark" = true) (k29 : PySem.W.keepIn K (.ref f29) = true)
    (a30 : PySem.W.nsIn K mainGlobals "need_result" = some (some (.ref f30))) (l30 : K.lookup f30 = some ⟨oc30, od30, .func (PySem.W.fnOf "need_result" "need_result" (defArgs s_need_result) (defBody s_need_result) (defScope s_need_result) .none kV30 dc30 pm30 an30 cd30 ct30), sl30⟩) (c30 : PySem.W.codeIn K cd30 "need_result" = true) (k30 : PySem.W.keepIn K (.ref f30) = true)
    (a31 : PySem.W.nsIn K mainGlobals "fewest_raisers" = some (some (.ref f31))) (l31 : K.lookup f31 = some ⟨oc31, od31, .func (PySem.W.fnOf "fewest_raisers" "fewest_raisers" (defArgs s_fewest_raisers) (defBody s_fewest_raisers) (defScope s_fewest_raisers) .none kV31 dc31 pm31 an31 cd31 ct31), sl31⟩) (c31 : PySem.W.codeIn K cd31 "fewest_raisers" = true) (k31 : PySem.W.keepIn K (.ref f31) = true)
    (a32 : PySem.W.nsIn K mainGlobals "filled" = some (some (.ref f32))) (l32 : K.lookup f32 = some ⟨oc32, od32, .func (PySem.W.fnOf "filled" "filled" (defArgs s_filled) (defBody s_filled) (defScope s_filled) .none kV32 dc32 pm32 an32 cd32 ct32), sl32⟩) (c32 : PySem.W.codeIn K cd32 "filled" = true) (k32 : PySem.W.keepIn K (.ref f32) = true)
    (a33 : PySem.W.nsIn K mainGlobals "ends" = some (some (.ref f33))) (l33 : K.lookup f33 = some ⟨oc33, od33, .func (PySem.W.fnOf "ends" "ends" (defArgs s_ends) (defBody s_ends) (defScope s_ends) .none kV33 dc33 pm33 an33 cd33 ct33), sl33⟩) (c33 : PySem.W.codeIn K cd33 "ends" = true) (k33 : PySem.W.keepIn K (.ref f33) = true)
    (a34 : PySem.W.nsIn K mainGlobals "narrowing" = some (some (.ref f34))) (l34 : K.lookup f34 = some ⟨oc34, od34, .func (PySem.W.fnOf "narrowing" "narrowing" (defArgs s_narrowing) (defBody s_narrowing) (defScope s_narrowing) .none kV34 dc34 pm34 an34 cd34 ct34), sl34⟩) (c34 : PySem.W.codeIn K cd34 "narrowing" = true) (k34 : PySem.W.keepIn K (.ref f34) = true)
    (a35 : PySem.W.nsIn K mainGlobals "_law_six_right" = some (some (.ref f35))) (l35 : K.lookup f35 = some ⟨oc35, od35, .func (PySem.W.fnOf "_law_six_right" "_law_six_right" (defArgs s_law_six_right) (defBody s_law_six_right) (defScope s_law_six_right) .none kV35 dc35 pm35 an35 cd35 ct35), sl35⟩) (c35 : PySem.W.codeIn K cd35 "_law_six_right" = true) (k35 : PySem.W.keepIn K (.ref f35) = true)
    (a36 : PySem.W.nsIn K mainGlobals "need_seen" = some (some (.ref f36))) (l36 : K.lookup f36 = some ⟨oc36, od36, .func (PySem.W.fnOf "need_seen" "need_seen" (defArgs s_need_seen) (defBody s_need_seen) (defScope s_need_seen) .none kV36 dc36 pm36 an36 cd36 ct36), sl36⟩) (c36 : PySem.W.codeIn K cd36 "need_seen" = true) (k36 : PySem.W.keepIn K (.ref f36) = true)
    (a37 : PySem.W.nsIn K mainGlobals "first_of" = some (some (.ref f37))) (l37 : K.lookup f37 = some ⟨oc37, od37, .func (PySem.W.fnOf "first_of" "first_of" (defArgs s_first_of) (defBody s_first_of) (defScope s_first_of) .none kV37 dc37 pm37 an37 cd37 ct37), sl37⟩) (c37 : PySem.W.codeIn K cd37 "first_of" = true) (k37 : PySem.W.keepIn K (.ref f37) = true)
    (a38 : PySem.W.nsIn K mainGlobals "placed" = some (some (.ref f38))) (l38 : K.lookup f38 = some ⟨oc38, od38, .func (PySem.W.fnOf "placed" "placed" (defArgs s_placed) (defBody s_placed) (defScope s_placed) .none kV38 dc38 pm38 an38 cd38 ct38), sl38⟩) (c38 : PySem.W.codeIn K cd38 "placed" = true) (k38 : PySem.W.keepIn K (.ref f38) = true)
    (a39 : PySem.W.nsIn K mainGlobals "mark_ranges" = some (some (.ref f39))) (l39 : K.lookup f39 = some ⟨oc39, od39, .func (PySem.W.fnOf "mark_ranges" "mark_ranges" (defArgs s_mark_ranges) (defBody s_mark_ranges) (defScope s_mark_ranges) .none kV39 dc39 pm39 an39 cd39 ct39), sl39⟩) (c39 : PySem.W.codeIn K cd39 "mark_ranges" = true) (k39 : PySem.W.keepIn K (.ref f39) = true)
    (a40 : PySem.W.nsIn K mainGlobals "result_range" = some (some (.ref f40))) (l40 : K.lookup f40 = some ⟨oc40, od40, .func (PySem.W.fnOf "result_range" "result_range" (defArgs s_result_range) (defBody s_result_range) (defScope s_result_range) .none kV40 dc40 pm40 an40 cd40 ct40), sl40⟩) (c40 : PySem.W.codeIn K cd40 "result_range" = true) (k40 : PySem.W.keepIn K (.ref f40) = true)
    (a41 : PySem.W.nsIn K mainGlobals "sure_from" = some (some (.ref f41))) (l41 : K.lookup f41 = some ⟨oc41, od41, .func (PySem.W.fnOf "sure_from" "sure_from" (defArgs s_sure_from) (defBody s_sure_from) (defScope s_sure_from) .none kV41 dc41 pm41 an41 cd41 ct41), sl41⟩) (c41 : PySem.W.codeIn K cd41 "sure_from" = true) (k41 : PySem.W.keepIn K (.ref f41) = true)
    (a42 : PySem.W.nsIn K mainGlobals "need_works" = some (some (.ref f42))) (l42 : K.lookup f42 = some ⟨oc42, od42, .func (PySem.W.fnOf "need_works" "need_works" (defArgs s_need_works) (defBody s_need_works) (defScope s_need_works) .none kV42 dc42 pm42 an42 cd42 ct42), sl42⟩) (c42 : PySem.W.codeIn K cd42 "need_works" = true) (k42 : PySem.W.keepIn K (.ref f42) = true)
    (a43 : PySem.W.nsIn K mainGlobals "leads" = some (some (.ref f43))) (l43 : K.lookup f43 = some ⟨oc43, od43, .func (PySem.W.fnOf "leads" "leads" (defArgs s_leads) (defBody s_leads) (defScope s_leads) .none kV43 dc43 pm43 an43 cd43 ct43), sl43⟩) (c43 : PySem.W.codeIn K cd43 "leads" = true) (k43 : PySem.W.keepIn K (.ref f43) = true)
    (a44 : PySem.W.nsIn K mainGlobals "turned_by" = some (some (.ref f44))) (l44 : K.lookup f44 = some ⟨oc44, od44, .func (PySem.W.fnOf "turned_by" "turned_by" (defArgs s_turned_by) (defBody s_turned_by) (defScope s_turned_by) .none kV44 dc44 pm44 an44 cd44 ct44), sl44⟩) (c44 : PySem.W.codeIn K cd44 "turned_by" = true) (k44 : PySem.W.keepIn K (.ref f44) = true)
    (a45 : PySem.W.nsIn K mainGlobals "turners" = some (some (.ref f45))) (l45 : K.lookup f45 = some ⟨oc45, od45, .func (PySem.W.fnOf "turners" "turners" (defArgs s_turners) (defBody s_turners) (defScope s_turners) .none kV45 dc45 pm45 an45 cd45 ct45), sl45⟩) (c45 : PySem.W.codeIn K cd45 "turners" = true) (k45 : PySem.W.keepIn K (.ref f45) = true)
    (a46 : PySem.W.nsIn K mainGlobals "moves" = some (some (.ref f46))) (l46 : K.lookup f46 = some ⟨oc46, od46, .func (PySem.W.fnOf "moves" "moves" (defArgs s_moves) (defBody s_moves) (defScope s_moves) .none kV46 dc46 pm46 an46 cd46 ct46), sl46⟩) (c46 : PySem.W.codeIn K cd46 "moves" = true) (k46 : PySem.W.keepIn K (.ref f46) = true)
    (a47 : PySem.W.nsIn K mainGlobals "least_change" = some (some (.ref f47))) (l47 : K.lookup f47 = some ⟨oc47, od47, .func (PySem.W.fnOf "least_change" "least_change" (defArgs s_least_change) (defBody s_least_change) (defScope s_least_change) .none kV47 dc47 pm47 an47 cd47 ct47), sl47⟩) (c47 : PySem.W.codeIn K cd47 "least_change" = true) (k47 : PySem.W.keepIn K (.ref f47) = true)
    (a48 : PySem.W.nsIn K mainGlobals "lead" = some (some (.ref f48))) (l48 : K.lookup f48 = some ⟨oc48, od48, .func (PySem.W.fnOf "lead" "lead" (defArgs s_lead) (defBody s_lead) (defScope s_lead) .none kV48 dc48 pm48 an48 cd48 ct48), sl48⟩) (c48 : PySem.W.codeIn K cd48 "lead" = true) (k48 : PySem.W.keepIn K (.ref f48) = true)
    (a49 : PySem.W.nsIn K mainGlobals "_law_rest_right" = some (some (.ref f49))) (l49 : K.lookup f49 = some ⟨oc49, od49, .func (PySem.W.fnOf "_law_rest_right" "_law_rest_right" (defArgs s_law_rest_right) (defBody s_law_rest_right) (defScope s_law_rest_right) .none kV49 dc49 pm49 an49 cd49 ct49), sl49⟩) (c49 : PySem.W.codeIn K cd49 "_law_rest_right" = true) (k49 : PySem.W.keepIn K (.ref f49) = true)
    (a50 : PySem.W.nsIn K mainGlobals "law" = some (some (.ref f50))) (l50 : K.lookup f50 = some ⟨oc50, od50, .func (PySem.W.fnOf "law" "law" (defArgs s_law) (defBody s_law) (defScope s_law) .none kV50 dc50 pm50 an50 cd50 ct50), sl50⟩) (c50 : PySem.W.codeIn K cd50 "law" = true) (k50 : PySem.W.keepIn K (.ref f50) = true)
    (z0 : PySem.W.nsIn K mainGlobals "len" = some none) (z1 : PySem.W.nsIn K mainGlobals "sum" = some none) (z2 : PySem.W.nsIn K mainGlobals "sorted" = some none) (z3 : PySem.W.nsIn K mainGlobals "max" = some none) (z4 : PySem.W.nsIn K mainGlobals "min" = some none) (z5 : PySem.W.nsIn K mainGlobals "abs" = some none) (z6 : PySem.W.nsIn K mainGlobals "all" = some none) (z7 : PySem.W.nsIn K mainGlobals "list" = some none) (z8 : PySem.W.nsIn K mainGlobals "tuple" = some none) (z9 : PySem.W.nsIn K mainGlobals "isinstance" = some none) (z10 : PySem.W.nsIn K mainGlobals "str" = some none) (z11 : PySem.W.nsIn K mainGlobals "int" = some none) (z12 : PySem.W.nsIn K mainGlobals "bool" = some none) (z13 : PySem.W.nsIn K mainGlobals "range" = some none) (z14 : PySem.W.nsIn K mainGlobals "enumerate" = some none) (z15 : PySem.W.nsIn K mainGlobals "zip" = some none)
    (q0 : PySem.W.nsIn K mainGlobals "LARGEST" = some (some (.int 1000 tk0))) (q1 : PySem.W.nsIn K mainGlobals "MOST_JUDGES" = some (some (.int 12 tk1)))
    {cM tM : Addr} {eM : Value} {dM : Option Addr} {vM : Array Value} {sM : Array (Option Value)} (hcM : cd39 = .ref cM) (lM : K.lookup cM = some ⟨eM, dM, .fields vM, sM⟩) (vM11 : vM[11]? = some (.ref tM)) (nM : K.lookup tM = none) (hC : PySem.W.codeHdIn K cM tM = true) (hT : h.get? tM = some (PySem.W.tabObj #[]))
    : LamX.LawAtS l w K (L2.CX l.prog w) 14 63 "script" mg fa h := by
  have e := hfa.symm.trans (PySem.W.mg_of X G a50)
  cases e
  have T : Txt K mg := ⟨PySem.W.mg_none_of X G z0, PySem.W.mg_none_of X G z1, PySem.W.mg_none_of X G z2, PySem.W.mg_none_of X G z3, PySem.W.mg_none_of X G z4, PySem.W.mg_none_of X G z5, PySem.W.mg_none_of X G z6, PySem.W.mg_none_of X G z7, PySem.W.mg_none_of X G z8, PySem.W.mg_none_of X G z9, PySem.W.mg_none_of X G z10, PySem.W.mg_none_of X G z11, PySem.W.mg_none_of X G z12, PySem.W.mg_none_of X G z13, PySem.W.mg_none_of X G z14, PySem.W.mg_none_of X G z15, ⟨_, PySem.W.mg_of X G q0⟩, ⟨_, PySem.W.mg_of X G q1⟩⟩
  have D0 := def_mk (st := s_law_pick) (ps := ["deck", "limit"]) X G a0 l0 c0 k0 fun _ _ _ _ _ _ us hl => match us, hl with | [_, _], _ => rfl
  have D1 := def_mk (st := s_is_from) (ps := ["value", "low", "high"]) X G a1 l1 c1 k1 fun _ _ _ _ _ _ us hl => match us, hl with | [_, _, _], _ => rfl
  have D2 := def_mk (st := s_need_results) (ps := ["judges", "results"]) X G a2 l2 c2 k2 fun _ _ _ _ _ _ us hl => match us, hl with | [_, _], _ => rfl
  have D3 := def_mk (st := s_sums_of) (ps := ["judges", "results"]) X G a3 l3 c3 k3 fun _ _ _ _ _ _ us hl => match us, hl with | [_, _], _ => rfl
  have D4 := def_mk (st := s_least_gaps) (ps := ["sums", "middle"]) X G a4 l4 c4 k4 fun _ _ _ _ _ _ us hl => match us, hl with | [_, _], _ => rfl
  have D5 := def_mk (st := s_slack_of) (ps := ["sums", "middle"]) X G a5 l5 c5 k5 fun _ _ _ _ _ _ us hl => match us, hl with | [_, _], _ => rfl
  have D6 := def_mk (st := s_slack) (ps := ["judges", "results"]) X G a6 l6 c6 k6 fun _ _ _ _ _ _ us hl => match us, hl with | [_, _], _ => rfl
  have D7 := def_mk (st := s_need_slack) (ps := ["judges", "results"]) X G a7 l7 c7 k7 fun _ _ _ _ _ _ us hl => match us, hl with | [_, _], _ => rfl
  have D8 := def_mk (st := s_row_of) (ps := ["sums", "middle", "extras"]) X G a8 l8 c8 k8 fun _ _ _ _ _ _ us hl => match us, hl with | [_, _, _], _ => rfl
  have D9 := def_mk (st := s_choose) (ps := ["many", "few"]) X G a9 l9 c9 k9 fun _ _ _ _ _ _ us hl => match us, hl with | [_, _], _ => rfl
  have D10 := def_mk (st := s_row_at) (ps := ["judges", "results", "place"]) X G a10 l10 c10 k10 fun _ _ _ _ _ _ us hl => match us, hl with | [_, _, _], _ => rfl
  have D11 := def_mk (st := s_law_deck) (ps := ["cell", "turn"]) X G a11 l11 c11 k11 fun _ _ _ _ _ _ us hl => match us, hl with | [_, _], _ => rfl
  have D12 := def_mk (st := s_need_drop) (ps := ["judges", "drop"]) X G a12 l12 c12 k12 fun _ _ _ _ _ _ us hl => match us, hl with | [_, _], _ => rfl
  have D13 := def_mk (st := s_is_marks) (ps := ["value"]) X G a13 l13 c13 k13 fun _ _ _ _ _ _ us hl => match us, hl with | [_], _ => rfl
  have D14 := def_mk (st := s_need_marks) (ps := ["marks", "drop"]) X G a14 l14 c14 k14 fun _ _ _ _ _ _ us hl => match us, hl with | [_, _], _ => rfl
  have D15 := def_mk (st := s_need_judge) (ps := ["marks", "judge"]) X G a15 l15 c15 k15 fun _ _ _ _ _ _ us hl => match us, hl with | [_, _], _ => rfl
  have D16 := def_mk (st := s_cuts) (ps := ["marks", "drop", "judge"]) X G a16 l16 c16 k16 fun _ _ _ _ _ _ us hl => match us, hl with | [_, _, _], _ => rfl
  have D17 := def_mk (st := s_total) (ps := ["marks", "drop"]) X G a17 l17 c17 k17 fun _ _ _ _ _ _ us hl => match us, hl with | [_, _], _ => rfl
  have D18 := def_mk (st := s_replaced) (ps := ["marks", "judge", "mark"]) X G a18 l18 c18 k18 fun _ _ _ _ _ _ us hl => match us, hl with | [_, _, _], _ => rfl
  have D19 := def_mk (st := s_mark_range) (ps := ["marks", "drop", "judge", "wished"]) X G a19 l19 c19 k19 fun _ _ _ _ _ _ us hl => match us, hl with | [_, _, _, _], _ => rfl
  have D20 := def_mk (st := s_all_results) (ps := ["marks"]) X G a20 l20 c20 k20 fun _ _ _ _ _ _ us hl => match us, hl with | [_], _ => rfl
  have D21 := def_mk (st := s_surely_low) (ps := ["marks", "drop", "judge"]) X G a21 l21 c21 k21 fun _ _ _ _ _ _ us hl => match us, hl with | [_, _, _], _ => rfl
  have D22 := def_mk (st := s_surely_high) (ps := ["marks", "drop", "judge"]) X G a22 l22 c22 k22 fun _ _ _ _ _ _ us hl => match us, hl with | [_, _, _], _ => rfl
  have D23 := def_mk (st := s_sure_dropped) (ps := ["marks", "drop"]) X G a23 l23 c23 k23 fun _ _ _ _ _ _ us hl => match us, hl with | [_, _], _ => rfl
  have D24 := def_mk (st := s_possibly_low) (ps := ["marks", "drop", "judge"]) X G a24 l24 c24 k24 fun _ _ _ _ _ _ us hl => match us, hl with | [_, _, _], _ => rfl
  have D25 := def_mk (st := s_possibly_high) (ps := ["marks", "drop", "judge"]) X G a25 l25 c25 k25 fun _ _ _ _ _ _ us hl => match us, hl with | [_, _, _], _ => rfl
  have D26 := def_mk (st := s_possible_dropped) (ps := ["marks", "drop"]) X G a26 l26 c26 k26 fun _ _ _ _ _ _ us hl => match us, hl with | [_, _], _ => rfl
  have D27 := def_mk (st := s_bounds) (ps := ["marks", "drop", "judge"]) X G a27 l27 c27 k27 fun _ _ _ _ _ _ us hl => match us, hl with | [_, _, _], _ => rfl
  have D28 := def_mk (st := s_reach) (ps := ["marks", "drop", "judge"]) X G a28 l28 c28 k28 fun _ _ _ _ _ _ us hl => match us, hl with | [_, _, _], _ => rfl
  have D29 := def_mk (st := s_with_mark) (ps := ["marks", "drop", "judge", "mark"]) X G a29 l29 c29 k29 fun _ _ _ _ _ _ us hl => match us, hl with | [_, _, _, _], _ => rfl
  have D30 := def_mk (st := s_need_result) (ps := ["wished"]) X G a30 l30 c30 k30 fun _ _ _ _ _ _ us hl => match us, hl with | [_], _ => rfl
  have D31 := def_mk (st := s_fewest_raisers) (ps := ["marks", "drop", "wished"]) X G a31 l31 c31 k31 fun _ _ _ _ _ _ us hl => match us, hl with | [_, _, _], _ => rfl
  have D32 := def_mk (st := s_filled) (ps := ["seen", "mark"]) X G a32 l32 c32 k32 fun _ _ _ _ _ _ us hl => match us, hl with | [_, _], _ => rfl
  have D33 := def_mk (st := s_ends) (ps := ["seen", "drop"]) X G a33 l33 c33 k33 fun _ _ _ _ _ _ us hl => match us, hl with | [_, _], _ => rfl
  have D34 := def_mk (st := s_narrowing) (ps := ["marks", "drop"]) X G a34 l34 c34 k34 fun _ _ _ _ _ _ us hl => match us, hl with | [_, _], _ => rfl
  have D35 := def_mk (st := s_law_six_right) (ps := ["f"]) X G a35 l35 c35 k35 fun _ _ _ _ _ _ us hl => match us, hl with | [_], _ => rfl
  have D36 := def_mk (st := s_need_seen) (ps := ["seen", "drop"]) X G a36 l36 c36 k36 fun _ _ _ _ _ _ us hl => match us, hl with | [_, _], _ => rfl
  have D37 := def_mk (st := s_first_of) (ps := ["low", "high", "test"]) X G a37 l37 c37 k37 fun _ _ _ _ _ _ us hl => match us, hl with | [_, _, _], _ => rfl
  have D38 := def_mk (st := s_placed) (ps := ["seen", "judge", "mark"]) X G a38 l38 c38 k38 fun _ _ _ _ _ _ us hl => match us, hl with | [_, _, _], _ => rfl
  have D39 := def_mk (st := s_mark_ranges) (ps := ["seen", "drop", "wished"]) X G a39 l39 c39 k39 fun _ _ _ _ _ _ us hl => match us, hl with | [_, _, _], _ => rfl
  have D40 := def_mk (st := s_result_range) (ps := ["seen", "drop"]) X G a40 l40 c40 k40 fun _ _ _ _ _ _ us hl => match us, hl with | [_, _], _ => rfl
  have D41 := def_mk (st := s_sure_from) (ps := ["marks", "drop", "wished"]) X G a41 l41 c41 k41 fun _ _ _ _ _ _ us hl => match us, hl with | [_, _, _], _ => rfl
  have D42 := def_mk (st := s_need_works) (ps := ["first", "second"]) X G a42 l42 c42 k42 fun _ _ _ _ _ _ us hl => match us, hl with | [_, _], _ => rfl
  have D43 := def_mk (st := s_leads) (ps := ["first", "second"]) X G a43 l43 c43 k43 fun _ _ _ _ _ _ us hl => match us, hl with | [_, _], _ => rfl
  have D44 := def_mk (st := s_turned_by) (ps := ["first", "second", "drop", "judge"]) X G a44 l44 c44 k44 fun _ _ _ _ _ _ us hl => match us, hl with | [_, _, _, _], _ => rfl
  have D45 := def_mk (st := s_turners) (ps := ["first", "second", "drop"]) X G a45 l45 c45 k45 fun _ _ _ _ _ _ us hl => match us, hl with | [_, _, _], _ => rfl
  have D46 := def_mk (st := s_moves) (ps := ["marks", "drop", "judge", "up"]) X G a46 l46 c46 k46 fun _ _ _ _ _ _ us hl => match us, hl with | [_, _, _, _], _ => rfl
  have D47 := def_mk (st := s_least_change) (ps := ["first", "second", "drop", "judge"]) X G a47 l47 c47 k47 fun _ _ _ _ _ _ us hl => match us, hl with | [_, _, _, _], _ => rfl
  have D48 := def_mk (st := s_lead) (ps := ["first", "second", "drop"]) X G a48 l48 c48 k48 fun _ _ _ _ _ _ us hl => match us, hl with | [_, _, _], _ => rfl
  have D49 := def_mk (st := s_law_rest_right) (ps := ["f"]) X G a49 l49 c49 k49 fun _ _ _ _ _ _ us hl => match us, hl with | [_], _ => rfl
  have D50 := def_mk (st := s_law) (ps := ["script"]) X G a50 l50 c50 k50 fun _ _ _ _ _ _ us hl => match us, hl with | [_], _ => rfl
  letI I : Tbs := ⟨[(tM, nmL)]⟩
  have hI : I.tabs = [(tM, nmL)] := rfl
  have one : ∀ {p : Addr × Addr}, p ∈ [(cM, tM)] → p = (cM, tM) := fun h => List.mem_singleton.mp h
  refine ⟨PySem.W.fnOf "law" "law" (defArgs s_law) (defBody s_law) (defScope s_law) .none kV50 dc50 pm50 an50 cd50 ct50, [(cM, tM)], @spOf I K pr_law, ?_, ?_, ?_, fun s v => .of_eq rfl, fun H a ns hle _ hH hS => @law_sp I K H a tM ns hI (hH (cM, tM) (List.mem_singleton.mpr rfl)) hle hS, fun base _ _ hTB => ?_⟩
  · intro p hp; rw [one hp]; exact hT
  · intro p hp; rw [one hp]; exact nM
  · intro p hp; rw [one hp]; exact PySem.W.codeHd_of_K X hC
  have hTB := hTB (cM, tM) (List.mem_singleton.mpr rfl)
  have h__law_pick : Has l.prog w K mg base "_law_pick" ["deck", "limit"] 1 pr_law_pick := has_law_pick (dd := D0) (T := T)
  have h_is_from : Has l.prog w K mg base "is_from" ["value", "low", "high"] 1 pr_is_from := has_is_from (dd := D1) (T := T)
  have h_need_results : Has l.prog w K mg base "need_results" ["judges", "results"] 2 pr_need_results := has_need_results (dd := D2) (T := T) (h_is_from := h_is_from)
  have h_sums_of : Has l.prog w K mg base "sums_of" ["judges", "results"] 1 pr_sums_of := has_sums_of (dd := D3) (T := T)
  have h_least_gaps : Has l.prog w K mg base "least_gaps" ["sums", "middle"] 1 pr_least_gaps := has_least_gaps (dd := D4) (T := T)
  have h_slack_of : Has l.prog w K mg base "slack_of" ["sums", "middle"] 2 pr_slack_of := has_slack_of (dd := D5) (T := T) (h_least_gaps := h_least_gaps)
  have h_slack : Has l.prog w K mg base "slack" ["judges", "results"] 3 pr_slack := has_slack (dd := D6) (T := T) (h_need_results := h_need_results) (h_sums_of := h_sums_of) (h_slack_of := h_slack_of)
  have h_need_slack : Has l.prog w K mg base "need_slack" ["judges", "results"] 3 pr_need_slack := has_need_slack (dd := D7) (T := T) (h_need_results := h_need_results) (h_sums_of := h_sums_of) (h_slack_of := h_slack_of)
  have h_row_of : Has l.prog w K mg base "row_of" ["sums", "middle", "extras"] 2 pr_row_of := has_row_of (dd := D8) (T := T) (h_least_gaps := h_least_gaps)
  have h_choose : Has l.prog w K mg base "choose" ["many", "few"] 1 pr_choose := has_choose (dd := D9) (T := T)
  have h_row_at : Has l.prog w K mg base "row_at" ["judges", "results", "place"] 4 pr_row_at := has_row_at (dd := D10) (T := T) (h_need_slack := h_need_slack) (h_row_of := h_row_of) (h_is_from := h_is_from) (h_choose := h_choose)
  have h__law_deck : Has l.prog w K mg base "_law_deck" ["cell", "turn"] 1 pr_law_deck := has_law_deck (dd := D11) (T := T)
  have h_need_drop : Has l.prog w K mg base "need_drop" ["judges", "drop"] 2 pr_need_drop := has_need_drop (dd := D12) (T := T) (h_is_from := h_is_from)
  have h_is_marks : Has l.prog w K mg base "is_marks" ["value"] 2 pr_is_marks := has_is_marks (dd := D13) (T := T) (h_is_from := h_is_from)
  have h_need_marks : Has l.prog w K mg base "need_marks" ["marks", "drop"] 3 pr_need_marks := has_need_marks (dd := D14) (T := T) (h_need_drop := h_need_drop) (h_is_marks := h_is_marks)
  have h_need_judge : Has l.prog w K mg base "need_judge" ["marks", "judge"] 2 pr_need_judge := has_need_judge (dd := D15) (T := T) (h_is_from := h_is_from)
  have h_cuts : Has l.prog w K mg base "cuts" ["marks", "drop", "judge"] 1 pr_cuts := has_cuts (dd := D16) (T := T)
  have h_total : Has l.prog w K mg base "total" ["marks", "drop"] 1 pr_total := has_total (dd := D17) (T := T)
  have h_replaced : Has l.prog w K mg base "replaced" ["marks", "judge", "mark"] 1 pr_replaced := has_replaced (dd := D18) (T := T)
  have h_mark_range : Has l.prog w K mg base "mark_range" ["marks", "drop", "judge", "wished"] 4 pr_mark_range := has_mark_range (dd := D19) (T := T) (h_need_marks := h_need_marks) (h_need_judge := h_need_judge) (h_cuts := h_cuts) (h_is_from := h_is_from) (h_total := h_total) (h_replaced := h_replaced)
  have h_all_results : Has l.prog w K mg base "all_results" ["marks"] 3 pr_all_results := has_all_results (dd := D20) (T := T) (h_is_marks := h_is_marks) (h_total := h_total)
  have h_surely_low : Has l.prog w K mg base "surely_low" ["marks", "drop", "judge"] 1 pr_surely_low := has_surely_low (dd := D21) (T := T)
  have h_surely_high : Has l.prog w K mg base "surely_high" ["marks", "drop", "judge"] 1 pr_surely_high := has_surely_high (dd := D22) (T := T)
  have h_sure_dropped : Has l.prog w K mg base "sure_dropped" ["marks", "drop"] 4 pr_sure_dropped := has_sure_dropped (dd := D23) (T := T) (h_need_marks := h_need_marks) (h_surely_low := h_surely_low) (h_surely_high := h_surely_high)
  have h_possibly_low : Has l.prog w K mg base "possibly_low" ["marks", "drop", "judge"] 1 pr_possibly_low := has_possibly_low (dd := D24) (T := T)
  have h_possibly_high : Has l.prog w K mg base "possibly_high" ["marks", "drop", "judge"] 1 pr_possibly_high := has_possibly_high (dd := D25) (T := T)
  have h_possible_dropped : Has l.prog w K mg base "possible_dropped" ["marks", "drop"] 4 pr_possible_dropped := has_possible_dropped (dd := D26) (T := T) (h_need_marks := h_need_marks) (h_possibly_low := h_possibly_low) (h_possibly_high := h_possibly_high)
  have h_bounds : Has l.prog w K mg base "bounds" ["marks", "drop", "judge"] 4 pr_bounds := has_bounds (dd := D27) (T := T) (h_need_marks := h_need_marks) (h_need_judge := h_need_judge) (h_cuts := h_cuts)
  have h_reach : Has l.prog w K mg base "reach" ["marks", "drop", "judge"] 4 pr_reach := has_reach (dd := D28) (T := T) (h_need_marks := h_need_marks) (h_need_judge := h_need_judge) (h_total := h_total) (h_replaced := h_replaced)
  have h_with_mark : Has l.prog w K mg base "with_mark" ["marks", "drop", "judge", "mark"] 4 pr_with_mark := has_with_mark (dd := D29) (T := T) (h_need_marks := h_need_marks) (h_need_judge := h_need_judge) (h_total := h_total) (h_is_from := h_is_from) (h_replaced := h_replaced)
  have h_need_result : Has l.prog w K mg base "need_result" ["wished"] 2 pr_need_result := has_need_result (dd := D30) (T := T) (h_is_from := h_is_from)
  have h_fewest_raisers : Has l.prog w K mg base "fewest_raisers" ["marks", "drop", "wished"] 4 pr_fewest_raisers := has_fewest_raisers (dd := D31) (T := T) (h_need_marks := h_need_marks) (h_need_result := h_need_result) (h_total := h_total)
  have h_filled : Has l.prog w K mg base "filled" ["seen", "mark"] 1 pr_filled := has_filled (dd := D32) (T := T)
  have h_ends : Has l.prog w K mg base "ends" ["seen", "drop"] 2 pr_ends := has_ends (dd := D33) (T := T) (h_total := h_total) (h_filled := h_filled)
  have h_narrowing : HasG l.prog w K mg base "narrowing" ["marks", "drop"] 4 pr_narrowing := has_narrowing (dd := D34) (T := T) (h_need_marks := h_need_marks) (h_ends := h_ends)
  have h__law_six_right : Has l.prog w K mg base "_law_six_right" ["f"] 12 pr_law_six_right := has_law_six_right (dd := D35) (T := T) (h_mark_range := h_mark_range) (h_all_results := h_all_results) (h_sure_dropped := h_sure_dropped) (h_possible_dropped := h_possible_dropped) (h_bounds := h_bounds) (h_reach := h_reach) (h_with_mark := h_with_mark) (h_fewest_raisers := h_fewest_raisers) (h_slack := h_slack) (h_narrowing := h_narrowing) (h_row_at := h_row_at)
  have h_need_seen : Has l.prog w K mg base "need_seen" ["seen", "drop"] 3 pr_need_seen := has_need_seen (dd := D36) (T := T) (h_need_drop := h_need_drop) (h_is_from := h_is_from)
  have h_placed : Has l.prog w K mg base "placed" ["seen", "judge", "mark"] 1 pr_placed := has_placed (dd := D38) (T := T)
  have h_mark_ranges : Has l.prog w K mg base "mark_ranges" ["seen", "drop", "wished"] 9 pr_mark_ranges := has_mark_ranges (dd := D39) (T := T) (d_first_of := D37) (hTB := hTB) (hcode := hcM) (hmT := by rw [hI]; exact List.mem_singleton.mpr rfl) (hu := fun t ht _ => by rw [hI] at ht; rw [List.mem_singleton.mp ht]; rfl) (h_need_seen := h_need_seen) (h_need_result := h_need_result) (h_ends := h_ends) (h_placed := h_placed)
  have h_mark_rangesN : Has l.prog w K mg base "mark_ranges" ["seen", "drop", "wished"] 9 pr_mark_rangesN := has_mark_rangesN (dd := D39) (T := T) (h_need_seen := h_need_seen) (h_need_result := h_need_result) (h_ends := h_ends) (h_placed := h_placed)
  have h_result_range : Has l.prog w K mg base "result_range" ["seen", "drop"] 4 pr_result_range := has_result_range (dd := D40) (T := T) (h_need_seen := h_need_seen) (h_ends := h_ends)
  have h_sure_from : Has l.prog w K mg base "sure_from" ["marks", "drop", "wished"] 4 pr_sure_from := has_sure_from (dd := D41) (T := T) (h_need_marks := h_need_marks) (h_need_result := h_need_result) (h_ends := h_ends)
  have h_need_works : Has l.prog w K mg base "need_works" ["first", "second"] 3 pr_need_works := has_need_works (dd := D42) (T := T) (h_is_marks := h_is_marks)
  have h_leads : Has l.prog w K mg base "leads" ["first", "second"] 4 pr_leads := has_leads (dd := D43) (T := T) (h_need_works := h_need_works) (h_total := h_total)
  have h_turned_by : Has l.prog w K mg base "turned_by" ["first", "second", "drop", "judge"] 2 pr_turned_by := has_turned_by (dd := D44) (T := T) (h_total := h_total) (h_replaced := h_replaced)
  have h_turners : Has l.prog w K mg base "turners" ["first", "second", "drop"] 4 pr_turners := has_turners (dd := D45) (T := T) (h_need_works := h_need_works) (h_need_drop := h_need_drop) (h_turned_by := h_turned_by)
  have h_moves : Has l.prog w K mg base "moves" ["marks", "drop", "judge", "up"] 2 pr_moves := has_moves (dd := D46) (T := T) (h_cuts := h_cuts)
  have h_least_change : Has l.prog w K mg base "least_change" ["first", "second", "drop", "judge"] 4 pr_least_change := has_least_change (dd := D47) (T := T) (h_need_works := h_need_works) (h_need_drop := h_need_drop) (h_need_judge := h_need_judge) (h_moves := h_moves) (h_total := h_total)
  have h_lead : Has l.prog w K mg base "lead" ["first", "second", "drop"] 4 pr_lead := has_lead (dd := D48) (T := T) (h_need_works := h_need_works) (h_need_drop := h_need_drop) (h_total := h_total)
  have h__law_rest_right : Has l.prog w K mg base "_law_rest_right" ["f"] 12 pr_law_rest_right := has_law_rest_right (dd := D49) (T := T) (h_mark_ranges := h_mark_ranges) (h_result_range := h_result_range) (h_sure_from := h_sure_from) (h_leads := h_leads) (h_turners := h_turners) (h_least_change := h_least_change) (h_lead := h_lead) (h_mark_rangesN := h_mark_rangesN)
  exact ok_law D50 T (h__law_pick := h__law_pick) (h_slack := h_slack) (h_row_at := h_row_at) (h__law_deck := h__law_deck) (h__law_six_right := h__law_six_right) (h__law_rest_right := h__law_rest_right)
end DM
set_option maxRecDepth 100000 in
set_option maxHeartbeats 0 in
open PySem PySem.W PyProof.Rows in
theorem PySem.Challenge.cw_droppedmarks_k16_whole_written_panels_holds : PySem.Challenge.rw_droppedmarks_k16_whole_written_panels.Holds := by
  w_on; o_law; k_head; (case hw => w_witness2)
  k_fill
  refine LamX.walk_ofTs (l := PySem.Challenge.rw_droppedmarks_k16_whole_written_panels) (n := 63) (k := 14) (x := "script") (CX := fun w => L2.CX (PySem.Challenge.rw_droppedmarks_k16_whole_written_panels).prog w) rfl (by decide) rfl ⟨rfl, by decide, by decide⟩ (fun w h Y => PySem.W.km_in_of Y) ?F ?C
  case C => exact fun _ _ _ _ _ ⟨_, _, _, _, _, _, _, _, _, _, _, _, z⟩ => z
  case F =>
    intro w mg fa h Y KX G hmg
    have hY8 := PySem.W.km_tabs_of Y
    refine' DM.all_mk KX G hmg ?a0 ?l0 ?c0 ?k0 ?a1 ?l1 ?c1 ?k1 ?a2 ?l2 ?c2 ?k2 ?a3 ?l3 ?c3 ?k3 ?a4 ?l4 ?c4 ?k4 ?a5 ?l5 ?c5 ?k5 ?a6 ?l6 ?c6 ?k6 ?a7 ?l7 ?c7 ?k7 ?a8 ?l8 ?c8 ?k8 ?a9 ?l9 ?c9 ?k9 ?a10 ?l10 ?c10 ?k10 ?a11 ?l11 ?c11 ?k11 ?a12 ?l12 ?c12 ?k12 ?a13 ?l13 ?c13 ?k13 ?a14 ?l14 ?c14 ?k14 ?a15 ?l15 ?c15 ?k15 ?a16 ?l16 ?c16 ?k16 ?a17 ?l17 ?c17 ?k17 ?a18 ?l18 ?c18 ?k18 ?a19 ?l19 ?c19 ?k19 ?a20 ?l20 ?c20 ?k20 ?a21 ?l21 ?c21 ?k21 ?a22 ?l22 ?c22 ?k22 ?a23 ?l23 ?c23 ?k23 ?a24 ?l24 ?c24 ?k24 ?a25 ?l25 ?c25 ?k25 ?a26 ?l26 ?c26 ?k26 ?a27 ?l27 ?c27 ?k27 ?a28 ?l28 ?c28 ?k28 ?a29 ?l29 ?c29 ?k29 ?a30 ?l30 ?c30 ?k30 ?a31 ?l31 ?c31 ?k31 ?a32 ?l32 ?c32 ?k32 ?a33 ?l33 ?c33 ?k33 ?a34 ?l34 ?c34 ?k34 ?a35 ?l35 ?c35 ?k35 ?a36 ?l36 ?c36 ?k36 ?a37 ?l37 ?c37 ?k37 ?a38 ?l38 ?c38 ?k38 ?a39 ?l39 ?c39 ?k39 ?a40 ?l40 ?c40 ?k40 ?a41 ?l41 ?c41 ?k41 ?a42 ?l42 ?c42 ?k42 ?a43 ?l43 ?c43 ?k43 ?a44 ?l44 ?c44 ?k44 ?a45 ?l45 ?c45 ?k45 ?a46 ?l46 ?c46 ?k46 ?a47 ?l47 ?c47 ?k47 ?a48 ?l48 ?c48 ?k48 ?a49 ?l49 ?c49 ?k49 ?a50 ?l50 ?c50 ?k50 ?z0 ?z1 ?z2 ?z3 ?z4 ?z5 ?z6 ?z7 ?z8 ?z9 ?z10 ?z11 ?z12 ?z13 ?z14 ?z15 ?q0 ?q1 ?hcM ?lM ?vM ?nM ?hC ?hT
    (case a0 => k_is)
    (case l0 => k_is)
    (case c0 => k_is)
    (case k0 => k_is)
    (case a1 => k_is)
    (case l1 => k_is)
    (case c1 => k_is)
    (case k1 => k_is)
    (case a2 => k_is)
    (case l2 => k_is)
    (case c2 => k_is)
    (case k2 => k_is)
    (case a3 => k_is)
    (case l3 => k_is)
    (case c3 => k_is)
    (case k3 => k_is)
    (case a4 => k_is)
    (case l4 => k_is)
    (case c4 => k_is)
    (case k4 => k_is)
    (case a5 => k_is)
    (case l5 => k_is)
    (case c5 => k_is)
    (case k5 => k_is)
    (case a6 => k_is)
    (case l6 => k_is)
    (case c6 => k_is)
    (case k6 => k_is)
    (case a7 => k_is)
    (case l7 => k_is)
    (case c7 => k_is)
    (case k7 => k_is)
    (case a8 => k_is)
    (case l8 => k_is)
    (case c8 => k_is)
    (case k8 => k_is)
    (case a9 => k_is)
    (case l9 => k_is)
    (case c9 => k_is)
    (case k9 => k_is)
    (case a10 => k_is)
    (case l10 => k_is)
    (case c10 => k_is)
    (case k10 => k_is)
    (case a11 => k_is)
    (case l11 => k_is)
    (case c11 => k_is)
    (case k11 => k_is)
    (case a12 => k_is)
    (case l12 => k_is)
    (case c12 => k_is)
    (case k12 => k_is)
    (case a13 => k_is)
    (case l13 => k_is)
    (case c13 => k_is)
    (case k13 => k_is)
    (case a14 => k_is)
    (case l14 => k_is)
    (case c14 => k_is)
    (case k14 => k_is)
    (case a15 => k_is)
    (case l15 => k_is)
    (case c15 => k_is)
    (case k15 => k_is)
    (case a16 => k_is)
    (case l16 => k_is)
    (case c16 => k_is)
    (case k16 => k_is)
    (case a17 => k_is)
    (case l17 => k_is)
    (case c17 => k_is)
    (case k17 => k_is)
    (case a18 => k_is)
    (case l18 => k_is)
    (case c18 => k_is)
    (case k18 => k_is)
    (case a19 => k_is)
    (case l19 => k_is)
    (case c19 => k_is)
    (case k19 => k_is)
    (case a20 => k_is)
    (case l20 => k_is)
    (case c20 => k_is)
    (case k20 => k_is)
    (case a21 => k_is)
    (case l21 => k_is)
    (case c21 => k_is)
    (case k21 => k_is)
    (case a22 => k_is)
    (case l22 => k_is)
    (case c22 => k_is)
    (case k22 => k_is)
    (case a23 => k_is)
    (case l23 => k_is)
    (case c23 => k_is)
    (case k23 => k_is)
    (case a24 => k_is)
    (case l24 => k_is)
    (case c24 => k_is)
    (case k24 => k_is)
    (case a25 => k_is)
    (case l25 => k_is)
    (case c25 => k_is)
    (case k25 => k_is)
    (case a26 => k_is)
    (case l26 => k_is)
    (case c26 => k_is)
    (case k26 => k_is)
    (case a27 => k_is)
    (case l27 => k_is)
    (case c27 => k_is)
    (case k27 => k_is)
    (case a28 => k_is)
    (case l28 => k_is)
    (case c28 => k_is)
    (case k28 => k_is)
    (case a29 => k_is)
    (case l29 => k_is)
    (case c29 => k_is)
    (case k29 => k_is)
    (case a30 => k_is)
    (case l30 => k_is)
    (case c30 => k_is)
    (case k30 => k_is)
    (case a31 => k_is)
    (case l31 => k_is)
    (case c31 => k_is)
    (case k31 => k_is)
    (case a32 => k_is)
    (case l32 => k_is)
    (case c32 => k_is)
    (case k32 => k_is)
    (case a33 => k_is)
    (case l33 => k_is)
    (case c33 => k_is)
    (case k33 => k_is)
    (case a34 => k_is)
    (case l34 => k_is)
    (case c34 => k_is)
    (case k34 => k_is)
    (case a35 => k_is)
    (case l35 => k_is)
    (case c35 => k_is)
    (case k35 => k_is)
    (case a36 => k_is)
    (case l36 => k_is)
    (case c36 => k_is)
    (case k36 => k_is)
    (case a37 => k_is)
    (case l37 => k_is)
    (case c37 => k_is)
    (case k37 => k_is)
    (case a38 => k_is)
    (case l38 => k_is)
    (case c38 => k_is)
    (case k38 => k_is)
    (case a39 => k_is)
    (case l39 => k_is)
    (case c39 => k_is)
    (case k39 => k_is)
    (case a40 => k_is)
    (case l40 => k_is)
    (case c40 => k_is)
    (case k40 => k_is)
    (case a41 => k_is)
    (case l41 => k_is)
    (case c41 => k_is)
    (case k41 => k_is)
    (case a42 => k_is)
    (case l42 => k_is)
    (case c42 => k_is)
    (case k42 => k_is)
    (case a43 => k_is)
    (case l43 => k_is)
    (case c43 => k_is)
    (case k43 => k_is)
    (case a44 => k_is)
    (case l44 => k_is)
    (case c44 => k_is)
    (case k44 => k_is)
    (case a45 => k_is)
    (case l45 => k_is)
    (case c45 => k_is)
    (case k45 => k_is)
    (case a46 => k_is)
    (case l46 => k_is)
    (case c46 => k_is)
    (case k46 => k_is)
    (case a47 => k_is)
    (case l47 => k_is)
    (case c47 => k_is)
    (case k47 => k_is)
    (case a48 => k_is)
    (case l48 => k_is)
    (case c48 => k_is)
    (case k48 => k_is)
    (case a49 => k_is)
    (case l49 => k_is)
    (case c49 => k_is)
    (case k49 => k_is)
    (case a50 => k_is)
    (case l50 => k_is)
    (case c50 => k_is)
    (case k50 => k_is)
    (case z0 => k_is)
    (case z1 => k_is)
    (case z2 => k_is)
    (case z3 => k_is)
    (case z4 => k_is)
    (case z5 => k_is)
    (case z6 => k_is)
    (case z7 => k_is)
    (case z8 => k_is)
    (case z9 => k_is)
    (case z10 => k_is)
    (case z11 => k_is)
    (case z12 => k_is)
    (case z13 => k_is)
    (case z14 => k_is)
    (case z15 => k_is)
    (case q0 => k_is)
    (case q1 => k_is)
    (case hcM => exact rfl)
    (case lM => k_is)
    (case vM => exact rfl)
    (case nM => kernel_rfl)
    (case hC => kernel_rfl)
    (case hT => exact hY8 _ (by decide))
