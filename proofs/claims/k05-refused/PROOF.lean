import PyProof.Rows.All
import Wide.All
import OpenK.AllK
import Wide.FinOn
import HandS.ForMost
import HandS.ForExc
import HandS.Wide
import HandS.TupAny
import HandS.IsInst
import HandS.TupMul
import HandS.Rev
import HandS.Style
import KE.GoesEnum
import HandS.ExcOwn
import HandS.ExcIs
import HandS.TryOnly
import HandS.ExcField
import KE.KExcIs
import HandS.Dict
import HandS.Deep
import PyProof.ListMulRoad
import PyProof.FactsAll.tuple_2
import HandS.HotCalls
import HandS.ExcInit
import HandS.EndBits
import KE.RegKIsAll
import PySem.Challenge.RW_cutlands_k05_no_cuttings
set_option Elab.async false
set_option linter.all false
set_option maxRecDepth 100000
namespace PL
open PySem PySem.Spec PyProof.Rows L2

/-! ### data -/
inductive D where
  | non | bl (b : Bool) | int (i : Int) | str (x : Str)
  | tup (l : List D) | lst (l : List D)
  | scr (ns : List Int)
  | cut (n : Int) (rows : List D)
  | dic | exn
  deriving Inhabited

/-- what stands fixed: the written part, the module's names, the class Cutting -/
structure G where
  K : PySem.W.Frag
  mg : Str → Option Value
  cC : Addr
  xp : Addr → Hp → Prop
  xk : ∀ (a : Addr) (H H' : Hp), (∀ b o, (∀ ys, o ≠ HO.lst ys) → H b = some o → H' b = some o) → xp a H → xp a H'

mutual
inductive R (g : G) (H : Hp) : V → D → Prop
  | non : R g H .non .non
  | bl (b : Bool) : R g H (.bl b) (.bl b)
  | int (i : Int) : R g H (.int i) (.int i)
  | str (x : Str) : R g H (.str x) (.str x)
  | tup {a : Addr} {vs : List V} {ds : List D} (h : SqT g.K H a vs) (r : Rs g H vs ds) : R g H (.ref a) (.tup ds)
  | lst {a : Addr} {vs : List V} {ds : List D} (h : H a = some (.lst vs)) (r : Rs g H vs ds) : R g H (.ref a) (.lst ds)
  | scr {a : Addr} {ns : List Int} (h : SqL g.K H a (ns.map V.int)) : R g H (.ref a) (.scr ns)
  | cut {a dx t : Addr} {n : Int} {vs : List V} {ds : List D} (h : H a = some (.ins g.cC dx [("wide", .int n), ("rows", .ref t)])) (k : SqT g.K H t vs) (r : Rs g H vs ds) : R g H (.ref a) (.cut n ds)
  | dic {a : Addr} (h : H a = some (.dK [])) : R g H (.ref a) .dic
  | exn {a : Addr} (h : g.xp a H) : R g H (.ref a) .exn
inductive Rs (g : G) (H : Hp) : List V → List D → Prop
  | nil : Rs g H [] []
  | cons {v : V} {d : D} {vs : List V} {ds : List D} (h : R g H v d) (r : Rs g H vs ds) : Rs g H (v :: vs) (d :: ds)
end

theorem SameT {K : PySem.W.Frag} {H H' : Hp} {a : Addr} {xs : List V} (e : Same H H') (h : SqT K H a xs) : SqT K H' a xs := by
  rcases h with (h | ⟨o, h⟩) | h
  · exact .inl (.inl (e _ _ h))
  · exact .inl (.inr ⟨o, e _ _ h⟩)
  · exact .inr h
mutual
theorem R.mono {g : G} {H H' : Hp} (e : Same H H') : ∀ {v : V} {d : D}, R g H v d → R g H' v d
  | _, _, .non => .non
  | _, _, .bl b => .bl b
  | _, _, .int i => .int i
  | _, _, .str x => .str x
  | _, _, .tup h r => .tup (SameT e h) (Rs.mono e r)
  | _, _, .lst h r => .lst (e _ _ h) (Rs.mono e r)
  | _, _, .scr h => .scr (e.seq h)
  | _, _, .cut h k r => .cut (e _ _ h) (SameT e k) (Rs.mono e r)
  | _, _, .dic h => .dic (e _ _ h)
  | _, _, .exn h => .exn (g.xk _ _ _ (fun b o _ q => e b o q) h)
theorem Rs.mono {g : G} {H H' : Hp} (e : Same H H') : ∀ {vs : List V} {ds : List D}, Rs g H vs ds → Rs g H' vs ds
  | _, _, .nil => .nil
  | _, _, .cons h r => .cons (R.mono e h) (Rs.mono e r)
end
section
variable {g : G} {H : Hp}
theorem Rs.length : ∀ {vs : List V} {ds : List D}, Rs g H vs ds → vs.length = ds.length
  | _, _, .nil => rfl
  | _, _, .cons _ r => by rw [List.length_cons, List.length_cons, r.length]
theorem Rs.get : ∀ {vs : List V} {ds : List D} {i : Nat} {d : D}, Rs g H vs ds → ds[i]? = some d → ∃ v, vs[i]? = some v ∧ R g H v d
  | _, _, _, _, .nil, e => by simp at e
  | _, _, 0, _, .cons h _, e => by simp at e; subst e; exact ⟨_, rfl, h⟩
  | _, _, i + 1, d, .cons _ r, e => by
    obtain ⟨v, h1, h2⟩ := Rs.get (i := i) (d := d) r (by simpa using e)
    exact ⟨v, by simpa using h1, h2⟩
theorem Rs.get' : ∀ {vs : List V} {ds : List D} {i : Nat} {v : V}, Rs g H vs ds → vs[i]? = some v → ∃ d, ds[i]? = some d ∧ R g H v d
  | _, _, _, _, .nil, e => by simp at e
  | _, _, 0, _, .cons h _, e => by simp at e; subst e; exact ⟨_, rfl, h⟩
  | _, _, i + 1, d, .cons _ r, e => by
    obtain ⟨v, h1, h2⟩ := Rs.get' (i := i) (v := d) r (by simpa using e)
    exact ⟨v, by simpa using h1, h2⟩
theorem Rs.append : ∀ {vs us : List V} {ds es : List D}, Rs g H vs ds → Rs g H us es → Rs g H (vs ++ us) (ds ++ es)
  | _, _, _, _, .nil, s => s
  | _, _, _, _, .cons h r, s => .cons h (r.append s)
theorem Rs.take : ∀ {vs : List V} {ds : List D} (n : Nat), Rs g H vs ds → Rs g H (vs.take n) (ds.take n)
  | _, _, 0, _ => .nil
  | _, _, _ + 1, .nil => .nil
  | _, _, n + 1, .cons h r => .cons h (r.take n)
theorem Rs.drop : ∀ {vs : List V} {ds : List D} (n : Nat), Rs g H vs ds → Rs g H (vs.drop n) (ds.drop n)
  | _, _, 0, r => r
  | _, _, _ + 1, .nil => .nil
  | _, _, n + 1, .cons _ r => r.drop n
theorem Rs.set : ∀ {vs : List V} {ds : List D} {v : V} {d : D} (n : Nat), R g H v d → Rs g H vs ds → Rs g H (vs.set n v) (ds.set n d)
  | _, _, _, _, _, _, .nil => .nil
  | _, _, _, _, 0, q, .cons _ r => .cons q r
  | _, _, _, _, n + 1, q, .cons h r => .cons h (r.set n q)
theorem Rs.rep : ∀ {vs : List V} {ds : List D} (n : Nat), Rs g H vs ds → Rs g H (List.replicate n vs).flatten (List.replicate n ds).flatten
  | _, _, 0, _ => .nil
  | _, _, n + 1, r => r.append (r.rep n)
theorem Rs.snoc {vs : List V} {ds : List D} {v : V} {d : D} (r : Rs g H vs ds) (h : R g H v d) : Rs g H (vs ++ [v]) (ds ++ [d]) := r.append (.cons h .nil)
theorem Rs.eraseIdx : ∀ {vs : List V} {ds : List D} (n : Nat), Rs g H vs ds → Rs g H (vs.eraseIdx n) (ds.eraseIdx n)
  | _, _, _, .nil => .nil
  | _, _, 0, .cons _ r => r
  | _, _, n + 1, .cons h r => .cons h (r.eraseIdx n)
theorem Rs.ints : ∀ (ns : List Int), Rs g H (ns.map V.int) (ns.map D.int)
  | [] => .nil
  | n :: ns => .cons (.int n) (Rs.ints ns)
end

/-! ### answers -/
inductive Res (α : Type) where
  | ok (a : α) | exc (c : String) (x : Option D) | bad
namespace Res
def bind {α β : Type} : Res α → (α → Res β) → Res β
  | .ok a, f => f a
  | .exc c x, _ => .exc c x
  | .bad, _ => .bad
instance : Monad Res where
  pure := Res.ok
  bind := Res.bind
@[simp] theorem bind_ok {α β : Type} (a : α) (f : α → Res β) : (Res.ok a >>= f) = f a := rfl
@[simp] theorem bind_exc {α β : Type} (c : String) (x : Option D) (f : α → Res β) : ((Res.exc c x : Res α) >>= f) = .exc c x := rfl
@[simp] theorem bind_bad {α β : Type} (f : α → Res β) : ((Res.bad : Res α) >>= f) = .bad := rfl
@[simp] theorem pure_eq {α : Type} (a : α) : (pure a : Res α) = .ok a := rfl
theorem bind_def {α β : Type} (r : Res α) (f : α → Res β) : (r >>= f) = r.bind f := rfl
end Res

/-! ### heaps: Hs is what stands still -/
structure Ext (Hs H Hs' H' : Hp) : Prop where
  same : Same H H'
  up : Same Hs Hs'
  sub : Same Hs' H'
  new : ∀ a o, Hs' a = some o → Hs a = some o ∨ H a = none
theorem Ext.refl {Hs H : Hp} (s : Same Hs H) : Ext Hs H Hs H := ⟨Same.refl _, Same.refl _, s, fun _ _ e => .inl e⟩
theorem Ext.trans {Hs H Hs1 H1 Hs2 H2 : Hp} (a : Ext Hs H Hs1 H1) (b : Ext Hs1 H1 Hs2 H2) : Ext Hs H Hs2 H2 :=
  ⟨a.same.trans b.same, a.up.trans b.up, b.sub, fun c o e => by
    rcases b.new c o e with q | q
    · exact a.new c o q
    · exact .inr (a.same.free q)⟩
theorem same_upd {H : Hp} {p : Addr} {o : HO} (h : H p = none) : Same H (upd H p o) := fun b x e => by
  rw [upd_ne (ne_of_none e h)]
  exact e
theorem sameUpd2 {Hs H : Hp} {p : Addr} {o : HO} (s : Same Hs H) : Same (upd Hs p o) (upd H p o) := fun b x e => by
  by_cases hb : b = p
  · subst hb; rw [upd_same] at e ⊢; exact e
  · rw [upd_ne hb] at e ⊢; exact s b x e
theorem Ext.new1 {Hs H : Hp} {p : Addr} {o : HO} (s : Same Hs H) (h : H p = none) : Ext Hs H (upd Hs p o) (upd H p o) :=
  ⟨same_upd h, same_upd (s.free h), (sameUpd2 s), fun a x e => by
    by_cases ha : a = p
    · subst ha; exact .inr h
    · rw [upd_ne ha] at e; exact .inl e⟩

/-- an exception of the program's own: its class, its field at -/
def ExcAt (g : G) (c : String) (x : Option D) (C : Value) (o : Option Addr) (H : Hp) : Prop :=
  ∃ a, g.mg (Str.ofString c) = some (.ref a) ∧ C = .ref a ∧ match x with
    | none => o = none
    | some d => ∃ dd w, o = some dd ∧ H dd = some (.xd [("at", w)]) ∧ R g H w d

/-- what a reckoning must lead to -/
structure Wk {α : Type} (g : G) (E : XK) (H : Hp) (r : Res α) (P : α → Prop) : Prop where
  ok : ∀ a, r = .ok a → P a
  exc : ∀ c x, r = .exc c x → ∀ C o H', Same H H' → ExcAt g c x C o H' → E C o H'
  bad : r ≠ .bad
section
variable {α β : Type} {g : G} {E : XK} {H H' : Hp} {r : Res α} {P P' : α → Prop}
theorem Wk.mono (w : Wk g E H r P) (e : Same H H') (h : ∀ a, P a → P' a) : Wk g E H' r P' :=
  ⟨fun a q => h a (w.ok a q), fun c x q C o H2 s k => w.exc c x q C o H2 (e.trans s) k, w.bad⟩
theorem Wk.bind {k : α → Res β} {Q : β → Prop} (w : Wk g E H (r >>= k) Q) : Wk g E H r (fun a => Wk g E H (k a) Q) := by
  cases r with
  | ok a => exact ⟨fun b e => by cases e; exact w, fun c x e => (nomatch e), fun e => (nomatch e)⟩
  | exc c x => exact ⟨fun b e => (nomatch e), fun c x e => by cases e; exact w.exc _ _ rfl, fun e => (nomatch e)⟩
  | bad => exact absurd rfl w.bad
theorem Wk.is_ok {a : α} (w : Wk g E H (.ok a) P) : P a := w.ok a rfl
theorem Wk.of_ok {a : α} (h : P a) : Wk g E H (.ok a) P := ⟨fun b e => by cases e; exact h, fun c x e => (nomatch e), fun e => (nomatch e)⟩
end

/-! ### expressions -/
abbrev BEnv := List (Option D)
structure EnvR (g : G) (Hs : Hp) (σ : L2.St) (env : BEnv) : Prop where
  len : σ.length = env.length
  get : ∀ (i : Nat) d, env[i]? = some (some d) → ∃ v, σ[i]? = some (some v) ∧ R g Hs v d
theorem EnvR.mono {g : G} {Hs Hs' : Hp} {σ : L2.St} {env : BEnv} (e : EnvR g Hs σ env) (s : Same Hs Hs') : EnvR g Hs' σ env := ⟨e.len, fun i d h =>
  let ⟨v, a, b⟩ := e.get i d h
  ⟨v, a, b.mono s⟩⟩
def Lands (g : G) (Hs H : Hp) (Q : VK) (d : D) : Prop := ∀ v H' Hs', Ext Hs H Hs' H' → R g Hs' v d → Q v H'
def LandsB (g : G) (Hs H : Hp) (Q : Bool → Hp → Prop) (b : Bool) : Prop := ∀ H' Hs', Ext Hs H Hs' H' → Q b H'
def LandsA (g : G) (Hs H : Hp) (Q : List V → Hp → Prop) (ds : List D) : Prop := ∀ vs H' Hs', Ext Hs H Hs' H' → Rs g Hs' vs ds → Q vs H'
/-- reads: the value of f -/
def ER (g : G) (E : XK) (f : BEnv → Res D) : TE := fun σ H Q => ∃ Hs env, Same Hs H ∧ EnvR g Hs σ env ∧ Wk g E H (f env) (Lands g Hs H Q)
def TR (g : G) (E : XK) (f : BEnv → Res Bool) : TT := fun σ H Q => ∃ Hs env, Same Hs H ∧ EnvR g Hs σ env ∧ Wk g E H (f env) (LandsB g Hs H Q)
def AR (g : G) (E : XK) (f : BEnv → Res (List D)) : TA := fun σ H Q => ∃ Hs env, Same Hs H ∧ EnvR g Hs σ env ∧ Wk g E H (f env) (LandsA g Hs H Q)

section
variable {X : Cx} {g : G} {E : XK} {e a b : Expr} {pos : Pos} {f h : BEnv → Res D}
theorem PE_mono {t t' : TE} (p : PE X e t) (k : ∀ σ H Q, t' σ H Q → t σ H Q) : PE X e t' := ⟨fun pins s σ H Q I w => p.run pins s σ H Q I (k σ H Q w)⟩
theorem PT_mono {t t' : TT} (p : PT X e t) (k : ∀ σ H Q, t' σ H Q → t σ H Q) : PT X e t' := ⟨fun pins s σ H Q I w => p.run pins s σ H Q I (k σ H Q w)⟩
theorem PW_mono {t t' : TT} (p : PW X e t) (k : ∀ σ H Q, t' σ H Q → t σ H Q) : PW X e t' := ⟨fun wh pins s σ H Q I w => p.run wh pins s σ H Q I (k σ H Q w)⟩
theorem PA_mono {es : List Expr} {t t' : TA} (p : PA X es t) (k : ∀ σ H Q, t' σ H Q → t σ H Q) : PA X es t' := ⟨fun pos pins s σ H Q I w => p.run pos pins s σ H Q I (k σ H Q w)⟩

/-- a name -/
def eVar (i : Nat) : BEnv → Res D := fun env => match env[i]? with
  | some (some d) => .ok d
  | _ => .bad
def eC (d : D) : BEnv → Res D := fun _ => .ok d
theorem se_var (i : Nat) (p : PE X e (tVar i)) : PE X e (ER g E (eVar i)) := PE_mono p fun σ H Q ⟨Hs, env, s, r, w⟩ => by
  unfold eVar at w
  split at w
  · rename_i d hd
    obtain ⟨v, h1, h2⟩ := r.get i d hd
    exact ⟨v, h1, w.is_ok v H Hs (Ext.refl s) h2⟩
  · exact absurd rfl w.bad
theorem se_c {v : V} {d : D} (p : PE X e (tC v)) (r : ∀ H, R g H v d) : PE X e (ER g E (eC d)) := PE_mono p fun σ H Q ⟨Hs, env, s, _, w⟩ => w.is_ok v H Hs (Ext.refl s) (r _)
theorem se_int {i j} : PE X (.Constant (.int i) j pos) (ER g E (eC (.int i))) := se_c pe_int fun _ => .int i
theorem se_bl {i j} : PE X (.Constant (.bool i) j pos) (ER g E (eC (.bl i))) := se_c pe_bl fun _ => .bl i
theorem se_str {i j} : PE X (.Constant (.str i) j pos) (ER g E (eC (.str i))) := se_c pe_str fun _ => .str i
theorem se_non {j} : PE X (.Constant .none j pos) (ER g E (eC .non)) := se_c pe_non fun _ => .non

/-- an operation by values -/
def OpD (g : G) (r : R2) (fn : D → D → Res D) : Prop := ∀ (Hs H : Hp) (v u : V) (a b : D) (Q : VK), Same Hs H → R g Hs v a → R g Hs u b → ∀ E : XK, Wk g E H (fn a b) (Lands g Hs H Q) → r v u H Q
def e2 (fn : D → D → Res D) (f h : BEnv → Res D) : BEnv → Res D := fun env => f env >>= fun x => h env >>= fun y => fn x y
def e1 (fn : D → Res D) (f : BEnv → Res D) : BEnv → Res D := fun env => f env >>= fun x => fn x
theorem two {r : R2} {fn : D → D → Res D} (o : OpD g r fn) {σ : L2.St} {H : Hp} {Q : VK} (w : ER g E (e2 fn f h) σ H Q) :
    ER g E f σ H fun x H1 => ER g E h σ H1 fun y H2 => r x y H2 Q := by
  obtain ⟨Hs, env, s, rr, w⟩ := w
  refine ⟨Hs, env, s, rr, w.bind.mono (Same.refl _) fun a wa v H1 Hs1 x1 r1 => ?_⟩
  refine ⟨Hs1, env, x1.sub, rr.mono x1.up, wa.bind.mono x1.same fun b wb u H2 Hs2 x2 r2 => ?_⟩
  exact o Hs2 H2 v u a b Q x2.sub (r1.mono x2.up) r2 E (wb.mono (x1.same.trans x2.same) fun d l v' H' Hs' x' r' => l v' H' Hs' (x1.trans (x2.trans x')) r')
theorem se_op {op : Operator} {r : R2} {fn : D → D → Res D} (ho : OpR X (binaryOp op) r) (o : OpD g r fn) (ha : PE X a (ER g E f)) (hb : PE X b (ER g E h)) : PE X (.BinOp a op b pos) (ER g E (e2 fn f h)) :=
  PE_mono (pe_op ho ha hb) fun _ _ _ w => two o w
theorem se_cmp {op : CmpOp} {r : R2} {fn : D → D → Res D} (ho : OpR X (compareOp op) r) (o : OpD g r fn) (ha : PE X a (ER g E f)) (hb : PE X b (ER g E h)) (hm : behindInMarks op b = false) : PE X (.Compare a [op] [b] pos) (ER g E (e2 fn f h)) :=
  PE_mono (pe_cmpR ho ha hb hm) fun _ _ _ w => two o w
def isB : D → Res Bool
  | .bl b => .ok b
  | _ => .bad
def tst (f : BEnv → Res D) : BEnv → Res Bool := fun env => f env >>= isB
theorem tst_ER {σ : L2.St} {H : Hp} {Q : Bool → Hp → Prop} (w : TR g E (tst f) σ H Q) : ER g E f σ H fun x H' => ∃ k, x = .bl k ∧ Q k H' := by
  obtain ⟨Hs, env, s, rr, w⟩ := w
  refine ⟨Hs, env, s, rr, w.bind.mono (Same.refl _) fun d wd v H1 Hs1 x1 r1 => ?_⟩
  cases r1 with
  | bl k => exact ⟨k, rfl, wd.is_ok _ _ x1⟩
  | _ => exact absurd rfl wd.bad
theorem st_cmp {op : CmpOp} {r : R2} {fn : D → D → Res D} (ho : OpR X (compareOp op) r) (o : OpD g r fn) (ha : PE X a (ER g E f)) (hb : PE X b (ER g E h)) (hm : behindInMarks op b = false) : PT X (.Compare a [op] [b] pos) (TR g E (tst (e2 fn f h))) :=
  PT_mono (pt_cmpR ho ha hb hm) fun σ H Q w => two o (tst_ER w)
/-- an expression whose value is a bool, as a test -/
theorem st_val (ha : PE X e (ER g E f)) (he : ∀ whole, isTrue e X.env whole = (do let v ← whole; standAt e.pos; holding [v] (truthy v)) := by intro _; rfl) : PT X e (TR g E (tst f)) :=
  PT_mono (pt_val ha he) fun σ H Q w => tst_ER w
def tNotD (f : BEnv → Res Bool) : BEnv → Res Bool := fun env => f env >>= fun b => .ok (!b)
variable {p q : BEnv → Res Bool}
theorem st_not (ha : PT X a (TR g E p)) : PT X (.UnaryOp .Not a pos) (TR g E (tNotD p)) := PT_mono (pt_not ha) fun σ H Q w => by
  obtain ⟨Hs, env, s, rr, w⟩ := w
  exact ⟨Hs, env, s, rr, w.bind.mono (Same.refl _) fun b wb H' Hs' x => wb.is_ok H' Hs' x⟩
def tAndD (p q : BEnv → Res Bool) : BEnv → Res Bool := fun env => p env >>= fun b => if b = true then q env else .ok false
def tOrD (p q : BEnv → Res Bool) : BEnv → Res Bool := fun env => p env >>= fun b => if b = true then .ok true else q env
theorem tr_next {σ : L2.St} {Hs H H' Hs' : Hp} {env : BEnv} {Q : Bool → Hp → Prop} (rr : EnvR g Hs σ env) (x : Ext Hs H Hs' H') (w : Wk g E H (p env) (LandsB g Hs H Q)) : TR g E p σ H' Q :=
  ⟨Hs', env, x.sub, rr.mono x.up, w.mono x.same fun b l H2 Hs2 x2 => l H2 Hs2 (x.trans x2)⟩
theorem er_next {σ : L2.St} {Hs H H' Hs' : Hp} {env : BEnv} {Q : VK} (rr : EnvR g Hs σ env) (x : Ext Hs H Hs' H') (w : Wk g E H (f env) (Lands g Hs H Q)) : ER g E f σ H' Q :=
  ⟨Hs', env, x.sub, rr.mono x.up, w.mono x.same fun b l v H2 Hs2 x2 r2 => l v H2 Hs2 (x.trans x2) r2⟩
variable {rest : List Expr}
theorem sw_and1 (ha : PT X a (TR g E p)) : PW X (.BoolOp .And [a] pos) (TR g E p) := pw_and1 ha
theorem sw_or1 (ha : PT X a (TR g E p)) : PW X (.BoolOp .Or [a] pos) (TR g E p) := pw_or1 ha
theorem sw_and (ha : PT X a (TR g E p)) (hb : PW X (.BoolOp .And (b :: rest) pos) (TR g E q)) : PW X (.BoolOp .And (a :: b :: rest) pos) (TR g E (tAndD p q)) :=
  PW_mono (pw_and ha hb) fun σ H Q w => by
    obtain ⟨Hs, env, s, rr, w⟩ := w
    refine ⟨Hs, env, s, rr, w.bind.mono (Same.refl _) fun b wb H' Hs' x => ?_⟩
    cases b with
    | true => exact iteT (tr_next rr x (by simpa using wb))
    | false => exact iteF ((by simpa using wb : Wk g E H (.ok false) (LandsB g Hs H Q)).is_ok H' Hs' x)
theorem sw_or (ha : PT X a (TR g E p)) (hb : PW X (.BoolOp .Or (b :: rest) pos) (TR g E q)) : PW X (.BoolOp .Or (a :: b :: rest) pos) (TR g E (tOrD p q)) :=
  PW_mono (pw_or ha hb) fun σ H Q w => by
    obtain ⟨Hs, env, s, rr, w⟩ := w
    refine ⟨Hs, env, s, rr, w.bind.mono (Same.refl _) fun b wb H' Hs' x => ?_⟩
    cases b with
    | false => exact iteF (tr_next rr x (by simpa using wb))
    | true => exact iteT ((by simpa using wb : Wk g E H (.ok true) (LandsB g Hs H Q)).is_ok H' Hs' x)
theorem st_of {e : Expr} (h : PW X e (TR g E p)) : PT X e (TR g E p) := h.pt
/-- and, or, not as values -/
def eAnd (f h : BEnv → Res D) : BEnv → Res D := fun env => f env >>= fun x => isB x >>= fun b => if b = true then h env else .ok (.bl false)
def eOr (f h : BEnv → Res D) : BEnv → Res D := fun env => f env >>= fun x => isB x >>= fun b => if b = true then .ok (.bl true) else h env
theorem se_and (ha : PE X a (ER g E f)) (hb : PE X (.BoolOp .And (b :: rest) pos) (ER g E h)) : PE X (.BoolOp .And (a :: b :: rest) pos) (ER g E (eAnd f h)) :=
  PE_mono (pe_and ha hb) fun σ H Q w => by
    obtain ⟨Hs, env, s, rr, w⟩ := w
    refine ⟨Hs, env, s, rr, w.bind.mono (Same.refl _) fun d wd v H' Hs' x r' => ?_⟩
    cases r' with
    | bl k =>
      refine ⟨k, rfl, ?_⟩
      cases k with
      | true => exact iteT (er_next rr x (by simpa [isB] using wd))
      | false => exact iteF ((by simpa [isB] using wd : Wk g E H (.ok (.bl false)) (Lands g Hs H Q)).is_ok _ H' Hs' x (.bl _))
    | _ => exact absurd rfl wd.bad
theorem se_or (ha : PE X a (ER g E f)) (hb : PE X (.BoolOp .Or (b :: rest) pos) (ER g E h)) : PE X (.BoolOp .Or (a :: b :: rest) pos) (ER g E (eOr f h)) :=
  PE_mono (pe_or ha hb) fun σ H Q w => by
    obtain ⟨Hs, env, s, rr, w⟩ := w
    refine ⟨Hs, env, s, rr, w.bind.mono (Same.refl _) fun d wd v H' Hs' x r' => ?_⟩
    cases r' with
    | bl k =>
      refine ⟨k, rfl, ?_⟩
      cases k with
      | false => exact iteF (er_next rr x (by simpa [isB] using wd))
      | true => exact iteT ((by simpa [isB] using wd : Wk g E H (.ok (.bl true)) (Lands g Hs H Q)).is_ok _ H' Hs' x (.bl _))
    | _ => exact absurd rfl wd.bad
theorem se_one {op} (ha : PE X a (ER g E f)) : PE X (.BoolOp op [a] pos) (ER g E f) := pe_one ha
def eNot (f : BEnv → Res D) : BEnv → Res D := fun env => f env >>= fun x => isB x >>= fun b => .ok (.bl (!b))
theorem se_not (ha : PE X a (ER g E f)) : PE X (.UnaryOp .Not a pos) (ER g E (eNot f)) :=
  PE_mono (pe_not ha) fun σ H Q w => by
    obtain ⟨Hs, env, s, rr, w⟩ := w
    refine ⟨Hs, env, s, rr, w.bind.mono (Same.refl _) fun d wd v H' Hs' x r' => ?_⟩
    cases r' with
    | bl k => exact ⟨k, rfl, (by simpa [isB] using wd : Wk g E H (.ok (.bl (!k))) (Lands g Hs H Q)).is_ok _ H' Hs' x (.bl _)⟩
    | _ => exact absurd rfl wd.bad
def eIf (p : BEnv → Res Bool) (f h : BEnv → Res D) : BEnv → Res D := fun env => p env >>= fun b => if b = true then f env else h env
theorem se_if {c : Expr} (hc : PT X c (TR g E p)) (ha : PE X a (ER g E f)) (hb : PE X b (ER g E h)) : PE X (.IfExp c a b pos) (ER g E (eIf p f h)) :=
  PE_mono (pe_ifExp hc ha hb) fun σ H Q w => by
    obtain ⟨Hs, env, s, rr, w⟩ := w
    refine ⟨Hs, env, s, rr, w.bind.mono (Same.refl _) fun b wb H' Hs' x => ?_⟩
    cases b with
    | true => exact iteT (er_next rr x (by simpa using wb))
    | false => exact iteF (er_next rr x (by simpa using wb))
/-- a < b < c -/
def eChain (fn fn' : D → D → Res D) (f h k : BEnv → Res D) : BEnv → Res D := fun env => f env >>= fun x => h env >>= fun y => fn x y >>= fun z => isB z >>= fun b => if b = true then k env >>= fun w => fn' y w else .ok (.bl false)
theorem chain_ER {r r' : R2} {fn fn' : D → D → Res D} {k : BEnv → Res D} (o : OpD g r fn) (o' : OpD g r' fn') {σ : L2.St} {H : Hp} {Q : VK} (w : ER g E (eChain fn fn' f h k) σ H Q) :
    tChain r r' (ER g E f) (ER g E h) (ER g E k) σ H Q := by
  obtain ⟨Hs, env, s, rr, w⟩ := w
  refine ⟨Hs, env, s, rr, w.bind.mono (Same.refl _) fun a wa v H1 Hs1 x1 r1 => ?_⟩
  refine ⟨Hs1, env, x1.sub, rr.mono x1.up, wa.bind.mono x1.same fun b wb u H2 Hs2 x2 r2 => ?_⟩
  refine o Hs2 H2 v u a b _ x2.sub (r1.mono x2.up) r2 E (wb.bind.mono (x1.same.trans x2.same) fun d wd v' H3 Hs3 x3 r3 => ?_)
  have xx := x1.trans (x2.trans x3)
  cases r3 with
  | bl kk =>
    refine ⟨kk, rfl, ?_⟩
    cases kk with
    | false => exact iteF ((by simpa [isB] using wd : Wk g E H (.ok (.bl false)) (Lands g Hs H Q)).is_ok _ _ _ xx (.bl _))
    | true =>
      have wd' : Wk g E H (k env >>= fun w => fn' b w) (Lands g Hs H Q) := by simpa [isB] using wd
      refine iteT ⟨Hs3, env, x3.sub, rr.mono xx.up, wd'.bind.mono xx.same fun c wc w' H4 Hs4 x4 r4 => ?_⟩
      exact o' Hs4 H4 u w' b c Q x4.sub (r2.mono (x3.trans x4).up) r4 E (wc.mono (xx.trans x4).same fun d l v' H' Hs' x' r' => l v' H' Hs' ((xx.trans x4).trans x') r')
  | _ => exact absurd rfl wd.bad
theorem se_chain {op op' : CmpOp} {r r' : R2} {fn fn' : D → D → Res D} {c : Expr} {k : BEnv → Res D} (ho : OpR X (compareOp op) r) (ho' : OpR X (compareOp op') r') (o : OpD g r fn) (o' : OpD g r' fn') (ha : PE X a (ER g E f)) (hb : PE X b (ER g E h)) (hc : PE X c (ER g E k))
    (w : ∀ {ta tb tc : TE}, PE X a ta → PE X b tb → PE X c tc → PE X e (tChain r r' ta tb tc)) : PE X e (ER g E (eChain fn fn' f h k)) :=
  PE_mono (w ha hb hc) fun _ _ _ w => chain_ER o o' w
theorem st_chain {r r' : R2} {fn fn' : D → D → Res D} {c : Expr} {k : BEnv → Res D} (o : OpD g r fn) (o' : OpD g r' fn') (ha : PE X a (ER g E f)) (hb : PE X b (ER g E h)) (hc : PE X c (ER g E k))
    (w : ∀ {ta tb tc : TE}, PE X a ta → PE X b tb → PE X c tc → PT X e (tTest (tChain r r' ta tb tc))) : PT X e (TR g E (tst (eChain fn fn' f h k))) :=
  PT_mono (w ha hb hc) fun σ H Q w => chain_ER o o' (tst_ER w)
/-- one operand -/
def UnD (g : G) (r : V → Hp → VK → Prop) (fn : D → Res D) : Prop := ∀ (Hs H : Hp) (v : V) (a : D) (Q : VK), Same Hs H → R g Hs v a → ∀ E : XK, Wk g E H (fn a) (Lands g Hs H Q) → r v H Q
theorem one {r : V → Hp → VK → Prop} {fn : D → Res D} (o : UnD g r fn) {σ : L2.St} {H : Hp} {Q : VK} (w : ER g E (e1 fn f) σ H Q) : ER g E f σ H fun x H1 => r x H1 Q := by
  obtain ⟨Hs, env, s, rr, w⟩ := w
  refine ⟨Hs, env, s, rr, w.bind.mono (Same.refl _) fun a wa v H1 Hs1 x1 r1 => ?_⟩
  exact o Hs1 H1 v a Q x1.sub r1 E (wa.mono x1.same fun d l v' H' Hs' x' r' => l v' H' Hs' (x1.trans x') r')
theorem se_un {op : UnaryOp} {r : V → Hp → VK → Prop} {fn : D → Res D} (ho : UnR X (unaryOp op) r) (o : UnD g r fn) (ha : PE X a (ER g E f)) : PE X (.UnaryOp op a pos) (ER g E (e1 fn f)) :=
  PE_mono (pe_un ho ha) fun _ _ _ w => one o w

/-! ### argument lists -/
def aNil : BEnv → Res (List D) := fun _ => .ok []
def aCons (f : BEnv → Res D) (h : BEnv → Res (List D)) : BEnv → Res (List D) := fun env => f env >>= fun x => h env >>= fun xs => .ok (x :: xs)
variable {es : List Expr} {fs : BEnv → Res (List D)}
theorem sa_nil : PA X [] (AR g E aNil) := PA_mono pa_nil fun σ H Q ⟨Hs, env, s, _, w⟩ => w.is_ok [] H Hs (Ext.refl s) .nil
theorem sa_cons (ha : PE X e (ER g E f)) (hr : PA X es (AR g E fs)) (hs : starEach (e :: es) X.env = (false, eval e X.env) :: starEach es X.env := by rfl) : PA X (e :: es) (AR g E (aCons f fs)) :=
  PA_mono (pa_cons ha hr hs) fun σ H Q ⟨Hs, env, s, rr, w⟩ => by
    refine ⟨Hs, env, s, rr, w.bind.mono (Same.refl _) fun a wa v H1 Hs1 x1 r1 => ?_⟩
    refine ⟨Hs1, env, x1.sub, rr.mono x1.up, wa.bind.mono x1.same fun b wb us H2 Hs2 x2 r2 => ?_⟩
    exact wb.is_ok (v :: us) H2 Hs2 (x1.trans x2) (.cons (r1.mono x2.up) r2)
/-- what is reckoned of an argument list's values -/
theorem ar_then {fn : List D → Res D} {r : List V → Hp → VK → Prop} {σ : L2.St} {H : Hp} {Q : VK}
    (o : ∀ (Hs H : Hp) (vs : List V) (ds : List D) (Q : VK), Same Hs H → Rs g Hs vs ds → Wk g E H (fn ds) (Lands g Hs H Q) → r vs H Q)
    (w : ER g E (fun env => fs env >>= fn) σ H Q) : AR g E fs σ H fun vs H1 => r vs H1 Q := by
  obtain ⟨Hs, env, s, rr, w⟩ := w
  refine ⟨Hs, env, s, rr, w.bind.mono (Same.refl _) fun ds wd vs H1 Hs1 x1 r1 => ?_⟩
  exact o Hs1 H1 vs ds Q x1.sub r1 (wd.mono x1.same fun d l v' H' Hs' x' r' => l v' H' Hs' (x1.trans x') r')
/-- displays -/
def eTup (fs : BEnv → Res (List D)) : BEnv → Res D := fun env => fs env >>= fun ds => if ds.length ≤ 1000 then .ok (.tup ds) else .bad
theorem line1000 {n : Nat} (h : n ≤ 1000) : n ≤ sizeLine := Nat.le_of_lt (small1000 h)
theorem se_tup {x1} (h : PA X es (AR g E fs)) : PE X (.Tuple es x1 pos) (ER g E (eTup fs)) :=
  PE_mono (pe_tup h) fun σ H Q w => ar_then (r := fun xs H1 Q => xs.length ≤ sizeLine ∧ ∀ p, H1 p = none → Q (.ref p) (upd H1 p (.tup xs))) (fun Hs H vs ds Q s r w => by
    have w := w
    split at w
    · rename_i hl
      refine ⟨by rw [r.length]; exact line1000 hl, fun p np => w.is_ok _ _ (upd Hs p (.tup vs)) (Ext.new1 s np) (.tup (.inl (.inl upd_same)) (r.mono (same_upd (s.free np))))⟩
    · exact absurd rfl w.bad) w
/-- a builtin's call, an own type's -/
def CallD (g : G) (r : List V → Hp → VK → Prop) (fn : List D → Res D) : Prop := ∀ (Hs H : Hp) (vs : List V) (ds : List D) (Q : VK), Same Hs H → Rs g Hs vs ds → ∀ E : XK, Wk g E H (fn ds) (Lands g Hs H Q) → r vs H Q
def eCall (fn : List D → Res D) (fs : BEnv → Res (List D)) : BEnv → Res D := fun env => fs env >>= fn
theorem se_callB {id : String} {x : Str} {p : Pos} {r : List V → Hp → VK → Prop} {fn : List D → Res D} (hc : CallR X (.builtin id) r) (o : CallD g r fn) (hg : Gl X x) (hm : X.mg x = none) (hv : bootBuiltins x = some (.builtin id)) (ha : PA X (e :: es) (AR g E fs))
    (w : ∀ {t : TA}, PA X (e :: es) t → PE X (.Call (.Name x p) (e :: es) [] pos) (tCB r t)) : PE X (.Call (.Name x p) (e :: es) [] pos) (ER g E (eCall fn fs)) :=
  PE_mono (w ha) fun σ H Q w => ar_then (fun Hs H vs ds Q s r w => o Hs H vs ds Q s r E w) w
end
end PL

set_option Elab.async false
set_option linter.all false
set_option maxRecDepth 100000
set_option maxHeartbeats 1000000
namespace PL
open PySem PySem.Spec PyProof.Rows L2

theorem OpR.any {X : Cx} {f : Value → Value → Sem Value} {r r' : R2} (h : OpR X f r) (h' : OpR X f r') : OpR X f (fun x y H Q => r x y H Q ∨ r' x y H Q) := h.or h'

/-! ### data for == -/
mutual
def toPy : D → PyData
  | .non => .none
  | .bl b => .bool b
  | .int i => .int i
  | .str x => .str x
  | .tup l => .tuple (toPys l)
  | .lst l => .list (toPys l)
  | .scr ns => .list (ns.map PyData.int)
  | .cut _ _ => .none
  | .dic => .none
  | .exn => .none
def toPys : List D → List PyData
  | [] => []
  | d :: ds => toPy d :: toPys ds
end
mutual
/-- data that == takes: of at most so many levels -/
def eqOk : Nat → D → Bool
  | _, .non => true
  | _, .bl _ => true
  | _, .int _ => true
  | _, .str x => PyData.strOk x
  | n, .tup l => decide (0 < n) && eqOks (n - 1) l
  | n, .lst l => decide (0 < n) && eqOks (n - 1) l
  | _, .scr _ => false
  | _, .cut _ _ => false
  | _, .dic => false
  | _, .exn => false
def eqOks : Nat → List D → Bool
  | _, [] => true
  | n, d :: ds => eqOk n d && eqOks n ds
end
mutual
theorem eqOk_dp {g : G} {H : Hp} : ∀ {v : V} {d : D} {n : Nat}, R g H v d → eqOk n d = true → Dp g.K H v (toPy d) ∧ (toPy d).canLay0 = true ∧ (toPy d).depth ≤ n
  | _, _, n, .non, _ => ⟨.non, rfl, Nat.zero_le _⟩
  | _, _, n, .bl b, _ => ⟨.bl b, rfl, Nat.zero_le _⟩
  | _, _, n, .int i, _ => ⟨.int i, rfl, Nat.zero_le _⟩
  | _, _, n, .str x, h => ⟨.str x, by simpa [toPy, PyData.canLay0] using (by simpa [eqOk] using h : PyData.strOk x = true), Nat.zero_le _⟩
  | _, .tup l, n, .tup h r, e => by
    have e' : 0 < n ∧ eqOks (n - 1) l = true := by simpa [eqOk] using e
    obtain ⟨a, b, c⟩ := eqOks_dp r e'.2
    refine ⟨.tup h a, by simpa [toPy, PyData.canLay0] using b, ?_⟩
    show PyData.depth (.tuple (toPys l)) ≤ n
    have : PyData.depth (.tuple (toPys l)) = PyData.depthAll (toPys l) + 1 := by simp only [PyData.depth]
    omega
  | _, .lst l, n, .lst h r, e => by
    have e' : 0 < n ∧ eqOks (n - 1) l = true := by simpa [eqOk] using e
    obtain ⟨a, b, c⟩ := eqOks_dp r e'.2
    refine ⟨.lst (SqL.of h) a, by simpa [toPy, PyData.canLay0] using b, ?_⟩
    show PyData.depth (.list (toPys l)) ≤ n
    have : PyData.depth (.list (toPys l)) = PyData.depthAll (toPys l) + 1 := by simp only [PyData.depth]
    omega
  | _, _, _, .scr _, e => by simp [eqOk] at e
  | _, _, _, .cut _ _ _, e => by simp [eqOk] at e
  | _, _, _, .dic _, e => by simp [eqOk] at e
  | _, _, _, .exn _, e => by simp [eqOk] at e
theorem eqOks_dp {g : G} {H : Hp} : ∀ {vs : List V} {ds : List D} {n : Nat}, Rs g H vs ds → eqOks n ds = true → DpAll g.K H vs (toPys ds) ∧ PyData.canLayAll0 (toPys ds) = true ∧ PyData.depthAll (toPys ds) ≤ n
  | _, _, n, .nil, _ => ⟨.nil, rfl, Nat.zero_le _⟩
  | _, d :: ds, n, .cons h r, e => by
    have e' : eqOk n d = true ∧ eqOks n ds = true := by simpa [eqOks] using e
    obtain ⟨a, b, c⟩ := eqOk_dp h e'.1
    obtain ⟨a2, b2, c2⟩ := eqOks_dp r e'.2
    refine ⟨.cons a a2, by simp [toPys, PyData.canLayAll0, b, b2], ?_⟩
    show PyData.depthAll (toPy d :: toPys ds) ≤ n
    have : PyData.depthAll (toPy d :: toPys ds) = max (PyData.depth (toPy d)) (PyData.depthAll (toPys ds)) := by simp only [PyData.depthAll]
    omega
end
theorem shaped_of {g : G} {H : Hp} {v : V} {d : D} (r : R g H v d) (h : eqOk 60 d = true) : Dp g.K H v (toPy d) ∧ SeqAt.shaped (toPy d) = true := by
  obtain ⟨a, b, c⟩ := eqOk_dp r h
  refine ⟨a, ?_⟩
  unfold SeqAt.shaped
  rw [b, Bool.true_and]
  exact decide_eq_true (by omega)
def deq (a b : D) : Bool := PyData.eqv (toPy a) (toPy b)
def deqs (a b : List D) : Bool := PyData.eqvAll (toPys a) (toPys b)
def eqD (a b : D) : Res D := if eqOk 60 a = true ∧ eqOk 60 b = true then .ok (.bl (deq a b)) else .bad
def neD (a b : D) : Res D := if eqOk 60 a = true ∧ eqOk 60 b = true then .ok (.bl (!deq a b)) else .bad

/-! ### operations by values -/
section
variable {g : G}
theorem wk_if {E : XK} {H : Hp} {c : Prop} [Decidable c] {α : Type} {a : α} {P : α → Prop} (w : Wk g E H (if c then .ok a else .bad) P) : c ∧ P a := by
  by_cases h : c
  · rw [if_pos h] at w; exact ⟨h, w.is_ok⟩
  · rw [if_neg h] at w; exact absurd rfl w.bad
theorem lands_new {Hs H : Hp} {Q : VK} {d : D} {o : HO} {p : Addr} (l : Lands g Hs H Q d) (s : Same Hs H) (np : H p = none) (r : R g (upd Hs p o) (.ref p) d) : Q (.ref p) (upd H p o) := l _ _ _ (Ext.new1 s np) r

def addD : D → D → Res D
  | .int i, .int j => .ok (.int (i + j))
  | .tup a, .tup b => if a.length + b.length ≤ 1000000 then .ok (.tup (a ++ b)) else .bad
  | .lst a, .lst b => if a.length + b.length ≤ 1000000 then .ok (.lst (a ++ b)) else .bad
  | .str x, .str y => if x.length + y.length ≤ 1000000 then .ok (.str (x ++ y)) else .bad
  | _, _ => .bad
theorem line6 {n : Nat} (h : n ≤ 1000000) : n ≤ sizeLine := Nat.le_trans h (by decide)
abbrev rAddD (K : PySem.W.Frag) : R2 := fun x y H Q => (rI0 (fun i j => .int (i + j)) x y H Q ∨ rCatA K x y H Q) ∨ (rCat x y H Q ∨ (∃ i j, x = .str i ∧ y = .str j ∧ i.length + j.length ≤ sizeLine ∧ Q (.str (i ++ j)) H))
theorem or_add {X : Cx} : OpR X (binaryOp .Add) (rAddD X.K) := (op_add.or op_catA).or (op_cat.or op_add_str)
theorem od_add : OpD g (rAddD g.K) addD := by
  intro Hs H v u a b Q s r1 r2 E w
  cases r1 with
  | int i =>
    cases r2 with
    | int j => exact .inl (.inl ⟨i, j, rfl, rfl, w.is_ok _ _ _ (Ext.refl s) (.int _)⟩)
    | _ => exact absurd rfl w.bad
  | tup h1 q1 =>
    cases r2 with
    | tup h2 q2 =>
      obtain ⟨hl, l⟩ := wk_if w
      refine .inl (.inr ⟨_, _, _, _, rfl, rfl, SameT s h1, SameT s h2, by rw [q1.length, q2.length]; exact line6 hl, fun e => ?_, fun _ e => ?_, fun _ _ p np => ?_⟩)
      · refine l _ _ _ (Ext.refl s) (.tup h2 ?_)
        have := q1.append q2
        rw [e] at this
        exact this
      · refine l _ _ _ (Ext.refl s) (.tup h1 ?_)
        have := q1.append q2
        rw [e, List.append_nil] at this
        exact this
      · exact lands_new l s np (.tup (.inl (.inl upd_same)) ((q1.append q2).mono (same_upd (s.free np))))
    | _ => exact absurd rfl w.bad
  | lst h1 q1 =>
    cases r2 with
    | lst h2 q2 =>
      obtain ⟨hl, l⟩ := wk_if w
      refine .inr (.inl ⟨_, _, _, _, rfl, rfl, s _ _ h1, s _ _ h2, by rw [q1.length, q2.length]; exact line6 hl, fun p np => ?_⟩)
      exact lands_new l s np (.lst upd_same ((q1.append q2).mono (same_upd (s.free np))))
    | _ => exact absurd rfl w.bad
  | str x =>
    cases r2 with
    | str y =>
      obtain ⟨hl, l⟩ := wk_if w
      exact .inr (.inr ⟨_, _, rfl, rfl, line6 hl, l _ _ _ (Ext.refl s) (.str _)⟩)
    | _ => exact absurd rfl w.bad
  | _ => exact absurd rfl w.bad

/-- two ints -/
def iiD (c : Int → Int → Bool) (f : Int → Int → D) : D → D → Res D
  | .int i, .int j => if c i j = true then .ok (f i j) else .bad
  | _, _ => .bad
theorem od_ii {C : Int → Int → Prop} {h : Int → Int → V} {c : Int → Int → Bool} {f : Int → Int → D} (hc : ∀ i j, c i j = true → C i j) (hf : ∀ H i j, R g H (h i j) (f i j)) : OpD g (rI C h) (iiD c f) := by
  intro Hs H v u a b Q s r1 r2 E w
  cases r1 with
  | int i =>
    cases r2 with
    | int j =>
      obtain ⟨e, l⟩ := wk_if w
      exact ⟨i, j, rfl, rfl, hc i j e, l _ _ _ (Ext.refl s) (hf _ i j)⟩
    | _ => exact absurd rfl w.bad
  | _ => exact absurd rfl w.bad
def iiD0 (f : Int → Int → D) : D → D → Res D
  | .int i, .int j => .ok (f i j)
  | _, _ => .bad
theorem od_ii0 {h : Int → Int → V} {f : Int → Int → D} (hf : ∀ H i j, R g H (h i j) (f i j)) : OpD g (rI0 h) (iiD0 f) := by
  intro Hs H v u a b Q s r1 r2 E w
  cases r1 with
  | int i =>
    cases r2 with
    | int j => exact ⟨i, j, rfl, rfl, w.is_ok _ _ _ (Ext.refl s) (hf _ i j)⟩
    | _ => exact absurd rfl w.bad
  | _ => exact absurd rfl w.bad
def subD : D → D → Res D := iiD0 fun i j => .int (i - j)
theorem od_sub : OpD g (rI0 fun i j => V.int (i - j)) subD := od_ii0 fun _ _ _ => .int _
def ltD : D → D → Res D := iiD0 fun i j => .bl (decide (i < j))
def leD : D → D → Res D := iiD0 fun i j => .bl (decide (i ≤ j))
def gtD : D → D → Res D := iiD0 fun i j => .bl (decide (j < i))
def geD : D → D → Res D := iiD0 fun i j => .bl (decide (j ≤ i))
theorem od_lt : OpD g (rI0 fun i j => V.bl (decide (i < j))) ltD := od_ii0 fun _ _ _ => .bl _
theorem od_le : OpD g (rI0 fun i j => V.bl (decide (i ≤ j))) leD := od_ii0 fun _ _ _ => .bl _
theorem od_gt : OpD g (rI0 fun i j => V.bl (decide (j < i))) gtD := od_ii0 fun _ _ _ => .bl _
theorem od_ge : OpD g (rI0 fun i j => V.bl (decide (j ≤ i))) geD := od_ii0 fun _ _ _ => .bl _

/-! great ints -/
def mulOk (i j : Int) : Bool := decide (i.natAbs.log2 + j.natAbs.log2 < 100000000)
theorem mulOk_ok {i j : Int} (h : mulOk i j = true) : IntMulOk i j := by
  have b : ∀ x : Int, Builtin.Int.intBits x ≤ x.natAbs.log2 + 1 := fun x => by
    unfold Builtin.Int.intBits
    split <;> omega
  have h1 := b i
  have h2 := b j
  have h3 : i.natAbs.log2 + j.natAbs.log2 < 100000000 := of_decide_eq_true h
  have e : bitsLine = 134217728 := by decide
  unfold IntMulOk
  intro z
  rw [Bool.and_eq_true] at z
  have z2 := z.2
  unfold Builtin.Int.intTooBig at z2
  have z3 := of_decide_eq_true z2
  rw [e] at z3
  omega
theorem op_mulB {X : Cx} : OpR X (binaryOp .Mult) (rI (fun i j => IntMulOk i j) fun i j => .int (i * j)) := opI fun _ _ _ _ _ _ _ hc q => mul_int q hc
/-- a division that the machine's own way does -/
def divOk (i j : Int) : Bool := decide (j ≠ 0) && !Builtin.divisionGoesByPylong i j
theorem op_fdivB {X : Cx} : OpR X (binaryOp .FloorDiv) (rI (fun i j => j ≠ 0 ∧ Builtin.divisionGoesByPylong i j = false) fun i j => .int (i.fdiv j)) := opI fun i j _ _ _ _ _ hc q => floordiv_int hc.1 q (.inl hc.2)
def fdivD : D → D → Res D := iiD divOk fun i j => .int (i.fdiv j)
theorem od_fdiv : OpD g (rI (fun i j => j ≠ 0 ∧ Builtin.divisionGoesByPylong i j = false) fun i j => V.int (i.fdiv j)) fdivD := od_ii (fun i j h => by
  unfold divOk at h
  rw [Bool.and_eq_true] at h
  exact ⟨of_decide_eq_true h.1, by simpa using h.2⟩) fun _ _ _ => .int _
def modD : D → D → Res D := iiD (fun _ j => decide (j ≠ 0)) fun i j => .int (i.fmod j)
theorem od_mod : OpD g (rI (fun _ j => j ≠ 0) fun i j => V.int (i.fmod j)) modD := od_ii (fun i j h => by simpa using h) fun _ _ _ => .int _
def powD : D → D → Res D := iiD (fun i j => decide (0 ≤ j ∧ j ≤ 1000000 ∧ i.natAbs < 2 ^ 64)) fun i j => .int (i ^ j.toNat)
theorem od_pow : OpD g (rI CPow fun i j => V.int (i ^ j.toNat)) powD := od_ii (fun i j h => (of_decide_eq_true h : 0 ≤ j ∧ j ≤ 1000000 ∧ i.natAbs < 2 ^ 64)) fun _ _ _ => .int _
def negD : D → Res D
  | .int i => .ok (.int (-i))
  | _ => .bad
theorem ud_neg : UnD g (rU fun i => V.int (-i)) negD := by
  intro Hs H v a Q s r E w
  cases r with
  | int i => exact ⟨i, rfl, w.is_ok _ _ _ (Ext.refl s) (.int _)⟩
  | _ => exact absurd rfl w.bad
/-- * -/
def mulD : D → D → Res D
  | .int i, .int j => if mulOk i j = true then .ok (.int (i * j)) else .bad
  | .lst a, .int k => if 0 ≤ k ∧ k ≤ 1000 ∧ a.length ≤ 1000 then .ok (.lst (List.replicate k.toNat a).flatten) else .bad
  | .tup a, .int k => if 2 ≤ k ∧ k ≤ 1000 ∧ a.length ≤ 1000 ∧ a ≠ [] then .ok (.tup (List.replicate k.toNat a).flatten) else .bad
  | _, _ => .bad
abbrev rMulD (K : PySem.W.Frag) : R2 := fun x y H Q => rI (fun i j => IntMulOk i j) (fun i j => .int (i * j)) x y H Q ∨ (rRep x y H Q ∨ rRepT K x y H Q)
theorem or_mul {X : Cx} : OpR X (binaryOp .Mult) (rMulD X.K) := op_mulB.or (op_rep.or op_repT)
theorem od_mul : OpD g (rMulD g.K) mulD := by
  intro Hs H v u a b Q s r1 r2 E w
  cases r1 with
  | int i =>
    cases r2 with
    | int j =>
      obtain ⟨e, l⟩ := wk_if w
      exact .inl ⟨i, j, rfl, rfl, mulOk_ok e, l _ _ _ (Ext.refl s) (.int _)⟩
    | _ => exact absurd rfl w.bad
  | lst h q =>
    cases r2 with
    | int k =>
      obtain ⟨⟨k0, k1, k2⟩, l⟩ := wk_if w
      refine .inr (.inl ⟨_, k, _, rfl, rfl, s _ _ h, by omega, by omega, ?_, fun p np => ?_⟩)
      · rw [q.length]
        have : k.toNat ≤ 1000 := by omega
        exact line6 (Nat.mul_le_mul k2 this)
      · exact lands_new l s np (.lst upd_same ((q.rep _).mono (same_upd (s.free np))))
    | _ => exact absurd rfl w.bad
  | tup h q =>
    cases r2 with
    | int k =>
      obtain ⟨⟨k0, k1, k2, k3⟩, l⟩ := wk_if w
      refine .inr (.inr ⟨_, k, _, rfl, rfl, SameT s h, fun e => k3 ?_, k0, k1, by rw [q.length]; exact k2, fun p np => ?_⟩)
      · rw [e] at q
        cases q
        rfl
      · exact lands_new l s np (.tup (.inl (.inl upd_same)) ((q.rep _).mono (same_upd (s.free np))))
    | _ => exact absurd rfl w.bad
  | _ => exact absurd rfl w.bad
/-! == -/
theorem od_eq : OpD g (rEqD g.K) eqD := by
  intro Hs H v u a b Q s r1 r2 E w
  obtain ⟨⟨h1, h2⟩, l⟩ := wk_if w
  obtain ⟨d1, s1⟩ := shaped_of (r1.mono s) h1
  obtain ⟨d2, s2⟩ := shaped_of (r2.mono s) h2
  exact ⟨_, _, d1, d2, s1, s2, l _ _ _ (Ext.refl s) (.bl _)⟩
theorem od_ne : OpD g (rNeD g.K) neD := by
  intro Hs H v u a b Q s r1 r2 E w
  obtain ⟨⟨h1, h2⟩, l⟩ := wk_if w
  obtain ⟨d1, s1⟩ := shaped_of (r1.mono s) h1
  obtain ⟨d2, s2⟩ := shaped_of (r2.mono s) h2
  exact ⟨_, _, d1, d2, s1, s2, l _ _ _ (Ext.refl s) (.bl _)⟩
/-! is None -/
def isND : D → D → Res D := fun a b => match b with
  | .non => match a with
    | .non => .ok (.bl true)
    | _ => .ok (.bl false)
  | _ => .bad
def notND : D → D → Res D := fun a b => match b with
  | .non => match a with
    | .non => .ok (.bl false)
    | _ => .ok (.bl true)
  | _ => .bad
theorem od_isN : OpD g (fun x y H Q => y = .non ∧ Q (.bl (decide (x = .non))) H) isND := by
  intro Hs H v u a b Q s r1 r2 E w
  cases r2 with
  | non => cases r1 <;> exact ⟨rfl, w.is_ok _ _ _ (Ext.refl s) (.bl _)⟩
  | _ => exact absurd rfl w.bad
theorem od_notN : OpD g (fun x y H Q => y = .non ∧ Q (.bl (!decide (x = .non))) H) notND := by
  intro Hs H v u a b Q s r1 r2 E w
  cases r2 with
  | non => cases r1 <;> exact ⟨rfl, w.is_ok _ _ _ (Ext.refl s) (.bl _)⟩
  | _ => exact absurd rfl w.bad
/-! builtins -/
def lenD : List D → Res D
  | [.tup l] => .ok (.int l.length)
  | [.lst l] => .ok (.int l.length)
  | [.scr l] => .ok (.int l.length)
  | [.str x] => if x.length ≤ 1000000 then .ok (.int x.length) else .bad
  | _ => .bad
theorem cd_len : CallD g (fun xs H Q => ∃ x n, xs = [x] ∧ LenV g.K x H n ∧ Q (.int n) H) lenD := by
  intro Hs H vs ds Q s r E w
  unfold lenD at w
  split at w
  · obtain ⟨⟩ | ⟨r, r0⟩ := r
    cases r0
    cases r with
    | tup h q => exact ⟨_, _, rfl, .inr ⟨_, SameT s h, rfl⟩, by rw [q.length]; exact w.is_ok _ _ _ (Ext.refl s) (.int _)⟩
  · obtain ⟨⟩ | ⟨r, r0⟩ := r
    cases r0
    cases r with
    | lst h q => exact ⟨_, _, rfl, .inl ⟨_, SqL.of (s _ _ h), rfl⟩, by rw [q.length]; exact w.is_ok _ _ _ (Ext.refl s) (.int _)⟩
  · obtain ⟨⟩ | ⟨r, r0⟩ := r
    cases r0
    cases r with
    | scr h => exact ⟨_, _, rfl, .inl ⟨_, s.seq h, rfl⟩, by rw [List.length_map]; exact w.is_ok _ _ _ (Ext.refl s) (.int _)⟩
  · obtain ⟨⟩ | ⟨r, r0⟩ := r
    cases r0
    cases r with
    | str x =>
      obtain ⟨e, l⟩ := wk_if w
      exact ⟨_, _, rfl, ⟨line6 e, rfl⟩, l _ _ _ (Ext.refl s) (.int _)⟩
  · exact absurd rfl w.bad
def absD : List D → Res D
  | [.int i] => .ok (.int (if i < 0 then -i else i))
  | _ => .bad
theorem cd_abs : CallD g (fun xs H Q => ∃ i, xs = [.int i] ∧ Q (.int (if i < 0 then -i else i)) H) absD := by
  intro Hs H vs ds Q s r E w
  unfold absD at w
  split at w
  · obtain ⟨⟩ | ⟨r, r0⟩ := r
    cases r0
    cases r with
    | int i => exact ⟨_, rfl, w.is_ok _ _ _ (Ext.refl s) (.int _)⟩
  · exact absurd rfl w.bad
def max2D : List D → Res D
  | [.int i, .int j] => .ok (.int (if j > i then j else i))
  | _ => .bad
def min2D : List D → Res D
  | [.int i, .int j] => .ok (.int (if j < i then j else i))
  | _ => .bad
theorem cd_max2 : CallD g (fun xs H Q => ∃ i j, xs = [.int i, .int j] ∧ Q (.int (if j > i then j else i)) H) max2D := by
  intro Hs H vs ds Q s r E w
  unfold max2D at w
  split at w
  · obtain ⟨⟩ | ⟨r, r0⟩ := r
    obtain ⟨⟩ | ⟨r1, r0⟩ := r0
    cases r0
    cases r
    cases r1
    exact ⟨_, _, rfl, w.is_ok _ _ _ (Ext.refl s) (.int _)⟩
  · exact absurd rfl w.bad
theorem cd_min2 : CallD g (fun xs H Q => ∃ i j, xs = [.int i, .int j] ∧ Q (.int (if j < i then j else i)) H) min2D := by
  intro Hs H vs ds Q s r E w
  unfold min2D at w
  split at w
  · obtain ⟨⟩ | ⟨r, r0⟩ := r
    obtain ⟨⟩ | ⟨r1, r0⟩ := r0
    cases r0
    cases r
    cases r1
    exact ⟨_, _, rfl, w.is_ok _ _ _ (Ext.refl s) (.int _)⟩
  · exact absurd rfl w.bad
def intD : List D → Res D
  | [.int i] => .ok (.int i)
  | [.bl b] => .ok (.int (if b = true then 1 else 0))
  | _ => .bad
theorem cd_int : CallD g (fun xs H Q => (∃ i, xs = [.int i] ∧ Q (.int i) H) ∨ ∃ k, xs = [.bl k] ∧ Q (.int (if k then 1 else 0)) H) intD := by
  intro Hs H vs ds Q s r E w
  unfold intD at w
  split at w
  · obtain ⟨⟩ | ⟨r, r0⟩ := r
    cases r0
    cases r
    exact .inl ⟨_, rfl, w.is_ok _ _ _ (Ext.refl s) (.int _)⟩
  · obtain ⟨⟩ | ⟨r, r0⟩ := r
    cases r0
    cases r
    exact .inr ⟨_, rfl, w.is_ok _ _ _ (Ext.refl s) (.int _)⟩
  · exact absurd rfl w.bad
end
/-! subscripts -/
section
variable {X : Cx} {g : G} {E : XK} {a b : Expr} {pos : Pos} {f h : BEnv → Res D}
def atD (l : List D) (i : Int) : Res D := match ixN l.length i with
  | some j => match l[j]? with
    | some d => .ok d
    | none => .bad
  | none => .bad
def ixD : D → D → Res D
  | .tup l, .int i => atD l i
  | .lst l, .int i => atD l i
  | .scr l, .int i => match atI l i with
    | some z => .ok (.int z)
    | none => .bad
  | .str x, .int i => if x.length ≤ 1000000 then match atI x.cps.toList i with
    | some c => .ok (.str ⟨#[c]⟩)
    | none => .bad
    else .bad
  | _, _ => .bad
theorem atD_ok {H : Hp} {vs : List V} {l : List D} {i : Int} {P : D → Prop} {E : XK} {H' : Hp} (r : Rs g H vs l) (w : Wk g E H' (atD l i) P) : ∃ v d, atI vs i = some v ∧ R g H v d ∧ P d := by
  unfold atD at w
  split at w
  · rename_i j hj
    split at w
    · rename_i d hd
      obtain ⟨v, h1, h2⟩ := r.get hd
      refine ⟨v, d, ?_, h2, w.is_ok⟩
      unfold atI
      rw [r.length, hj]
      exact h1
    · exact absurd rfl w.bad
  · exact absurd rfl w.bad
theorem atI_map {α β : Type} (k : α → β) (l : List α) (i : Int) : atI (l.map k) i = (atI l i).map k := by
  unfold atI
  rw [List.length_map]
  cases ixN l.length i with
  | none => rfl
  | some j => simp
theorem od_ix : OpD g (rIx g.K) ixD := by
  intro Hs H v u a b Q s r1 r2 E w
  cases r1 with
  | tup h q =>
    cases r2 with
    | int i =>
      obtain ⟨v, d, e1, e2, l⟩ := atD_ok q w
      exact .inr (.inl ⟨_, _, i, v, rfl, rfl, SameT s h, e1, l _ _ _ (Ext.refl s) e2⟩)
    | _ => exact absurd rfl w.bad
  | lst h q =>
    cases r2 with
    | int i =>
      obtain ⟨v, d, e1, e2, l⟩ := atD_ok q w
      exact .inl ⟨_, _, i, v, rfl, rfl, SqL.of (s _ _ h), e1, l _ _ _ (Ext.refl s) e2⟩
    | _ => exact absurd rfl w.bad
  | scr h =>
    rename_i a ns
    cases r2 with
    | int i =>
      have w : Wk g E H (match atI ns i with | some z => Res.ok (D.int z) | none => .bad) (Lands g Hs H Q) := w
      split at w
      · rename_i z hz
        exact .inl ⟨_, _, i, .int z, rfl, rfl, s.seq h, by rw [atI_map, hz]; rfl, w.is_ok _ _ _ (Ext.refl s) (.int _)⟩
      · exact absurd rfl w.bad
    | _ => exact absurd rfl w.bad
  | str x =>
    cases r2 with
    | int i =>
      have w : Wk g E H (if x.length ≤ 1000000 then match atI x.cps.toList i with | some c => Res.ok (D.str ⟨#[c]⟩) | none => .bad else .bad) (Lands g Hs H Q) := w
      split at w
      · rename_i hl
        split at w
        · rename_i c hc
          exact .inr (.inr ⟨x, i, c, rfl, rfl, line6 hl, hc, w.is_ok _ _ _ (Ext.refl s) (.str _)⟩)
        · exact absurd rfl w.bad
      · exact absurd rfl w.bad
    | _ => exact absurd rfl w.bad
  | _ => exact absurd rfl w.bad
theorem se_ix (hg : X.K = g.K) (ha : PE X a (ER g E f)) (hb : PE X b (ER g E h)) (hs : PlainIx b) : PE X (.Subscript a b pos) (ER g E (e2 ixD f h)) :=
  PE_mono (pe_ix (hg ▸ ix_seq) ha hb hs) fun _ _ _ w => two od_ix w
end
end PL

set_option Elab.async false
set_option linter.all false
set_option maxRecDepth 100000
set_option maxHeartbeats 1000000
namespace PL
open PySem PySem.Spec PyProof.Rows L2

/-! ### states: a slot holds a value, or a list of the def's own -/
inductive Cell where
  | val (d : D) | own (l : List D)
def Cell.toD : Cell → D
  | .val d => d
  | .own l => .lst l
abbrev Env := List (Option Cell)
def Env.borrow (env : Env) : BEnv := env.map (Option.map Cell.toD)
def cleanC : Option Cell → Option D
  | some (.val d) => some d
  | _ => none
def Env.clean (env : Env) : BEnv := env.map cleanC

structure StR (g : G) (B Hs0 Hs H : Hp) (σ : L2.St) (env : Env) : Prop where
  keep : Same B H
  sub0 : Same Hs0 Hs
  sub : Same Hs H
  new : ∀ a o, Hs a = some o → Hs0 a = some o ∨ B a = none
  len : σ.length = env.length
  val : ∀ (i : Nat) d, env[i]? = some (some (.val d)) → ∃ v, σ[i]? = some (some v) ∧ R g Hs v d
  own : ∀ (i : Nat) l, env[i]? = some (some (.own l)) → ∃ a vs, σ[i]? = some (some (.ref a)) ∧ Hs a = none ∧ B a = none ∧ H a = some (.lst vs) ∧ Rs g Hs vs l
  dis : ∀ (i j : Nat) l m a, i ≠ j → env[i]? = some (some (.own l)) → env[j]? = some (some (.own m)) → σ[i]? = some (some (.ref a)) → σ[j]? ≠ some (some (.ref a))

section
variable {g : G} {B Hs0 Hs H Hs' H' : Hp} {σ : L2.St} {env : Env}
theorem StR.clean (r : StR g B Hs0 Hs H σ env) : EnvR g Hs σ env.clean := ⟨by unfold Env.clean; rw [List.length_map, r.len], fun i d h => by
  unfold Env.clean at h
  rw [List.getElem?_map] at h
  cases e : env[i]? with
  | none => rw [e] at h; simp at h
  | some c =>
    rw [e] at h
    cases c with
    | none => simp [cleanC] at h
    | some c =>
      cases c with
      | val x =>
        have : x = d := by simpa [cleanC] using h
        subst this
        exact r.val i x e
      | own l => simp [cleanC] at h⟩
def isRoot (σ : L2.St) (env : Env) (a : Addr) : Prop := ∃ (i : Nat) (l : List D), env[i]? = some (some (.own l)) ∧ σ[i]? = some (some (.ref a))
open Classical in
noncomputable def Hbor (Hs H : Hp) (σ : L2.St) (env : Env) : Hp := fun a => if isRoot σ env a then H a else Hs a
open Classical in
noncomputable def Hcut (Hb : Hp) (σ : L2.St) (env : Env) : Hp := fun a => if isRoot σ env a then none else Hb a
theorem hb_root {a : Addr} (h : isRoot σ env a) : Hbor Hs H σ env a = H a := if_pos h
theorem hb_not {a : Addr} (h : ¬ isRoot σ env a) : Hbor Hs H σ env a = Hs a := if_neg h
theorem hc_root {Hb : Hp} {a : Addr} (h : isRoot σ env a) : Hcut Hb σ env a = none := if_pos h
theorem hc_not {Hb : Hp} {a : Addr} (h : ¬ isRoot σ env a) : Hcut Hb σ env a = Hb a := if_neg h
theorem StR.root (r : StR g B Hs0 Hs H σ env) {a : Addr} (h : isRoot σ env a) : Hs a = none ∧ B a = none ∧ ∃ vs, H a = some (.lst vs) := by
  obtain ⟨i, l, e, q⟩ := h
  obtain ⟨a', vs, q', h1, h2, h3, _⟩ := r.own i l e
  rw [q] at q'
  have : a = a' := by simpa using q'
  subst this
  exact ⟨h1, h2, vs, h3⟩
theorem StR.hb_up (r : StR g B Hs0 Hs H σ env) : Same Hs (Hbor Hs H σ env) := fun a o e => by
  by_cases h : isRoot σ env a
  · have := (r.root h).1; rw [e] at this; cases this
  · rw [hb_not h]; exact e
theorem StR.hb_sub (r : StR g B Hs0 Hs H σ env) : Same (Hbor Hs H σ env) H := fun a o e => by
  by_cases h : isRoot σ env a
  · rw [hb_root h] at e; exact e
  · rw [hb_not h] at e; exact r.sub a o e
theorem StR.borrow (r : StR g B Hs0 Hs H σ env) : EnvR g (Hbor Hs H σ env) σ env.borrow := ⟨by unfold Env.borrow; rw [List.length_map, r.len], fun i d h => by
  unfold Env.borrow at h
  rw [List.getElem?_map] at h
  cases e : env[i]? with
  | none => rw [e] at h; simp at h
  | some c =>
    rw [e] at h
    cases c with
    | none => simp at h
    | some c =>
      have hd : c.toD = d := by simpa using h
      subst hd
      cases c with
      | val x =>
        obtain ⟨v, h1, h2⟩ := r.val i x e
        exact ⟨v, h1, h2.mono r.hb_up⟩
      | own l =>
        obtain ⟨a, vs, h1, h2, h3, h4, h5⟩ := r.own i l e
        exact ⟨_, h1, .lst (by rw [hb_root ⟨i, l, e, h1⟩]; exact h4) (h5.mono r.hb_up)⟩⟩
/-- behind an expression whose value stands still -/
theorem StR.ext (r : StR g B Hs0 Hs H σ env) (x : Ext Hs H Hs' H') : StR g B Hs0 Hs' H' σ env where
  keep := r.keep.trans x.same
  sub0 := r.sub0.trans x.up
  sub := x.sub
  new := fun a o e => by
    rcases x.new a o e with q | q
    · exact r.new a o q
    · exact .inr (r.keep.free q)
  len := r.len
  val := fun i d e => let ⟨v, a, b⟩ := r.val i d e; ⟨v, a, b.mono x.up⟩
  own := fun i l e => by
    obtain ⟨a, vs, h1, h2, h3, h4, h5⟩ := r.own i l e
    refine ⟨a, vs, h1, ?_, h3, x.same _ _ h4, h5.mono x.up⟩
    cases q : Hs' a with
    | none => rfl
    | some o =>
      rcases x.new a o q with z | z
      · rw [h2] at z; cases z
      · rw [h4] at z; cases z
  dis := r.dis
/-- behind an expression whose value is dropped -/
theorem StR.same (r : StR g B Hs0 Hs H σ env) (x : Same H H') : StR g B Hs0 Hs H' σ env where
  keep := r.keep.trans x
  sub0 := r.sub0
  sub := r.sub.trans x
  new := r.new
  len := r.len
  val := r.val
  own := fun i l e => let ⟨a, vs, h1, h2, h3, h4, h5⟩ := r.own i l e; ⟨a, vs, h1, h2, h3, x _ _ h4, h5⟩
  dis := r.dis
end

mutual
/-- no list within -/
def noLst : D → Bool
  | .non => true
  | .bl _ => true
  | .int _ => true
  | .str _ => true
  | .tup l => noLsts l
  | .lst _ => false
  | .scr _ => false
  | .cut _ l => noLsts l
  | .dic => true
  | .exn => true
def noLsts : List D → Bool
  | [] => true
  | d :: ds => noLst d && noLsts ds
end
section
variable {g : G} {Hb Hc : Hp}
theorem SqT_cut {K : PySem.W.Frag} {a : Addr} {xs : List V} (k : ∀ a o, (∀ ys, o ≠ .lst ys) → Hb a = some o → Hc a = some o) (h : SqT K Hb a xs) : SqT K Hc a xs := by
  rcases h with (h | ⟨o, h⟩) | h
  · exact .inl (.inl (k _ _ (fun ys z => nomatch z) h))
  · exact .inl (.inr ⟨o, k _ _ (fun ys z => nomatch z) h⟩)
  · exact .inr h
mutual
theorem R.cutL (k : ∀ a o, (∀ ys, o ≠ .lst ys) → Hb a = some o → Hc a = some o) : ∀ {v : V} {d : D}, R g Hb v d → noLst d = true → R g Hc v d
  | _, _, .non, _ => .non
  | _, _, .bl b, _ => .bl b
  | _, _, .int i, _ => .int i
  | _, _, .str x, _ => .str x
  | _, .tup l, .tup h r, e =>
    have e' : noLsts l = true := by simpa [noLst] using e
    .tup (SqT_cut k h) (Rs.cutL k r e')
  | _, .lst l, .lst h r, e => absurd e (by simp [noLst])
  | _, .scr l, .scr h, e => absurd e (by simp [noLst])
  | _, .cut n l, .cut h q r, e =>
    have e' : noLsts l = true := by simpa [noLst] using e
    .cut (k _ _ (fun ys z => nomatch z) h) (SqT_cut k q) (Rs.cutL k r e')
  | _, _, .dic h, e => .dic (k _ _ (fun ys z => nomatch z) h)
  | _, _, .exn h, _ => .exn (g.xk _ _ _ k h)
theorem Rs.cutL (k : ∀ a o, (∀ ys, o ≠ .lst ys) → Hb a = some o → Hc a = some o) : ∀ {vs : List V} {ds : List D}, Rs g Hb vs ds → noLsts ds = true → Rs g Hc vs ds
  | _, _, .nil, _ => .nil
  | _, d :: ds, .cons h r, e =>
    have e' : noLst d = true ∧ noLsts ds = true := by simpa [noLsts] using e
    .cons (R.cutL k h e'.1) (Rs.cutL k r e'.2)
end
end
section
variable {g : G} {B Hs0 Hs H Hb' H' : Hp} {σ : L2.St} {env : Env}
/-- behind an expression that borrowed: what holds no list may be kept -/
theorem StR.bor (r : StR g B Hs0 Hs H σ env) (x : Ext (Hbor Hs H σ env) H Hb' H') :
    StR g B Hs0 (Hcut Hb' σ env) H' σ env ∧ Same Hs (Hcut Hb' σ env) ∧ (∀ a o, (∀ ys, o ≠ .lst ys) → Hb' a = some o → Hcut Hb' σ env a = some o) ∧ (∀ a, Hb' a = none → Hcut Hb' σ env a = none) ∧ (∀ a, H a = none → ¬ isRoot σ env a) := by
  have k : ∀ a o, (∀ ys, o ≠ HO.lst ys) → Hb' a = some o → Hcut Hb' σ env a = some o := fun a o n e => by
    by_cases h : isRoot σ env a
    · obtain ⟨_, _, vs, q⟩ := r.root h
      have q' := x.same _ _ q
      rw [x.sub _ _ e] at q'
      exact absurd (Option.some.inj q') (n vs)
    · rw [hc_not h]; exact e
  have up : Same Hs (Hcut Hb' σ env) := fun a o e => by
    by_cases h : isRoot σ env a
    · have := (r.root h).1; rw [e] at this; cases this
    · rw [hc_not h]; exact x.up _ _ (by rw [hb_not h]; exact e)
  refine ⟨⟨r.keep.trans x.same, r.sub0.trans up, fun a o e => ?_, fun a o e => ?_, r.len, fun i d e => ?_, fun i l e => ?_, r.dis⟩, up, k, fun a e => ?_, fun a e h => ?_⟩
  · by_cases h : isRoot σ env a
    · rw [hc_root h] at e; cases e
    · rw [hc_not h] at e; exact x.sub _ _ e
  · by_cases h : isRoot σ env a
    · rw [hc_root h] at e; cases e
    · rw [hc_not h] at e
      rcases x.new a o e with q | q
      · rw [hb_not h] at q; exact r.new a o q
      · exact .inr (r.keep.free q)
  · obtain ⟨v, h1, h2⟩ := r.val i d e
    exact ⟨v, h1, h2.mono up⟩
  · obtain ⟨a, vs, h1, h2, h3, h4, h5⟩ := r.own i l e
    exact ⟨a, vs, h1, hc_root ⟨i, l, e, h1⟩, h3, x.same _ _ h4, h5.mono up⟩
  · by_cases h : isRoot σ env a
    · exact hc_root h
    · rw [hc_not h]; exact e
  · obtain ⟨_, _, vs, q⟩ := r.root h
    rw [e] at q; cases q
theorem set_get {α : Type} {l : List (Option α)} {i j : Nat} {x y : α} (h : (l.set i (some x))[j]? = some (some y)) : (j = i ∧ x = y) ∨ (j ≠ i ∧ l[j]? = some (some y)) := by
  by_cases e : j = i
  · subst e
    left
    refine ⟨rfl, ?_⟩
    by_cases hl : j < l.length
    · rw [List.getElem?_set_self hl] at h
      simpa using h
    · rw [List.getElem?_eq_none (by simpa using Nat.not_lt.mp hl)] at h
      cases h
  · right
    rw [List.getElem?_set_ne (Ne.symm e)] at h
    exact ⟨e, h⟩
theorem set_len {α β : Type} {l : List (Option α)} {m : List (Option β)} {i j : Nat} {x y : α} {z : β} (hl : m.length = l.length) (h : (l.set i (some x))[i]? = some (some y)) : (m.set i (some z))[i]? = some (some z) := by
  have : i < l.length := by
    have := (List.getElem?_eq_some_iff.mp h).1
    simpa using this
  exact List.getElem?_set_self (by omega)
/-- a value is stored -/
theorem StR.setVal (r : StR g B Hs0 Hs H σ env) {i : Nat} {v : V} {d : D} (q : R g Hs v d) : StR g B Hs0 Hs H (σ.set i (some v)) (env.set i (some (.val d))) where
  keep := r.keep
  sub0 := r.sub0
  sub := r.sub
  new := r.new
  len := by rw [List.length_set, List.length_set, r.len]
  val := fun j d' e => by
    rcases set_get e with ⟨rfl, q'⟩ | ⟨n, e'⟩
    · cases q'
      exact ⟨v, set_len (j := j) r.len e, q⟩
    · obtain ⟨u, h1, h2⟩ := r.val j d' e'
      exact ⟨u, by rw [List.getElem?_set_ne (Ne.symm n)]; exact h1, h2⟩
  own := fun j l e => by
    rcases set_get e with ⟨rfl, q'⟩ | ⟨n, e'⟩
    · cases q'
    · obtain ⟨a, vs, h1, h2⟩ := r.own j l e'
      exact ⟨a, vs, by rw [List.getElem?_set_ne (Ne.symm n)]; exact h1, h2⟩
  dis := fun j k l m a n e1 e2 h1 h2 => by
    rcases set_get e1 with ⟨rfl, q'⟩ | ⟨n1, e1'⟩
    · cases q'
    · rcases set_get e2 with ⟨rfl, q'⟩ | ⟨n2, e2'⟩
      · cases q'
      · rw [List.getElem?_set_ne (Ne.symm n1)] at h1
        rw [List.getElem?_set_ne (Ne.symm n2)] at h2
        exact r.dis j k l m a n e1' e2' h1 h2
/-- a list of its own is stored -/
theorem StR.setOwn (r : StR g B Hs0 Hs H σ env) {i : Nat} {a : Addr} {vs : List V} {l : List D} (h1 : Hs a = none) (h2 : B a = none) (h3 : H a = some (.lst vs)) (h4 : Rs g Hs vs l) (nr : ¬ isRoot σ env a) : StR g B Hs0 Hs H (σ.set i (some (.ref a))) (env.set i (some (.own l))) where
  keep := r.keep
  sub0 := r.sub0
  sub := r.sub
  new := r.new
  len := by rw [List.length_set, List.length_set, r.len]
  val := fun j d' e => by
    rcases set_get e with ⟨rfl, q'⟩ | ⟨n, e'⟩
    · cases q'
    · obtain ⟨u, h1, h2⟩ := r.val j d' e'
      exact ⟨u, by rw [List.getElem?_set_ne (Ne.symm n)]; exact h1, h2⟩
  own := fun j l' e => by
    rcases set_get e with ⟨rfl, q'⟩ | ⟨n, e'⟩
    · cases q'
      exact ⟨a, vs, set_len (j := j) r.len e, h1, h2, h3, h4⟩
    · obtain ⟨a, vs, h1, h2⟩ := r.own j l' e'
      exact ⟨a, vs, by rw [List.getElem?_set_ne (Ne.symm n)]; exact h1, h2⟩
  dis := fun j k l1 m b n e1 e2 p1 p2 => by
    rcases set_get e1 with ⟨rfl, q'⟩ | ⟨n1, e1'⟩
    · rcases set_get e2 with ⟨rfl, q'⟩ | ⟨n2, e2'⟩
      · exact n rfl
      · rw [set_len (j := j) r.len e1] at p1
        rw [List.getElem?_set_ne (Ne.symm n2)] at p2
        have : a = b := by simpa using p1
        subst this
        exact nr ⟨k, m, e2', p2⟩
    · rw [List.getElem?_set_ne (Ne.symm n1)] at p1
      rcases set_get e2 with ⟨rfl, q'⟩ | ⟨n2, e2'⟩
      · rw [set_len (j := k) r.len e2] at p2
        have : a = b := by simpa using p2
        subst this
        exact nr ⟨j, l1, e1', p1⟩
      · rw [List.getElem?_set_ne (Ne.symm n2)] at p2
        exact r.dis j k l1 m b n e1' e2' p1 p2
/-- a list of its own is changed -/
theorem StR.chg (r : StR g B Hs0 Hs H σ env) {i : Nat} {a : Addr} {vs : List V} {l l' : List D} (e : env[i]? = some (some (.own l))) (ea : σ[i]? = some (some (.ref a))) (h4 : Rs g Hs vs l') : StR g B Hs0 Hs (upd H a (.lst vs)) σ (env.set i (some (.own l'))) where
  keep := fun b o q => by
    have hb : B a = none := (r.root ⟨i, l, e, ea⟩).2.1
    rw [upd_ne (ne_of_none q hb)]
    exact r.keep b o q
  sub0 := r.sub0
  sub := fun b o q => by
    have hb : Hs a = none := (r.root ⟨i, l, e, ea⟩).1
    rw [upd_ne (ne_of_none q hb)]
    exact r.sub b o q
  new := r.new
  len := by rw [List.length_set, r.len]
  val := fun j d' e' => by
    rcases set_get e' with ⟨rfl, q'⟩ | ⟨n, e'⟩
    · cases q'
    · exact r.val j d' e'
  own := fun j m e' => by
    rcases set_get e' with ⟨rfl, q'⟩ | ⟨n, e'⟩
    · cases q'
      have ⟨h1, h2, _⟩ := r.root ⟨j, l, e, ea⟩
      exact ⟨a, vs, ea, h1, h2, upd_same, h4⟩
    · obtain ⟨b, us, q1, q2, q3, q4, q5⟩ := r.own j m e'
      refine ⟨b, us, q1, q2, q3, ?_, q5⟩
      rw [upd_ne]
      · exact q4
      · rintro rfl
        exact r.dis i j l m b (Ne.symm n) e e' ea q1
  dis := fun j k l1 m b n e1 e2 p1 p2 => by
    have back : ∀ {j : Nat} {m : List D}, (env.set i (some (Cell.own l')))[j]? = some (some (.own m)) → ∃ m', env[j]? = some (some (.own m')) := fun {j m} q => by
      rcases set_get q with ⟨rfl, _⟩ | ⟨n, q⟩
      · exact ⟨l, e⟩
      · exact ⟨m, q⟩
    obtain ⟨m1, q1⟩ := back e1
    obtain ⟨m2, q2⟩ := back e2
    exact r.dis j k m1 m2 b n q1 q2 p1 p2
/-- a list of its own is given up: from here on it stands still -/
theorem StR.frz (r : StR g B Hs0 Hs H σ env) {i : Nat} {l : List D} (e : env[i]? = some (some (.own l))) : ∃ Hs', Same Hs Hs' ∧ StR g B Hs0 Hs' H σ (env.set i (some (.val (.lst l)))) := by
  obtain ⟨a, vs, h1, h2, h3, h4, h5⟩ := r.own i l e
  have up : Same Hs (upd Hs a (.lst vs)) := same_upd h2
  refine ⟨upd Hs a (.lst vs), up, r.keep, r.sub0.trans up, fun b o q => ?_, fun b o q => ?_, by rw [List.length_set, r.len], fun j d q => ?_, fun j m q => ?_, fun j k l1 m b n e1 e2 p1 p2 => ?_⟩
  · by_cases hb : b = a
    · subst hb; rw [upd_same] at q; cases q; exact h4
    · rw [upd_ne hb] at q; exact r.sub b o q
  · by_cases hb : b = a
    · subst hb; exact .inr h3
    · rw [upd_ne hb] at q; exact r.new b o q
  · rcases set_get q with ⟨rfl, q'⟩ | ⟨n, q'⟩
    · cases q'
      exact ⟨_, h1, .lst upd_same (h5.mono up)⟩
    · obtain ⟨v, p1, p2⟩ := r.val j d q'
      exact ⟨v, p1, p2.mono up⟩
  · rcases set_get q with ⟨rfl, q'⟩ | ⟨n, q'⟩
    · cases q'
    · obtain ⟨b, us, q1, q2, q3, q4, q5⟩ := r.own j m q'
      refine ⟨b, us, q1, ?_, q3, q4, q5.mono up⟩
      rw [upd_ne]
      · exact q2
      · rintro rfl
        exact r.dis i j l m b (Ne.symm n) e q' h1 q1
  · rcases set_get e1 with ⟨rfl, q'⟩ | ⟨n1, e1'⟩
    · cases q'
    · rcases set_get e2 with ⟨rfl, q'⟩ | ⟨n2, e2'⟩
      · cases q'
      · exact r.dis j k l1 m b n e1' e2' p1 p2
end

/-! ### what a def hands back -/
def RetR (g : G) (B Hs0 H' : Hp) (v : V) : Cell → Prop
  | .val d => ∃ Hs', Ext Hs0 B Hs' H' ∧ R g Hs' v d
  | .own l => ∃ a vs Hs', v = .ref a ∧ Ext Hs0 B Hs' H' ∧ Hs' a = none ∧ B a = none ∧ H' a = some (.lst vs) ∧ Rs g Hs' vs l
theorem RetR.toD {g : G} {B Hs0 H' : Hp} {v : V} {c : Cell} (r : RetR g B Hs0 H' v c) : ∃ Hs', Ext Hs0 B Hs' H' ∧ R g Hs' v c.toD := by
  cases c with
  | val d => exact r
  | own l =>
    obtain ⟨a, vs, Hs', rfl, x, h1, h2, h3, h4⟩ := r
    refine ⟨upd Hs' a (.lst vs), ⟨x.same, x.up.trans (same_upd h1), fun b o q => ?_, fun b o q => ?_⟩, .lst upd_same (h4.mono (same_upd h1))⟩
    · by_cases hb : b = a
      · subst hb; rw [upd_same] at q; cases q; exact h3
      · rw [upd_ne hb] at q; exact x.sub b o q
    · by_cases hb : b = a
      · subst hb; exact .inr h2
      · rw [upd_ne hb] at q; exact x.new b o q
/-- a def's promise: the value of den -/
def spD (g : G) (n : Nat) (den : List D → Res Cell) : Sp := fun vs H Q E => ∃ Hs ds, Same Hs H ∧ Rs g Hs vs ds ∧ ds.length = n ∧ Wk g E H (den ds) (fun c => ∀ v H', RetR g H Hs H' v c → Q v H')
theorem spD.len {g : G} {n : Nat} {den : List D → Res Cell} : ∀ vs H Q E, spD g n den vs H Q E → vs.length = n := fun vs H Q E ⟨_, _, _, r, e, _⟩ => r.length.trans e
/-- a def of the text, by its name -/
structure Fn (P : Program) (w : World) (base : Heap) (g : G) (x : Str) (n k : Nat) (den : List D → Res Cell) : Prop where
  ar : ∀ ds, den ds ≠ .bad → ds.length = n
  ex : ∃ f fd ps, ps.length = n ∧ g.mg x = some (.ref f) ∧ PySem.W.keepIn g.K (.ref f) = true ∧ Binds g.K fd ps [] ∧ FnOk P w g.K g.mg base (L2.CX P w) k f fd ps (spD g n den)
theorem Fn.imp {P : Program} {w : World} {base : Heap} {g : G} {x : Str} {n k : Nat} {den den' : List D → Res Cell} (F : Fn P w base g x n k den) (h : ∀ ds, den' ds ≠ .bad → den ds = den' ds) : Fn P w base g x n k den' := by
  obtain ⟨f, fd, ps, hn, a, b, c, d⟩ := F.ex
  refine ⟨fun ds nb => F.ar ds (by rw [h ds nb]; exact nb), f, fd, ps, hn, a, b, c, d.imp fun vs H Q E ⟨Hs, ds, s, r, e, wk⟩ => ⟨Hs, ds, s, r, e, ?_⟩⟩
  rw [h ds wk.bad]
  exact wk
theorem Fn.mono {P : Program} {w : World} {base : Heap} {g : G} {x : Str} {n k k' : Nat} {den : List D → Res Cell} (F : Fn P w base g x n k den) (h : k ≤ k') : Fn P w base g x n k' den := by
  obtain ⟨f, fd, ps, hn, a, b, c, d⟩ := F.ex
  exact ⟨F.ar, f, fd, ps, hn, a, b, c, d.mono h⟩

/-! ### lists that are new -/
def LandsO (g : G) (Hs H : Hp) (Q : VK) (l : List D) : Prop := ∀ a vs H' Hs', Ext Hs H Hs' H' → H a = none → Hs' a = none → H' a = some (.lst vs) → Rs g Hs' vs l → Q (.ref a) H'
def EO (g : G) (E : XK) (f : BEnv → Res (List D)) : TE := fun σ H Q => ∃ Hs env, Same Hs H ∧ EnvR g Hs σ env ∧ Wk g E H (f env) (LandsO g Hs H Q)
def lstD (f : BEnv → Res (List D)) : BEnv → Res D := fun env => f env >>= fun l => .ok (.lst l)
section
variable {X : Cx} {g : G} {E : XK} {e a b : Expr} {pos : Pos} {f h : BEnv → Res D} {fl : BEnv → Res (List D)}
theorem eo_er (p : PE X e (EO g E fl)) : PE X e (ER g E (lstD fl)) := PE_mono p fun σ H Q w => by
  obtain ⟨Hs, env, s, rr, w⟩ := w
  refine ⟨Hs, env, s, rr, w.bind.mono (Same.refl _) fun l wl a vs H' Hs' x h1 h2 h3 h4 => ?_⟩
  refine wl.is_ok (.ref a) H' (upd Hs' a (.lst vs)) ⟨x.same, x.up.trans (same_upd h2), fun b o q => ?_, fun b o q => ?_⟩ (.lst upd_same (h4.mono (same_upd h2)))
  · by_cases hb : b = a
    · subst hb; rw [upd_same] at q; cases q; exact h3
    · rw [upd_ne hb] at q; exact x.sub b o q
  · by_cases hb : b = a
    · subst hb; exact .inr h1
    · rw [upd_ne hb] at q; exact x.new b o q
theorem lands_own {Hs H : Hp} {Q : VK} {l : List D} {vs : List V} {p : Addr} (w : LandsO g Hs H Q l) (s : Same Hs H) (np : H p = none) (r : Rs g Hs vs l) : Q (.ref p) (upd H p (.lst vs)) :=
  w p vs _ Hs ⟨same_upd np, Same.refl _, s.trans (same_upd np), fun _ _ q => .inl q⟩ np (s.free np) upd_same r
/-- a display of a list -/
def oLst (fs : BEnv → Res (List D)) : BEnv → Res (List D) := fun env => fs env >>= fun ds => if ds.length ≤ 1000 then .ok ds else .bad
variable {es : List Expr} {fs : BEnv → Res (List D)}
theorem eo_lst (h : PA X es (AR g E fs)) : PE X (.List es pos) (EO g E (oLst fs)) :=
  PE_mono (pe_lst h) fun σ H Q w => by
    obtain ⟨Hs, env, s, rr, w⟩ := w
    refine ⟨Hs, env, s, rr, w.bind.mono (Same.refl _) fun ds wd vs H1 Hs1 x1 r1 => ?_⟩
    obtain ⟨hl, l⟩ := wk_if wd
    refine ⟨by rw [r1.length]; exact line1000 hl, fun p np => ?_⟩
    have hp : H p = none := x1.same.free np
    exact l p vs _ Hs1 ⟨x1.same.trans (same_upd np), x1.up, x1.sub.trans (same_upd np), x1.new⟩ hp (x1.sub.free np) upd_same r1
/-- two operands, a new list -/
def OpO (g : G) (r : R2) (fn : D → D → Res (List D)) : Prop := ∀ (Hs H : Hp) (v u : V) (a b : D) (Q : VK), Same Hs H → R g Hs v a → R g Hs u b → ∀ E : XK, Wk g E H (fn a b) (LandsO g Hs H Q) → r v u H Q
def o2 (fn : D → D → Res (List D)) (f h : BEnv → Res D) : BEnv → Res (List D) := fun env => f env >>= fun x => h env >>= fun y => fn x y
theorem LandsO.ext {Hs H Hs1 H1 : Hp} {Q : VK} {l : List D} (x : Ext Hs H Hs1 H1) (w : LandsO g Hs H Q l) : LandsO g Hs1 H1 Q l := fun a vs H' Hs' x' h1 h2 h3 h4 => w a vs H' Hs' (x.trans x') (x.same.free h1) h2 h3 h4
theorem twoO {r : R2} {fn : D → D → Res (List D)} (o : OpO g r fn) {σ : L2.St} {H : Hp} {Q : VK} (w : EO g E (o2 fn f h) σ H Q) :
    ER g E f σ H fun x H1 => ER g E h σ H1 fun y H2 => r x y H2 Q := by
  obtain ⟨Hs, env, s, rr, w⟩ := w
  refine ⟨Hs, env, s, rr, w.bind.mono (Same.refl _) fun a wa v H1 Hs1 x1 r1 => ?_⟩
  refine ⟨Hs1, env, x1.sub, rr.mono x1.up, wa.bind.mono x1.same fun b wb u H2 Hs2 x2 r2 => ?_⟩
  exact o Hs2 H2 v u a b Q x2.sub (r1.mono x2.up) r2 E (wb.mono (x1.same.trans x2.same) fun d l => l.ext (x1.trans x2))
def catO : D → D → Res (List D)
  | .lst a, .lst b => if a.length + b.length ≤ 1000000 then .ok (a ++ b) else .bad
  | _, _ => .bad
def repO : D → D → Res (List D)
  | .lst a, .int k => if 0 ≤ k ∧ k ≤ 1000 ∧ a.length ≤ 1000 then .ok (List.replicate k.toNat a).flatten else .bad
  | _, _ => .bad
theorem oo_cat : OpO g rCat catO := by
  intro Hs H v u a b Q s r1 r2 E w
  cases r1 with
  | lst h1 q1 =>
    cases r2 with
    | lst h2 q2 =>
      obtain ⟨hl, l⟩ := wk_if w
      exact ⟨_, _, _, _, rfl, rfl, s _ _ h1, s _ _ h2, by rw [q1.length, q2.length]; exact line6 hl, fun p np => lands_own l s np (q1.append q2)⟩
    | _ => exact absurd rfl w.bad
  | _ => exact absurd rfl w.bad
theorem oo_rep : OpO g rRep repO := by
  intro Hs H v u a b Q s r1 r2 E w
  cases r1 with
  | lst h1 q1 =>
    cases r2 with
    | int k =>
      obtain ⟨⟨k0, k1, k2⟩, l⟩ := wk_if w
      refine ⟨_, k, _, rfl, rfl, s _ _ h1, by omega, by omega, ?_, fun p np => lands_own l s np (q1.rep _)⟩
      rw [q1.length]
      have : k.toNat ≤ 1000 := by omega
      exact line6 (Nat.mul_le_mul k2 this)
    | _ => exact absurd rfl w.bad
  | _ => exact absurd rfl w.bad
theorem eo_cat (ha : PE X a (ER g E f)) (hb : PE X b (ER g E h)) : PE X (.BinOp a .Add b pos) (EO g E (o2 catO f h)) := PE_mono (pe_op op_cat ha hb) fun _ _ _ w => twoO oo_cat w
theorem eo_rep (ha : PE X a (ER g E f)) (hb : PE X b (ER g E h)) : PE X (.BinOp a .Mult b pos) (EO g E (o2 repO f h)) := PE_mono (pe_op op_rep ha hb) fun _ _ _ w => twoO oo_rep w
/-- list(e) -/
def itemsD : D → Res (List D)
  | .lst l => .ok l
  | .tup l => .ok l
  | .scr ns => .ok (ns.map D.int)
  | _ => .bad
def listO : List D → Res (List D)
  | [d] => itemsD d
  | _ => .bad
theorem R.items {H : Hp} {v : V} {d : D} {l : List D} (r : R g H v d) (e : itemsD d = .ok l) : ∃ p vs, v = .ref p ∧ (SqL g.K H p vs ∨ SqT g.K H p vs) ∧ Rs g H vs l := by
  cases r with
  | tup h q => cases e; exact ⟨_, _, rfl, .inr h, q⟩
  | lst h q => cases e; exact ⟨_, _, rfl, .inl (SqL.of h), q⟩
  | scr h => cases e; exact ⟨_, _, rfl, .inl h, Rs.ints _⟩
  | _ => cases e
def eCallO (fn : List D → Res (List D)) (fs : BEnv → Res (List D)) : BEnv → Res (List D) := fun env => fs env >>= fn
theorem ar_thenO {fn : List D → Res (List D)} {r : List V → Hp → VK → Prop} {σ : L2.St} {H : Hp} {Q : VK}
    (o : ∀ (Hs H : Hp) (vs : List V) (ds : List D) (Q : VK), Same Hs H → Rs g Hs vs ds → Wk g E H (fn ds) (LandsO g Hs H Q) → r vs H Q)
    (w : EO g E (eCallO fn fs) σ H Q) : AR g E fs σ H fun vs H1 => r vs H1 Q := by
  obtain ⟨Hs, env, s, rr, w⟩ := w
  refine ⟨Hs, env, s, rr, w.bind.mono (Same.refl _) fun ds wd vs H1 Hs1 x1 r1 => ?_⟩
  exact o Hs1 H1 vs ds Q x1.sub r1 (wd.mono x1.same fun d l => l.ext x1)
theorem eo_list {p : Pos} (hK : X.K = g.K) (hg : Gl X "list") (hm : X.mg "list" = none) (ha : PA X (e :: es) (AR g E fs))
    (he : starEach (e :: es) X.env = (false, eval e X.env) :: starEach es X.env := by rfl) (hpl : (backTo pos (starEach es X.env)).any (·.1) = false := by rfl) : PE X (.Call (.Name "list" p) (e :: es) [] pos) (EO g E (eCallO listO fs)) :=
  PE_mono (pe_callTy call_list_of hg hm (by decide +kernel) ha (by decide) (by decide) he hpl) fun σ H Q w => ar_thenO (r := fun xs H Q => ∃ p ys, xs = [.ref p] ∧ (SqL X.K H p ys ∨ SqT X.K H p ys) ∧ ∀ l, H l = none → Q (.ref l) (upd H l (.lst ys))) (fun Hs H vs ds Q s r w => by
    unfold listO at w
    split at w
    · rename_i d
      obtain ⟨⟩ | ⟨r, r0⟩ := r
      cases r0
      cases e : itemsD d with
      | ok l =>
        rw [e] at w
        obtain ⟨p, us, rfl, hq, rr⟩ := r.items e
        refine ⟨p, us, rfl, ?_, fun a na => lands_own w.is_ok s na rr⟩
        rcases hq with q | q
        · exact .inl (hK ▸ s.seq q)
        · exact .inr (hK ▸ SameT s q)
      | exc c x => cases d <;> cases e
      | bad => rw [e] at w; exact absurd rfl w.bad
    · exact absurd rfl w.bad) w

/-! ### calls of the text's own defs -/
variable {P : Program} {w : World} {base : Heap} {x : Str} {n k : Nat} {den : List D → Res Cell} {p : Pos}
def eFn (den : List D → Res Cell) (fs : BEnv → Res (List D)) : BEnv → Res D := fun env => fs env >>= den >>= fun c => .ok c.toD
def ownOnly : Cell → Res (List D)
  | .own l => .ok l
  | .val _ => .bad
def oFn (den : List D → Res Cell) (fs : BEnv → Res (List D)) : BEnv → Res (List D) := fun env => fs env >>= den >>= ownOnly
theorem res_assoc {α β γ : Type} (r : Res α) (f : α → Res β) (h : β → Res γ) : (r >>= f >>= h) = (r >>= fun x => f x >>= h) := by cases r <;> rfl
theorem se_call (F : Fn X.prog X.w X.base g x n k den) (hK : X.K = g.K) (hM : X.mg = g.mg) (hr : Room k X.A) (hx : Passes (L2.CX X.prog X.w) X E) (hg : Gl X x) (ha : PA X (e :: es) (AR g E fs)) (hdb : (x == ("__debug__" : Str)) = false := by decide)
    (he : starEach (e :: es) X.env = (false, eval e X.env) :: starEach es X.env := by rfl) (hpl : (backTo pos (starEach es X.env)).any (·.1) = false := by rfl) : PE X (.Call (.Name x p) (e :: es) [] pos) (ER g E (eFn den fs)) := by
  obtain ⟨f, fd, ps, hn, h1, h2, h3, h4⟩ := F.ex
  rw [← hM] at h1
  rw [← hK] at h2 h3 h4
  rw [← hM] at h4
  refine PE_mono (pe_call h4 hr hg h1 h2 h3 .nil hx ha hdb he hpl) fun σ H Q w => ?_
  obtain ⟨Hs, env, s, rr, w⟩ := w
  unfold eFn at w
  rw [res_assoc] at w
  refine ⟨Hs, env, s, rr, w.bind.mono (Same.refl _) fun ds wd vs H1 Hs1 x1 r1 => ?_⟩
  show spD g n den (vs ++ []) H1 Q E
  rw [List.append_nil]
  refine ⟨Hs1, ds, x1.sub, r1, ?_, wd.bind.mono x1.same fun c wc v H' rt => ?_⟩
  · refine F.ar ds fun z => wd.bad ?_
    rw [z]; rfl
  · obtain ⟨Hs', x', r'⟩ := rt.toD
    exact wc.is_ok v H' Hs' (x1.trans x') r'
end
end PL

set_option Elab.async false
set_option linter.all false
set_option maxRecDepth 100000
set_option maxHeartbeats 1000000
namespace PL
open PySem PySem.Spec PyProof.Rows L2

inductive Fl where
  | nx (e : Env) | rt (c : Cell) | bk (e : Env) | ct (e : Env)
def SLand (g : G) (B Hs0 Hs : Hp) (D : Ends) : Fl → Prop
  | .nx e => ∀ σ' H' Hs', Same Hs Hs' → StR g B Hs0 Hs' H' σ' e → D.nx σ' H'
  | .bk e => ∀ σ' H' Hs', Same Hs Hs' → StR g B Hs0 Hs' H' σ' e → D.bk σ' H'
  | .ct e => ∀ σ' H' Hs', Same Hs Hs' → StR g B Hs0 Hs' H' σ' e → D.ct σ' H'
  | .rt c => ∀ v H', RetR g B Hs0 H' v c → D.rt v H'
def SR (g : G) (E : XK) (B Hs0 : Hp) (s : Env → Res Fl) : TS := fun D σ H => ∃ Hs env, StR g B Hs0 Hs H σ env ∧ Wk g E B (s env) (SLand g B Hs0 Hs D)
theorem SLand.mono {g : G} {B Hs0 Hs Hs' : Hp} {D : Ends} (e : Same Hs Hs') {f : Fl} (h : SLand g B Hs0 Hs D f) : SLand g B Hs0 Hs' D f := by
  cases f with
  | nx _ => exact fun σ' H' Hs2 s => h σ' H' Hs2 (e.trans s)
  | bk _ => exact fun σ' H' Hs2 s => h σ' H' Hs2 (e.trans s)
  | ct _ => exact fun σ' H' Hs2 s => h σ' H' Hs2 (e.trans s)
  | rt _ => exact h
section
variable {X : Cx} {g : G} {E : XK} {B Hs0 : Hp} {st : Stmt} {rest : List Stmt} {s t : Env → Res Fl} {e : Expr} {pos : Pos} {f : BEnv → Res D} {fo : BEnv → Res (List D)} {p : BEnv → Res Bool}
theorem PS_mono {t t' : TS} (p : PS X st t) (k : ∀ D σ H, t' D σ H → t D σ H) : PS X st t' := ⟨fun pins s σ H D I w => p.run pins s σ H D I (k D σ H w)⟩
theorem PSs_mono {t t' : TS} (p : PSs X rest t) (k : ∀ D σ H, t' D σ H → t D σ H) : PSs X rest t' := ⟨fun pins s σ H D I w => p.run pins s σ H D I (k D σ H w)⟩

/-! ### evaluating within a statement -/
section
variable {σ : L2.St} {H : Hp} {D : Ends} {Q : VK} {kl : List PL.D → Env → Res Fl} {kb : Bool → Env → Res Fl} {Qb : Bool → Hp → Prop} {kd : PL.D → Env → Res Fl}
theorem clean_then (w : SR g E B Hs0 (fun env => f env.clean >>= fun d => kd d env) D σ H)
    (o : ∀ Hs env d v H, StR g B Hs0 Hs H σ env → R g Hs v d → Wk g E B (kd d env) (SLand g B Hs0 Hs D) → Q v H) : ER g E f σ H Q := by
  obtain ⟨Hs, env, r, w⟩ := w
  refine ⟨Hs, env.clean, r.sub, r.clean, w.bind.mono r.keep fun d wd v H' Hs' x r' => ?_⟩
  exact o Hs' env d v H' (r.ext x) r' (wd.mono (Same.refl _) fun _ l => l.mono x.up)
theorem bor_then (w : SR g E B Hs0 (fun env => f env.borrow >>= fun d => if noLst d = true then kd d env else .bad) D σ H)
    (o : ∀ Hs env d v H, StR g B Hs0 Hs H σ env → R g Hs v d → Wk g E B (kd d env) (SLand g B Hs0 Hs D) → Q v H) : ER g E f σ H Q := by
  obtain ⟨Hs, env, r, w⟩ := w
  refine ⟨Hbor Hs H σ env, env.borrow, r.hb_sub, r.borrow, w.bind.mono r.keep fun d wd v H' Hs' x r' => ?_⟩
  by_cases hn : noLst d = true
  · rw [if_pos hn] at wd
    obtain ⟨r2, up, k, _⟩ := r.bor x
    exact o _ env d v H' r2 (R.cutL k r' hn) (wd.mono (Same.refl _) fun _ l => l.mono up)
  · rw [if_neg hn] at wd; exact absurd rfl wd.bad
theorem drop_then (w : SR g E B Hs0 (fun env => f env.borrow >>= fun _ => s env) D σ H)
    (o : ∀ Hs env v H, StR g B Hs0 Hs H σ env → Wk g E B (s env) (SLand g B Hs0 Hs D) → Q v H) : ER g E f σ H Q := by
  obtain ⟨Hs, env, r, w⟩ := w
  refine ⟨Hbor Hs H σ env, env.borrow, r.hb_sub, r.borrow, w.bind.mono r.keep fun d wd v H' Hs' x r' => ?_⟩
  exact o Hs env v H' (r.same x.same) wd
theorem test_then (w : SR g E B Hs0 (fun env => p env.borrow >>= fun b => kb b env) D σ H)
    (o : ∀ Hs env b H, StR g B Hs0 Hs H σ env → Wk g E B (kb b env) (SLand g B Hs0 Hs D) → Qb b H) : TR g E p σ H Qb := by
  obtain ⟨Hs, env, r, w⟩ := w
  refine ⟨Hbor Hs H σ env, env.borrow, r.hb_sub, r.borrow, w.bind.mono r.keep fun b wb H' Hs' x => ?_⟩
  exact o Hs env b H' (r.same x.same) wb
theorem own_then (w : SR g E B Hs0 (fun env => fo env.clean >>= fun l => kl l env) D σ H)
    (o : ∀ Hs env l a vs H, StR g B Hs0 Hs H σ env → Hs a = none → B a = none → ¬ isRoot σ env a → H a = some (.lst vs) → Rs g Hs vs l → Wk g E B (kl l env) (SLand g B Hs0 Hs D) → Q (.ref a) H) : EO g E fo σ H Q := by
  obtain ⟨Hs, env, r, w⟩ := w
  refine ⟨Hs, env.clean, r.sub, r.clean, w.bind.mono r.keep fun l wl a vs H' Hs' x h1 h2 h3 h4 => ?_⟩
  refine o Hs' env l a vs H' (r.ext x) h2 (r.keep.free h1) (fun h => ?_) h3 h4 (wl.mono (Same.refl _) fun _ l => l.mono x.up)
  obtain ⟨_, _, vs, q⟩ := r.root h
  rw [h1] at q; cases q
theorem ownB_then (w : SR g E B Hs0 (fun env => fo env.borrow >>= fun l => if noLsts l = true then kl l env else .bad) D σ H)
    (o : ∀ Hs env l a vs H, StR g B Hs0 Hs H σ env → Hs a = none → B a = none → ¬ isRoot σ env a → H a = some (.lst vs) → Rs g Hs vs l → Wk g E B (kl l env) (SLand g B Hs0 Hs D) → Q (.ref a) H) : EO g E fo σ H Q := by
  obtain ⟨Hs, env, r, w⟩ := w
  refine ⟨Hbor Hs H σ env, env.borrow, r.hb_sub, r.borrow, w.bind.mono r.keep fun l wl a vs H' Hs' x h1 h2 h3 h4 => ?_⟩
  by_cases hn : noLsts l = true
  · rw [if_pos hn] at wl
    obtain ⟨r2, up, k, z1, z2⟩ := r.bor x
    exact o _ env l a vs H' r2 (z1 a h2) (r.keep.free h1) (z2 a h1) h3 (Rs.cutL k h4 hn) (wl.mono (Same.refl _) fun _ l => l.mono up)
  · rw [if_neg hn] at wl; exact absurd rfl wl.bad
theorem nx_end {Hs : Hp} {env : Env} {H : Hp} (w : Wk g E B (.ok (.nx env)) (SLand g B Hs0 Hs D)) (r : StR g B Hs0 Hs H σ env) : D.nx σ H := w.is_ok σ H Hs (Same.refl _) r
end

/-! ### blocks -/
def sNil : Env → Res Fl := fun env => .ok (.nx env)
def seqK (t : Env → Res Fl) : Fl → Res Fl
  | .nx e => t e
  | f => .ok f
def sSeq (s t : Env → Res Fl) : Env → Res Fl := fun env => s env >>= seqK t
theorem ss_nil : PSs X [] (SR g E B Hs0 sNil) := PSs_mono pss_nil fun D σ H ⟨Hs, env, r, w⟩ => nx_end w r
theorem ss_cons (h1 : PS X st (SR g E B Hs0 s)) (h2 : PSs X rest (SR g E B Hs0 t)) : PSs X (st :: rest) (SR g E B Hs0 (sSeq s t)) :=
  PSs_mono (pss_cons h1 h2) fun D σ H ⟨Hs, env, r, w⟩ => by
    refine ⟨Hs, env, r, w.bind.mono (Same.refl _) fun fl wf => ?_⟩
    cases fl with
    | nx e' => exact fun σ' H' Hs' s r' => ⟨Hs', e', r', wf.mono (Same.refl _) fun _ l => l.mono s⟩
    | bk e' => exact wf.is_ok
    | ct e' => exact wf.is_ok
    | rt c => exact wf.is_ok
theorem ss_one (h1 : PS X st (SR g E B Hs0 s)) : PSs X [st] (SR g E B Hs0 s) := pss_one h1
def sBreak : Env → Res Fl := fun env => .ok (.bk env)
def sCont : Env → Res Fl := fun env => .ok (.ct env)
theorem ss_pass : PS X (.Pass pos) (SR g E B Hs0 sNil) := PS_mono ps_pass fun D σ H ⟨Hs, env, r, w⟩ => nx_end w r
theorem ss_break : PS X (.Break pos) (SR g E B Hs0 sBreak) := PS_mono ps_break fun D σ H ⟨Hs, env, r, w⟩ => w.is_ok σ H Hs (Same.refl _) r
theorem ss_continue : PS X (.Continue pos) (SR g E B Hs0 sCont) := PS_mono ps_continue fun D σ H ⟨Hs, env, r, w⟩ => w.is_ok σ H Hs (Same.refl _) r
/-- a list of the def's own is given up ahead of a statement -/
def frz1 (i : Nat) (env : Env) : Env := match env[i]? with
  | some (some (.own l)) => env.set i (some (.val (.lst l)))
  | _ => env
def sFrz (i : Nat) (s : Env → Res Fl) : Env → Res Fl := fun env => s (frz1 i env)
theorem frz_SR {i : Nat} {D : Ends} {σ : L2.St} {H : Hp} (w : SR g E B Hs0 (sFrz i s) D σ H) : SR g E B Hs0 s D σ H := by
  obtain ⟨Hs, env, r, w⟩ := w
  unfold sFrz frz1 at w
  split at w
  · rename_i l hl
    obtain ⟨Hs', up, r'⟩ := r.frz hl
    exact ⟨Hs', _, r', w.mono (Same.refl _) fun _ l => l.mono up⟩
  · exact ⟨Hs, env, r, w⟩
theorem ss_frz (i : Nat) (h : PS X st (SR g E B Hs0 s)) : PS X st (SR g E B Hs0 (sFrz i s)) := PS_mono h fun _ _ _ w => frz_SR w

/-! ### stores -/
def sSet (i : Nat) (f : BEnv → Res D) : Env → Res Fl := fun env => f env.clean >>= fun d => .ok (.nx (env.set i (some (.val d))))
def sSetB (i : Nat) (f : BEnv → Res D) : Env → Res Fl := fun env => f env.borrow >>= fun d => if noLst d = true then .ok (.nx (env.set i (some (.val d)))) else .bad
def sOwn (i : Nat) (f : BEnv → Res (List D)) : Env → Res Fl := fun env => f env.clean >>= fun l => .ok (.nx (env.set i (some (.own l))))
def sOwnB (i : Nat) (f : BEnv → Res (List D)) : Env → Res Fl := fun env => f env.borrow >>= fun l => if noLsts l = true then .ok (.nx (env.set i (some (.own l)))) else .bad
section
variable {i : Nat} {D : Ends} {σ : L2.St} {H : Hp}
theorem rd_set (w : SR g E B Hs0 (sSet i f) D σ H) : ER g E f σ H fun x H1 => gName i x σ H1 D.nx :=
  clean_then (kd := fun d env => .ok (.nx (env.set i (some (.val d))))) w fun Hs env d v H r q w => nx_end w (r.setVal q)
theorem rd_setB (w : SR g E B Hs0 (sSetB i f) D σ H) : ER g E f σ H fun x H1 => gName i x σ H1 D.nx :=
  bor_then (kd := fun d env => .ok (.nx (env.set i (some (.val d))))) w fun Hs env d v H r q w => nx_end w (r.setVal q)
theorem rd_own (w : SR g E B Hs0 (sOwn i fo) D σ H) : EO g E fo σ H fun x H1 => gName i x σ H1 D.nx :=
  own_then (kl := fun l env => .ok (.nx (env.set i (some (.own l))))) w fun Hs env l a vs H r h1 h2 h3 h4 h5 w => nx_end w (r.setOwn h1 h2 h4 h5 h3)
theorem rd_ownB (w : SR g E B Hs0 (sOwnB i fo) D σ H) : EO g E fo σ H fun x H1 => gName i x σ H1 D.nx :=
  ownB_then (kl := fun l env => .ok (.nx (env.set i (some (.own l))))) w fun Hs env l a vs H r h1 h2 h3 h4 h5 w => nx_end w (r.setOwn h1 h2 h4 h5 h3)
end
section
variable {i : Nat} {x : Str} {pos' : Pos}
theorem ss_set (hN : X.N.Nodup) (hi : X.N[i]? = some x) (hx : Loc X.env.scope x) (he : PE X e (ER g E f)) (hs : swapsWith e (some (.Name x pos')) pos.line X.env = pure false := by rfl) (hf : X.fn x = true ∨ X.env.scope.names.lookup x = some .local := by first | exact .inl rfl | exact .inr rfl | assumption) : PS X (.Assign [.Name x pos'] e pos) (SR g E B Hs0 (sSet i f)) :=
  PS_mono (ps_set hN hi hx he hs hf) fun _ _ _ w => rd_set w
theorem ss_setB (hN : X.N.Nodup) (hi : X.N[i]? = some x) (hx : Loc X.env.scope x) (he : PE X e (ER g E f)) (hs : swapsWith e (some (.Name x pos')) pos.line X.env = pure false := by rfl) (hf : X.fn x = true ∨ X.env.scope.names.lookup x = some .local := by first | exact .inl rfl | exact .inr rfl | assumption) : PS X (.Assign [.Name x pos'] e pos) (SR g E B Hs0 (sSetB i f)) :=
  PS_mono (ps_set hN hi hx he hs hf) fun _ _ _ w => rd_setB w
theorem ss_own (hN : X.N.Nodup) (hi : X.N[i]? = some x) (hx : Loc X.env.scope x) (he : PE X e (EO g E fo)) (hs : swapsWith e (some (.Name x pos')) pos.line X.env = pure false := by rfl) (hf : X.fn x = true ∨ X.env.scope.names.lookup x = some .local := by first | exact .inl rfl | exact .inr rfl | assumption) : PS X (.Assign [.Name x pos'] e pos) (SR g E B Hs0 (sOwn i fo)) :=
  PS_mono (ps_set hN hi hx he hs hf) fun _ _ _ w => rd_own w
theorem ss_ownB (hN : X.N.Nodup) (hi : X.N[i]? = some x) (hx : Loc X.env.scope x) (he : PE X e (EO g E fo)) (hs : swapsWith e (some (.Name x pos')) pos.line X.env = pure false := by rfl) (hf : X.fn x = true ∨ X.env.scope.names.lookup x = some .local := by first | exact .inl rfl | exact .inr rfl | assumption) : PS X (.Assign [.Name x pos'] e pos) (SR g E B Hs0 (sOwnB i fo)) :=
  PS_mono (ps_set hN hi hx he hs hf) fun _ _ _ w => rd_ownB w
end
/-- a, b = x, y -/
def sPar (i j : Nat) (f h : BEnv → Res D) : Env → Res Fl := fun env => f env.clean >>= fun d => h env.clean >>= fun d' => .ok (.nx ((env.set i (some (.val d))).set j (some (.val d'))))
theorem ss_par {i j : Nat} {x y : Str} {a b : Expr} {f h : BEnv → Res D} {px py pt : Pos} {kt k2 pt2} (hc : X.calm = true) (hN : X.N.Nodup) (hi : X.N[i]? = some x) (hj : X.N[j]? = some y) (hij : i ≠ j)
    (hx : X.env.scope.names.lookup x = some .local) (hy : X.env.scope.names.lookup y = some .local) (ha : PE X a (ER g E f)) (hb : PE X b (ER g E h))
    (hw : swappedStores [.Tuple [.Name x px, .Name y py] kt pt] (.Tuple [a, b] k2 pt2) X.env = pure (some [x, y]))
    (hs : swapsWithSole [.Tuple [.Name x px, .Name y py] kt pt] (.Tuple [a, b] k2 pt2) pos.line X.env = pure false := by rfl)
    (h1 : starEach [a, b] X.env = (false, eval a X.env) :: starEach [b] X.env := by rfl) (h2 : starEach [b] X.env = (false, eval b X.env) :: starEach [] X.env := by rfl) :
    PS X (.Assign [.Tuple [.Name x px, .Name y py] kt pt] (.Tuple [a, b] k2 pt2) pos) (SR g E B Hs0 (sPar i j f h)) :=
  PS_mono (ps_par hc hN hi hj hij hx hy (sa_cons ha (sa_cons hb sa_nil h2) h1) hw hs) fun D σ H ⟨Hs, env, r, w⟩ => by
    refine ⟨Hs, env.clean, r.sub, r.clean, ?_⟩
    have w' : Wk g E B (aCons f (aCons h aNil) env.clean >>= fun ds => match ds with
      | [d, d'] => Res.ok (Fl.nx ((env.set i (some (.val d))).set j (some (.val d'))))
      | _ => .bad) (SLand g B Hs0 Hs D) := by
      have : (aCons f (aCons h aNil) env.clean >>= fun ds => match ds with
        | [d, d'] => Res.ok (Fl.nx ((env.set i (some (.val d))).set j (some (.val d'))))
        | _ => .bad) = sPar i j f h env := by
        unfold aCons aNil sPar
        cases f env.clean with
        | ok d =>
          cases h env.clean with
          | ok d' => rfl
          | _ => rfl
        | _ => rfl
      rw [this]; exact w
    refine w'.bind.mono r.keep fun ds wd vs H' Hs' x rr => ?_
    split at wd
    · obtain ⟨⟩ | ⟨r1, rr⟩ := rr
      obtain ⟨⟩ | ⟨r2, rr⟩ := rr
      cases rr
      refine ⟨_, _, rfl, ?_⟩
      exact wd.is_ok _ _ Hs' x.up (((r.ext x).setVal r1).setVal r2)
    · exact absurd rfl wd.bad

/-! ### return, expression statements, if -/
def sRet (f : BEnv → Res D) : Env → Res Fl := fun env => f env.borrow >>= fun d => .ok (.rt (.val d))
theorem ss_ret (he : PE X e (ER g E f)) : PS X (.Return (some e) pos) (SR g E B Hs0 (sRet f)) :=
  PS_mono (ps_ret he) fun D σ H ⟨Hs, env, r, w⟩ => by
    refine ⟨Hbor Hs H σ env, env.borrow, r.hb_sub, r.borrow, w.bind.mono r.keep fun d wd v H' Hs' x r' => ?_⟩
    refine wd.is_ok v H' ⟨Hs', ⟨r.keep.trans x.same, r.sub0.trans (r.hb_up.trans x.up), x.sub, fun a o e => ?_⟩, r'⟩
    rcases x.new a o e with q | q
    · by_cases h : isRoot σ env a
      · exact .inr (r.root h).2.1
      · rw [hb_not h] at q; exact r.new a o q
    · exact .inr (r.keep.free q)
def sRetO (f : BEnv → Res (List D)) : Env → Res Fl := fun env => f env.borrow >>= fun l => .ok (.rt (.own l))
theorem ss_retO (he : PE X e (EO g E fo)) : PS X (.Return (some e) pos) (SR g E B Hs0 (sRetO fo)) :=
  PS_mono (ps_ret he) fun D σ H ⟨Hs, env, r, w⟩ => by
    refine ⟨Hbor Hs H σ env, env.borrow, r.hb_sub, r.borrow, w.bind.mono r.keep fun d wd a vs H' Hs' x h1 h2 h3 h4 => ?_⟩
    refine wd.is_ok (.ref a) H' ⟨a, vs, Hs', rfl, ⟨r.keep.trans x.same, r.sub0.trans (r.hb_up.trans x.up), x.sub, fun a o e => ?_⟩, h2, r.keep.free h1, h3, h4⟩
    rcases x.new a o e with q | q
    · by_cases h : isRoot σ env a
      · exact .inr (r.root h).2.1
      · rw [hb_not h] at q; exact r.new a o q
    · exact .inr (r.keep.free q)
def sRetV (i : Nat) : Env → Res Fl := fun env => match env[i]? with
  | some (some (.own l)) => .ok (.rt (.own l))
  | _ => .bad
theorem ss_retV {i : Nat} (he : PE X e (tVar i)) : PS X (.Return (some e) pos) (SR g E B Hs0 (sRetV i)) :=
  PS_mono (ps_ret he) fun D σ H ⟨Hs, env, r, w⟩ => by
    unfold sRetV at w
    split at w
    · rename_i l hl
      obtain ⟨a, vs, h1, h2, h3, h4, h5⟩ := r.own i l hl
      exact ⟨.ref a, h1, w.is_ok _ _ ⟨a, vs, Hs, rfl, ⟨r.keep, r.sub0, r.sub, r.new⟩, h2, h3, h4, h5⟩⟩
    · exact absurd rfl w.bad
def sExpr (f : BEnv → Res D) : Env → Res Fl := fun env => f env.borrow >>= fun _ => .ok (.nx env)
theorem ss_expr (he : PE X e (ER g E f)) (hs : swapsWith e none pos.line X.env = pure false := by rfl) : PS X (.Expr e pos) (SR g E B Hs0 (sExpr f)) :=
  PS_mono (ps_expr he hs) fun D σ H w => drop_then w fun Hs env v H r w => nx_end w r
def sIf (p : BEnv → Res Bool) (s t : Env → Res Fl) : Env → Res Fl := fun env => p env.borrow >>= fun b => if b = true then s env else t env
theorem ss_if {c : Expr} {a b : List Stmt} (hc : PT X c (TR g E p)) (ha : PSs X a (SR g E B Hs0 s)) (hb : PSs X b (SR g E B Hs0 t)) : PS X (.If c a b pos) (SR g E B Hs0 (sIf p s t)) :=
  PS_mono (ps_if hc ha hb) fun D σ H w => test_then (kb := fun b env => if b = true then s env else t env) w fun Hs env b H r w => by
    cases b with
    | true => exact iteT ⟨Hs, env, r, by simpa using w⟩
    | false => exact iteF ⟨Hs, env, r, by simpa using w⟩

/-! ### lists of the def's own, changed -/
def ownAt (env : Env) (i : Nat) (k : List D → Res Fl) : Res Fl := match env[i]? with
  | some (some (.own l)) => k l
  | _ => .bad
theorem ownAt_wk {env : Env} {i : Nat} {k : List D → Res Fl} {P : Fl → Prop} (w : Wk g E B (ownAt env i k) P) : ∃ l, env[i]? = some (some (.own l)) ∧ Wk g E B (k l) P := by
  unfold ownAt at w
  split at w
  · rename_i l hl
    exact ⟨l, hl, w⟩
  · exact absurd rfl w.bad
def sApp (i : Nat) (f : BEnv → Res D) : Env → Res Fl := fun env => ownAt env i fun l => f env.clean >>= fun d => if l.length < 1000000 then .ok (.nx (env.set i (some (.own (l ++ [d]))))) else .bad
def sAppB (i : Nat) (f : BEnv → Res D) : Env → Res Fl := fun env => ownAt env i fun l => f env.borrow >>= fun d => if noLst d = true then (if l.length < 1000000 then .ok (.nx (env.set i (some (.own (l ++ [d]))))) else .bad) else .bad
/-- a new list is appended -/
def sAppO (i : Nat) (f : BEnv → Res (List D)) : Env → Res Fl := fun env => ownAt env i fun l => f env.borrow >>= fun d => if noLsts d = true then (if l.length < 1000000 then .ok (.nx (env.set i (some (.own (l ++ [.lst d]))))) else .bad) else .bad
section
variable {i : Nat} {x name : Str} {px apos cpos : Pos} {o : Expr}
theorem app_end {Hs : Hp} {env : Env} {d : D} {v : V} {H : Hp} {σ : L2.St} {Z : Ends} {a : Addr} {l : List D} (hl : env[i]? = some (some (.own l))) (ha : σ[i]? = some (some (.ref a))) (r : StR g B Hs0 Hs H σ env) (q : R g Hs v d)
    (w : Wk g E B (if l.length < 1000000 then Res.ok (.nx (env.set i (some (.own (l ++ [d]))))) else .bad) (SLand g B Hs0 Hs Z)) : rAppend (.ref a) [v] H (fun _ H1 => Z.nx σ H1) := by
  obtain ⟨hz, l'⟩ := wk_if w
  obtain ⟨b, vs, h1, h2, h3, h4, h5⟩ := r.own i l hl
  rw [ha] at h1
  have : a = b := by simpa using h1
  subst this
  refine ⟨a, vs, v, rfl, rfl, h4, by rw [h5.length]; exact Nat.lt_of_lt_of_le hz (by decide), ?_⟩
  exact l' _ _ Hs (Same.refl _) (r.chg hl ha (h5.snoc q))
/-- the way of e.append(..) -/
abbrev AppWay (X : Cx) (o e : Expr) (name : Str) (apos cpos : Pos) : Prop := ∀ {to : TE} {t : TA}, PE X o to → PA X [e] t → PE X (.Call (.Attribute o name apos) [e] [] cpos) (tBM X.K "list" rAppend to t)
theorem ss_app (ho : PE X o (tVar i)) (he : PE X e (ER g E f)) (p : AppWay X o e name apos cpos)
    (hs : swapsWith (.Call (.Attribute o name apos) [e] [] cpos) none pos.line X.env = pure false := by rfl) (hst : starEach [e] X.env = (false, eval e X.env) :: starEach [] X.env := by rfl) :
    PS X (.Expr (.Call (.Attribute o name apos) [e] [] cpos) pos) (SR g E B Hs0 (sApp i f)) :=
  PS_mono (ps_expr (p ho (pa_cons he pa_nil hst)) hs) fun Z σ H w => by
    obtain ⟨Hs, env, r, w⟩ := w
    obtain ⟨l, hl, w⟩ := ownAt_wk w
    obtain ⟨a, vs, h1, h2, h3, h4, h5⟩ := r.own i l hl
    refine ⟨.ref a, h1, .inl ⟨rfl, vs, SqL.of h4⟩, ?_⟩
    refine ⟨Hs, env.clean, r.sub, r.clean, w.bind.mono r.keep fun d wd v H' Hs' x r' => ?_⟩
    exact app_end hl h1 (r.ext x) r' (wd.mono (Same.refl _) fun _ l => l.mono x.up)
theorem ss_appB (ho : PE X o (tVar i)) (he : PE X e (ER g E f)) (p : AppWay X o e name apos cpos)
    (hs : swapsWith (.Call (.Attribute o name apos) [e] [] cpos) none pos.line X.env = pure false := by rfl) (hst : starEach [e] X.env = (false, eval e X.env) :: starEach [] X.env := by rfl) :
    PS X (.Expr (.Call (.Attribute o name apos) [e] [] cpos) pos) (SR g E B Hs0 (sAppB i f)) :=
  PS_mono (ps_expr (p ho (pa_cons he pa_nil hst)) hs) fun Z σ H w => by
    obtain ⟨Hs, env, r, w⟩ := w
    obtain ⟨l, hl, w⟩ := ownAt_wk w
    obtain ⟨a, vs, h1, h2, h3, h4, h5⟩ := r.own i l hl
    refine ⟨.ref a, h1, .inl ⟨rfl, vs, SqL.of h4⟩, ?_⟩
    refine ⟨Hbor Hs H σ env, env.borrow, r.hb_sub, r.borrow, w.bind.mono r.keep fun d wd v H' Hs' x r' => ?_⟩
    by_cases hn : noLst d = true
    · rw [if_pos hn] at wd
      obtain ⟨r2, up, k, _⟩ := r.bor x
      exact app_end hl h1 r2 (R.cutL k r' hn) (wd.mono (Same.refl _) fun _ l => l.mono up)
    · rw [if_neg hn] at wd; exact absurd rfl wd.bad
theorem ss_appO (ho : PE X o (tVar i)) (he : PE X e (EO g E fo)) (p : AppWay X o e name apos cpos)
    (hs : swapsWith (.Call (.Attribute o name apos) [e] [] cpos) none pos.line X.env = pure false := by rfl) (hst : starEach [e] X.env = (false, eval e X.env) :: starEach [] X.env := by rfl) :
    PS X (.Expr (.Call (.Attribute o name apos) [e] [] cpos) pos) (SR g E B Hs0 (sAppO i fo)) :=
  PS_mono (ps_expr (p ho (pa_cons he pa_nil hst)) hs) fun Z σ H w => by
    obtain ⟨Hs, env, r, w⟩ := w
    obtain ⟨l, hl, w⟩ := ownAt_wk w
    obtain ⟨a, vs, h1, h2, h3, h4, h5⟩ := r.own i l hl
    refine ⟨.ref a, h1, .inl ⟨rfl, vs, SqL.of h4⟩, ?_⟩
    refine ⟨Hbor Hs H σ env, env.borrow, r.hb_sub, r.borrow, w.bind.mono r.keep fun d wd b us H' Hs' x q1 q2 q3 q4 => ?_⟩
    by_cases hn : noLsts d = true
    · rw [if_pos hn] at wd
      obtain ⟨r2, up, k, z1, z2⟩ := r.bor x
      have hb := z1 b q2
      -- the new list joins what stands still
      have r3 : StR g B Hs0 (upd (Hcut Hs' σ env) b (.lst us)) H' σ env := by
        have r4 := r2.setOwn (i := σ.length) hb (r.keep.free q1) q3 (Rs.cutL k q4 hn) (z2 b q1)
        have x5 : Ext (Hcut Hs' σ env) H (upd (Hcut Hs' σ env) b (.lst us)) H' := ⟨x.same, same_upd hb, fun c o q => ?_, fun c o q => ?_⟩
        · refine ⟨r2.keep, r2.sub0.trans (same_upd hb), x5.sub, fun c o q => ?_, r2.len, fun j d q => ?_, fun j m q => ?_, r2.dis⟩
          · by_cases hc : c = b
            · subst hc; exact .inr (r.keep.free q1)
            · rw [upd_ne hc] at q; exact r2.new c o q
          · obtain ⟨v, p1, p2⟩ := r2.val j d q
            exact ⟨v, p1, p2.mono (same_upd hb)⟩
          · obtain ⟨c, ws, p1, p2, p3, p4, p5⟩ := r2.own j m q
            refine ⟨c, ws, p1, ?_, p3, p4, p5.mono (same_upd hb)⟩
            rw [upd_ne]
            · exact p2
            · rintro rfl
              exact z2 c q1 ⟨j, m, q, p1⟩
        · by_cases hc : c = b
          · subst hc; rw [upd_same] at q; cases q; exact q3
          · rw [upd_ne hc] at q; exact r2.sub c o q
        · by_cases hc : c = b
          · subst hc; exact .inr q1
          · rw [upd_ne hc] at q; exact .inl q
      have up2 : Same Hs (upd (Hcut Hs' σ env) b (.lst us)) := up.trans (same_upd hb)
      exact app_end hl h1 r3 (.lst upd_same ((Rs.cutL k q4 hn).mono (same_upd hb))) (wd.mono (Same.refl _) fun _ l => l.mono up2)
    · rw [if_neg hn] at wd; exact absurd rfl wd.bad
/-- x[i] = e -/
def sIx (i : Nat) (fi : BEnv → Res D) (f : BEnv → Res D) : Env → Res Fl := fun env => f env.clean >>= fun d => ownAt env i fun l => fi env.borrow >>= fun z => match z with
  | .int k => match ixN l.length k with
    | some j => .ok (.nx (env.set i (some (.own (l.set j d)))))
    | none => .bad
  | _ => .bad
def sIxB (i : Nat) (fi : BEnv → Res D) (f : BEnv → Res D) : Env → Res Fl := fun env => f env.borrow >>= fun d => if noLst d = true then (ownAt env i fun l => fi env.borrow >>= fun z => match z with
  | .int k => match ixN l.length k with
    | some j => .ok (.nx (env.set i (some (.own (l.set j d)))))
    | none => .bad
  | _ => .bad) else .bad
theorem ix_end {Hs : Hp} {env : Env} {d : D} {v : V} {H : Hp} {σ : L2.St} {Z : Ends} {fi : BEnv → Res D} {ei : Expr} (r : StR g B Hs0 Hs H σ env) (q : R g Hs v d)
    (w : Wk g E B (ownAt env i fun l => fi env.borrow >>= fun z => match z with
      | .int k => match ixN l.length k with
        | some j => Res.ok (.nx (env.set i (some (.own (l.set j d)))))
        | none => .bad
      | _ => .bad) (SLand g B Hs0 Hs Z)) : gSub (tVar i) (ER g E fi) rSetL v σ H Z.nx := by
  obtain ⟨l, hl, w⟩ := ownAt_wk w
  obtain ⟨a, vs, h1, h2, h3, h4, h5⟩ := r.own i l hl
  refine ⟨.ref a, h1, Hbor Hs H σ env, env.borrow, r.hb_sub, r.borrow, w.bind.mono r.keep fun z wz u H' Hs' x ru => ?_⟩
  have r1 := r.same x.same
  cases ru with
  | int k =>
    have wz : Wk g E B (match ixN l.length k with
        | some j => Res.ok (Fl.nx (env.set i (some (.own (l.set j d)))))
        | none => .bad) (SLand g B Hs0 Hs Z) := wz
    split at wz
    · rename_i j hj
      refine ⟨a, vs, k, j, rfl, rfl, x.same _ _ h4, by rw [h5.length]; exact hj, ?_⟩
      exact wz.is_ok _ _ Hs (Same.refl _) (r1.chg hl h1 (h5.set j q))
    · exact absurd rfl wz.bad
  | _ => exact absurd rfl wz.bad
theorem ss_ix {fi : BEnv → Res D} {ei : Expr} {tpos : Pos} (ho : PE X o (tVar i)) (hi : PE X ei (ER g E fi)) (he : PE X e (ER g E f))
    (p : ∀ {te to ti : TE}, PE X e te → PE X o to → PE X ei ti → PS X st (tAsg te (gSub to ti rSetL))) : PS X st (SR g E B Hs0 (sIx i fi f)) :=
  PS_mono (p he ho hi) fun Z σ H w => clean_then (kd := fun d env => ownAt env i fun l => fi env.borrow >>= fun z => match z with
      | .int k => match ixN l.length k with
        | some j => Res.ok (.nx (env.set i (some (.own (l.set j d)))))
        | none => .bad
      | _ => .bad) w fun Hs env d v H r q w => ix_end (ei := ei) r q w
theorem ss_ixB {fi : BEnv → Res D} {ei : Expr} {tpos : Pos} (ho : PE X o (tVar i)) (hi : PE X ei (ER g E fi)) (he : PE X e (ER g E f))
    (p : ∀ {te to ti : TE}, PE X e te → PE X o to → PE X ei ti → PS X st (tAsg te (gSub to ti rSetL))) : PS X st (SR g E B Hs0 (sIxB i fi f)) :=
  PS_mono (p he ho hi) fun Z σ H w => bor_then (kd := fun d env => ownAt env i fun l => fi env.borrow >>= fun z => match z with
      | .int k => match ixN l.length k with
        | some j => Res.ok (.nx (env.set i (some (.own (l.set j d)))))
        | none => .bad
      | _ => .bad) w fun Hs env d v H r q w => ix_end (ei := ei) r q w
end
/-! ### while -/
def whileD : Nat → (BEnv → Res Bool) → (Env → Res Fl) → Env → Res Fl
  | 0, _, _, _ => .bad
  | n + 1, p, s, env => p env.borrow >>= fun b => if b = true then s env >>= fun fl => match fl with
    | .nx e => whileD n p s e
    | .ct e => whileD n p s e
    | .bk e => .ok (.nx e)
    | .rt c => .ok (.rt c)
    else .ok (.nx env)
def sWhile (fuel : Env → Nat) (p : BEnv → Res Bool) (s : Env → Res Fl) : Env → Res Fl := fun env => whileD (fuel env) p s env
theorem ss_while {c : Expr} {body : List Stmt} (fuel : Env → Nat) (hp : PassesOwn (model X.prog X.w) X.A X.env X.xe) (hc : PT X c (TR g E p)) (hb : PSs X body (SR g E B Hs0 s)) : PS X (.While c body [] pos) (SR g E B Hs0 (sWhile fuel p s)) :=
  PS_mono (ps_while hp hc hb) fun Z σ H ⟨Hs, env, r, w⟩ => by
    refine ⟨fun m σ H => ∃ Hs env, StR g B Hs0 Hs H σ env ∧ Wk g E B (whileD m p s env) (SLand g B Hs0 Hs Z), ⟨_, Hs, env, r, w⟩, ?_⟩
    rintro m σ H ⟨Hs, env, r, w⟩
    cases m with
    | zero => exact absurd rfl w.bad
    | succ m =>
      refine test_then (kb := fun b env => if b = true then s env >>= fun fl => match fl with
        | .nx e => whileD m p s e
        | .ct e => whileD m p s e
        | .bk e => .ok (.nx e)
        | .rt c => .ok (.rt c)
        else .ok (.nx env)) (D := Z) ⟨Hs, env, r, w⟩ fun Hs env b H r w => ?_
      cases b with
      | false => exact iteF (nx_end (by simpa using w) r)
      | true =>
        have w' : Wk g E B (s env >>= fun fl => match fl with
          | .nx e => whileD m p s e
          | .ct e => whileD m p s e
          | .bk e => .ok (.nx e)
          | .rt c => .ok (.rt c)) (SLand g B Hs0 Hs Z) := by simpa using w
        refine iteT ⟨fun σ' H' => ∃ Hs env, StR g B Hs0 Hs H' σ' env ∧ Wk g E B (whileD m p s env) (SLand g B Hs0 Hs Z), fun σ' H' h => ⟨m, Nat.lt_succ_self m, h⟩, Hs, env, r, w'.bind.mono (Same.refl _) fun fl wf => ?_⟩
        cases fl with
        | nx e => exact fun σ' H' Hs' s r' => ⟨Hs', e, r', wf.mono (Same.refl _) fun _ l => l.mono s⟩
        | ct e => exact fun σ' H' Hs' s r' => ⟨Hs', e, r', wf.mono (Same.refl _) fun _ l => l.mono s⟩
        | bk e => exact wf.is_ok
        | rt c => exact wf.is_ok

/-! ### a def -/
def startE (n : Nat) (ds : List D) : Env := ds.map (fun d => some (.val d)) ++ List.replicate (n - ds.length) none
def endFl : Fl → Res Cell
  | .rt c => .ok c
  | .nx _ => .ok (.val .non)
  | _ => .bad
/-- the value of a def's body: N slots, n parameters -/
def runB (N n : Nat) (s : Env → Res Fl) (ds : List D) : Res Cell := if ds.length = n then s (startE N ds) >>= endFl else .bad
theorem start_StR {g : G} {Hs H : Hp} {N : List Str} {vs : List V} {ds : List D} (s : Same Hs H) (r : Rs g Hs vs ds) : StR g H Hs Hs H (L2.start N vs) (startE N.length ds) where
  keep := Same.refl _
  sub0 := Same.refl _
  sub := s
  new := fun _ _ e => .inl e
  len := by unfold L2.start startE; simp [r.length]
  val := fun i d e => by
    unfold startE at e
    by_cases hi : i < ds.length
    · rw [List.getElem?_append_left (by simpa using hi), List.getElem?_map] at e
      cases q : ds[i]? with
      | none => rw [q] at e; simp at e
      | some d' =>
        rw [q] at e
        have : d' = d := by simpa using e
        subst this
        obtain ⟨v, h1, h2⟩ := r.get q
        refine ⟨v, ?_, h2⟩
        unfold L2.start
        rw [List.getElem?_append_left (by rw [List.length_map, r.length]; exact hi), List.getElem?_map, h1]
        rfl
    · rw [List.getElem?_append_right (by simpa using hi)] at e
      simp [List.getElem?_replicate] at e
  own := fun i l e => by
    unfold startE at e
    by_cases hi : i < ds.length
    · rw [List.getElem?_append_left (by simpa using hi), List.getElem?_map] at e
      cases q : ds[i]? with
      | none => rw [q] at e; simp at e
      | some d' => rw [q] at e; simp at e
    · rw [List.getElem?_append_right (by simpa using hi)] at e
      simp [List.getElem?_replicate] at e
  dis := fun i j l m a n e => by
    unfold startE at e
    by_cases hi : i < ds.length
    · rw [List.getElem?_append_left (by simpa using hi), List.getElem?_map] at e
      cases q : ds[i]? with
      | none => rw [q] at e; simp at e
      | some d' => rw [q] at e; simp at e
    · rw [List.getElem?_append_right (by simpa using hi)] at e
      simp [List.getElem?_replicate] at e
theorem body_read {n : Nat} {N : List Str} {H : Hp} {vs : List V} {Q : VK} (h : spD g n (runB N.length n s) vs H Q E) :
    ∃ B Hs0, SR g E B Hs0 s { nx := fun _ H' => Q .non H', rt := Q } (L2.start N vs) H := by
  obtain ⟨Hs, ds, sm, r, e, w⟩ := h
  refine ⟨H, Hs, Hs, _, start_StR sm r, ?_⟩
  unfold runB at w
  rw [if_pos e] at w
  refine w.bind.mono (Same.refl _) fun fl wf => ?_
  cases fl with
  | nx e' => exact fun σ' H' Hs' s' r' => wf.is_ok .non H' ⟨Hs', ⟨r'.keep, r'.sub0, r'.sub, r'.new⟩, .non⟩
  | rt c => exact wf.is_ok
  | bk e' => exact absurd rfl wf.bad
  | ct e' => exact absurd rfl wf.bad
end
theorem def_fn {P : Program} {w : World} {base : Heap} {g : G} {x qual : Str} {st : Stmt} {f : Addr} {fd : FuncData} {N ps : List Str} {k : Nat} {s : Env → Res Fl} (F : Fun g.K x qual st f fd) (S : FnScope N ps (defScope st))
    (hbody : ∀ (cdv : Value) (A : Around) (outer : List PySem.Env) (sh : Shared) (H : Hp) (E : XK) (B Hs0 : Hp), Room k (A.deeper (envOfC qual (defScope st) sh.heap.objs.size f cdv)) →
      PSs (cxOf (L2.CX P w) P w g.K g.mg base N qual (defScope st) f cdv A outer sh H E) (defBody st) (SR g E B Hs0 s)) : FnOk P w g.K g.mg base (L2.CX P w) (k + 1) f fd ps (spD g ps.length (runB N.length ps.length s)) :=
  F.okX S (fun vs H Q E h => spD.len vs H Q E h) fun cdv A outer sh H vs Q E hr h => by
    obtain ⟨B, Hs0, q⟩ := body_read h
    exact ⟨_, hbody cdv A outer sh H E B Hs0 hr, q⟩
theorem def_ok {P : Program} {w : World} {base : Heap} {g : G} {x qual : Str} {st : Stmt} {f : Addr} {fd : FuncData} {N ps : List Str} {k : Nat} {s : Env → Res Fl} (F : Fun g.K x qual st f fd) (S : FnScope N ps (defScope st))
    (hm : g.mg x = some (.ref f)) (hb : Binds g.K fd ps [])
    (hbody : ∀ (cdv : Value) (A : Around) (outer : List PySem.Env) (sh : Shared) (H : Hp) (E : XK) (B Hs0 : Hp), Room k (A.deeper (envOfC qual (defScope st) sh.heap.objs.size f cdv)) →
      PSs (cxOf (L2.CX P w) P w g.K g.mg base N qual (defScope st) f cdv A outer sh H E) (defBody st) (SR g E B Hs0 s)) : Fn P w base g x ps.length (k + 1) (runB N.length ps.length s) := by
  refine ⟨fun ds nb => ?_, f, fd, ps, rfl, hm, F.kp, hb, def_fn F S hbody⟩
  by_cases e : ds.length = ps.length
  · exact e
  · unfold runB at nb; rw [if_neg e] at nb; exact absurd rfl nb

/-! ### a law's own promise -/
def spLaw (K : PySem.W.Frag) : Sp := fun vs H Q _ => ∃ (a : Addr) (ns : List Int), vs = [.ref a] ∧ SqL K H a (ns.map V.int) ∧ ns.length ≤ 63 ∧ (∀ z ∈ ns, Builtin.Int.intBits z ≤ 1048576) ∧ ∀ H', Q (.bl true) H'
theorem law_ok {P : Program} {w : World} {base : Heap} {K : PySem.W.Frag} {mg : Str → Option Value} {cC : Addr} {f : Addr} {fd : FuncData} {ps : List Str} {k : Nat} {den : List D → Res Cell} (F : FnOk P w K mg base (L2.CX P w) k f fd ps (spD ⟨K, mg, cC, fun _ _ => False, fun _ _ _ _ h => h⟩ 1 den))
    (h : ∀ ns : List Int, ns.length ≤ 63 → (∀ z ∈ ns, Builtin.Int.intBits z ≤ 1048576) → den [.scr ns] = .ok (.val (.bl true))) : FnOk P w K mg base (L2.CX P w) k f fd ps (spLaw K) :=
  F.imp fun vs H Q E ⟨a, ns, e, hS, hl, hb, q⟩ => by
    subst e
    refine ⟨H, [.scr ns], Same.refl _, .cons (.scr hS) .nil, rfl, ?_⟩
    rw [h ns hl hb]
    refine .of_ok fun v H' r => ?_
    obtain ⟨Hs', x, r⟩ := r
    cases r
    exact q H'
theorem cx_never {P : Program} {w : World} (H : Hp) (s : Shared) (e : Value) (s' : Shared) (h : L2.CX P w [] H s (fun _ _ _ => False) e s') : False := by
  obtain ⟨_, _, _, _, _, _, _, _, _, _, _, _, z⟩ := h
  exact z.elim
end PL

set_option Elab.async false
set_option linter.all false
set_option maxRecDepth 100000
set_option maxHeartbeats 1000000
namespace PL
open PySem PySem.Spec PyProof.Rows L2

/-! ### targets -/
abbrev Pat := D → Res (List (Nat × D))
inductive As (g : G) (Hs : Hp) : List (Nat × V) → List (Nat × D) → Prop
  | nil : As g Hs [] []
  | cons {i : Nat} {v : V} {d : D} {vs : List (Nat × V)} {ds : List (Nat × D)} (h : R g Hs v d) (r : As g Hs vs ds) : As g Hs ((i, v) :: vs) ((i, d) :: ds)
def setAll (σ : L2.St) : List (Nat × V) → L2.St
  | [] => σ
  | (i, v) :: r => setAll (σ.set i (some v)) r
def setAllE (env : Env) : List (Nat × D) → Env
  | [] => env
  | (i, d) :: r => setAllE (env.set i (some (.val d))) r
def setAllB (env : BEnv) : List (Nat × D) → BEnv
  | [] => env
  | (i, d) :: r => setAllB (env.set i (some d)) r
theorem setAll_append (σ : L2.St) : ∀ (a b : List (Nat × V)), setAll σ (a ++ b) = setAll (setAll σ a) b := fun a => by
  induction a generalizing σ with
  | nil => intro b; rfl
  | cons p a ih => intro b; exact ih _ b
theorem As.append {g : G} {Hs : Hp} : ∀ {a b : List (Nat × V)} {c d : List (Nat × D)}, As g Hs a c → As g Hs b d → As g Hs (a ++ b) (c ++ d)
  | _, _, _, _, .nil, s => s
  | _, _, _, _, .cons h r, s => .cons h (r.append s)
theorem As.split {g : G} {Hs : Hp} : ∀ {c d : List (Nat × D)} {v : List (Nat × V)}, As g Hs v (c ++ d) → ∃ a b, v = a ++ b ∧ As g Hs a c ∧ As g Hs b d
  | [], d, v, r => ⟨[], v, rfl, .nil, r⟩
  | (i, x) :: c, d, _, .cons h r => by
    obtain ⟨a, b, rfl, ra, rb⟩ := As.split (c := c) r
    exact ⟨_ :: a, b, rfl, .cons h ra, rb⟩
theorem StR.setAll {g : G} {B Hs0 Hs H : Hp} {vs : List (Nat × V)} {ds : List (Nat × D)} (q : As g Hs vs ds) : ∀ {σ : L2.St} {env : Env}, StR g B Hs0 Hs H σ env → StR g B Hs0 Hs H (PL.setAll σ vs) (setAllE env ds) := by
  induction q with
  | nil => exact fun r => r
  | cons h _ ih => exact fun r => ih (r.setVal h)
theorem EnvR.set1 {g : G} {Hs : Hp} {σ : L2.St} {env : BEnv} {i : Nat} {v : V} {d : D} (r : EnvR g Hs σ env) (q : R g Hs v d) : EnvR g Hs (σ.set i (some v)) (env.set i (some d)) := ⟨by rw [List.length_set, List.length_set, r.len], fun j d' e => by
  rcases set_get e with ⟨rfl, q'⟩ | ⟨n, e'⟩
  · subst q'
    exact ⟨v, set_len (j := j) r.len e, q⟩
  · obtain ⟨u, h1, h2⟩ := r.get j d' e'
    exact ⟨u, by rw [List.getElem?_set_ne (Ne.symm n)]; exact h1, h2⟩⟩
theorem EnvR.setAll {g : G} {Hs : Hp} {vs : List (Nat × V)} {ds : List (Nat × D)} (q : As g Hs vs ds) : ∀ {σ : L2.St} {env : BEnv}, EnvR g Hs σ env → EnvR g Hs (PL.setAll σ vs) (setAllB env ds) := by
  induction q with
  | nil => exact fun r => r
  | cons h _ ih => exact fun r => ih (r.set1 h)
def GA (g : G) (p : Pat) : TG := fun v σ H Q => ∃ Hs d as, Same Hs H ∧ R g Hs v d ∧ p d = .ok as ∧ ∀ vas, As g Hs vas as → Q (setAll σ vas) H
abbrev PatL := List D → Res (List (Nat × D))
def GAs (g : G) (q : PatL) : TGs := fun vs σ H Q => ∃ Hs ds as, Same Hs H ∧ Rs g Hs vs ds ∧ q ds = .ok as ∧ ∀ vas, As g Hs vas as → Q (setAll σ vas) H
def pName (i : Nat) : Pat := fun d => .ok [(i, d)]
def pNil : PatL
  | [] => .ok []
  | _ => .bad
def pCons (p : Pat) (q : PatL) : PatL
  | d :: ds => p d >>= fun a => q ds >>= fun b => .ok (a ++ b)
  | [] => .bad
def pTup (q : PatL) : Pat
  | .tup ds => q ds
  | _ => .bad
section
variable {X : Cx} {g : G} {e : Expr} {es : List Expr} {pos : Pos} {p : Pat} {q : PatL} {n : Nat}
theorem PG_mono {t t' : TG} (p : PG X e t) (k : ∀ v σ H Q, t' v σ H Q → t v σ H Q) : PG X e t' := ⟨fun pins s σ H v u Q I r w => p.run pins s σ H v u Q I r (k v σ H Q w)⟩
theorem PGs_mono {t t' : TGs} (p : PGs X es t) (k : ∀ v σ H Q, t' v σ H Q → t v σ H Q) : PGs X es t' := ⟨fun pins s σ H v u Q I r w => p.run pins s σ H v u Q I r (k v σ H Q w)⟩
theorem sg_name {i : Nat} {x : Str} (hN : X.N.Nodup) (hi : X.N[i]? = some x) (hx : Loc X.env.scope x) (hf : X.fn x = true ∨ X.env.scope.names.lookup x = some .local := by first | exact .inl rfl | exact .inr rfl | assumption) : PG X (.Name x pos) (GA g (pName i)) :=
  PG_mono (pg_name hN hi hx hf) fun v σ H Q ⟨Hs, d, as, s, r, e, k⟩ => by
    cases e
    exact k [(i, v)] (.cons r .nil)
structure PGL (X : Cx) (g : G) (es : List Expr) (n : Nat) (q : PatL) : Prop where
  p : PGs X es (GAs g q)
  len : ∀ ds as, q ds = .ok as → ds.length = n
theorem sgs_nil : PGL X g [] 0 pNil where
  p := PGs_mono pgs_nil fun vs σ H Q ⟨Hs, ds, as, s, r, e, k⟩ => by
    cases r with
    | nil => cases e; exact ⟨rfl, k [] .nil⟩
    | cons _ _ => cases e
  len := fun ds as e => by
    cases ds with
    | nil => rfl
    | cons _ _ => cases e
theorem bind_ok {α β : Type} {r : Res α} {f : α → Res β} {b : β} (h : (r >>= f) = .ok b) : ∃ a, r = .ok a ∧ f a = .ok b := by
  cases r with
  | ok a => exact ⟨a, rfl, h⟩
  | exc c x => cases h
  | bad => cases h
theorem sgs_cons (h1 : PG X e (GA g p)) (h2 : PGL X g es n q) (hs : (assignEach (e :: es) X.env).map (·.2) = assign e X.env :: (assignEach es X.env).map (·.2) := by rfl) : PGL X g (e :: es) (n + 1) (pCons p q) :=
  { p := PGs_mono (pgs_cons h1 h2.p hs) fun vs σ H Q ⟨Hs, ds, as, s, r, e, k⟩ => by
      cases r with
      | nil => cases e
      | cons r1 rr =>
        obtain ⟨a, e1, e⟩ := bind_ok e
        obtain ⟨b, e2, e⟩ := bind_ok e
        cases e
        refine ⟨_, _, rfl, Hs, _, a, s, r1, e1, fun va ra => ⟨Hs, _, b, s, rr, e2, fun vb rb => ?_⟩⟩
        rw [← setAll_append]
        exact k _ (ra.append rb)
    len := fun ds as e => by
      cases ds with
      | nil => cases e
      | cons d ds =>
        obtain ⟨a, e1, e⟩ := bind_ok e
        obtain ⟨b, e2, e⟩ := bind_ok e
        rw [List.length_cons, h2.len ds b e2] }
theorem sg_tup {k : Nat} (hK : X.K = g.K) (hc : X.calm = true) (h : PGL X g es n q) (hn : (assignEach es X.env).length = n := by rfl) (hst : (assignEach es X.env).findIdx? (·.1) = none := by rfl) : PG X (.Tuple es k pos) (GA g (pTup q)) :=
  PG_mono (pg_tup hc h.p hn hst) fun v σ H Q ⟨Hs, d, as, s, r, e, k⟩ => by
    cases r with
    | tup h' r => exact ⟨_, _, rfl, hK ▸ SameT s h', by rw [r.length]; exact h.len _ _ e, Hs, _, as, s, r, e, k⟩
    | _ => cases e
end

/-! ### what is walked -/
def WalksL (g : G) (J : It) (Hs : Hp) (l : List D) : Prop := ∀ Hs2 H2, Same Hs Hs2 → Same Hs2 H2 → ∀ i, (i < l.length → J.go i H2 ∧ ∀ x H3, J.yld i H2 x H3 → ∃ d Hs3, l[i]? = some d ∧ Ext Hs2 H2 Hs3 H3 ∧ R g Hs3 x d) ∧ (l.length ≤ i → J.stop i H2)
def IR (g : G) (E : XK) (f : BEnv → Res (List D)) : TI := fun σ H RR => ∃ Hs env, Same Hs H ∧ EnvR g Hs σ env ∧ Wk g E H (f env) (fun l => ∀ J H' Hs', Ext Hs H Hs' H' → WalksL g J Hs' l → RR J H')
/-- a walk that hangs on no list (a range's) -/
def IRr (g : G) (E : XK) (f : BEnv → Res (List D)) : TI := fun σ H RR => ∃ Hs env, Same Hs H ∧ EnvR g Hs σ env ∧ Wk g E H (f env) (fun l => ∀ J H' Hs', Ext Hs H Hs' H' → (∀ Hs2, WalksL g J Hs2 l) → RR J H')
section
variable {X : Cx} {g : G} {E : XK} {e tg : Expr} {es : List Expr} {pos : Pos} {f h : BEnv → Res D} {fi : BEnv → Res (List D)} {fs : BEnv → Res (List D)}
theorem PI_mono {t t' : TI} (p : PI X tg e t) (k : ∀ σ H Q, t' σ H Q → t σ H Q) : PI X tg e t' := ⟨fun pins s σ H Q I w => p.run pins s σ H Q I (k σ H Q w)⟩
theorem ir_of_r (p : PI X tg e (IRr g E fi)) : PI X tg e (IR g E fi) := PI_mono p fun σ H RR ⟨Hs, env, s, r, w⟩ => ⟨Hs, env, s, r, w.mono (Same.refl _) fun l k J H' Hs' x wl => k J H' Hs' x (wl Hs')⟩
/-- a list -/
def iLst (f : BEnv → Res D) : BEnv → Res (List D) := fun env => f env >>= fun d => match d with
  | .lst l => .ok l
  | .scr ns => .ok (ns.map D.int)
  | _ => .bad
theorem walks_list' {Hs : Hp} {a : Addr} {vs : List V} {l : List D} (h : SqL g.K Hs a vs) (r : Rs g Hs vs l) : WalksL g (Itl g.K a) Hs l := fun Hs2 H2 s1 s2 i => by
  have hq : SqL g.K H2 a vs := s2.seq (s1.seq h)
  refine ⟨fun hi => ?_, fun hi => ⟨vs, hq, by rw [r.length]; exact hi⟩⟩
  obtain ⟨v, h1, h2⟩ := r.get (List.getElem?_eq_getElem hi)
  refine ⟨⟨vs, v, hq, h1⟩, fun x H3 ⟨e1, e2⟩ => ?_⟩
  subst e1
  have := e2 vs hq
  rw [h1] at this
  cases this
  exact ⟨_, Hs2, List.getElem?_eq_getElem hi, Ext.refl s2, h2.mono s1⟩
theorem walks_tup {Hs : Hp} {a : Addr} {vs : List V} {l : List D} (h : SqT g.K Hs a vs) (r : Rs g Hs vs l) : WalksL g (Itt g.K a) Hs l := fun Hs2 H2 s1 s2 i => by
  have hq : SqT g.K H2 a vs := SameT s2 (SameT s1 h)
  refine ⟨fun hi => ?_, fun hi => ⟨vs, hq, by rw [r.length]; exact hi⟩⟩
  obtain ⟨v, h1, h2⟩ := r.get (List.getElem?_eq_getElem hi)
  refine ⟨⟨vs, v, hq, h1⟩, fun x H3 ⟨e1, e2⟩ => ?_⟩
  subst e1
  have := e2 vs hq
  rw [h1] at this
  cases this
  exact ⟨_, Hs2, List.getElem?_eq_getElem hi, Ext.refl s2, h2.mono s1⟩
theorem si_list (hK : X.K = g.K) (he : PE X e (ER g E f)) : PI X tg e (IR g E (iLst f)) := PI_mono (pi_list he) fun σ H RR ⟨Hs, env, s, rr, w⟩ => by
  refine ⟨Hs, env, s, rr, w.bind.mono (Same.refl _) fun d wd v H' Hs' x r => ?_⟩
  cases r with
  | lst h q => exact ⟨_, rfl, ⟨_, SqL.of (x.sub _ _ h)⟩, hK ▸ wd.is_ok _ H' Hs' x (walks_list' (SqL.of h) q)⟩
  | scr h => exact ⟨_, rfl, ⟨_, hK ▸ x.sub.seq h⟩, hK ▸ wd.is_ok _ H' Hs' x (walks_list' h (Rs.ints _))⟩
  | _ => exact absurd rfl wd.bad
def iTupD (f : BEnv → Res D) : BEnv → Res (List D) := fun env => f env >>= fun d => match d with
  | .tup l => .ok l
  | _ => .bad
theorem si_tup (hK : X.K = g.K) (he : PE X e (ER g E f)) : PI X tg e (IR g E (iTupD f)) := PI_mono (pi_tup he) fun σ H RR ⟨Hs, env, s, rr, w⟩ => by
  refine ⟨Hs, env, s, rr, w.bind.mono (Same.refl _) fun d wd v H' Hs' x r => ?_⟩
  cases r with
  | tup h q => exact ⟨_, rfl, ⟨_, hK ▸ SameT x.sub h⟩, hK ▸ wd.is_ok _ H' Hs' x (walks_tup h q)⟩
  | _ => exact absurd rfl wd.bad
/-- ranges -/
def rngD (lo : Int) (n : Nat) : List D := (List.range n).map fun (i : Nat) => D.int (lo + (i : Int))
def iRng1 (fs : BEnv → Res (List D)) : BEnv → Res (List D) := fun env => fs env >>= fun ds => match ds with
  | [.int j] => if -(2 ^ 62) ≤ j ∧ j < 2 ^ 62 then .ok (rngD 0 j.toNat) else .bad
  | _ => .bad
def iRng2 (fs : BEnv → Res (List D)) : BEnv → Res (List D) := fun env => fs env >>= fun ds => match ds with
  | [.int i, .int j] => if -(2 ^ 62) ≤ i ∧ i < 2 ^ 62 ∧ -(2 ^ 62) ≤ j ∧ j < 2 ^ 62 then .ok (rngD i (j - i).toNat) else .bad
  | _ => .bad
theorem walks_rng {Hs : Hp} (lo : Int) (n : Nat) : WalksL g (Itr lo n) Hs (rngD lo n) := fun Hs2 H2 s1 s2 i => by
  have hl : (rngD lo n).length = n := by unfold rngD; rw [List.length_map, List.length_range]
  rw [hl]
  refine ⟨fun hi => ⟨hi, fun x H3 ⟨e1, e2⟩ => ?_⟩, fun hi => hi⟩
  subst e1 e2
  refine ⟨_, Hs2, ?_, Ext.refl s2, .int _⟩
  unfold rngD
  rw [List.getElem?_map, List.getElem?_range hi]
  rfl
theorem si_range1 {a : Expr} {p : Pos} (hg : Gl X "range") (hm : X.mg "range" = none) (ha : PA X [a] (AR g E fs)) (hs : starEach [a] X.env = [(false, eval a X.env)] := by rfl) : PI X tg (.Call (.Name "range" p) [a] [] pos) (IRr g E (iRng1 fs)) :=
  PI_mono (pi_range1 hg hm ha hs) fun σ H RR ⟨Hs, env, s, rr, w⟩ => by
    refine ⟨Hs, env, s, rr, w.bind.mono (Same.refl _) fun ds wd vs H' Hs' x r => ?_⟩
    split at wd
    · obtain ⟨⟩ | ⟨r1, rr⟩ := r
      cases rr
      cases r1
      obtain ⟨⟨h1, h2⟩, k⟩ := wk_if wd
      exact ⟨_, rfl, h1, h2, k _ H' Hs' x fun _ => walks_rng _ _⟩
    · exact absurd rfl wd.bad
theorem si_range2 {a b : Expr} {p : Pos} (hg : Gl X "range") (hm : X.mg "range" = none) (ha : PA X [a, b] (AR g E fs)) (hs : starEach [a, b] X.env = [(false, eval a X.env), (false, eval b X.env)] := by rfl) (hs2 : starEach [b] X.env = [(false, eval b X.env)] := by rfl) : PI X tg (.Call (.Name "range" p) [a, b] [] pos) (IRr g E (iRng2 fs)) :=
  PI_mono (pi_range2 hg hm ha hs hs2) fun σ H RR ⟨Hs, env, s, rr, w⟩ => by
    refine ⟨Hs, env, s, rr, w.bind.mono (Same.refl _) fun ds wd vs H' Hs' x r => ?_⟩
    split at wd
    · obtain ⟨⟩ | ⟨r1, rr⟩ := r
      obtain ⟨⟩ | ⟨r2, rr⟩ := rr
      cases rr
      cases r1
      cases r2
      obtain ⟨⟨h1, h2, h3, h4⟩, k⟩ := wk_if wd
      exact ⟨_, _, rfl, ⟨h1, h2, h3, h4⟩, k _ H' Hs' x fun _ => walks_rng _ _⟩
    · exact absurd rfl wd.bad
end
end PL

set_option Elab.async false
set_option linter.all false
set_option maxRecDepth 100000
set_option maxHeartbeats 1000000
namespace PL
open PySem PySem.Spec PyProof.Rows L2

/-- where nothing may be raised -/
def must {α β : Type} (r : Res α) (k : α → Res β) : Res β := match r with
  | .ok a => k a
  | _ => .bad
theorem must_wk {α β : Type} {g : G} {E : XK} {H : Hp} {r : Res α} {k : α → Res β} {P : β → Prop} (w : Wk g E H (must r k) P) : ∃ a, r = .ok a ∧ Wk g E H (k a) P := by
  cases r with
  | ok a => exact ⟨a, rfl, w⟩
  | _ => exact absurd rfl w.bad
@[simp] theorem must_ok {α β : Type} {a : α} {k : α → Res β} : must (.ok a) k = k a := rfl

/-! ### for -/
def forD (p : Pat) (s : Env → Res Fl) : List D → Env → Res Fl
  | [], env => .ok (.nx env)
  | d :: ds, env => must (p d) fun as => s (setAllE env as) >>= fun fl => match fl with
    | .nx e => forD p s ds e
    | .ct e => forD p s ds e
    | .bk e => .ok (.nx e)
    | .rt c => .ok (.rt c)
def sFor (f : BEnv → Res (List D)) (p : Pat) (s : Env → Res Fl) : Env → Res Fl := fun env => f env.clean >>= fun l => forD p s l env
/-- over a range, whose ends may borrow -/
def sForR (f : BEnv → Res (List D)) (p : Pat) (s : Env → Res Fl) : Env → Res Fl := fun env => f env.borrow >>= fun l => forD p s l env
section
variable {X : Cx} {g : G} {E : XK} {B Hs0 : Hp} {tg iter : Expr} {body : List Stmt} {pos : Pos} {f : BEnv → Res (List D)} {p : Pat} {s : Env → Res Fl}
theorem for_turns {J : It} {l : List D} {Hs1 : Hp} {Z : Ends} {σ : L2.St} {H : Hp} {env : Env} (wl : WalksL g J Hs1 l) (r : StR g B Hs0 Hs1 H σ env) (w : Wk g E B (forD p s l env) (SLand g B Hs0 Hs1 Z)) :
    ∃ W : Nat → Nat → L2.St → Hp → Prop, (∃ m, W 0 m σ H) ∧ ∀ i m σ H, W i m σ H →
      (J.stop i H ∧ Z.nx σ H) ∨ (J.go i H ∧ ∃ N : L2.St → Hp → Prop, (∀ σ' H', N σ' H' → ∃ m', m' < m ∧ W (i + 1) m' σ' H') ∧ ∀ x H', J.yld i H x H' → GA g p x σ H' fun σ2 H2 => SR g E B Hs0 s { Z with nx := N, ct := N, bk := Z.nx } σ2 H2) := by
  refine ⟨fun i m σ H => ∃ Hs env, Same Hs1 Hs ∧ m = l.length - i ∧ StR g B Hs0 Hs H σ env ∧ Wk g E B (forD p s (l.drop i) env) (SLand g B Hs0 Hs Z), ⟨_, Hs1, env, Same.refl _, rfl, r, w⟩, ?_⟩
  rintro i m σ H ⟨Hs, env, sm, rfl, r, w⟩
  obtain ⟨go, stop⟩ := wl Hs H sm r.sub i
  by_cases hi : i < l.length
  · right
    obtain ⟨g1, step⟩ := go hi
    refine ⟨g1, fun σ' H' => ∃ Hs env, Same Hs1 Hs ∧ StR g B Hs0 Hs H' σ' env ∧ Wk g E B (forD p s (l.drop (i + 1)) env) (SLand g B Hs0 Hs Z), fun σ' H' ⟨Hs, env, a, b, c⟩ => ⟨l.length - (i + 1), by omega, Hs, env, a, rfl, b, c⟩, fun x H' y => ?_⟩
    obtain ⟨d, Hs3, e, x3, rd⟩ := step x H' y
    have hd : l.drop i = d :: l.drop (i + 1) := by
      have : d = l[i] := by
        rw [List.getElem?_eq_getElem hi] at e
        exact (Option.some.inj e).symm
      rw [this]
      exact List.drop_eq_getElem_cons hi
    rw [hd] at w
    have r3 := r.ext x3
    obtain ⟨as, hp, w⟩ := must_wk w
    refine ⟨Hs3, d, as, x3.sub, rd, hp, fun vas ra => ⟨Hs3, _, r3.setAll ra, w.bind.mono (Same.refl _) fun fl wf => ?_⟩⟩
    cases fl with
    | nx e => exact fun σ' H' Hs' s' r' => ⟨Hs', e, sm.trans (x3.up.trans s'), r', wf.mono (Same.refl _) fun _ l => l.mono (x3.up.trans s')⟩
    | ct e => exact fun σ' H' Hs' s' r' => ⟨Hs', e, sm.trans (x3.up.trans s'), r', wf.mono (Same.refl _) fun _ l => l.mono (x3.up.trans s')⟩
    | bk e => exact SLand.mono (D := Z) (f := .nx e) x3.up wf.is_ok
    | rt c => exact wf.is_ok
  · left
    have hd : l.drop i = [] := List.drop_of_length_le (Nat.not_lt.mp hi)
    rw [hd] at w
    exact ⟨stop (Nat.not_lt.mp hi), w.is_ok σ H Hs (Same.refl _) r⟩
theorem ss_for (hp : PassesOwn (model X.prog X.w) X.A X.env X.xe) (hc : X.calm = true) (hi : PI X tg iter (IR g E f)) (hg : PG X tg (GA g p)) (hb : PSs X body (SR g E B Hs0 s))
    (hs : ∀ x, foldedSetIterable iter X.env x = pure x := by intro _; rfl) : PS X (.For tg iter body [] pos) (SR g E B Hs0 (sFor f p s)) :=
  PS_mono (ps_for hp hc hi hg hb hs) fun Z σ H ⟨Hs, env, r, w⟩ => by
    refine ⟨Hs, env.clean, r.sub, r.clean, w.bind.mono r.keep fun l wl J H' Hs' x wk => ?_⟩
    exact for_turns wk (r.ext x) (wl.mono (Same.refl _) fun _ l => l.mono x.up)
theorem ss_forR (hp : PassesOwn (model X.prog X.w) X.A X.env X.xe) (hc : X.calm = true) (hi : PI X tg iter (IRr g E f)) (hg : PG X tg (GA g p)) (hb : PSs X body (SR g E B Hs0 s))
    (hs : ∀ x, foldedSetIterable iter X.env x = pure x := by intro _; rfl) : PS X (.For tg iter body [] pos) (SR g E B Hs0 (sForR f p s)) :=
  PS_mono (ps_for hp hc hi hg hb hs) fun Z σ H ⟨Hs, env, r, w⟩ => by
    refine ⟨Hbor Hs H σ env, env.borrow, r.hb_sub, r.borrow, w.bind.mono r.keep fun l wl J H' Hs' x wk => ?_⟩
    exact for_turns (wk Hs) (r.same x.same) wl
end

/-! ### comprehensions -/
def wipeB (env : BEnv) : List Nat → BEnv
  | [] => env
  | i :: r => (wipeB env r).set i none
def compD (p : Pat) (c : BEnv → Res Bool) (f : BEnv → Res D) (env : BEnv) : List D → Res (List D)
  | [] => .ok []
  | d :: ds => must (p d) fun as => must (c (setAllB env as)) fun b => if b = true then must (f (setAllB env as)) fun y => must (compD p c f env ds) fun r => .ok (y :: r) else compD p c f env ds
def oComp (vs : List Nat) (it : BEnv → Res (List D)) (p : Pat) (c : BEnv → Res Bool) (f : BEnv → Res D) : BEnv → Res (List D) := fun env => it env >>= fun l => if l.length ≤ 1000000 then compD p c f (wipeB env vs) l else .bad
def cTrue : BEnv → Res Bool := fun _ => .ok true
/-- a pattern's slots are those of the comprehension's own -/
def PatIn (p : Pat) (vs : List Nat) : Prop := ∀ d as, p d = .ok as → ∀ q ∈ as, q.1 ∈ vs
def PatLIn (p : PatL) (vs : List Nat) : Prop := ∀ d as, p d = .ok as → ∀ q ∈ as, q.1 ∈ vs
theorem patIn_name {i : Nat} {vs : List Nat} (h : i ∈ vs) : PatIn (pName i) vs := fun d as e q hq => by
  cases e
  have : q = (i, d) := by simpa using hq
  rw [this]; exact h
theorem patIn_nil {vs : List Nat} : PatLIn pNil vs := fun d as e q hq => by
  cases d with
  | nil => cases e; cases hq
  | cons _ _ => cases e
theorem patIn_cons {p : Pat} {q : PatL} {vs : List Nat} (h1 : PatIn p vs) (h2 : PatLIn q vs) : PatLIn (pCons p q) vs := fun d as e x hx => by
  cases d with
  | nil => cases e
  | cons d ds =>
    obtain ⟨a, e1, e⟩ := bind_ok e
    obtain ⟨b, e2, e⟩ := bind_ok e
    cases e
    rcases List.mem_append.mp hx with hx | hx
    · exact h1 d a e1 x hx
    · exact h2 ds b e2 x hx
theorem patIn_tup {q : PatL} {vs : List Nat} (h : PatLIn q vs) : PatIn (pTup q) vs := fun d as e x hx => by
  cases d with
  | tup ds => exact h ds as e x hx
  | _ => cases e
theorem wipe_len (σ : L2.St) (vs : List Nat) : (wipe σ vs).length = σ.length := wipe_length σ vs
theorem wipeB_len (env : BEnv) : ∀ vs : List Nat, (wipeB env vs).length = env.length
  | [] => rfl
  | i :: r => by unfold wipeB; rw [List.length_set, wipeB_len env r]
theorem wipe_eq (σ : L2.St) : ∀ vs : List Nat, wipe σ vs = vs.foldr (fun i s => s.set i none) σ
  | [] => rfl
  | i :: r => by
    show (wipe σ r).set i none = _
    rw [wipe_eq σ r]
    rfl
theorem wipe_get (σ : L2.St) (j : Nat) : ∀ vs : List Nat, (wipe σ vs)[j]? = if j ∈ vs then (if j < σ.length then some none else none) else σ[j]?
  | [] => by simp [wipe]
  | i :: r => by
    show ((wipe σ r).set i none)[j]? = _
    by_cases h : j = i
    · subst h
      by_cases hl : j < σ.length
      · rw [List.getElem?_set_self (by rw [wipe_len]; exact hl)]; simp [hl]
      · rw [List.getElem?_eq_none (by rw [List.length_set, wipe_len]; exact Nat.not_lt.mp hl)]; simp [hl]
    · rw [List.getElem?_set_ne (Ne.symm h), wipe_get σ j r]
      simp [h]
theorem wipe_set {σ : L2.St} {i : Nat} {x : Option V} {vs : List Nat} (h : i ∈ vs) : wipe (σ.set i x) vs = wipe σ vs := by
  apply List.ext_getElem?
  intro j
  rw [wipe_get, wipe_get, List.length_set]
  by_cases hj : j ∈ vs
  · rw [if_pos hj, if_pos hj]
  · rw [if_neg hj, if_neg hj, List.getElem?_set_ne]
    rintro rfl
    exact hj h
theorem wipe_all {g : G} {Hs : Hp} {vs : List Nat} {va : List (Nat × V)} {as : List (Nat × D)} (q : As g Hs va as) : (∀ x ∈ as, x.1 ∈ vs) → ∀ σ : L2.St, wipe (setAll σ va) vs = wipe σ vs := by
  induction q with
  | nil => intro _ σ; rfl
  | @cons i v d va as h r ih =>
    intro hin σ
    have := ih (fun x hx => hin x (List.mem_cons_of_mem _ hx)) (σ.set i (some v))
    exact this.trans (wipe_set (hin (i, d) List.mem_cons_self))
theorem EnvR.wipe {g : G} {Hs : Hp} {σ : L2.St} {env : BEnv} (r : EnvR g Hs σ env) : ∀ vs : List Nat, EnvR g Hs (L2.wipe σ vs) (wipeB env vs)
  | [] => r
  | i :: vs => ⟨by rw [wipe_len, wipeB_len, r.len], fun j d e => by
    have ih := (EnvR.wipe r vs).get
    have e : ((wipeB env vs).set i none)[j]? = some (some d) := e
    show ∃ v, ((L2.wipe σ vs).set i none)[j]? = some (some v) ∧ R g Hs v d
    by_cases h : j = i
    · subst h
      by_cases hj : j < (wipeB env vs).length
      · rw [List.getElem?_set_self hj] at e; cases e
      · rw [List.getElem?_eq_none (by rw [List.length_set]; exact Nat.not_lt.mp hj)] at e; cases e
    · rw [List.getElem?_set_ne (Ne.symm h)] at e ⊢
      exact ih j d e⟩
theorem wipe_all_eq {g : G} {Hs : Hp} {p : Pat} {vs : List Nat} {d : D} {va : List (Nat × V)} {as : List (Nat × D)} {σ : L2.St} (hin : PatIn p vs) (hp : p d = .ok as) (q : As g Hs va as) : wipe (setAll (wipe σ vs) va) vs = wipe σ vs := by
  rw [wipe_all q (hin d as hp)]
  apply List.ext_getElem?
  intro j
  rw [wipe_get (wipe σ vs), wipe_len]
  by_cases hj : j ∈ vs
  · rw [if_pos hj, wipe_get, if_pos hj]
  · rw [if_neg hj]
/-- nothing is raised -/
abbrev EN : XK := fun _ _ _ => False
section
variable {g : G} {E : XK} {it : BEnv → Res (List D)} {p : Pat} {c : BEnv → Res Bool} {f : BEnv → Res D} {vs : List Nat}
theorem Wk.of_ne {α : Type} {H : Hp} {r : Res α} {a : α} {P : α → Prop} (e : r = .ok a) (h : P a) : Wk g E H r P := by rw [e]; exact .of_ok h
theorem lc_read {σ : L2.St} {H : Hp} {Q : VK} (hin : PatIn p vs) (w : EO g E (oComp vs it p c f) σ H Q) : tLc (IR g E it) (GA g p) (TR g EN c) (ER g EN f) vs σ H Q := by
  obtain ⟨Hs, env, s, rr, w⟩ := w
  refine ⟨Hs, env, s, rr, w.bind.mono (Same.refl _) fun l wl J H1 Hs1 x1 wk D nD => ?_⟩
  have hl : l.length ≤ 1000000 := by
    by_cases h : l.length ≤ 1000000
    · exact h
    · rw [if_neg h] at wl; exact absurd rfl wl.bad
  rw [if_pos hl] at wl
  have rw' := (rr.mono x1.up).wipe vs
  obtain ⟨tot, ht, lands⟩ : ∃ tot, compD p c f (wipeB env vs) l = .ok tot ∧ LandsO g Hs H Q tot := by
    cases q : compD p c f (wipeB env vs) l with
    | ok t => rw [q] at wl; exact ⟨t, rfl, wl.is_ok⟩
    | bad => rw [q] at wl; exact absurd rfl wl.bad
    | exc k x =>
      exfalso
      have no : ∀ l : List PL.D, compD p c f (wipeB env vs) l ≠ .exc k x := by
        intro l
        induction l with
        | nil => intro z; cases z
        | cons d ds ih =>
          intro z
          unfold compD at z
          cases h1 : p d with
          | ok as =>
            rw [h1, must_ok] at z
            cases h2 : c (setAllB (wipeB env vs) as) with
            | ok b =>
              rw [h2, must_ok] at z
              cases b with
              | false => exact ih (by simpa using z)
              | true =>
                have z : (must (f (setAllB (wipeB env vs) as)) fun y => must (compD p c f (wipeB env vs) ds) fun r => Res.ok (y :: r)) = .exc k x := by simpa using z
                cases h3 : f (setAllB (wipeB env vs) as) with
                | ok y =>
                  rw [h3, must_ok] at z
                  cases h4 : compD p c f (wipeB env vs) ds with
                  | ok r => rw [h4, must_ok] at z; cases z
                  | _ => rw [h4] at z; cases z
                | _ => rw [h3] at z; cases z
            | _ => rw [h2] at z; cases z
          | _ => rw [h1] at z; cases z
      exact no l q
  refine ⟨fun i m H2 => ∃ Hs2 acc accD rest, Same Hs1 Hs2 ∧ Same H1 H2 ∧ Same Hs2 H2 ∧ (∀ a o, Hs2 a = some o → Hs1 a = some o ∨ H1 a = none) ∧ Hs2 D = none ∧ H2 D = some (.lst acc) ∧ Rs g Hs2 acc accD ∧ accD.length ≤ i ∧ compD p c f (wipeB env vs) (l.drop i) = .ok rest ∧ accD ++ rest = tot ∧ m = l.length - i ∧ i ≤ l.length,
    ⟨l.length, Hs1, [], [], tot, Same.refl _, same_upd nD, x1.sub.trans (same_upd nD), fun _ _ e => .inl e, x1.sub.free nD, upd_same, .nil, Nat.le_refl _, ht, rfl, rfl, Nat.zero_le _⟩, ?_⟩
  rintro i m H2 ⟨Hs2, acc, accD, rest, s12, sH, s2, new, nD2, hD, racc, hlen, hrest, htot, rfl, hi⟩
  obtain ⟨go, stop⟩ := wk Hs2 H2 s12 s2 i
  by_cases hlt : i < l.length
  · right
    obtain ⟨g1, step⟩ := go hlt
    have hd : l.drop i = l[i] :: l.drop (i + 1) := List.drop_eq_getElem_cons hlt
    rw [hd] at hrest
    refine ⟨g1, fun H' => ∃ Hs2 acc accD rest, Same Hs1 Hs2 ∧ Same H1 H' ∧ Same Hs2 H' ∧ (∀ a o, Hs2 a = some o → Hs1 a = some o ∨ H1 a = none) ∧ Hs2 D = none ∧ H' D = some (.lst acc) ∧ Rs g Hs2 acc accD ∧ accD.length ≤ i + 1 ∧ compD p c f (wipeB env vs) (l.drop (i + 1)) = .ok rest ∧ accD ++ rest = tot,
      fun H' ⟨Hs2, acc, accD, rest, a1, a2, a3, a4, a5, a6, a7, a8, a9, a10⟩ => ⟨l.length - (i + 1), by omega, Hs2, acc, accD, rest, a1, a2, a3, a4, a5, a6, a7, a8, a9, a10, rfl, hlt⟩, fun x H3 y => ?_⟩
    obtain ⟨d, Hs3, e, x3, rd⟩ := step x H3 y
    have ed : d = l[i] := by
      rw [List.getElem?_eq_getElem hlt] at e
      exact (Option.some.inj e).symm
    subst ed
    unfold compD at hrest
    cases hp : p l[i] with
    | exc k q => rw [hp] at hrest; cases hrest
    | bad => rw [hp] at hrest; cases hrest
    | ok as =>
      rw [hp, must_ok] at hrest
      refine ⟨Hs3, _, as, x3.sub, rd, hp, fun vas ra => ⟨wipe_all_eq hin hp ra, ?_⟩⟩
      have r3 : EnvR g Hs3 (PL.setAll (L2.wipe σ vs) vas) (setAllB (wipeB env vs) as) := EnvR.setAll ra (rw'.mono (s12.trans x3.up))
      cases hc : c (setAllB (wipeB env vs) as) with
      | exc k q => rw [hc] at hrest; cases hrest
      | bad => rw [hc] at hrest; cases hrest
      | ok b =>
        rw [hc, must_ok] at hrest
        refine ⟨Hs3, _, x3.sub, r3, .of_ne hc fun H4 Hs4 x4 => ?_⟩
        have x34 := x3.trans x4
        have keepD : ∀ {Hs5 H5 : Hp}, Ext Hs2 H2 Hs5 H5 → Hs5 D = none := fun {Hs5 H5} x5 => by
          cases q : Hs5 D with
          | none => rfl
          | some o =>
            rcases x5.new D o q with z | z
            · rw [nD2] at z; cases z
            · rw [hD] at z; cases z
        have keepN : ∀ {Hs5 H5 : Hp}, Ext Hs2 H2 Hs5 H5 → ∀ a o, Hs5 a = some o → Hs1 a = some o ∨ H1 a = none := fun {Hs5 H5} x5 a o q => by
          rcases x5.new a o q with z | z
          · exact new a o z
          · exact .inr (sH.free z)
        cases b with
        | false =>
          have hrest : compD p c f (wipeB env vs) (l.drop (i + 1)) = .ok rest := by simpa using hrest
          exact iteF ⟨Hs4, acc, accD, rest, s12.trans x34.up, sH.trans x34.same, x34.sub, keepN x34, keepD x34, x34.same _ _ hD, racc.mono x34.up, by omega, hrest, htot⟩
        | true =>
          have hrest : (must (f (setAllB (wipeB env vs) as)) fun y => must (compD p c f (wipeB env vs) (l.drop (i + 1))) fun r => Res.ok (y :: r)) = .ok rest := by simpa using hrest
          cases hf : f (setAllB (wipeB env vs) as) with
          | exc k q => rw [hf] at hrest; cases hrest
          | bad => rw [hf] at hrest; cases hrest
          | ok yd =>
            rw [hf, must_ok] at hrest
            cases hr : compD p c f (wipeB env vs) (l.drop (i + 1)) with
            | exc k q => rw [hr] at hrest; cases hrest
            | bad => rw [hr] at hrest; cases hrest
            | ok r =>
              rw [hr, must_ok] at hrest
              cases hrest
              refine iteT ⟨Hs4, _, x4.sub, r3.mono x4.up, .of_ne hf fun yv H5 Hs5 x5 ry => ?_⟩
              have x35 := x34.trans x5
              have nD5 := keepD x35
              have s5 : Same Hs5 (upd H5 D (.lst (acc ++ [yv]))) := fun a o q => by
                rw [upd_ne (ne_of_none q nD5)]; exact x5.sub a o q
              refine ⟨acc, x35.same _ _ hD, ?_, Hs5, acc ++ [yv], accD ++ [yd], r, s12.trans x35.up, fun a o q => ?_, s5, keepN x35, nD5, upd_same, (racc.mono x35.up).snoc ry, by rw [List.length_append, List.length_singleton]; omega, rfl, by rw [List.append_assoc]; exact htot⟩
              · rw [racc.length]
                exact Nat.lt_of_le_of_lt (Nat.le_trans hlen (Nat.le_trans hi hl)) (by decide)
              · rw [upd_ne (ne_of_none q nD)]; exact x35.same _ _ (sH _ _ q)
  · left
    have ei : i = l.length := by omega
    subst ei
    rw [List.drop_length] at hrest
    have : rest = [] := by
      unfold compD at hrest
      cases hrest
      rfl
    subst this
    rw [List.append_nil] at htot
    subst htot
    refine ⟨stop (Nat.le_refl _), ?_⟩
    exact lands D acc H2 Hs2 ⟨x1.same.trans sH, x1.up.trans s12, s2, fun a o q => by
      rcases new a o q with z | z
      · exact x1.new a o z
      · exact .inr (x1.same.free z)⟩ (x1.same.free nD) nD2 hD racc
end
structure PTsR (X : Cx) (ifs : List Expr) (t : TT) : Prop where
  p : PTs X ifs t
section
variable {X : Cx} {g : G} {E : XK} {B Hs0 : Hp} {it : BEnv → Res (List D)} {p : Pat} {c : BEnv → Res Bool} {f : BEnv → Res D} {elt tg iter : Expr} {ifs : List Expr} {scope : Scope} {own : List (Str × Nat)} {pos : Pos}
theorem PTs_mono {t t' : TT} (p : PTs X ifs t) (k : ∀ σ H Q, t' σ H Q → t σ H Q) : PTs X ifs t' := ⟨fun pins s σ H Q I w => p.run pins s σ H Q I (k σ H Q w)⟩
theorem sts_nil : PTs X [] (TR g E cTrue) := PTs_mono pts_nil fun σ H Q ⟨Hs, env, s, r, w⟩ => w.is_ok H Hs (Ext.refl s)
theorem sts_one {e : Expr} (h : PT X e (TR g E c)) : PTs X [e] (TR g E c) := pts_one h
theorem eo_lc (hc : X.calm = true) (hN : X.N.Nodup) (hi : PI X tg iter (IR g E it)) (ok : BlkOk X.N X.env.scope scope own) (hin : PatIn p (own.map (·.2)))
    (hg : ∀ (s : Shared) (H : Hp) (C : Addr) (cl : List (Str × Addr)) (fp : List Addr), PG (X.blk s H scope (compEnvC scope cl C X.env) fp) tg (GA g p))
    (ht : ∀ (s : Shared) (H : Hp) (C : Addr) (cl : List (Str × Addr)) (fp : List Addr), PTs (X.blk s H scope (compEnvC scope cl C X.env) fp) ifs (TR g EN c))
    (he : ∀ (s : Shared) (H : Hp) (C : Addr) (cl : List (Str × Addr)) (fp : List Addr), PE (X.blk s H scope (compEnvC scope cl C X.env) fp) elt (ER g EN f)) (hs : ∀ x, foldedSetIterable iter X.env x = pure x := by intro _; rfl) :
    PE X (.ListComp elt [⟨tg, iter, ifs, 0⟩] scope pos) (EO g E (oComp (own.map (·.2)) it p c f)) :=
  PE_mono (pe_lc hc hN hi ok hg ht he hs) fun σ H Q w => lc_read hin w
section
variable {i : Nat} {y : Str} {py spos : Pos} (hc : X.calm = true) (hN : X.N.Nodup) (hy : X.N[i]? = some y) (hyl : X.env.scope.names.lookup y = some .local)
    (hsw : swapsWith (.ListComp elt [⟨tg, iter, ifs, 0⟩] scope pos) (some (.Name y py)) spos.line X.env = pure true) (hi : PI X tg iter (IR g E it)) (ok : BlkOk X.N X.env.scope scope own) (hin : PatIn p (own.map (·.2)))
    (hg : ∀ (s : Shared) (H : Hp) (C : Addr) (cl : List (Str × Addr)) (fp : List Addr), PG (X.blk s H scope (compEnvC scope cl C X.env) fp) tg (GA g p))
    (ht : ∀ (s : Shared) (H : Hp) (C : Addr) (cl : List (Str × Addr)) (fp : List Addr), PTs (X.blk s H scope (compEnvC scope cl C X.env) fp) ifs (TR g EN c))
    (he : ∀ (s : Shared) (H : Hp) (C : Addr) (cl : List (Str × Addr)) (fp : List Addr), PE (X.blk s H scope (compEnvC scope cl C X.env) fp) elt (ER g EN f)) (hs : ∀ x, foldedSetIterable iter X.env x = pure x := by intro _; rfl)
include hc hN hy hyl hsw hi ok hin hg ht he hs
theorem ss_ownLc : PS X (.Assign [.Name y py] (.ListComp elt [⟨tg, iter, ifs, 0⟩] scope pos) spos) (SR g E B Hs0 (sOwn i (oComp (own.map (·.2)) it p c f))) :=
  PS_mono (ps_setLc hc hN hy hyl hsw hi ok hg ht he hs) fun Z σ H w => lc_read hin (rd_own w)
theorem ss_ownLcB : PS X (.Assign [.Name y py] (.ListComp elt [⟨tg, iter, ifs, 0⟩] scope pos) spos) (SR g E B Hs0 (sOwnB i (oComp (own.map (·.2)) it p c f))) :=
  PS_mono (ps_setLc hc hN hy hyl hsw hi ok hg ht he hs) fun Z σ H w => lc_read hin (rd_ownB w)
end
end
end PL

set_option Elab.async false
set_option linter.all false
set_option maxRecDepth 100000
set_option maxHeartbeats 1000000
namespace PL
open PySem PySem.Spec PyProof.Rows L2

/-! ### isinstance of a built-in type -/
def isiB (T : String) : D → Res D
  | .non => .ok (.bl false)
  | .bl _ => .ok (.bl (T == "bool" || T == "int"))
  | .int _ => .ok (.bl (T == "int"))
  | .str _ => .ok (.bl (T == "str"))
  | .tup _ => .ok (.bl (T == "tuple"))
  | .lst _ => .ok (.bl (T == "list"))
  | .scr _ => .ok (.bl (T == "list"))
  | .cut _ _ => .bad
  | .dic => .ok (.bl (T == "dict"))
  | .exn => .bad
def kit5 (T : String) : Prop := kitB "NoneType" T = some false ∧ kitB "bool" T = some (T == "bool" || T == "int") ∧ kitB "int" T = some (T == "int") ∧ kitB "str" T = some (T == "str") ∧ kitB "tuple" T = some (T == "tuple") ∧ kitB "list" T = some (T == "list") ∧ kitB "dict" T = some (T == "dict")
theorem kit_int : kit5 "int" := by unfold kit5; decide +kernel
theorem kit_bool : kit5 "bool" := by unfold kit5; decide +kernel
theorem kit_str : kit5 "str" := by unfold kit5; decide +kernel
theorem kit_tuple : kit5 "tuple" := by unfold kit5; decide +kernel
theorem kit_list : kit5 "list" := by unfold kit5; decide +kernel
section
variable {X : Cx} {g : G} {E : XK} {a e : Expr} {es : List Expr} {pos : Pos} {f : BEnv → Res D} {fs : BEnv → Res (List D)}
theorem sqT_ty {K : PySem.W.Frag} {H : Hp} {a : Addr} {xs : List V} (h : SqT K H a xs) : TyX K H (.ref a) (.type "tuple") := by
  rcases h with (h | ⟨o, h⟩) | ⟨o, its, n, hk, hc, _⟩
  · exact .base (.tup h)
  · exact .fTuple h
  · exact .kTuple hk hc
theorem sqL_ty {K : PySem.W.Frag} {H : Hp} {a : Addr} {xs : List V} (h : SqL K H a xs) : TyX K H (.ref a) (.type "list") := by
  rcases h with (h | ⟨o, h⟩) | ⟨o, its, n, hk, hc, _⟩
  · exact .base (.lst h)
  · exact .base (.frz h)
  · exact .kList hk hc
theorem ud_isi {T : String} (k : kit5 T) : UnD g (fun x H Q => rIsi g.K [x, .ty T] H Q) (isiB T) := by
  obtain ⟨k1, k2, k3, k4, k5, k6, k7⟩ := k
  intro Hs H v a Q s r E w
  cases r with
  | non => exact ⟨_, _, _, _, _, rfl, .ty T, .base .non, kit_ty k1, w.is_ok _ _ _ (Ext.refl s) (.bl _)⟩
  | bl b => exact ⟨_, _, _, _, _, rfl, .ty T, .base (.bl b), kit_ty k2, w.is_ok _ _ _ (Ext.refl s) (.bl _)⟩
  | int i => exact ⟨_, _, _, _, _, rfl, .ty T, .base (.int i), kit_ty k3, w.is_ok _ _ _ (Ext.refl s) (.bl _)⟩
  | str x => exact ⟨_, _, _, _, _, rfl, .ty T, .base (.str x), kit_ty k4, w.is_ok _ _ _ (Ext.refl s) (.bl _)⟩
  | tup h q => exact ⟨_, _, _, _, _, rfl, .ty T, sqT_ty (SameT s h), kit_ty k5, w.is_ok _ _ _ (Ext.refl s) (.bl _)⟩
  | lst h q => exact ⟨_, _, _, _, _, rfl, .ty T, sqL_ty (SqL.of (s _ _ h)), kit_ty k6, w.is_ok _ _ _ (Ext.refl s) (.bl _)⟩
  | scr h => exact ⟨_, _, _, _, _, rfl, .ty T, sqL_ty (s.seq h), kit_ty k6, w.is_ok _ _ _ (Ext.refl s) (.bl _)⟩
  | cut h k q => exact absurd rfl w.bad
  | dic h => exact ⟨_, _, _, _, _, rfl, .ty T, .base (.dK (s _ _ h)), kit_ty k7, w.is_ok _ _ _ (Ext.refl s) (.bl _)⟩
  | exn h => exact absurd rfl w.bad
theorem se_isi {T : String} {xT : Str} {p p2 : Pos} (k : kit5 T) (hK : X.K = g.K) (hg : Gl X "isinstance") (hm : X.mg "isinstance" = none) (hgT : Gl X xT) (hmT : X.mg xT = none) (hvT : bootBuiltins xT = some (.type T)) (ha : PE X a (ER g E f))
    (hnT : xT ≠ "__name__" := by decide) (hdT : (xT == ("__debug__" : Str)) = false := by decide)
    (h1 : starEach [a, .Name xT p2] X.env = (false, eval a X.env) :: starEach [.Name xT p2] X.env := by rfl) (h2 : starEach [.Name xT p2] X.env = (false, eval (.Name xT p2) X.env) :: starEach [] X.env := by rfl)
    (hpl : (backTo pos (starEach [.Name xT p2] X.env)).any (·.1) = false := by rfl) : PE X (.Call (.Name "isinstance" p) [a, .Name xT p2] [] pos) (ER g E (e1 (isiB T) f)) :=
  PE_mono (pe_callB call_isi hg hm boot_isinstance (pa_cons ha (pa_cons (pe_bltn (v := .ty T) hgT hmT hvT rfl hnT hdT) pa_nil h2) h1) (by decide) (by decide) h1 hpl) fun σ H Q w => by
    have o := one (ud_isi (g := g) k) w
    rw [hK]
    exact o

/-! ### slices -/
def OR (g : G) (E : XK) (f : BEnv → Res (Option Int)) : TO := fun σ H Q => ∃ Hs env, Same Hs H ∧ EnvR g Hs σ env ∧ Wk g E H (f env) (fun o => ∀ H' Hs', Ext Hs H Hs' H' → Q o H')
def oNo : BEnv → Res (Option Int) := fun _ => .ok none
def oSome (f : BEnv → Res D) : BEnv → Res (Option Int) := fun env => f env >>= fun d => match d with
  | .int i => .ok (some i)
  | _ => .bad
theorem PO_mono {eo : Option Expr} {t t' : TO} (p : PO X eo t) (k : ∀ σ H Q, t' σ H Q → t σ H Q) : PO X eo t' := ⟨fun pins s σ H Q I w => p.run pins s σ H Q I (k σ H Q w)⟩
theorem so_none : PO X none (OR g E oNo) := PO_mono po_none fun σ H Q ⟨Hs, env, s, r, w⟩ => w.is_ok H Hs (Ext.refl s)
theorem so_some (he : PE X e (ER g E f)) : PO X (some e) (OR g E (oSome f)) := PO_mono (po_some he) fun σ H Q ⟨Hs, env, s, rr, w⟩ => by
  refine ⟨Hs, env, s, rr, w.bind.mono (Same.refl _) fun d wd v H' Hs' x r => ?_⟩
  cases r with
  | int i => exact ⟨i, rfl, wd.is_ok H' Hs' x⟩
  | _ => exact absurd rfl wd.bad
def cutL {α : Type} (xs : List α) (lo hi : Option Int) : List α := (xs.drop (HT.sIx xs.length 0 lo)).take (HT.sIx xs.length xs.length hi - HT.sIx xs.length 0 lo)
theorem Rs.slL {H : Hp} {vs : List V} {ds : List D} (r : Rs g H vs ds) (lo hi : Option Int) : Rs g H (cutV vs lo hi) (PL.cutL ds lo hi) := by
  unfold cutV PL.cutL
  rw [r.length]
  exact (r.drop _).take _
def slD : D → Option Int → Option Int → Res D
  | .lst l, lo, hi => .ok (.lst (cutL l lo hi))
  | .scr ns, lo, hi => .ok (.lst (cutL (ns.map D.int) lo hi))
  | .tup l, lo, hi => .ok (.tup (cutL l lo hi))
  | .str z, lo, hi => if z.length ≤ 1000000 then .ok (.str (cutS z lo hi)) else .bad
  | _, _, _ => .bad
def slO : D → Option Int → Option Int → Res (List D)
  | .lst l, lo, hi => .ok (cutL l lo hi)
  | .scr ns, lo, hi => .ok (cutL (ns.map D.int) lo hi)
  | _, _, _ => .bad
def eSl (f : BEnv → Res D) (lo hi : BEnv → Res (Option Int)) : BEnv → Res D := fun env => f env >>= fun d => lo env >>= fun l => hi env >>= fun u => slD d l u
def oSl (f : BEnv → Res D) (lo hi : BEnv → Res (Option Int)) : BEnv → Res (List D) := fun env => f env >>= fun d => lo env >>= fun l => hi env >>= fun u => slO d l u
abbrev rSlAll (K : PySem.W.Frag) : V → Option Int → Option Int → Hp → VK → Prop := fun x lo hi H Q => rSlL K x lo hi H Q ∨ (fun x lo hi H Q => rSlA K x lo hi H Q ∨ rSlS x lo hi H Q) x lo hi H Q
theorem sl_all : SlR X (rSlAll X.K) := sl_list.or (sl_tupA.or sl_str)
theorem cutL_whole {vs : List V} {lo hi : Option Int} (h : HT.sIx vs.length 0 lo = 0 ∧ HT.sIx vs.length vs.length hi = vs.length) : cutV vs lo hi = vs := by
  unfold cutV
  rw [h.1, h.2, Nat.sub_zero, List.drop_zero, List.take_length]
variable {elo ehi : Option Expr} {p2 : Pos} {lo hi : BEnv → Res (Option Int)}
theorem se_sl (hK : X.K = g.K) (he : PE X e (ER g E f)) (hl : PO X elo (OR g E lo)) (hu : PO X ehi (OR g E hi)) : PE X (.Subscript e (.Slice elo ehi none p2) pos) (ER g E (eSl f lo hi)) :=
  PE_mono (pe_slice sl_all he hl hu) fun σ H Q ⟨Hs, env, s, rr, w⟩ => by
    refine ⟨Hs, env, s, rr, w.bind.mono (Same.refl _) fun d wd v H1 Hs1 x1 r1 => ?_⟩
    refine ⟨Hs1, env, x1.sub, rr.mono x1.up, wd.bind.mono x1.same fun l wl H2 Hs2 x2 => ?_⟩
    have x12 := x1.trans x2
    refine ⟨Hs2, env, x2.sub, rr.mono x12.up, wl.bind.mono x12.same fun u wu H3 Hs3 x3 => ?_⟩
    have x := x12.trans x3
    have r := r1.mono (x2.trans x3).up
    rw [hK]
    cases r with
    | lst h q =>
      refine .inl ⟨_, _, rfl, SqL.of (x.sub _ _ h), fun p np => ?_⟩
      exact wu.is_ok _ _ _ (x.trans (Ext.new1 x.sub np)) (.lst upd_same ((q.slL l u).mono (same_upd (x.sub.free np))))
    | scr h =>
      refine .inl ⟨_, _, rfl, x.sub.seq h, fun p np => ?_⟩
      exact wu.is_ok _ _ _ (x.trans (Ext.new1 x.sub np)) (.lst upd_same (((Rs.ints _).slL l u).mono (same_upd (x.sub.free np))))
    | tup h q =>
      refine .inr (.inl ⟨_, _, rfl, SameT x.sub h, fun c => ?_, fun c p np => ?_⟩)
      · refine wu.is_ok _ _ _ x (.tup h ?_)
        have := q.slL l u
        rw [cutL_whole c] at this
        exact this
      · exact wu.is_ok _ _ _ (x.trans (Ext.new1 x.sub np)) (.tup (.inl (.inl upd_same)) ((q.slL l u).mono (same_upd (x.sub.free np))))
    | str z =>
      obtain ⟨hz, k⟩ := wk_if wu
      exact .inr (.inr ⟨z, rfl, line6 hz, k _ _ _ x (.str _)⟩)
    | _ => exact absurd rfl wu.bad
theorem eo_sl (hK : X.K = g.K) (he : PE X e (ER g E f)) (hl : PO X elo (OR g E lo)) (hu : PO X ehi (OR g E hi)) : PE X (.Subscript e (.Slice elo ehi none p2) pos) (EO g E (oSl f lo hi)) :=
  PE_mono (pe_slice sl_list he hl hu) fun σ H Q ⟨Hs, env, s, rr, w⟩ => by
    refine ⟨Hs, env, s, rr, w.bind.mono (Same.refl _) fun d wd v H1 Hs1 x1 r1 => ?_⟩
    refine ⟨Hs1, env, x1.sub, rr.mono x1.up, wd.bind.mono x1.same fun l wl H2 Hs2 x2 => ?_⟩
    have x12 := x1.trans x2
    refine ⟨Hs2, env, x2.sub, rr.mono x12.up, wl.bind.mono x12.same fun u wu H3 Hs3 x3 => ?_⟩
    have x := x12.trans x3
    have r := r1.mono (x2.trans x3).up
    rw [hK]
    cases r with
    | lst h q => exact ⟨_, _, rfl, SqL.of (x.sub _ _ h), fun p np => lands_own (LandsO.ext x wu.is_ok) x.sub np (q.slL l u)⟩
    | scr h => exact ⟨_, _, rfl, x.sub.seq h, fun p np => lands_own (LandsO.ext x wu.is_ok) x.sub np ((Rs.ints _).slL l u)⟩
    | _ => exact absurd rfl wu.bad

/-! ### tuple(..) -/
def tupleD : List D → Res D
  | [.lst l] => .ok (.tup l)
  | [.tup l] => .ok (.tup l)
  | _ => .bad
theorem cd_tuple : CallD g (fun xs H Q => ∃ p ys, xs = [.ref p] ∧ ((SqL g.K H p ys ∧ ∀ l, H l = none → Q (.ref l) (upd H l (.tup ys))) ∨ (SqT g.K H p ys ∧ Q (.ref p) H))) tupleD := by
  intro Hs H vs ds Q s r E w
  unfold tupleD at w
  split at w
  · obtain ⟨⟩ | ⟨r, r0⟩ := r
    cases r0
    cases r with
    | lst h q => exact ⟨_, _, rfl, .inl ⟨SqL.of (s _ _ h), fun p np => lands_new w.is_ok s np (.tup (.inl (.inl upd_same)) (q.mono (same_upd (s.free np))))⟩⟩
  · obtain ⟨⟩ | ⟨r, r0⟩ := r
    cases r0
    cases r with
    | tup h q => exact ⟨_, _, rfl, .inr ⟨SameT s h, w.is_ok _ _ _ (Ext.refl s) (.tup h q)⟩⟩
  · exact absurd rfl w.bad
/-! all, any, sum, min, max of lists -/
def blsD : List D → Option (List Bool)
  | [] => some []
  | .bl b :: r => (blsD r).map (b :: ·)
  | _ => none
def intsD : List D → Option (List Int)
  | [] => some []
  | .int b :: r => (intsD r).map (b :: ·)
  | _ => none
theorem bls_of {H : Hp} : ∀ {vs : List V} {l : List D} {bs : List Bool}, Rs g H vs l → blsD l = some bs → vs = bs.map V.bl
  | _, _, bs, .nil, e => by cases e; rfl
  | _, d :: ds, bs, .cons h r, e => by
    cases h with
    | bl b =>
      unfold blsD at e
      cases q : blsD ds with
      | none => rw [q] at e; cases e
      | some x =>
        rw [q] at e
        cases e
        rw [bls_of r q]
        rfl
    | _ => cases e
theorem ints_of {H : Hp} : ∀ {vs : List V} {l : List D} {bs : List Int}, Rs g H vs l → intsD l = some bs → vs = bs.map V.int
  | _, _, bs, .nil, e => by cases e; rfl
  | _, d :: ds, bs, .cons h r, e => by
    cases h with
    | int b =>
      unfold intsD at e
      cases q : intsD ds with
      | none => rw [q] at e; cases e
      | some x =>
        rw [q] at e
        cases e
        rw [ints_of r q]
        rfl
    | _ => cases e
def overBls (k : List Bool → Bool) : List D → Res D
  | [.lst l] => match blsD l with
    | some bs => .ok (.bl (k bs))
    | none => .bad
  | _ => .bad
def allD : List D → Res D := overBls fun bs => bs.all id
def anyD : List D → Res D := overBls fun bs => bs.any id
theorem cd_bls {k : List Bool → Bool} : CallD g (fun vs H Q => ∃ (a : Addr) (bs : List Bool), vs = [V.ref a] ∧ SqL g.K H a (bs.map V.bl) ∧ Q (.bl (k bs)) H) (overBls k) := by
  intro Hs H vs ds Q s r E w
  unfold overBls at w
  split at w
  · rename_i l
    obtain ⟨⟩ | ⟨r, r0⟩ := r
    cases r0
    cases r with
    | lst h q =>
      cases e : blsD l with
      | none => rw [e] at w; exact absurd rfl w.bad
      | some bs =>
        rw [e] at w
        have ev := bls_of q e
        subst ev
        exact ⟨_, bs, rfl, SqL.of (s _ _ h), w.is_ok _ _ _ (Ext.refl s) (.bl _)⟩
  · exact absurd rfl w.bad
def sumD : List D → Res D
  | [.lst l] => match intsD l with
    | some ns => .ok (.int ns.sum)
    | none => .bad
  | _ => .bad
theorem cd_sum : CallD g (rSum g.K) sumD := by
  intro Hs H vs ds Q s r E w
  unfold sumD at w
  split at w
  · rename_i l
    obtain ⟨⟩ | ⟨r, r0⟩ := r
    cases r0
    cases r with
    | lst h q =>
      cases e : intsD l with
      | none => rw [e] at w; exact absurd rfl w.bad
      | some ns =>
        rw [e] at w
        have ev := ints_of q e
        subst ev
        exact ⟨_, ns, rfl, SqL.of (s _ _ h), w.is_ok _ _ _ (Ext.refl s) (.int _)⟩
  · exact absurd rfl w.bad
/-! a built-in class called -/
theorem se_callTy {T : String} {x : Str} {p : Pos} {r : List V → Hp → VK → Prop} {fn : List D → Res D} (hc : CallR X (.type T) r) (o : CallD g r fn) (hg : Gl X x) (hm : X.mg x = none) (hv : bootBuiltins x = some (.type T)) (ha : PA X (e :: es) (AR g E fs))
    (hn : x ≠ "__name__" := by decide) (hdb : (x == ("__debug__" : Str)) = false := by decide) (he : starEach (e :: es) X.env = (false, eval e X.env) :: starEach es X.env := by rfl) (hpl : (backTo pos (starEach es X.env)).any (·.1) = false := by rfl) : PE X (.Call (.Name x p) (e :: es) [] pos) (ER g E (eCall fn fs)) :=
  PE_mono (pe_callTy hc hg hm hv ha hn hdb he hpl) fun σ H Q w => ar_then (r := r) (fun Hs H vs ds Q s r w => o Hs H vs ds Q s r E w) w
theorem se_callB' {id : String} {x : Str} {p : Pos} {r : List V → Hp → VK → Prop} {fn : List D → Res D} (hc : CallR X (.builtin id) r) (o : CallD g r fn) (hg : Gl X x) (hm : X.mg x = none) (hv : bootBuiltins x = some (.builtin id)) (ha : PA X (e :: es) (AR g E fs))
    (hn : x ≠ "__name__" := by decide) (hdb : (x == ("__debug__" : Str)) = false := by decide) (he : starEach (e :: es) X.env = (false, eval e X.env) :: starEach es X.env := by rfl) (hpl : (backTo pos (starEach es X.env)).any (·.1) = false := by rfl) : PE X (.Call (.Name x p) (e :: es) [] pos) (ER g E (eCall fn fs)) :=
  PE_mono (pe_callB hc hg hm hv ha hn hdb he hpl) fun σ H Q w => ar_then (r := r) (fun Hs H vs ds Q s r w => o Hs H vs ds Q s r E w) w
end
/-! ### raise of an own class -/
def sRaise (c : String) : Env → Res Fl := fun _ => .exc c none
theorem ss_raise {X : Cx} {g : G} {E : XK} {B Hs0 : Hp} {c : String} {C : Addr} {e : Expr} {pos : Pos} (hc : X.calm = true) (tk : Takes X (fun cls d _ H => E cls d H)) (he : PMk X e (fun _ H Q => Q (.ref C) none H)) (hC : g.mg (Str.ofString c) = some (.ref C)) : PS X (.Raise (some e) none pos) (SR g E B Hs0 (sRaise c)) :=
  PS_mono (ps_raise hc tk he) fun D σ H ⟨Hs, env, r, w⟩ => w.exc c none rfl (.ref C) none H r.keep ⟨C, hC, rfl, rfl⟩
end PL

set_option Elab.async false
set_option linter.all false
namespace PL
open PySem L2
section
variable {env : BEnv} {s : Env} {f h k : BEnv → Res D} {p q : BEnv → Res Bool} {fs : BEnv → Res (List D)}
@[simp] theorem x_var {i : Nat} : eVar i env = (match env[i]? with | some (some d) => .ok d | _ => .bad) := rfl
@[simp] theorem x_c {d : D} : eC d env = .ok d := rfl
@[simp] theorem x_e2 {fn : D → D → Res D} : e2 fn f h env = (f env >>= fun x => h env >>= fun y => fn x y) := rfl
@[simp] theorem x_e1 {fn : D → Res D} : e1 fn f env = (f env >>= fun x => fn x) := rfl
@[simp] theorem x_tst : tst f env = (f env >>= isB) := rfl
@[simp] theorem x_isB {b : Bool} : isB (.bl b) = .ok b := rfl
@[simp] theorem x_tNot : tNotD p env = (p env >>= fun b => .ok (!b)) := rfl
@[simp] theorem x_tAnd : tAndD p q env = (p env >>= fun b => if b = true then q env else .ok false) := rfl
@[simp] theorem x_tOr : tOrD p q env = (p env >>= fun b => if b = true then .ok true else q env) := rfl
@[simp] theorem x_eAnd : eAnd f h env = (f env >>= fun x => isB x >>= fun b => if b = true then h env else .ok (.bl false)) := rfl
@[simp] theorem x_eOr : eOr f h env = (f env >>= fun x => isB x >>= fun b => if b = true then .ok (.bl true) else h env) := rfl
@[simp] theorem x_eNot : eNot f env = (f env >>= fun x => isB x >>= fun b => .ok (.bl (!b))) := rfl
@[simp] theorem x_eIf : eIf p f h env = (p env >>= fun b => if b = true then f env else h env) := rfl
@[simp] theorem x_chain {fn fn' : D → D → Res D} : eChain fn fn' f h k env = (f env >>= fun x => h env >>= fun y => fn x y >>= fun z => isB z >>= fun b => if b = true then k env >>= fun w => fn' y w else .ok (.bl false)) := rfl
@[simp] theorem x_aNil : aNil env = .ok [] := rfl
@[simp] theorem x_aCons : aCons f fs env = (f env >>= fun x => fs env >>= fun xs => .ok (x :: xs)) := rfl
@[simp] theorem x_eTup : eTup fs env = (fs env >>= fun ds => if ds.length ≤ 1000 then .ok (.tup ds) else .bad) := rfl
@[simp] theorem x_eCall {fn : List D → Res D} : eCall fn fs env = (fs env >>= fn) := rfl
@[simp] theorem x_eFn {den : List D → Res Cell} : eFn den fs env = (fs env >>= den >>= fun c => .ok c.toD) := rfl
@[simp] theorem x_oFn {den : List D → Res Cell} : oFn den fs env = (fs env >>= den >>= ownOnly) := rfl
@[simp] theorem x_lstD {fl : BEnv → Res (List D)} : lstD fl env = (fl env >>= fun l => .ok (.lst l)) := rfl
@[simp] theorem x_oLst : oLst fs env = (fs env >>= fun ds => if ds.length ≤ 1000 then .ok ds else .bad) := rfl
@[simp] theorem x_o2 {fn : D → D → Res (List D)} : o2 fn f h env = (f env >>= fun x => h env >>= fun y => fn x y) := rfl
@[simp] theorem x_eCallO {fn : List D → Res (List D)} : eCallO fn fs env = (fs env >>= fn) := rfl
@[simp] theorem x_eSl {lo hi : BEnv → Res (Option Int)} : eSl f lo hi env = (f env >>= fun d => lo env >>= fun l => hi env >>= fun u => slD d l u) := rfl
@[simp] theorem x_oSl {lo hi : BEnv → Res (Option Int)} : oSl f lo hi env = (f env >>= fun d => lo env >>= fun l => hi env >>= fun u => slO d l u) := rfl
@[simp] theorem x_oNo : oNo env = .ok none := rfl
@[simp] theorem x_oSome : oSome f env = (f env >>= fun d => match d with | .int i => .ok (some i) | _ => .bad) := rfl
theorem x_iRng1 : iRng1 fs env = (fs env >>= fun ds => match ds with | [.int j] => if -(2 ^ 62) ≤ j ∧ j < 2 ^ 62 then .ok (rngD 0 j.toNat) else .bad | _ => .bad) := rfl
theorem x_iRng2 : iRng2 fs env = (fs env >>= fun ds => match ds with | [.int i, .int j] => if -(2 ^ 62) ≤ i ∧ i < 2 ^ 62 ∧ -(2 ^ 62) ≤ j ∧ j < 2 ^ 62 then .ok (rngD i (j - i).toNat) else .bad | _ => .bad) := rfl
@[simp] theorem x_iLst : iLst f env = (f env >>= fun d => match d with | .lst l => .ok l | .scr ns => .ok (ns.map D.int) | _ => .bad) := rfl
@[simp] theorem x_iTup : iTupD f env = (f env >>= fun d => match d with | .tup l => .ok l | _ => .bad) := rfl
/-! operations on data -/
variable {i j : Int} {a b : List D} {x y : Str} {c d : D} {t u : Bool}
@[simp] theorem y_add_i : addD (.int i) (.int j) = .ok (.int (i + j)) := rfl
@[simp] theorem y_add_t : addD (.tup a) (.tup b) = if a.length + b.length ≤ 1000000 then .ok (.tup (a ++ b)) else .bad := rfl
@[simp] theorem y_add_l : addD (.lst a) (.lst b) = if a.length + b.length ≤ 1000000 then .ok (.lst (a ++ b)) else .bad := rfl
@[simp] theorem y_add_s : addD (.str x) (.str y) = if x.length + y.length ≤ 1000000 then .ok (.str (x ++ y)) else .bad := rfl
@[simp] theorem y_sub : subD (.int i) (.int j) = .ok (.int (i - j)) := rfl
@[simp] theorem y_lt : ltD (.int i) (.int j) = .ok (.bl (decide (i < j))) := rfl
@[simp] theorem y_le : leD (.int i) (.int j) = .ok (.bl (decide (i ≤ j))) := rfl
@[simp] theorem y_gt : gtD (.int i) (.int j) = .ok (.bl (decide (j < i))) := rfl
@[simp] theorem y_ge : geD (.int i) (.int j) = .ok (.bl (decide (j ≤ i))) := rfl
@[simp] theorem y_neg : negD (.int i) = .ok (.int (-i)) := rfl
@[simp] theorem y_mul : mulD (.int i) (.int j) = if mulOk i j = true then .ok (.int (i * j)) else .bad := rfl
@[simp] theorem y_mul_l : mulD (.lst a) (.int i) = if 0 ≤ i ∧ i ≤ 1000 ∧ a.length ≤ 1000 then .ok (.lst (List.replicate i.toNat a).flatten) else .bad := rfl
@[simp] theorem y_mul_t : mulD (.tup a) (.int i) = if 2 ≤ i ∧ i ≤ 1000 ∧ a.length ≤ 1000 ∧ a ≠ [] then .ok (.tup (List.replicate i.toNat a).flatten) else .bad := rfl
@[simp] theorem y_fdiv : fdivD (.int i) (.int j) = if divOk i j = true then .ok (.int (i.fdiv j)) else .bad := rfl
@[simp] theorem y_mod : modD (.int i) (.int j) = if decide (j ≠ 0) = true then .ok (.int (i.fmod j)) else .bad := rfl
@[simp] theorem y_pow : powD (.int i) (.int j) = if decide (0 ≤ j ∧ j ≤ 1000000 ∧ i.natAbs < 2 ^ 64) = true then .ok (.int (i ^ j.toNat)) else .bad := rfl
@[simp] theorem y_abs : absD [.int i] = .ok (.int (if i < 0 then -i else i)) := rfl
@[simp] theorem y_max2 : max2D [.int i, .int j] = .ok (.int (if j > i then j else i)) := rfl
@[simp] theorem y_min2 : min2D [.int i, .int j] = .ok (.int (if j < i then j else i)) := rfl
@[simp] theorem y_int_i : intD [.int i] = .ok (.int i) := rfl
@[simp] theorem y_int_b : intD [.bl t] = .ok (.int (if t = true then 1 else 0)) := rfl
@[simp] theorem y_len_t : lenD [.tup a] = .ok (.int a.length) := rfl
@[simp] theorem y_len_l : lenD [.lst a] = .ok (.int a.length) := rfl
@[simp] theorem y_len_s {ns : List Int} : lenD [.scr ns] = .ok (.int ns.length) := rfl
@[simp] theorem y_ix_t : ixD (.tup a) (.int i) = atD a i := rfl
@[simp] theorem y_ix_l : ixD (.lst a) (.int i) = atD a i := rfl
@[simp] theorem y_ix_s {ns : List Int} : ixD (.scr ns) (.int i) = (match atI ns i with | some z => .ok (.int z) | none => .bad) := rfl
theorem y_atn {l : List D} {k : Nat} : atD l (k : Int) = (match l[k]? with | some d => .ok d | none => .bad) := by
  unfold atD ixN
  rw [if_pos (Int.natCast_nonneg k)]
  by_cases h : k < l.length
  · rw [if_pos (by omega)]
    show (match l[(k : Int).toNat]? with | some d => Res.ok d | none => .bad) = _
    rw [Int.toNat_natCast]
  · rw [if_neg (by omega), List.getElem?_eq_none (by omega)]
@[simp] theorem y_at0 {r : List D} : atD (c :: r) 0 = .ok c := y_atn (k := 0)
@[simp] theorem y_at1 {r : List D} : atD (c :: d :: r) 1 = .ok d := y_atn (k := 1)
@[simp] theorem y_at2 {e : D} {r : List D} : atD (c :: d :: e :: r) 2 = .ok e := y_atn (k := 2)
@[simp] theorem y_at3 {e f : D} {r : List D} : atD (c :: d :: e :: f :: r) 3 = .ok f := y_atn (k := 3)
@[simp] theorem y_isi_i {T : String} : isiB T (.int i) = .ok (.bl (T == "int")) := rfl
@[simp] theorem y_isi_b {T : String} : isiB T (.bl t) = .ok (.bl (T == "bool" || T == "int")) := rfl
@[simp] theorem y_isi_t {T : String} : isiB T (.tup a) = .ok (.bl (T == "tuple")) := rfl
@[simp] theorem y_isi_l {T : String} : isiB T (.lst a) = .ok (.bl (T == "list")) := rfl
@[simp] theorem y_isi_s {T : String} : isiB T (.str x) = .ok (.bl (T == "str")) := rfl
@[simp] theorem y_isi_n {T : String} : isiB T .non = .ok (.bl false) := rfl
@[simp] theorem y_eq_i : eqD (.int i) (.int j) = .ok (.bl (i == j)) := rfl
@[simp] theorem y_eq_b : eqD (.bl t) (.bl u) = .ok (.bl (t == u)) := rfl
@[simp] theorem y_ne_i : neD (.int i) (.int j) = .ok (.bl (!(i == j))) := rfl
@[simp] theorem y_ne_b : neD (.bl t) (.bl u) = .ok (.bl (!(t == u))) := rfl
@[simp] theorem y_is_n : isND .non .non = .ok (.bl true) := rfl
@[simp] theorem y_tuple_l : tupleD [.lst a] = .ok (.tup a) := rfl
@[simp] theorem y_tuple_t : tupleD [.tup a] = .ok (.tup a) := rfl
@[simp] theorem y_sl_l {lo hi : Option Int} : slD (.lst a) lo hi = .ok (.lst (cutL a lo hi)) := rfl
@[simp] theorem y_sl_t {lo hi : Option Int} : slD (.tup a) lo hi = .ok (.tup (cutL a lo hi)) := rfl
@[simp] theorem y_sl_s {lo hi : Option Int} {ns : List Int} : slD (.scr ns) lo hi = .ok (.lst (cutL (ns.map D.int) lo hi)) := rfl
@[simp] theorem y_slO_l {lo hi : Option Int} : slO (.lst a) lo hi = .ok (cutL a lo hi) := rfl
@[simp] theorem y_slO_s {lo hi : Option Int} {ns : List Int} : slO (.scr ns) lo hi = .ok (cutL (ns.map D.int) lo hi) := rfl
@[simp] theorem y_catO : catO (.lst a) (.lst b) = if a.length + b.length ≤ 1000000 then .ok (a ++ b) else .bad := rfl
@[simp] theorem y_repO : repO (.lst a) (.int i) = if 0 ≤ i ∧ i ≤ 1000 ∧ a.length ≤ 1000 then .ok (List.replicate i.toNat a).flatten else .bad := rfl
/-! statements -/
variable {g1 g2 : Env → Res Fl} {fo : BEnv → Res (List D)} {n : Nat}
@[simp] theorem x_clean_nil : Env.clean [] = [] := rfl
@[simp] theorem x_clean_cons {o : Option Cell} {r : Env} : Env.clean (o :: r) = cleanC o :: Env.clean r := rfl
@[simp] theorem x_cleanC_v : cleanC (some (.val d)) = some d := rfl
@[simp] theorem x_cleanC_o : cleanC (some (.own a)) = none := rfl
@[simp] theorem x_cleanC_n : cleanC none = none := rfl
@[simp] theorem x_bor_nil : Env.borrow [] = [] := rfl
@[simp] theorem x_bor_cons {o : Option Cell} {r : Env} : Env.borrow (o :: r) = o.map Cell.toD :: Env.borrow r := rfl
@[simp] theorem x_toD_v : Cell.toD (.val d) = d := rfl
@[simp] theorem x_toD_o : Cell.toD (.own a) = .lst a := rfl
@[simp] theorem x_sNil : sNil s = .ok (.nx s) := rfl
@[simp] theorem x_seq : sSeq g1 g2 s = (g1 s >>= seqK g2) := rfl
@[simp] theorem x_seqK_nx {e : Env} : seqK g2 (.nx e) = g2 e := rfl
@[simp] theorem x_seqK_rt {e : Cell} : seqK g2 (.rt e) = .ok (.rt e) := rfl
@[simp] theorem x_seqK_bk {e : Env} : seqK g2 (.bk e) = .ok (.bk e) := rfl
@[simp] theorem x_seqK_ct {e : Env} : seqK g2 (.ct e) = .ok (.ct e) := rfl
@[simp] theorem x_sSet : sSet n f s = (f s.clean >>= fun d => .ok (.nx (s.set n (some (.val d))))) := rfl
@[simp] theorem x_sSetB : sSetB n f s = (f s.borrow >>= fun d => if noLst d = true then .ok (.nx (s.set n (some (.val d)))) else .bad) := rfl
@[simp] theorem x_sOwn : sOwn n fo s = (fo s.clean >>= fun l => .ok (.nx (s.set n (some (.own l))))) := rfl
@[simp] theorem x_sOwnB : sOwnB n fo s = (fo s.borrow >>= fun l => if noLsts l = true then .ok (.nx (s.set n (some (.own l)))) else .bad) := rfl
@[simp] theorem x_sPar {m : Nat} : sPar n m f h s = (f s.clean >>= fun d => h s.clean >>= fun d' => .ok (.nx ((s.set n (some (.val d))).set m (some (.val d'))))) := rfl
@[simp] theorem x_sRet : sRet f s = (f s.borrow >>= fun d => .ok (.rt (.val d))) := rfl
@[simp] theorem x_sRetO : sRetO fo s = (fo s.borrow >>= fun l => .ok (.rt (.own l))) := rfl
@[simp] theorem x_sExpr : sExpr f s = (f s.borrow >>= fun _ => .ok (.nx s)) := rfl
@[simp] theorem x_sIf : sIf p g1 g2 s = (p s.borrow >>= fun b => if b = true then g1 s else g2 s) := rfl
@[simp] theorem x_sWhile {fu : Env → Nat} : sWhile fu p g1 s = whileD (fu s) p g1 s := rfl
@[simp] theorem x_sForR {pt : Pat} : sForR fo pt g1 s = (fo s.borrow >>= fun l => forD pt g1 l s) := rfl
@[simp] theorem x_sFor {pt : Pat} : sFor fo pt g1 s = (fo s.clean >>= fun l => forD pt g1 l s) := rfl
@[simp] theorem x_pName : pName n d = .ok [(n, d)] := rfl
@[simp] theorem x_setE : setAllE s [(n, d)] = s.set n (some (.val d)) := rfl
@[simp] theorem x_setE_nil : setAllE s [] = s := rfl
@[simp] theorem x_setE_cons {r : List (Nat × D)} : setAllE s ((n, d) :: r) = setAllE (s.set n (some (.val d))) r := rfl
@[simp] theorem x_endFl_rt {e : Cell} : endFl (.rt e) = .ok e := rfl
@[simp] theorem x_endFl_nx {e : Env} : endFl (.nx e) = .ok (.val .non) := rfl
@[simp] theorem x_for_nil {pt : Pat} : forD pt g1 [] s = .ok (.nx s) := rfl
theorem x_for_cons {pt : Pat} : forD pt g1 (d :: a) s = must (pt d) fun as => g1 (setAllE s as) >>= fun fl => match fl with
    | .nx e => forD pt g1 a e
    | .ct e => forD pt g1 a e
    | .bk e => .ok (.nx e)
    | .rt c => .ok (.rt c) := rfl
theorem x_while_succ {m : Nat} : whileD (m + 1) p g1 s = (p s.borrow >>= fun b => if b = true then g1 s >>= fun fl => match fl with
    | .nx e => whileD m p g1 e
    | .ct e => whileD m p g1 e
    | .bk e => .ok (.nx e)
    | .rt c => .ok (.rt c)
    else .ok (.nx s)) := rfl
@[simp] theorem run_eq {N n : Nat} {ds : List D} (h : ds.length = n) : runB N n g1 ds = (g1 (startE N ds) >>= endFl) := by unfold runB; rw [if_pos h]
theorem start_eq {N : Nat} {ds : List D} : startE N ds = ds.map (fun d => some (.val d)) ++ List.replicate (N - ds.length) none := rfl
end
/-- the int that a slot holds, as a bound -/
def natAt (env : Env) (i : Nat) : Nat := match env[i]? with
  | some (some (.val (.int j))) => j.toNat
  | _ => 0
end PL

set_option Elab.async false
set_option linter.all false
namespace PL
open PySem L2
/-! loops by an invariant; slices -/
theorem for_inv {p : Pat} {s : Env → Res Fl} (I : Nat → Env → Prop) : ∀ (l : List D) (env : Env) (k : Nat), I k env →
    (∀ (i : Nat) (hi : i < l.length) (env : Env), I (k + i) env → ∃ as env', p l[i] = .ok as ∧ (s (setAllE env as) = .ok (.nx env') ∨ s (setAllE env as) = .ok (.ct env')) ∧ I (k + i + 1) env') →
    ∃ env', forD p s l env = .ok (.nx env') ∧ I (k + l.length) env'
  | [], env, k, h0, _ => ⟨env, rfl, h0⟩
  | d :: ds, env, k, h0, hs => by
    obtain ⟨as, e1, hp, h1, h2⟩ := hs 0 (by simp) env h0
    have hp : p d = .ok as := hp
    obtain ⟨e2, h3, h4⟩ := for_inv (p := p) (s := s) I ds e1 (k + 1) h2 (fun i hi env hI => by
      obtain ⟨as, e', a, b, c⟩ := hs (i + 1) (by simpa using hi) env (by rwa [show k + (i + 1) = k + 1 + i by omega])
      exact ⟨as, e', by simpa using a, b, by rwa [show k + 1 + i + 1 = k + (i + 1) + 1 by omega]⟩)
    refine ⟨e2, ?_, by rwa [show k + (d :: ds).length = k + 1 + ds.length by simp; omega]⟩
    rw [x_for_cons, hp, must_ok]
    rcases h1 with h1 | h1 <;> (rw [h1]; exact h3)
theorem forR_inv {p : Pat} {s : Env → Res Fl} {lo : Int} {n : Nat} {env : Env} (I : Nat → Env → Prop) (h0 : I 0 env)
    (hs : ∀ (i : Nat) (hi : i < n) (env : Env), I i env → ∃ as env', p (.int (lo + i)) = .ok as ∧ (s (setAllE env as) = .ok (.nx env') ∨ s (setAllE env as) = .ok (.ct env')) ∧ I (i + 1) env') :
    ∃ env', forD p s (rngD lo n) env = .ok (.nx env') ∧ I n env' := by
  have hl : (rngD lo n).length = n := by unfold rngD; rw [List.length_map, List.length_range]
  obtain ⟨e, h1, h2⟩ := for_inv (p := p) (s := s) I (rngD lo n) env 0 h0 (fun i hi env hI => by
    rw [hl] at hi
    have e : (rngD lo n)[i]'(by rw [hl]; exact hi) = .int (lo + i) := by simp [rngD]
    rw [e]
    simpa using hs i hi env (by simpa using hI))
  rw [hl] at h2
  exact ⟨e, h1, by simpa using h2⟩
@[simp] theorem cutL_to {α : Type} {l : List α} {k : Nat} : cutL l none (some (k : Int)) = l.take k := by
  unfold cutL
  rw [HT.sIx_nat, HT.sIx_none, List.drop_zero, Nat.sub_zero, ← List.take_eq_take_min]
@[simp] theorem cutL_from {α : Type} {l : List α} {k : Nat} : cutL l (some (k : Int)) none = l.drop k := by
  unfold cutL
  rw [HT.sIx_nat, HT.sIx_none]
  by_cases h : k ≤ l.length
  · rw [Nat.min_eq_left h]
    exact List.take_of_length_le (by rw [List.length_drop]; omega)
  · have h : l.length ≤ k := by omega
    rw [Nat.min_eq_right h, List.drop_of_length_le (Nat.le_refl _), List.drop_of_length_le h]
    simp
end PL

set_option Elab.async false
set_option linter.all false
set_option maxRecDepth 100000
set_option maxHeartbeats 1000000
namespace PL
open PySem PySem.Spec PyProof.Rows L2

/-! ### is of None and of bools -/
def isD : D → D → Res D
  | .non, .non => .ok (.bl true)
  | _, .non => .ok (.bl false)
  | .bl a, .bl b => .ok (.bl (decide (a = b)))
  | _, _ => .bad
def isntD : D → D → Res D
  | .non, .non => .ok (.bl false)
  | _, .non => .ok (.bl true)
  | .bl a, .bl b => .ok (.bl (!decide (a = b)))
  | _, _ => .bad
abbrev rIsAny : R2 := fun x y H Q => (fun x y H Q => y = .non ∧ Q (.bl (decide (x = .non))) H) x y H Q ∨ rIsB x y H Q
abbrev rIsntAny : R2 := fun x y H Q => (fun x y H Q => y = .non ∧ Q (.bl (!decide (x = .non))) H) x y H Q ∨ rNotB x y H Q
theorem or_is {X : Cx} : OpR X (compareOp .Is) rIsAny := op_isN.or op_isBl
theorem or_isnt {X : Cx} : OpR X (compareOp .IsNot) rIsntAny := op_notN.or op_notBl
theorem od_is {g : G} : OpD g rIsAny isD := by
  intro Hs H v u a b Q s r1 r2 E w
  cases r2 with
  | non => cases r1 <;> exact .inl ⟨rfl, w.is_ok _ _ _ (Ext.refl s) (.bl _)⟩
  | bl b =>
    cases r1 with
    | bl a => exact .inr ⟨a, b, rfl, rfl, w.is_ok _ _ _ (Ext.refl s) (.bl _)⟩
    | _ => exact absurd rfl w.bad
  | _ => cases r1 <;> exact absurd rfl w.bad
theorem od_isnt {g : G} : OpD g rIsntAny isntD := by
  intro Hs H v u a b Q s r1 r2 E w
  cases r2 with
  | non => cases r1 <;> exact .inl ⟨rfl, w.is_ok _ _ _ (Ext.refl s) (.bl _)⟩
  | bl b =>
    cases r1 with
    | bl a => exact .inr ⟨a, b, rfl, rfl, w.is_ok _ _ _ (Ext.refl s) (.bl _)⟩
    | _ => exact absurd rfl w.bad
  | _ => cases r1 <;> exact absurd rfl w.bad
@[simp] theorem y_is_b {a b : Bool} : isD (.bl a) (.bl b) = .ok (.bl (decide (a = b))) := rfl
@[simp] theorem y_isnt_b {a b : Bool} : isntD (.bl a) (.bl b) = .ok (.bl (!decide (a = b))) := rfl
@[simp] theorem y_is_nn : isD .non .non = .ok (.bl true) := rfl
@[simp] theorem y_isnt_nn : isntD .non .non = .ok (.bl false) := rfl
@[simp] theorem y_is_bn {a : Bool} : isD (.bl a) .non = .ok (.bl false) := rfl
@[simp] theorem y_is_in {a : Int} : isD (.int a) .non = .ok (.bl false) := rfl
@[simp] theorem y_is_tn {a : List D} : isD (.tup a) .non = .ok (.bl false) := rfl
@[simp] theorem y_is_ln {a : List D} : isD (.lst a) .non = .ok (.bl false) := rfl
@[simp] theorem y_isnt_bn {a : Bool} : isntD (.bl a) .non = .ok (.bl true) := rfl
@[simp] theorem y_isnt_in {a : Int} : isntD (.int a) .non = .ok (.bl true) := rfl
@[simp] theorem y_isnt_tn {a : List D} : isntD (.tup a) .non = .ok (.bl true) := rfl
@[simp] theorem y_isnt_ln {a : List D} : isntD (.lst a) .non = .ok (.bl true) := rfl

/-! ### exceptions of the program's own -/
structure ExcF (g : G) (c : String) (C : Addr) : Prop where
  hm : g.mg (Str.ofString c) = some (.ref C)
  x : PySem.W.excIn g.K C [.type "ValueError", .type "Exception", .type "BaseException", .type "object"] "ValueError.__new__" = true
  k : PySem.W.keepIn g.K (.ref C) = true
  s : PySem.W.subIn g.K (.ref C) (.type "BaseException") = some true
  t : PySem.W.typeIn g.K (.ref C) = some (.type "type")
theorem ss_raiseN {X : Cx} {g : G} {E : XK} {B Hs0 : Hp} {c : String} {m : Str} {j : Nat} {p p2 pos pos' : Pos} (h : ∃ C, ExcF g c C) (hK : X.K = g.K) (hM : X.mg = g.mg) (hc : X.calm = true) (tk : Takes X (fun cls d _ H => E cls d H)) (hg : Gl X (Str.ofString c))
    (hdb : (Str.ofString c == ("__debug__" : Str)) = false := by decide) : PS X (.Raise (some (.Call (.Name (Str.ofString c) p) [.Constant (.str m) j p2] [] pos)) none pos') (SR g E B Hs0 (sRaise c)) := by
  obtain ⟨C, f⟩ := h
  exact ss_raise hc tk (pmk_own PySem.F.excBase_ValueError (hK ▸ f.x) (hM ▸ f.hm) (hK ▸ f.k) (raises_own (hK ▸ f.s) (hK ▸ f.t)) hg hdb) f.hm
@[simp] theorem x_raise {c : String} {env : Env} : sRaise c env = .exc c none := rfl
end PL

set_option Elab.async false
set_option linter.all false
set_option maxRecDepth 100000
set_option maxHeartbeats 2000000
/-! zip of two, of three, enumerate: over lists and tuples in any mix -/
namespace PySem
theorem pl_enum_newB {v : Value} {o : Obj} {H : Heap → Prop} (B : Begins v o H) :
    Meets (Builtin.«enumerate.__new__» ⟨[.type "enumerate", v], []⟩) (fun _ R s => H s.heap ∧
      R (.ok (.ret (.ref (s.heap.push o).objs.size))) { s with heap := (s.heap.push o).push { cls := .type "enumerate", data := .fields #[.none, .bool false, .ref s.heap.objs.size, rawInt 0, .none, .none] } }) :=
  .of_wp fun prog w A R s h => by
    obtain ⟨hp, g, d, tk, os⟩ := s
    obtain ⟨h1, h⟩ := h
    have hsub := sub_enumerate
    have q1 : ∀ {A' : Around} {E : Value → Shared → Prop} {Q : Value → Shared → Prop}, Q (.ref hp.objs.size) ⟨hp.push o, g, d, tk, os⟩ → wpAny (model prog w) A' (pyIter v) Q E ⟨hp, g, d, tk, os⟩ :=
      fun q => B.iter prog w _ _ ⟨hp, g, d, tk, os⟩ _ h1 q
    wp_walk using q1
    refine wpAny_stack_any fun st => wpAny_pure ?_
    split
    · rename_i c _ _ _ _ _
      cases (c == Value.type "enumerate")
      · wp_walk using q1
        exact ⟨_, rfl, h⟩
      · wp_walk using q1
        exact ⟨_, rfl, h⟩
    · wp_walk using q1
      exact ⟨_, rfl, h⟩
theorem pl_enum_begins {prog : Program} {w : World} {A : Around} {E : Value → Shared → Prop} {s : Shared} {v : Value} {o : Obj} {H : Heap → Prop} {Q : Value → Shared → Prop} (B : Begins v o H) (h1 : H s.heap)
    (h : ∀ h', IsEnum h' (s.heap.objs.size + 1) s.heap.objs.size 0 .none → h'.get? s.heap.objs.size = some o → h'.objs.size = s.heap.objs.size + 2 →
      (∀ b o, s.heap.get? b = some o → h'.get? b = some o) → Q (.ref (s.heap.objs.size + 1)) { s with heap := h' }) :
    wpAny (model prog w) A (call (.type "enumerate") [v]) Q E s := by
  refine callType_new F.called_enumerate (by decide) (F.typeCall_enumerate_1 _) (F.newCall_enumerate_1 _) (fun obj => F.args_object_init_2 obj _) F.entry_enumerate_new
    (pl_enum_newB B) ⟨h1, ?_⟩
  have hz : (s.heap.push o).objs.size = s.heap.objs.size + 1 := Heap.size_push ..
  show _ ∧ _
  rw [hz]
  have he : IsEnum ((s.heap.push o).push { cls := .type "enumerate", data := .fields #[.none, .bool false, .ref s.heap.objs.size, rawInt 0, .none, .none] }) (s.heap.objs.size + 1) s.heap.objs.size 0 .none := by
    have := Heap.get?_push_size (s.heap.push o) (o := { cls := .type "enumerate", data := .fields #[.none, .bool false, .ref s.heap.objs.size, rawInt 0, .none, .none] }) rfl
    rw [hz] at this
    exact this
  exact ⟨⟨_, he, rfl⟩, h _ he (Heap.get?_push_of_some _ (Heap.get?_push_size _ B.free)) (by rw [Heap.size_push, hz]) fun b o x => Heap.get?_push_of_some _ (Heap.get?_push_of_some _ x)⟩
end PySem
namespace PL
open PySem PySem.Spec PyProof.Rows L2

/-- what is drawn from: a list or a tuple -/
inductive Src where
  | l (a : Addr) | t (a : Addr)
namespace Src
def a : Src → Addr
  | .l a => a
  | .t a => a
def has (K : PySem.W.Frag) (H : Hp) (xs : List V) : Src → Prop
  | .l a => SqL K H a xs
  | .t a => SqT K H a xs
def isAt (h : Heap) (its : Array Value) : Src → Prop
  | .l a => h.IsList a its
  | .t a => h.IsTuple a its
def itr (h : Heap) (it : Addr) (i : Nat) : Src → Prop
  | .l a => h.IsListIter it a i
  | .t a => h.IsTupleIter it a i
def ob : Src → Obj
  | .l a => { cls := .type "list_iterator", data := .fields #[.ref a, .int 0 0] }
  | .t a => { cls := .type "tuple_iterator", data := .fields #[.ref a, .int 0 0] }
variable {S : Src}
theorem draws {P : Program} {w : World} {A : Around} (hh : A.handled = none) (S : Src) (it : Addr) (hne : S.a ≠ it) (its : Array Value) :
    Draws P w A it [it, S.a] its.size (fun i v => its[i]? = some v) (fun i h => S.itr h it i ∧ S.isAt h its) := by
  cases S with
  | l a => exact .list hh it a hne its
  | t a => exact .tuple hh it a hne its
theorem begins (S : Src) (its : Array Value) : Begins (.ref S.a) S.ob fun h => S.isAt h its := by
  cases S with
  | l a => exact begins_list a its
  | t a => exact begins_tuple a its
theorem itr_at {h h' : Heap} {it : Addr} {i : Nat} (st : S.itr h it i) (k : ∀ o, h.get? it = some o → h'.get? it = some o) : S.itr h' it i := by
  cases S with
  | l a =>
    have st : h.IsListIter it a i := st
    exact (st.at k : h'.IsListIter it a i)
  | t a =>
    have st : h.IsTupleIter it a i := st
    exact (st.at k : h'.IsTupleIter it a i)
theorem itr_ob {h : Heap} {it : Addr} {i : Nat} (st : S.itr h it i) : ∃ o, h.get? it = some o ∧ ∀ v, o.data ≠ .cell v := by
  cases S with
  | l a =>
    obtain ⟨o, e, _, d⟩ := st
    exact ⟨o, e, fun v z => by rw [d] at z; cases z⟩
  | t a =>
    obtain ⟨o, e, _, d⟩ := st
    exact ⟨o, e, fun v z => by rw [d] at z; cases z⟩
theorem itr0 {h : Heap} {it : Addr} (e : h.get? it = some S.ob) : S.itr h it 0 := by
  cases S with
  | l a => exact ⟨_, e, rfl, rfl⟩
  | t a => exact ⟨_, e, rfl, rfl⟩
theorem ofInv {X : Cx} {pins : List (Addr × Obj)} {σ : L2.St} {H : Hp} {s : Shared} {xs : List V} (I : Inv X pins σ H s) (h : S.has X.K H xs) : ∃ its : List Value, Vals xs its ∧ S.isAt s.heap its.toArray ∧ S.a < s.heap.objs.size := by
  cases S with
  | l a =>
    obtain ⟨its, r, p, _⟩ := I.list h
    exact ⟨its, r, p.isList, p.lt⟩
  | t a =>
    obtain ⟨its, r, p, _⟩ := I.tuple h
    have p' : s.heap.IsTuple a its.toArray := p
    obtain ⟨o, ho, _⟩ := id p'
    exact ⟨its, r, p', Heap.lt_size ho⟩
theorem inj {X : Cx} {pins : List (Addr × Obj)} {σ : L2.St} {H : Hp} {s : Shared} {xs ys : List V} (I : Inv X pins σ H s) (h : S.has X.K H xs) (h' : S.has X.K H ys) : xs = ys := by
  cases S with
  | l a => exact I.list_inj h h'
  | t a => exact I.tuple_inj h h'
end Src

/-- a turn of an iterator that gives a new tuple -/
theorem turn_w {P : Program} {w : World} {K : PySem.W.Frag} {elts : List Expr} {kk : Nat} {tpos : Pos} {J : It} {it : Addr} {fp : List Addr} {tn : Nat → Heap → Prop} (mem : it ∈ fp)
    (obj : ∀ i h, tn i h → ∀ b ∈ fp, ∃ o, h.get? b = some o ∧ ∀ v, o.data ≠ .cell v)
    (keep : ∀ i h h', tn i h → (∀ b ∈ fp, ∀ o, h.get? b = some o → h'.get? b = some o) → tn i h')
    (self : ∀ (A : Around) (i : Nat) (s : Shared) (Q : Value → Shared → Prop) (E : Value → Shared → Prop), tn i s.heap → Q (.ref it) s → wpAny (model P w) A (pyIter (.ref it)) Q E s)
    (step : ∀ (X : Cx), X.K = K → X.A.handled = none → ∀ (i : Nat) (pins : List (Addr × Obj)) (s : Shared) (σ : L2.St) (H : Hp), Inv X pins σ H s → tn i s.heap → J.go i H →
      ∃ fpw wr n Pt St Mid, WalksT P w X.A it fpw wr n Pt St Mid ∧ (∀ b ∈ wr, b ∈ fp) ∧ i < n ∧ St i s.heap ∧ (∀ h, St (i + 1) h → tn (i + 1) h) ∧
        ∀ vals, Pt i vals → ∃ xs : List V, xs.length ≤ sizeLine ∧ (∃ us : List Value, vals = us.toArray ∧ Vals xs us) ∧ ∀ T, H T = none → J.yld i H (.ref T) (upd H T (.tup xs)))
    (fin : ∀ (X : Cx), X.K = K → X.A.handled = none → ∀ (i : Nat) (pins : List (Addr × Obj)) (s : Shared) (σ : L2.St) (H : Hp), Inv X pins σ H s → tn i s.heap → J.stop i H →
      ∃ fpw wr n Pt St Mid, WalksT P w X.A it fpw wr n Pt St Mid ∧ (∀ b ∈ wr, b ∈ fp) ∧ St n s.heap) :
    Turn P w K (.Tuple elts kk tpos) J fp it tn where
  mem := mem
  obj := obj
  keep := keep
  self := self
  item := by
    intro X hP hw hK hc i pins s σ H E I hf st hg
    subst hP hw
    obtain ⟨fpw, wr, n, Pt, St, Mid, W, hwr, hi, hst, nxt, vs⟩ := step X hK (I.ok.hd hc) i pins s σ H I st hg
    refine W.item i s _ _ hi hst fun T vals h' tk hp hT isT mid k => ?_
    obtain ⟨xs, hz, ⟨us, eu, rv⟩, y⟩ := vs vals hp
    subst eu
    refine ⟨_, rfl, W.go elts kk tpos i T { s with heap := h', toks := tk } _ _ mid fun h'' st'' k2 => ?_⟩
    have hTw : T ∉ wr := W.apart i T h' mid
    have new : ObjOk X.prog X.w (upd H T (.tup xs)) h'' T (.tup xs) := ⟨hz, us, rv, show h''.IsTuple T us.toArray from isT.at fun o e => k2 T o hTw e⟩
    have I1 : Inv X pins σ (upd H T (.tup xs)) { s with heap := h'', toks := tk } := I.turnedNew (ch := wr) (fun c o hb q => k2 c o hb (k c o hb q)) (fun b hb => hf b (hwr b hb)) hT new
    refine ⟨.ref T, _, I1, rfl, y T (I.hok.fresh hT), nxt _ st'', fun b hb => ?_⟩
    obtain ⟨o, e, _⟩ := obj i _ st b hb
    rw [upd_ne (Nat.ne_of_lt (Nat.lt_of_lt_of_le (Heap.lt_size e) hT))]
    exact (hf b hb).1
  done := by
    intro X hP hw hK hc i pins s σ H E I hf st hg
    subst hP hw
    obtain ⟨fpw, wr, n, Pt, St, Mid, W, hwr, hst⟩ := fin X hK (I.ok.hd hc) i pins s σ H I st hg
    exact W.done s _ _ hst fun h' tk k => ⟨rfl, I.turnedL (ch := wr) k fun b hb => hf b (hwr b hb)⟩

/-! ### zip of two -/
def Itz2 (K : PySem.W.Frag) (A B : Src) (n : Nat) : It :=
  ⟨fun i H => i < n ∧ ∃ xs ys : List V, A.has K H xs ∧ B.has K H ys ∧ min xs.length ys.length = n,
    fun i H v H' => ∃ T x y, v = .ref T ∧ H T = none ∧ H' = upd H T (.tup [x, y]) ∧ (∀ xs, A.has K H xs → xs[i]? = some x) ∧ ∀ ys, B.has K H ys → ys[i]? = some y,
    fun i H => n ≤ i ∧ ∃ xs ys : List V, A.has K H xs ∧ B.has K H ys ∧ min xs.length ys.length = n⟩
theorem vals_get {xs : List V} {us : List Value} (r : Vals xs us) {i : Nat} {x : Value} (e : us[i]? = some x) : ∃ v, xs[i]? = some v ∧ RelV v x := by
  obtain ⟨hi, _⟩ := List.getElem?_eq_some_iff.mp e
  have hl := r.length
  obtain ⟨u, h1, h2⟩ := r.get (List.getElem?_eq_getElem (show i < xs.length by omega))
  rw [e] at h1
  cases h1
  exact ⟨_, List.getElem?_eq_getElem (show i < xs.length by omega), h2⟩
theorem turn_zip2 {P : Program} {w : World} {K : PySem.W.Frag} {elts : List Expr} {kk : Nat} {tpos : Pos} {A B : Src} {n : Nat} {z TI TO i1 i2 : Addr} (S : ZipSep2 z TI TO i1 i2 [i1, A.a] [i2, B.a]) (n1 : A.a ≠ i1) (n2 : B.a ≠ i2) :
    Turn P w K (.Tuple elts kk tpos) (Itz2 K A B n) [z, TI, TO, i1, i2] z (fun i h => i ≤ n ∧ IsZip h z TI TO .none ∧ IsTupOf2 h TI (.ref i1) (.ref i2) ∧ (∃ a1 a2, IsTupOf2 h TO a1 a2) ∧ A.itr h i1 i ∧ B.itr h i2 i) := by
  have mk : ∀ (X : Cx) (hh : X.A.handled = none) (a b : Array Value), _ := fun X hh a b => WalksT.zipD2 (prog := P) (w := w) (A := X.A) S (A.draws (A := X.A.in1) (show X.A.in1.handled = none from hh) i1 n1 a) (B.draws (A := X.A.in1) (show X.A.in1.handled = none from hh) i2 n2 b)
  have wr : ∀ b ∈ [z, TO, i1, i2], b ∈ [z, TI, TO, i1, i2] := by
    intro b hb
    simp only [List.mem_cons, List.not_mem_nil, or_false] at hb ⊢
    rcases hb with q | q | q | q <;> simp [q]
  refine turn_w (by simp) (fun i h st c hc => ?_) (fun i h h' st k => ?_) (fun A i s Q E st h => wpAny_pyIter_zip st.2.1 h) ?_ ?_
  · obtain ⟨_, hz, hTI, ⟨x, y, hTO⟩, h1, h2⟩ := st
    have e' : c = z ∨ c = TI ∨ c = TO ∨ c = i1 ∨ c = i2 := by simpa using hc
    rcases e' with q | q | q | q | q
    · rw [q]; exact ⟨_, hz, fun v q => nomatch q⟩
    · rw [q]; exact ⟨_, hTI, fun v q => nomatch q⟩
    · rw [q]; exact ⟨_, hTO, fun v q => nomatch q⟩
    · rw [q]; exact Src.itr_ob h1
    · rw [q]; exact Src.itr_ob h2
  · obtain ⟨hn, hz, hTI, ⟨x, y, hTO⟩, h1, h2⟩ := st
    exact ⟨hn, k z (by simp) _ hz, k TI (by simp) _ hTI, ⟨x, y, k TO (by simp) _ hTO⟩, Src.itr_at h1 fun o q => k i1 (by simp) o q, Src.itr_at h2 fun o q => k i2 (by simp) o q⟩
  · intro X hK hh i pins s σ H I ⟨hn, hz, hTI, hTO, h1, h2⟩ ⟨hi, xs, ys, hx, hy, hm⟩
    subst hK
    obtain ⟨us, rx, px, _⟩ := Src.ofInv I hx
    obtain ⟨vs, ry, py, _⟩ := Src.ofInv I hy
    have l1 := rx.length
    have l2 := ry.length
    refine ⟨_, _, _, _, _, _, mk X hh us.toArray vs.toArray, wr, by simp; omega, ⟨hz, hTI, hTO, ⟨h1, px⟩, ⟨h2, py⟩⟩, fun h st => ⟨by omega, st.1, st.2.1, st.2.2.1, st.2.2.2.1.1, st.2.2.2.2.1⟩, ?_⟩
    rintro vals ⟨x, y, ex, ey, rfl⟩
    obtain ⟨v, e1, r1⟩ := vals_get rx (by simpa using ex)
    obtain ⟨u, e2, r2⟩ := vals_get ry (by simpa using ey)
    refine ⟨[v, u], by show 2 ≤ sizeLine; decide, ⟨[x, y], rfl, .cons r1 (.cons r2 .nil)⟩, fun T hT => ⟨T, v, u, rfl, hT, rfl, fun l hl => ?_, fun l hl => ?_⟩⟩
    · rw [Src.inj I hl hx]; exact e1
    · rw [Src.inj I hl hy]; exact e2
  · intro X hK hh i pins s σ H I ⟨hn, hz, hTI, hTO, h1, h2⟩ ⟨hi, xs, ys, hx, hy, hm⟩
    subst hK
    obtain ⟨us, rx, px, _⟩ := Src.ofInv I hx
    obtain ⟨vs, ry, py, _⟩ := Src.ofInv I hy
    have l1 := rx.length
    have l2 := ry.length
    have e : min us.toArray.size vs.toArray.size = i := by simp; omega
    refine ⟨_, _, _, _, _, _, mk X hh us.toArray vs.toArray, wr, ?_⟩
    rw [e]
    exact ⟨hz, hTI, hTO, ⟨h1, px⟩, ⟨h2, py⟩⟩
def iZip2 (K : PySem.W.Frag) (ta : TA) : TI := fun σ H R => ta σ H fun vs H1 => ∃ (A B : Src) (xs ys : List V), vs = [.ref A.a, .ref B.a] ∧ A.has K H1 xs ∧ B.has K H1 ys ∧ R (Itz2 K A B (min xs.length ys.length)) H1
theorem pi_zip2 {X : Cx} {e e2 : Expr} {ta : TA} {p pos tpos : Pos} {elts : List Expr} {kk : Nat} (hg : Gl X "zip") (hm : X.mg "zip" = none) (ha : PA X [e, e2] ta)
    (hs : starEach [e, e2] X.env = (false, eval e X.env) :: starEach [e2] X.env := by rfl) (hpl : (backTo pos (starEach [e2] X.env)).any (·.1) = false := by rfl) :
    PI X (.Tuple elts kk tpos) (.Call (.Name "zip" p) [e, e2] [] pos) (iZip2 X.K ta) := by
  refine ⟨fun pins s σ H R I h => ?_⟩
  refine Call_ (ld_blt I hg hm PyProof.Rows.boot_zip (PyProof.Rows.callWith_type1 (thn (ha.run pos pins s σ H _ I h) fun us s1 ⟨vs, H1, I1, r1, q1⟩ => ?_) hs hpl))
  obtain ⟨A, B, xs, ys, ex, hx, hy, q⟩ := q1
  subst ex
  cases r1 with
  | cons r rr =>
    cases rr with
    | cons r' rr =>
      cases rr
      cases r
      cases r'
      obtain ⟨us, rx, px, lx⟩ := Src.ofInv I1 hx
      obtain ⟨vs, ry, py, ly⟩ := Src.ofInv I1 hy
      refine zip_begins2 (A.begins us.toArray) (B.begins vs.toArray) px py fun h' hz hTI hTO h1 h2 hsz hk => wpAny_pyIter_zip hz ?_
      have I2 : Inv X pins σ H1 { s1 with heap := h' } := I1.kept (t' := s1.toks) hk
      refine ⟨s1.heap.objs.size + 4, [s1.heap.objs.size + 4, s1.heap.objs.size + 2, s1.heap.objs.size + 3, s1.heap.objs.size, s1.heap.objs.size + 1], _, _, H1, rfl, I2,
        turn_zip2 (zip_sep2 (by simpa using lx) (by simpa using ly)) (Nat.ne_of_lt lx) (Nat.ne_of_lt (Nat.lt_succ_of_lt ly)), ⟨Nat.zero_le _, hz, hTI, ⟨_, _, hTO⟩, Src.itr0 h1, Src.itr0 h2⟩, fun c hcm => ?_, q⟩
      have e' : c = s1.heap.objs.size + 4 ∨ c = s1.heap.objs.size + 2 ∨ c = s1.heap.objs.size + 3 ∨ c = s1.heap.objs.size ∨ c = s1.heap.objs.size + 1 := by simpa using hcm
      have hle : s1.heap.objs.size ≤ c := by
        rcases e' with z | z | z | z | z
        · rw [z]; exact Nat.le_add_right _ _
        · rw [z]; exact Nat.le_add_right _ _
        · rw [z]; exact Nat.le_add_right _ _
        · rw [z]; exact Nat.le_refl _
        · rw [z]; exact Nat.le_add_right _ _
      exact I1.fpOk hle (I1.hok.fresh hle)

/-! ### zip of three -/
def Itz3 (K : PySem.W.Frag) (A B C : Src) (n : Nat) : It :=
  ⟨fun i H => i < n ∧ ∃ xs ys zs : List V, A.has K H xs ∧ B.has K H ys ∧ C.has K H zs ∧ min (min xs.length ys.length) zs.length = n,
    fun i H v H' => ∃ T x y u, v = .ref T ∧ H T = none ∧ H' = upd H T (.tup [x, y, u]) ∧ (∀ xs, A.has K H xs → xs[i]? = some x) ∧ (∀ ys, B.has K H ys → ys[i]? = some y) ∧ ∀ ys, C.has K H ys → ys[i]? = some u,
    fun i H => n ≤ i ∧ ∃ xs ys zs : List V, A.has K H xs ∧ B.has K H ys ∧ C.has K H zs ∧ min (min xs.length ys.length) zs.length = n⟩
theorem turn_zip3 {P : Program} {w : World} {K : PySem.W.Frag} {elts : List Expr} {kk : Nat} {tpos : Pos} {A B C : Src} {n : Nat} {z TI TO i1 i2 i3 : Addr} (S : ZipSep3 z TI TO i1 i2 i3 [i1, A.a] [i2, B.a] [i3, C.a]) (n1 : A.a ≠ i1) (n2 : B.a ≠ i2) (n3 : C.a ≠ i3) :
    Turn P w K (.Tuple elts kk tpos) (Itz3 K A B C n) [z, TI, TO, i1, i2, i3] z (fun i h => i ≤ n ∧ IsZip h z TI TO .none ∧ IsTupOf3 h TI (.ref i1) (.ref i2) (.ref i3) ∧ (∃ a1 a2 a3, IsTupOf3 h TO a1 a2 a3) ∧ A.itr h i1 i ∧ B.itr h i2 i ∧ C.itr h i3 i) := by
  have mk : ∀ (X : Cx) (hh : X.A.handled = none) (a b c : Array Value), _ := fun X hh a b c => WalksT.zipD3 (prog := P) (w := w) (A := X.A) S (A.draws (A := X.A.in1) (show X.A.in1.handled = none from hh) i1 n1 a) (B.draws (A := X.A.in1) (show X.A.in1.handled = none from hh) i2 n2 b) (C.draws (A := X.A.in1) (show X.A.in1.handled = none from hh) i3 n3 c)
  have wr : ∀ b ∈ [z, TO, i1, i2, i3], b ∈ [z, TI, TO, i1, i2, i3] := by
    intro b hb
    simp only [List.mem_cons, List.not_mem_nil, or_false] at hb ⊢
    rcases hb with q | q | q | q | q <;> simp [q]
  refine turn_w (by simp) (fun i h st c hc => ?_) (fun i h h' st k => ?_) (fun A i s Q E st h => wpAny_pyIter_zip st.2.1 h) ?_ ?_
  · obtain ⟨_, hz, hTI, ⟨x, y, u, hTO⟩, h1, h2, h3⟩ := st
    have e' : c = z ∨ c = TI ∨ c = TO ∨ c = i1 ∨ c = i2 ∨ c = i3 := by simpa using hc
    rcases e' with q | q | q | q | q | q
    · rw [q]; exact ⟨_, hz, fun v q => nomatch q⟩
    · rw [q]; exact ⟨_, hTI, fun v q => nomatch q⟩
    · rw [q]; exact ⟨_, hTO, fun v q => nomatch q⟩
    · rw [q]; exact Src.itr_ob h1
    · rw [q]; exact Src.itr_ob h2
    · rw [q]; exact Src.itr_ob h3
  · obtain ⟨hn, hz, hTI, ⟨x, y, u, hTO⟩, h1, h2, h3⟩ := st
    exact ⟨hn, k z (by simp) _ hz, k TI (by simp) _ hTI, ⟨x, y, u, k TO (by simp) _ hTO⟩, Src.itr_at h1 fun o q => k i1 (by simp) o q, Src.itr_at h2 fun o q => k i2 (by simp) o q, Src.itr_at h3 fun o q => k i3 (by simp) o q⟩
  · intro X hK hh i pins s σ H I ⟨hn, hz, hTI, hTO, h1, h2, h3⟩ ⟨hi, xs, ys, zs, hx, hy, hw, hm⟩
    subst hK
    obtain ⟨us, rx, px, _⟩ := Src.ofInv I hx
    obtain ⟨vs, ry, py, _⟩ := Src.ofInv I hy
    obtain ⟨ws, rz, pz, _⟩ := Src.ofInv I hw
    have l1 := rx.length
    have l2 := ry.length
    have l3 := rz.length
    refine ⟨_, _, _, _, _, _, mk X hh us.toArray vs.toArray ws.toArray, wr, by simp; omega, ⟨hz, hTI, hTO, ⟨h1, px⟩, ⟨h2, py⟩, ⟨h3, pz⟩⟩, fun h st => ⟨by omega, st.1, st.2.1, st.2.2.1, st.2.2.2.1.1, st.2.2.2.2.1.1, st.2.2.2.2.2.1⟩, ?_⟩
    rintro vals ⟨x, y, u, ex, ey, eu, rfl⟩
    obtain ⟨v, e1, r1⟩ := vals_get rx (by simpa using ex)
    obtain ⟨v2, e2, r2⟩ := vals_get ry (by simpa using ey)
    obtain ⟨v3, e3, r3⟩ := vals_get rz (by simpa using eu)
    refine ⟨[v, v2, v3], by show 3 ≤ sizeLine; decide, ⟨[x, y, u], rfl, .cons r1 (.cons r2 (.cons r3 .nil))⟩, fun T hT => ⟨T, v, v2, v3, rfl, hT, rfl, fun l hl => ?_, fun l hl => ?_, fun l hl => ?_⟩⟩
    · rw [Src.inj I hl hx]; exact e1
    · rw [Src.inj I hl hy]; exact e2
    · rw [Src.inj I hl hw]; exact e3
  · intro X hK hh i pins s σ H I ⟨hn, hz, hTI, hTO, h1, h2, h3⟩ ⟨hi, xs, ys, zs, hx, hy, hw, hm⟩
    subst hK
    obtain ⟨us, rx, px, _⟩ := Src.ofInv I hx
    obtain ⟨vs, ry, py, _⟩ := Src.ofInv I hy
    obtain ⟨ws, rz, pz, _⟩ := Src.ofInv I hw
    have l1 := rx.length
    have l2 := ry.length
    have l3 := rz.length
    have e : min (min us.toArray.size vs.toArray.size) ws.toArray.size = i := by simp; omega
    refine ⟨_, _, _, _, _, _, mk X hh us.toArray vs.toArray ws.toArray, wr, ?_⟩
    rw [e]
    exact ⟨hz, hTI, hTO, ⟨h1, px⟩, ⟨h2, py⟩, ⟨h3, pz⟩⟩
def iZip3 (K : PySem.W.Frag) (ta : TA) : TI := fun σ H R => ta σ H fun vs H1 => ∃ (A B C : Src) (xs ys zs : List V), vs = [.ref A.a, .ref B.a, .ref C.a] ∧ A.has K H1 xs ∧ B.has K H1 ys ∧ C.has K H1 zs ∧ R (Itz3 K A B C (min (min xs.length ys.length) zs.length)) H1
theorem pi_zip3 {X : Cx} {e e2 e3 : Expr} {ta : TA} {p pos tpos : Pos} {elts : List Expr} {kk : Nat} (hg : Gl X "zip") (hm : X.mg "zip" = none) (ha : PA X [e, e2, e3] ta)
    (hs : starEach [e, e2, e3] X.env = (false, eval e X.env) :: starEach [e2, e3] X.env := by rfl) (hpl : (backTo pos (starEach [e2, e3] X.env)).any (·.1) = false := by rfl) :
    PI X (.Tuple elts kk tpos) (.Call (.Name "zip" p) [e, e2, e3] [] pos) (iZip3 X.K ta) := by
  refine ⟨fun pins s σ H R I h => ?_⟩
  refine Call_ (ld_blt I hg hm PyProof.Rows.boot_zip (PyProof.Rows.callWith_type1 (thn (ha.run pos pins s σ H _ I h) fun us s1 ⟨vs, H1, I1, r1, q1⟩ => ?_) hs hpl))
  obtain ⟨A, B, C, xs, ys, zs, ex, hx, hy, hw, q⟩ := q1
  subst ex
  cases r1 with
  | cons r rr =>
    cases rr with
    | cons r' rr =>
     cases rr with
     | cons r'' rr =>
      cases rr
      cases r
      cases r'
      cases r''
      obtain ⟨us, rx, px, lx⟩ := Src.ofInv I1 hx
      obtain ⟨vs, ry, py, ly⟩ := Src.ofInv I1 hy
      obtain ⟨ws, rz, pz, lz⟩ := Src.ofInv I1 hw
      refine zip_begins3 (A.begins us.toArray) (B.begins vs.toArray) (C.begins ws.toArray) px py pz fun h' hz hTI hTO h1 h2 h3 hsz hk => wpAny_pyIter_zip hz ?_
      have I2 : Inv X pins σ H1 { s1 with heap := h' } := I1.kept (t' := s1.toks) hk
      refine ⟨s1.heap.objs.size + 5, [s1.heap.objs.size + 5, s1.heap.objs.size + 3, s1.heap.objs.size + 4, s1.heap.objs.size, s1.heap.objs.size + 1, s1.heap.objs.size + 2], _, _, H1, rfl, I2,
        turn_zip3 (zip_sep3 (by simpa using lx) (by simpa using ly) (by simpa using lz)) (Nat.ne_of_lt lx) (Nat.ne_of_lt (Nat.lt_succ_of_lt ly)) (Nat.ne_of_lt (Nat.lt_succ_of_lt (Nat.lt_succ_of_lt lz))), ⟨Nat.zero_le _, hz, hTI, ⟨_, _, _, hTO⟩, Src.itr0 h1, Src.itr0 h2, Src.itr0 h3⟩, fun c hcm => ?_, q⟩
      have e' : c = s1.heap.objs.size + 5 ∨ c = s1.heap.objs.size + 3 ∨ c = s1.heap.objs.size + 4 ∨ c = s1.heap.objs.size ∨ c = s1.heap.objs.size + 1 ∨ c = s1.heap.objs.size + 2 := by simpa using hcm
      have hle : s1.heap.objs.size ≤ c := by
        rcases e' with z | z | z | z | z | z
        · rw [z]; exact Nat.le_add_right _ _
        · rw [z]; exact Nat.le_add_right _ _
        · rw [z]; exact Nat.le_add_right _ _
        · rw [z]; exact Nat.le_refl _
        · rw [z]; exact Nat.le_add_right _ _
        · rw [z]; exact Nat.le_add_right _ _
      exact I1.fpOk hle (I1.hok.fresh hle)

/-! ### enumerate -/
def Itee (K : PySem.W.Frag) (A : Src) (n : Nat) : It :=
  ⟨fun i H => i < n ∧ ∃ xs : List V, A.has K H xs ∧ xs.length = n,
    fun i H v H' => ∃ T x, v = .ref T ∧ H T = none ∧ H' = upd H T (.tup [.int (i : Nat), x]) ∧ ∀ xs, A.has K H xs → xs[i]? = some x,
    fun i H => n ≤ i ∧ ∃ xs : List V, A.has K H xs ∧ xs.length = n⟩
theorem turn_enumA {P : Program} {w : World} {K : PySem.W.Frag} {elts : List Expr} {kk : Nat} {tpos : Pos} {A : Src} {n : Nat} {e it : Addr} (n1 : A.a ≠ it) (n2 : e ≠ it) (n3 : e ≠ A.a) :
    Turn P w K (.Tuple elts kk tpos) (Itee K A n) [e, it] e (fun i h => i ≤ n ∧ (∃ old, IsEnum h e it ((i : Nat) : Int) old) ∧ A.itr h it i) := by
  have mk : ∀ (X : Cx) (hh : X.A.handled = none) (a : Array Value), _ := fun X hh a => WalksT.enumFrom (prog := P) (w := w) (A := X.A) 0 (A.draws (A := X.A.in1) (show X.A.in1.handled = none from hh) it n1 a) e n2 (by simp [n2, n3]) (by simp)
  have wr : ∀ b ∈ [e, it], b ∈ [e, it] := fun b h => h
  refine turn_w (by simp) (fun i h st c hc => ?_) (fun i h h' st k => ?_) (fun A i s Q E st h => ?_) ?_ ?_
  · obtain ⟨_, ⟨o, he⟩, h1⟩ := st
    have e' : c = e ∨ c = it := by simpa using hc
    rcases e' with q | q
    · rw [q]; exact ⟨_, he, fun v q => nomatch q⟩
    · rw [q]; exact Src.itr_ob h1
  · obtain ⟨hn, ⟨o, he⟩, h1⟩ := st
    exact ⟨hn, ⟨o, k e (by simp) _ he⟩, Src.itr_at h1 fun o q => k it (by simp) o q⟩
  · obtain ⟨hn, ⟨o, he⟩, h1⟩ := st
    exact wpAny_pyIter_enum he h
  · intro X hK hh i pins s σ H I ⟨hn, ⟨o, he⟩, h1⟩ ⟨hi, xs, hx, hm⟩
    subst hK
    obtain ⟨us, rx, px, _⟩ := Src.ofInv I hx
    have l1 := rx.length
    refine ⟨_, _, _, _, _, _, mk X hh us.toArray, wr, by simp; omega, ⟨⟨o, by rw [Int.zero_add]; exact he⟩, h1, px⟩, fun h st => ⟨by omega, by obtain ⟨o, q⟩ := st.1; rw [Int.zero_add] at q; exact ⟨o, q⟩, st.2.1⟩, ?_⟩
    rintro vals ⟨t, x, ex, rfl⟩
    obtain ⟨v, e1, r1⟩ := vals_get rx (by simpa using ex)
    refine ⟨[.int (i : Nat), v], by show 2 ≤ sizeLine; decide, ⟨[.int (0 + (i : Int)) t, x], rfl, .cons ⟨t, by rw [Int.zero_add]⟩ (.cons r1 .nil)⟩, fun T hT => ⟨T, v, rfl, hT, rfl, fun l hl => ?_⟩⟩
    rw [Src.inj I hl hx]; exact e1
  · intro X hK hh i pins s σ H I ⟨hn, ⟨o, he⟩, h1⟩ ⟨hi, xs, hx, hm⟩
    subst hK
    obtain ⟨us, rx, px, _⟩ := Src.ofInv I hx
    have l1 := rx.length
    have e : us.toArray.size = i := by simp; omega
    refine ⟨_, _, _, _, _, _, mk X hh us.toArray, wr, ?_⟩
    rw [e]
    exact ⟨⟨o, by rw [Int.zero_add]; exact he⟩, h1, px⟩
def iEnumA (K : PySem.W.Frag) (ta : TA) : TI := fun σ H R => ta σ H fun vs H1 => ∃ (A : Src) (xs : List V), vs = [.ref A.a] ∧ A.has K H1 xs ∧ R (Itee K A xs.length) H1
theorem pi_enumA {X : Cx} {e : Expr} {ta : TA} {p pos tpos : Pos} {elts : List Expr} {kk : Nat} (hg : Gl X "enumerate") (hm : X.mg "enumerate" = none) (ha : PA X [e] ta) (hs : starEach [e] X.env = [(false, eval e X.env)] := by rfl) :
    PI X (.Tuple elts kk tpos) (.Call (.Name "enumerate" p) [e] [] pos) (iEnumA X.K ta) := by
  refine ⟨fun pins s σ H R I h => ?_⟩
  refine Call_ (ld_blt I hg hm boot_enumerate (PyProof.Rows.callWith_type1 (thn (ha.run pos pins s σ H _ I h) fun us s1 ⟨vs, H1, I1, r1, q1⟩ => ?_) hs rfl))
  obtain ⟨A, xs, ex, hx, q⟩ := q1
  subst ex
  cases r1 with
  | cons r rr =>
    cases rr
    cases r
    obtain ⟨us, rx, px, lx⟩ := Src.ofInv I1 hx
    refine pl_enum_begins (A.begins us.toArray) px fun h' he hit hsz hk => wpAny_pyIter_enum he ?_
    have I2 : Inv X pins σ H1 { s1 with heap := h' } := I1.kept (t' := s1.toks) hk
    refine ⟨s1.heap.objs.size + 1, [s1.heap.objs.size + 1, s1.heap.objs.size], _, _, H1, rfl, I2, turn_enumA (e := s1.heap.objs.size + 1) (it := s1.heap.objs.size) (Nat.ne_of_lt lx) (Nat.succ_ne_self _) (Nat.ne_of_gt (Nat.lt_succ_of_lt lx)), ⟨Nat.zero_le _, ⟨.none, he⟩, Src.itr0 hit⟩, fun b hb => ?_, q⟩
    have e' : b = s1.heap.objs.size + 1 ∨ b = s1.heap.objs.size := by simpa using hb
    have hle : s1.heap.objs.size ≤ b := by
      rcases e' with z | z
      · rw [z]; exact Nat.le_add_right _ _
      · rw [z]; exact Nat.le_refl _
    exact I1.fpOk hle (I1.hok.fresh hle)

/-! ### the rules over data -/
def seqD : D → Res (List D)
  | .lst l => .ok l
  | .tup l => .ok l
  | .scr ns => .ok (ns.map D.int)
  | _ => .bad
section
variable {X : Cx} {g : G} {E : XK} {e e2 e3 tg : Expr} {es : List Expr} {pos : Pos} {f h : BEnv → Res D} {fs : BEnv → Res (List D)}
theorem seq_src {Hs H H1 : Hp} {v : V} {d : D} {P : List D → Prop} (s : Same Hs H) (r : R g Hs v d) (w : Wk g E H1 (seqD d) P) : ∃ (A : Src) (xs : List V) (l : List D), v = .ref A.a ∧ A.has g.K Hs xs ∧ A.has g.K H xs ∧ Rs g Hs xs l ∧ P l := by
  cases r with
  | lst h q => exact ⟨.l _, _, _, rfl, SqL.of h, SqL.of (s _ _ h), q, w.is_ok⟩
  | tup h q => exact ⟨.t _, _, _, rfl, h, SameT s h, q, w.is_ok⟩
  | scr h => exact ⟨.l _, _, _, rfl, h, s.seq h, Rs.ints _, w.is_ok⟩
  | _ => exact absurd rfl w.bad
theorem Src.mono {A : Src} {K : PySem.W.Frag} {H H' : Hp} {xs : List V} (s : Same H H') (h : A.has K H xs) : A.has K H' xs := by
  cases A with
  | l a =>
    have h : SqL K H a xs := h
    exact s.seq h
  | t a => exact SameT s h
/-- a list or a tuple -/
def iSeq (f : BEnv → Res D) : BEnv → Res (List D) := fun env => f env >>= seqD
theorem si_seq (hK : X.K = g.K) (he : PE X e (ER g E f)) : PI X tg e (IR g E (iSeq f)) := by
  refine ⟨fun pins s σ H RR I ⟨Hs, env, sm, rr, w⟩ => ?_⟩
  refine thn (he.run pins s σ H (fun v H1 => ∃ (A : Src) (xs : List V), v = .ref A.a ∧ A.has g.K H1 xs ∧ ((∀ a, A = .l a → RR (Itl g.K a) H1) ∧ ∀ a, A = .t a → RR (Itt g.K a) H1)) I ⟨Hs, env, sm, rr, w.bind.mono (Same.refl _) fun d wd v H' Hs' x r => ?_⟩) fun v s1 ⟨x, H1, I1, r1, q1⟩ => ?_
  · have W : ∀ (A : Src) (xs : List V) (l : List D) (a : Addr), A.has g.K Hs' xs → Rs g Hs' xs l → (A = .l a → WalksL g (Itl g.K a) Hs' l) ∧ (A = .t a → WalksL g (Itt g.K a) Hs' l) := fun A xs l a h q =>
      ⟨fun e => by subst e; exact walks_list' h q, fun e => by subst e; exact walks_tup h q⟩
    obtain ⟨A, xs, l, e, h1, h2, q, k⟩ := seq_src (g := g) x.sub r wd
    exact ⟨A, xs, e, h2, fun a e => k _ H' Hs' x ((W A xs l a h1 q).1 e), fun a e => k _ H' Hs' x ((W A xs l a h1 q).2 e)⟩
  · obtain ⟨A, xs, ex, h, q1, q2⟩ := q1
    subst ex
    cases r1
    have new : ∀ b ∈ [s1.heap.objs.size], FpOk X pins H1 b := fun b hb => by
      have e : b = s1.heap.objs.size := by simpa using hb
      subst e
      exact I1.fpOk (Nat.le_refl _) (I1.hok.fresh (Nat.le_refl _))
    cases A with
    | l a =>
      have h : SqL g.K H1 a xs := h
      obtain ⟨its, rv, p, hz⟩ := I1.list (hK ▸ h)
      exact wpAny_pyIter_list p.isList ⟨s1.heap.objs.size, [s1.heap.objs.size], _, _, H1, rfl, I1.kept (t' := s1.toks) fun b o e => Heap.get?_push_of_some _ e, turn_list a _, ⟨_, Heap.get?_push_size _ rfl, rfl, rfl⟩, new, hK ▸ q1 a rfl⟩
    | t a =>
      have h : SqT g.K H1 a xs := h
      obtain ⟨its, rv, p, hz⟩ := I1.tuple (hK ▸ h)
      exact wpAny_pyIter_tuple (show s1.heap.IsTuple a its.toArray from p) ⟨s1.heap.objs.size, [s1.heap.objs.size], _, _, H1, rfl, I1.kept (t' := s1.toks) fun b o e => Heap.get?_push_of_some _ e, turn_tuple a _, ⟨_, Heap.get?_push_size _ rfl, rfl, rfl⟩, new, hK ▸ q2 a rfl⟩
/-- pairs -/
def pair2 (l m : List D) : List D := List.zipWith (fun p q => D.tup [p, q]) l m
def pair3 : List D → List D → List D → List D
  | a :: l, b :: m, c :: n => .tup [a, b, c] :: pair3 l m n
  | _, _, _ => []
def enumD (l : List D) : List D := l.mapIdx fun i d => .tup [.int (i : Nat), d]
theorem pair3_len : ∀ (l m n : List D), (pair3 l m n).length = min (min l.length m.length) n.length
  | [], _, _ => by simp [pair3]
  | _ :: _, [], _ => by simp [pair3]
  | _ :: _, _ :: _, [] => by simp [pair3]
  | a :: l, b :: m, c :: n => by
    rw [pair3, List.length_cons, pair3_len l m n]
    simp only [List.length_cons]
    omega
theorem pair3_get : ∀ (l m n : List D) (i : Nat) (a b c : D), l[i]? = some a → m[i]? = some b → n[i]? = some c → (pair3 l m n)[i]? = some (.tup [a, b, c])
  | [], _, _, _, _, _, _, e, _, _ => by simp at e
  | _ :: _, [], _, _, _, _, _, _, e, _ => by simp at e
  | _ :: _, _ :: _, [], _, _, _, _, _, _, e => by simp at e
  | a :: l, b :: m, c :: n, 0, x, y, z, e1, e2, e3 => by simp at e1 e2 e3; subst e1 e2 e3; rfl
  | a :: l, b :: m, c :: n, i + 1, x, y, z, e1, e2, e3 => by
    have := pair3_get l m n i x y z (by simpa using e1) (by simpa using e2) (by simpa using e3)
    simpa [pair3] using this
theorem at_len {α : Type} {l : List α} {i : Nat} (h : i < l.length) : ∃ d, l[i]? = some d := ⟨_, List.getElem?_eq_getElem h⟩
/-- a new tuple of the turn's -/
theorem new_tup {Hs H : Hp} {T : Addr} {vs : List V} {ds : List D} (s : Same Hs H) (hT : H T = none) (r : Rs g Hs vs ds) : Ext Hs H (upd Hs T (.tup vs)) (upd H T (.tup vs)) ∧ R g (upd Hs T (.tup vs)) (.ref T) (.tup ds) :=
  ⟨Ext.new1 s hT, .tup (.inl (.inl upd_same)) (r.mono (same_upd (s.free hT)))⟩
theorem walks_zip2 {Hs : Hp} {A B : Src} {xs ys : List V} {l m : List D} (h1 : A.has g.K Hs xs) (h2 : B.has g.K Hs ys) (r1 : Rs g Hs xs l) (r2 : Rs g Hs ys m) : WalksL g (Itz2 g.K A B (min xs.length ys.length)) Hs (pair2 l m) := fun Hs2 H2 s1 s2 i => by
  have a1 := Src.mono s2 (Src.mono s1 h1)
  have a2 := Src.mono s2 (Src.mono s1 h2)
  have e1 := r1.length
  have e2 := r2.length
  have hl : (pair2 l m).length = min l.length m.length := by unfold pair2; simp
  rw [hl, ← e1, ← e2]
  refine ⟨fun hi => ⟨⟨hi, xs, ys, a1, a2, rfl⟩, ?_⟩, fun hi => ⟨hi, xs, ys, a1, a2, rfl⟩⟩
  rintro v H3 ⟨T, x, y, rfl, hT, rfl, p1, p2⟩
  obtain ⟨d1, q1, t1⟩ := r1.get' (p1 _ a1)
  obtain ⟨d2, q2, t2⟩ := r2.get' (p2 _ a2)
  obtain ⟨n1, n2⟩ := new_tup s2 hT (.cons (t1.mono s1) (.cons (t2.mono s1) .nil) : Rs g Hs2 [x, y] [d1, d2])
  refine ⟨_, _, ?_, n1, n2⟩
  unfold pair2
  rw [List.getElem?_zipWith, q1, q2]
theorem walks_zip3 {Hs : Hp} {A B C : Src} {xs ys zs : List V} {l m n : List D} (h1 : A.has g.K Hs xs) (h2 : B.has g.K Hs ys) (h3 : C.has g.K Hs zs) (r1 : Rs g Hs xs l) (r2 : Rs g Hs ys m) (r3 : Rs g Hs zs n) : WalksL g (Itz3 g.K A B C (min (min xs.length ys.length) zs.length)) Hs (pair3 l m n) := fun Hs2 H2 s1 s2 i => by
  have a1 := Src.mono s2 (Src.mono s1 h1)
  have a2 := Src.mono s2 (Src.mono s1 h2)
  have a3 := Src.mono s2 (Src.mono s1 h3)
  have e1 := r1.length
  have e2 := r2.length
  have e3 := r3.length
  rw [pair3_len, ← e1, ← e2, ← e3]
  refine ⟨fun hi => ⟨⟨hi, xs, ys, zs, a1, a2, a3, rfl⟩, ?_⟩, fun hi => ⟨hi, xs, ys, zs, a1, a2, a3, rfl⟩⟩
  rintro v H3 ⟨T, x, y, z, rfl, hT, rfl, p1, p2, p3⟩
  obtain ⟨d1, q1, t1⟩ := r1.get' (p1 _ a1)
  obtain ⟨d2, q2, t2⟩ := r2.get' (p2 _ a2)
  obtain ⟨d3, q3, t3⟩ := r3.get' (p3 _ a3)
  obtain ⟨n1, n2⟩ := new_tup s2 hT (.cons (t1.mono s1) (.cons (t2.mono s1) (.cons (t3.mono s1) .nil)) : Rs g Hs2 [x, y, z] [d1, d2, d3])
  exact ⟨_, _, pair3_get l m n i d1 d2 d3 q1 q2 q3, n1, n2⟩
theorem walks_enum {Hs : Hp} {A : Src} {xs : List V} {l : List D} (h1 : A.has g.K Hs xs) (r1 : Rs g Hs xs l) : WalksL g (Itee g.K A xs.length) Hs (enumD l) := fun Hs2 H2 s1 s2 i => by
  have a1 := Src.mono s2 (Src.mono s1 h1)
  have e1 := r1.length
  have hl : (enumD l).length = l.length := by unfold enumD; simp
  rw [hl, ← e1]
  refine ⟨fun hi => ⟨⟨hi, xs, a1, rfl⟩, ?_⟩, fun hi => ⟨hi, xs, a1, rfl⟩⟩
  rintro v H3 ⟨T, x, rfl, hT, rfl, p1⟩
  obtain ⟨d1, q1, t1⟩ := r1.get' (p1 _ a1)
  obtain ⟨n1, n2⟩ := new_tup s2 hT (.cons (.int (i : Nat)) (.cons (t1.mono s1) .nil) : Rs g Hs2 [.int (i : Nat), x] [.int (i : Nat), d1])
  refine ⟨_, _, ?_, n1, n2⟩
  unfold enumD
  rw [List.getElem?_mapIdx, q1]
  rfl
def zip2D (fs : BEnv → Res (List D)) : BEnv → Res (List D) := fun env => fs env >>= fun ds => match ds with
  | [a, b] => seqD a >>= fun l => seqD b >>= fun m => .ok (pair2 l m)
  | _ => .bad
def zip3D (fs : BEnv → Res (List D)) : BEnv → Res (List D) := fun env => fs env >>= fun ds => match ds with
  | [a, b, c] => seqD a >>= fun l => seqD b >>= fun m => seqD c >>= fun n => .ok (pair3 l m n)
  | _ => .bad
def enum1D (fs : BEnv → Res (List D)) : BEnv → Res (List D) := fun env => fs env >>= fun ds => match ds with
  | [a] => seqD a >>= fun l => .ok (enumD l)
  | _ => .bad
theorem si_zip2 {p tpos : Pos} {elts : List Expr} {kk : Nat} (hK : X.K = g.K) (hg : Gl X "zip") (hm : X.mg "zip" = none) (ha : PA X [e, e2] (AR g E fs))
    (hs : starEach [e, e2] X.env = (false, eval e X.env) :: starEach [e2] X.env := by rfl) (hpl : (backTo pos (starEach [e2] X.env)).any (·.1) = false := by rfl) :
    PI X (.Tuple elts kk tpos) (.Call (.Name "zip" p) [e, e2] [] pos) (IR g E (zip2D fs)) :=
  PI_mono (pi_zip2 hg hm ha hs hpl) fun σ H RR ⟨Hs, env, s, rr, w⟩ => by
    refine ⟨Hs, env, s, rr, w.bind.mono (Same.refl _) fun ds wd vs H' Hs' x r => ?_⟩
    split at wd
    · obtain ⟨⟩ | ⟨r1, r⟩ := r
      obtain ⟨⟩ | ⟨r2, r⟩ := r
      cases r
      obtain ⟨A, xs, l, rfl, h1, h2, q1, wd⟩ := seq_src (g := g) x.sub r1 wd.bind
      obtain ⟨B, ys, m, rfl, h3, h4, q2, wd⟩ := seq_src (g := g) x.sub r2 wd.bind
      exact ⟨A, B, xs, ys, rfl, hK ▸ h2, hK ▸ h4, hK ▸ wd.is_ok _ H' Hs' x (walks_zip2 h1 h3 q1 q2)⟩
    · exact absurd rfl wd.bad
theorem si_zip3 {p tpos : Pos} {elts : List Expr} {kk : Nat} (hK : X.K = g.K) (hg : Gl X "zip") (hm : X.mg "zip" = none) (ha : PA X [e, e2, e3] (AR g E fs))
    (hs : starEach [e, e2, e3] X.env = (false, eval e X.env) :: starEach [e2, e3] X.env := by rfl) (hpl : (backTo pos (starEach [e2, e3] X.env)).any (·.1) = false := by rfl) :
    PI X (.Tuple elts kk tpos) (.Call (.Name "zip" p) [e, e2, e3] [] pos) (IR g E (zip3D fs)) :=
  PI_mono (pi_zip3 hg hm ha hs hpl) fun σ H RR ⟨Hs, env, s, rr, w⟩ => by
    refine ⟨Hs, env, s, rr, w.bind.mono (Same.refl _) fun ds wd vs H' Hs' x r => ?_⟩
    split at wd
    · obtain ⟨⟩ | ⟨r1, r⟩ := r
      obtain ⟨⟩ | ⟨r2, r⟩ := r
      obtain ⟨⟩ | ⟨r3, r⟩ := r
      cases r
      obtain ⟨A, xs, l, rfl, h1, h2, q1, wd⟩ := seq_src (g := g) x.sub r1 wd.bind
      obtain ⟨B, ys, m, rfl, h3, h4, q2, wd⟩ := seq_src (g := g) x.sub r2 wd.bind
      obtain ⟨C, zs, n, rfl, h5, h6, q3, wd⟩ := seq_src (g := g) x.sub r3 wd.bind
      exact ⟨A, B, C, xs, ys, zs, rfl, hK ▸ h2, hK ▸ h4, hK ▸ h6, hK ▸ wd.is_ok _ H' Hs' x (walks_zip3 h1 h3 h5 q1 q2 q3)⟩
    · exact absurd rfl wd.bad
theorem si_enum {p tpos : Pos} {elts : List Expr} {kk : Nat} (hK : X.K = g.K) (hg : Gl X "enumerate") (hm : X.mg "enumerate" = none) (ha : PA X [e] (AR g E fs)) (hs : starEach [e] X.env = [(false, eval e X.env)] := by rfl) :
    PI X (.Tuple elts kk tpos) (.Call (.Name "enumerate" p) [e] [] pos) (IR g E (enum1D fs)) :=
  PI_mono (pi_enumA hg hm ha hs) fun σ H RR ⟨Hs, env, s, rr, w⟩ => by
    refine ⟨Hs, env, s, rr, w.bind.mono (Same.refl _) fun ds wd vs H' Hs' x r => ?_⟩
    split at wd
    · obtain ⟨⟩ | ⟨r1, r⟩ := r
      cases r
      obtain ⟨A, xs, l, rfl, h1, h2, q1, wd⟩ := seq_src (g := g) x.sub r1 wd.bind
      exact ⟨A, xs, rfl, hK ▸ h2, hK ▸ wd.is_ok _ H' Hs' x (walks_enum h1 q1)⟩
    · exact absurd rfl wd.bad
/-! reversed -/
theorem rev_at {α : Type} {l : List α} {n i : Nat} (hn : l.length = n) (hi : i < n) : l.reverse[i]? = l[n - 1 - i]? := by
  subst hn
  rw [List.getElem?_reverse hi]
theorem walks_revL {Hs : Hp} {a : Addr} {vs : List V} {l : List D} (h : SqL g.K Hs a vs) (r : Rs g Hs vs l) : WalksL g (Itv g.K a vs.length) Hs l.reverse := fun Hs2 H2 s1 s2 i => by
  have hq : SqL g.K H2 a vs := s2.seq (s1.seq h)
  have el := r.length
  rw [List.length_reverse]
  refine ⟨fun hi => ?_, fun hi => by show vs.length ≤ i; omega⟩
  obtain ⟨d, hd⟩ := at_len (l := l) (i := vs.length - 1 - i) (by omega)
  obtain ⟨v, h1, h2⟩ := r.get hd
  refine ⟨⟨by omega, vs, v, hq, h1⟩, fun x H3 ⟨e1, e2⟩ => ?_⟩
  subst e1
  have := e2 vs hq
  rw [h1] at this
  cases this
  exact ⟨d, Hs2, by rw [rev_at el.symm (by omega)]; exact hd, Ext.refl s2, h2.mono s1⟩
theorem walks_revT {Hs : Hp} {a : Addr} {vs : List V} {l : List D} (h : SqT g.K Hs a vs) (r : Rs g Hs vs l) : WalksL g (RT.ItvT g.K a vs.length) Hs l.reverse := fun Hs2 H2 s1 s2 i => by
  have hq : SqT g.K H2 a vs := SameT s2 (SameT s1 h)
  have el := r.length
  rw [List.length_reverse]
  refine ⟨fun hi => ?_, fun hi => by show vs.length ≤ i; omega⟩
  obtain ⟨d, hd⟩ := at_len (l := l) (i := vs.length - 1 - i) (by omega)
  obtain ⟨v, h1, h2⟩ := r.get hd
  refine ⟨⟨by omega, vs, v, hq, h1⟩, fun x H3 ⟨e1, e2⟩ => ?_⟩
  subst e1
  have := e2 vs hq
  rw [h1] at this
  cases this
  exact ⟨d, Hs2, by rw [rev_at el.symm (by omega)]; exact hd, Ext.refl s2, h2.mono s1⟩
def iRevD (f : BEnv → Res D) : BEnv → Res (List D) := fun env => f env >>= seqD >>= fun l => .ok l.reverse
theorem si_rev {p : Pos} (hK : X.K = g.K) (hg : Gl X "reversed") (hm : X.mg "reversed" = none) (he : PE X e (ER g E f)) (hs : starEach [e] X.env = (false, eval e X.env) :: starEach [] X.env := by rfl) : PI X tg (.Call (.Name "reversed" p) [e] [] pos) (IR g E (iRevD f)) :=
  PI_mono (RT.pi_revA hg hm he hs) fun σ H RR ⟨Hs, env, s, rr, w⟩ => by
    refine ⟨Hs, env, s, rr, w.bind.bind.mono (Same.refl _) fun d wd v H' Hs' x r => ?_⟩
    obtain ⟨A, xs, l, rfl, h1, h2, q1, wd⟩ := seq_src (g := g) x.sub r wd
    cases A with
    | l a => exact ⟨a, xs, rfl, .inl ⟨hK ▸ h2, hK ▸ wd.is_ok _ H' Hs' x (walks_revL h1 q1)⟩⟩
    | t a => exact ⟨a, xs, rfl, .inr ⟨hK ▸ h2, hK ▸ wd.is_ok _ H' Hs' x (walks_revT h1 q1)⟩⟩
end
end PL

set_option Elab.async false
set_option linter.all false
set_option maxRecDepth 100000
set_option maxHeartbeats 1000000
namespace PL
open PySem PySem.Spec PyProof.Rows L2

/-! ### in a try's body: an exception comes at the slots that stand -/
def mustE (f : BEnv → Res D) : BEnv → Res D := fun env => must (f env) .ok
def ERW (g : G) (W : WX) (f : BEnv → Res D) : TE := fun σ H Q => ER g (WE W σ) f σ H Q
def eFnM (den : List D → Res Cell) (fs : BEnv → Res (List D)) : BEnv → Res D := fun env => must (fs env) fun ds => den ds >>= fun c => .ok c.toD
/-- H1: when the try began -/
def BR (g : G) (W : WX) (B Hs0 : Hp) (s : Env → Res Fl) : TS := fun D σ H => ∃ Hs env H1, StR g B Hs0 Hs H σ env ∧ Same H1 H ∧ Wk g (WE W σ) H1 (s env) (SLand g B Hs0 Hs D)
section
variable {X : Cx} {g : G} {W : WX} {B Hs0 : Hp} {e : Expr} {es : List Expr} {pos p : Pos} {f : BEnv → Res D} {fs : BEnv → Res (List D)} {x : Str} {n k : Nat} {den : List D → Res Cell}
theorem bw_pure (q : PE X e (ER g EN f)) : PE X e (ERW g W (mustE f)) := PE_mono q fun σ H Q ⟨Hs, env, s, r, w⟩ => by
  obtain ⟨a, ha, w⟩ := must_wk w
  exact ⟨Hs, env, s, r, .of_ne ha w.is_ok⟩
theorem bw_call (F : Fn X.prog X.w X.base g x n k den) (hK : X.K = g.K) (hM : X.mg = g.mg) (hr : Room k X.A) (tk : Takes X W) (hg : Gl X x) (ha : PA X (e :: es) (AR g EN fs)) (hdb : (x == ("__debug__" : Str)) = false := by decide)
    (he : starEach (e :: es) X.env = (false, eval e X.env) :: starEach es X.env := by rfl) (hpl : (backTo pos (starEach es X.env)).any (·.1) = false := by rfl) : PE X (.Call (.Name x p) (e :: es) [] pos) (ERW g W (eFnM den fs)) := by
  obtain ⟨f, fd, ps, hn, h1, h2, h3, h4⟩ := F.ex
  rw [← hM] at h1
  rw [← hK] at h2 h3 h4
  rw [← hM] at h4
  refine PE_mono (pe_callS (E := WE W) h4 hr hg h1 h2 h3 (passAt tk) ha hdb he hpl) fun σ H Q w => ?_
  obtain ⟨Hs, env, s, rr, w⟩ := w
  obtain ⟨ds, hds, w⟩ := must_wk w
  refine ⟨Hs, env, s, rr, .of_ne hds fun vs H1 Hs1 x1 r1 => ?_⟩
  refine ⟨Hs1, ds, x1.sub, r1, ?_, w.bind.mono x1.same fun c wc v H' rt => ?_⟩
  · refine F.ar ds fun z => w.bad ?_
    rw [z]; rfl
  · obtain ⟨Hs', x', r'⟩ := rt.toD
    exact wc.is_ok v H' Hs' (x1.trans x') r'
variable {s t : Env → Res Fl} {st : Stmt} {pt : BEnv → Res Bool}
theorem bw_expr (he : PE X e (ERW g W f)) (hs : swapsWith e none pos.line X.env = pure false := by rfl) : PS X (.Expr e pos) (BR g W B Hs0 (sExpr f)) :=
  PS_mono (ps_expr he hs) fun D σ H ⟨Hs, env, H1, r, s1, w⟩ =>
    ⟨Hbor Hs H σ env, env.borrow, r.hb_sub, r.borrow, w.bind.mono s1 fun d wd v H' Hs' x r' => wd.is_ok σ H' Hs (Same.refl _) (r.same x.same)⟩
theorem bw_ret (he : PE X e (ERW g W f)) : PS X (.Return (some e) pos) (BR g W B Hs0 (sRet f)) :=
  PS_mono (ps_ret he) fun D σ H ⟨Hs, env, H1, r, s1, w⟩ => by
    refine ⟨Hbor Hs H σ env, env.borrow, r.hb_sub, r.borrow, w.bind.mono s1 fun d wd v H' Hs' x r' => ?_⟩
    refine wd.is_ok v H' ⟨Hs', ⟨r.keep.trans x.same, r.sub0.trans (r.hb_up.trans x.up), x.sub, fun a o e => ?_⟩, r'⟩
    rcases x.new a o e with q | q
    · by_cases h : isRoot σ env a
      · exact .inr (r.root h).2.1
      · rw [hb_not h] at q; exact r.new a o q
    · exact .inr (r.keep.free q)
def sIfM (p : BEnv → Res Bool) (s t : Env → Res Fl) : Env → Res Fl := fun env => must (p env.borrow) fun b => if b = true then s env else t env
theorem bw_if {c : Expr} {a b : List Stmt} (hc : PT X c (TR g EN pt)) (ha : PSs X a (BR g W B Hs0 s)) (hb : PSs X b (BR g W B Hs0 t)) : PS X (.If c a b pos) (BR g W B Hs0 (sIfM pt s t)) :=
  PS_mono (ps_if hc ha hb) fun D σ H ⟨Hs, env, H1, r, s1, w⟩ => by
    obtain ⟨b, hb, w⟩ := must_wk w
    refine ⟨Hbor Hs H σ env, env.borrow, r.hb_sub, r.borrow, .of_ne hb fun H' Hs' x => ?_⟩
    have r' := r.same x.same
    cases b with
    | true => exact iteT ⟨Hs, env, H1, r', s1.trans x.same, by simpa using w⟩
    | false => exact iteF ⟨Hs, env, H1, r', s1.trans x.same, by simpa using w⟩
theorem bw_one (h : PS X st (BR g W B Hs0 s)) : PSs X [st] (BR g W B Hs0 s) := pss_one h
theorem bw_nil : PSs X [] (BR g W B Hs0 sNil) := PSs_mono pss_nil fun D σ H ⟨Hs, env, H1, r, s1, w⟩ => w.is_ok σ H Hs (Same.refl _) r
end

/-! ### in an except suite: values are stored, an error is asked -/
mutual
def noX : D → Bool
  | .non => true
  | .bl _ => true
  | .int _ => true
  | .str _ => true
  | .tup l => noXs l
  | .lst _ => false
  | .scr _ => false
  | .cut _ l => noXs l
  | .dic => true
  | .exn => false
def noXs : List D → Bool
  | [] => true
  | d :: ds => noX d && noXs ds
end
/-- what the suite knows of the error: at a, its dict d, its field x -/
def XP (a : Addr) (d : Option Addr) (x : Option D) : Addr → Hp → Prop := fun b H => b = a ∧ match x with
  | none => d = none
  | some (.int k) => ∃ dd, d = some dd ∧ H dd = some (.xd [("at", V.int k)])
  | _ => False
theorem XP_keep (a : Addr) (d : Option Addr) (x : Option D) : ∀ (b : Addr) (H H' : Hp), (∀ b o, (∀ ys, o ≠ HO.lst ys) → H b = some o → H' b = some o) → XP a d x b H → XP a d x b H' := fun b H H' k ⟨e, h⟩ => ⟨e, by
  split at h
  · exact h
  · obtain ⟨dd, h1, h2⟩ := h
    exact ⟨dd, h1, k _ _ (fun ys z => nomatch z) h2⟩
  · exact h⟩
def gX (g : G) (a : Addr) (d : Option Addr) (x : Option D) : G := { g with xp := XP a d x, xk := XP_keep a d x }
section
variable {g : G} {a : Addr} {d : Option Addr} {x : Option D}
mutual
theorem R.inX (no : ∀ a H, ¬ g.xp a H) {H : Hp} : ∀ {v : V} {e : D}, R g H v e → R (gX g a d x) H v e
  | _, _, .non => .non
  | _, _, .bl b => .bl b
  | _, _, .int i => .int i
  | _, _, .str x => .str x
  | _, _, .tup h r => .tup h (Rs.inX no r)
  | _, _, .lst h r => .lst h (Rs.inX no r)
  | _, _, .scr h => .scr h
  | _, _, .cut h k r => .cut h k (Rs.inX no r)
  | _, _, .dic h => .dic h
  | _, _, .exn h => absurd h (no _ _)
theorem Rs.inX (no : ∀ a H, ¬ g.xp a H) {H : Hp} : ∀ {vs : List V} {es : List D}, Rs g H vs es → Rs (gX g a d x) H vs es
  | _, _, .nil => .nil
  | _, _, .cons h r => .cons (R.inX no h) (Rs.inX no r)
end
/-- what data may hang on is kept -/
def KeepX (Hb Hc : Hp) : Prop := ∀ a o, (∀ ys, o ≠ HO.lst ys) → (∀ fs, o ≠ HO.xd fs) → Hb a = some o → Hc a = some o
theorem SqT_cut2 {K : PySem.W.Frag} {Hb Hc : Hp} {a : Addr} {xs : List V} (k : KeepX Hb Hc) (h : SqT K Hb a xs) : SqT K Hc a xs := by
  rcases h with (h | ⟨o, h⟩) | h
  · exact .inl (.inl (k _ _ (fun ys z => nomatch z) (fun ys z => nomatch z) h))
  · exact .inl (.inr ⟨o, k _ _ (fun ys z => nomatch z) (fun ys z => nomatch z) h⟩)
  · exact .inr h
mutual
theorem R.outX {Hb Hc : Hp} (k : KeepX Hb Hc) : ∀ {v : V} {e : D}, R (gX g a d x) Hb v e → noX e = true → R g Hc v e
  | _, _, .non, _ => .non
  | _, _, .bl b, _ => .bl b
  | _, _, .int i, _ => .int i
  | _, _, .str x, _ => .str x
  | _, .tup l, .tup h r, e =>
    have e' : noXs l = true := by simpa [noX] using e
    .tup (SqT_cut2 k h) (Rs.outX k r e')
  | _, .lst l, .lst h r, e => absurd e (by simp [noX])
  | _, .scr l, .scr h, e => absurd e (by simp [noX])
  | _, .cut n l, .cut h q r, e =>
    have e' : noXs l = true := by simpa [noX] using e
    .cut (k _ _ (fun ys z => nomatch z) (fun ys z => nomatch z) h) (SqT_cut2 k q) (Rs.outX k r e')
  | _, _, .dic h, _ => .dic (k _ _ (fun ys z => nomatch z) (fun ys z => nomatch z) h)
  | _, _, .exn h, e => absurd e (by simp [noX])
theorem Rs.outX {Hb Hc : Hp} (k : KeepX Hb Hc) : ∀ {vs : List V} {es : List D}, Rs (gX g a d x) Hb vs es → noXs es = true → Rs g Hc vs es
  | _, _, .nil, _ => .nil
  | _, e :: es, .cons h r, q =>
    have e' : noX e = true ∧ noXs es = true := by simpa [noXs] using q
    .cons (R.outX k h e'.1) (Rs.outX k r e'.2)
end
theorem EnvR.inX (no : ∀ a H, ¬ g.xp a H) {Hs : Hp} {σ : L2.St} {env : BEnv} (r : EnvR g Hs σ env) : EnvR (gX g a d x) Hs σ env := ⟨r.len, fun i e h =>
  let ⟨v, h1, h2⟩ := r.get i e h
  ⟨v, h1, R.inX no h2⟩⟩
end
theorem As.mono {g : G} {Hs Hs' : Hp} (s : Same Hs Hs') : ∀ {v : List (Nat × V)} {as : List (Nat × D)}, As g Hs v as → As g Hs' v as
  | _, _, .nil => .nil
  | _, _, .cons h r => .cons (h.mono s) (As.mono s r)
def noXA : List (Nat × D) → Bool
  | [] => true
  | (_, d) :: r => noX d && noXA r
theorem As.outX {g : G} {a : Addr} {d : Option Addr} {x : Option D} {Hb Hc : Hp} (k : KeepX Hb Hc) : ∀ {v : List (Nat × V)} {as : List (Nat × D)}, As (gX g a d x) Hb v as → noXA as = true → As g Hc v as
  | _, _, .nil, _ => .nil
  | _, (_, e) :: as, .cons h r, q =>
    have e' : noX e = true ∧ noXA as = true := by simpa [noXA] using q
    .cons (R.outX k h e'.1) (As.outX k r e'.2)
theorem setAll_set (i : Nat) : ∀ (vs : List (Nat × V)) (σ : L2.St) (x y : Option V), (setAll (σ.set i x) vs).set i y = (setAll σ vs).set i y
  | [], σ, x, y => by show (σ.set i x).set i y = σ.set i y; rw [List.set_set]
  | (j, v) :: vs, σ, x, y => by
    show (setAll ((σ.set i x).set j (some v)) vs).set i y = (setAll (σ.set j (some v)) vs).set i y
    by_cases h : i = j
    · subst h
      rw [List.set_set]
    · rw [List.set_comm _ _ h]
      exact setAll_set i vs _ x y
theorem StR.setNone {g : G} {B Hs0 Hs H : Hp} {σ : L2.St} {env : Env} (r : StR g B Hs0 Hs H σ env) (i : Nat) : StR g B Hs0 Hs H (σ.set i none) (env.set i none) where
  keep := r.keep
  sub0 := r.sub0
  sub := r.sub
  new := r.new
  len := by rw [List.length_set, List.length_set, r.len]
  val := fun j d' e => by
    by_cases h : j = i
    · subst h
      by_cases hl : j < env.length
      · rw [List.getElem?_set_self hl] at e; cases e
      · rw [List.getElem?_eq_none (by rw [List.length_set]; exact Nat.not_lt.mp hl)] at e; cases e
    · rw [List.getElem?_set_ne (Ne.symm h)] at e ⊢
      exact r.val j d' e
  own := fun j l e => by
    by_cases h : j = i
    · subst h
      by_cases hl : j < env.length
      · rw [List.getElem?_set_self hl] at e; cases e
      · rw [List.getElem?_eq_none (by rw [List.length_set]; exact Nat.not_lt.mp hl)] at e; cases e
    · rw [List.getElem?_set_ne (Ne.symm h)] at e ⊢
      exact r.own j l e
  dis := fun j k l m a n e1 e2 h1 h2 => by
    have f : ∀ {j : Nat} {l : List PL.D}, (env.set i none)[j]? = some (some (.own l)) → j ≠ i := fun {j l} e h => by
      subst h
      by_cases hl : j < env.length
      · rw [List.getElem?_set_self hl] at e; cases e
      · rw [List.getElem?_eq_none (by rw [List.length_set]; exact Nat.not_lt.mp hl)] at e; cases e
    have n1 := f e1
    have n2 := f e2
    rw [List.getElem?_set_ne (Ne.symm n1)] at e1 h1
    rw [List.getElem?_set_ne (Ne.symm n2)] at e2 h2
    exact r.dis j k l m a n e1 e2 h1 h2

inductive UFl where
  | nx (as : List (Nat × D)) | rt (d : D)
abbrev UD := BEnv → List (Nat × D) → Res UFl
def ULand (g : G) (Hz H0 : Hp) (σ0 : L2.St) (Z : Ends) : UFl → Prop
  | .nx as => ∀ vas H' Hb, Ext Hz H0 Hb H' → As g Hb vas as → Z.nx (setAll σ0 vas) H'
  | .rt d => ∀ v H' Hb, Ext Hz H0 Hb H' → R g Hb v d → Z.rt v H'
/-- Hz H0: when the suite began -/
def UR (g : G) (u : UD) : TS := fun Z σ H => ∃ Hz H0 σ0 bb vas as Hb, EnvR g Hz σ0 bb ∧ Ext Hz H0 Hb H ∧ As g Hb vas as ∧ σ = setAll σ0 vas ∧ ∃ fl, u bb as = .ok fl ∧ ULand g Hz H0 σ0 Z fl
section
variable {X : Cx} {g : G} {e : Expr} {pos : Pos} {f : BEnv → Res D} {u u' : UD} {st : Stmt} {rest : List Stmt} {p : BEnv → Res Bool}
def uNil : UD := fun _ as => .ok (.nx as)
def uSeq (u u' : UD) : UD := fun env as => must (u env as) fun
  | .nx as' => u' env as'
  | .rt d => .ok (.rt d)
def uSet (i : Nat) (f : BEnv → Res D) : UD := fun env as => must (f (setAllB env as)) fun d => .ok (.nx (as ++ [(i, d)]))
def uRet (f : BEnv → Res D) : UD := fun env as => must (f (setAllB env as)) fun d => .ok (.rt d)
def uIf (p : BEnv → Res Bool) (u u' : UD) : UD := fun env as => must (p (setAllB env as)) fun b => if b = true then u env as else u' env as
theorem must_ok' {α β : Type} {r : Res α} {k : α → Res β} {b : β} (h : must r k = .ok b) : ∃ a, r = .ok a ∧ k a = .ok b := by
  cases r with
  | ok a => exact ⟨a, rfl, h⟩
  | _ => cases h
theorem us_nil : PSs X [] (UR g uNil) := PSs_mono pss_nil fun Z σ H ⟨Hz, H0, σ0, bb, vas, as, Hb, r, x, q, e, fl, hu, l⟩ => by
  cases hu
  subst e
  exact l vas H Hb x q
theorem us_one (h : PS X st (UR g u)) : PSs X [st] (UR g u) := pss_one h
theorem us_cons (h1 : PS X st (UR g u)) (h2 : PSs X rest (UR g u')) : PSs X (st :: rest) (UR g (uSeq u u')) :=
  PSs_mono (pss_cons h1 h2) fun Z σ H ⟨Hz, H0, σ0, bb, vas, as, Hb, r, x, q, e, fl, hu, l⟩ => by
    obtain ⟨f1, h1, h2⟩ := must_ok' hu
    refine ⟨Hz, H0, σ0, bb, vas, as, Hb, r, x, q, e, f1, h1, ?_⟩
    cases f1 with
    | nx as' => exact fun vas' H' Hb' x' q' => ⟨Hz, H0, σ0, bb, vas', as', Hb', r, x', q', rfl, fl, h2, l⟩
    | rt d => cases h2; exact l
theorem us_set {i : Nat} {y : Str} {py : Pos} (hN : X.N.Nodup) (hi : X.N[i]? = some y) (hy : Loc X.env.scope y) (he : PE X e (ER g EN f)) (hs : swapsWith e (some (.Name y py)) pos.line X.env = pure false := by rfl) (hf : X.fn y = true ∨ X.env.scope.names.lookup y = some .local := by first | exact .inl rfl | exact .inr rfl | assumption) :
    PS X (.Assign [.Name y py] e pos) (UR g (uSet i f)) :=
  PS_mono (ps_set hN hi hy he hs hf) fun Z σ H ⟨Hz, H0, σ0, bb, vas, as, Hb, r, x, q, e, fl, hu, l⟩ => by
    obtain ⟨d, h1, h2⟩ := must_ok' hu
    cases h2
    subst e
    refine ⟨Hb, setAllB bb as, x.sub, EnvR.setAll q (r.mono x.up), .of_ne h1 fun v H' Hb' x' r' => ?_⟩
    show Z.nx ((setAll σ0 vas).set i (some v)) H'
    have := l (vas ++ [(i, v)]) H' Hb' (x.trans x') ((q.mono x'.up).append (.cons r' .nil))
    rw [setAll_append] at this
    exact this
theorem us_ret (he : PE X e (ER g EN f)) : PS X (.Return (some e) pos) (UR g (uRet f)) :=
  PS_mono (ps_ret he) fun Z σ H ⟨Hz, H0, σ0, bb, vas, as, Hb, r, x, q, e, fl, hu, l⟩ => by
    obtain ⟨d, h1, h2⟩ := must_ok' hu
    cases h2
    subst e
    exact ⟨Hb, setAllB bb as, x.sub, EnvR.setAll q (r.mono x.up), .of_ne h1 fun v H' Hb' x' r' => l v H' Hb' (x.trans x') r'⟩
theorem us_if {c : Expr} {a b : List Stmt} (hc : PT X c (TR g EN p)) (ha : PSs X a (UR g u)) (hb : PSs X b (UR g u')) : PS X (.If c a b pos) (UR g (uIf p u u')) :=
  PS_mono (ps_if hc ha hb) fun Z σ H ⟨Hz, H0, σ0, bb, vas, as, Hb, r, x, q, e, fl, hu, l⟩ => by
    obtain ⟨b, h1, h2⟩ := must_ok' hu
    subst e
    refine ⟨Hb, setAllB bb as, x.sub, EnvR.setAll q (r.mono x.up), .of_ne h1 fun H' Hb' x' => ?_⟩
    cases b with
    | true => exact iteT ⟨Hz, H0, σ0, bb, vas, as, Hb', r, x.trans x', q.mono x'.up, rfl, fl, by simpa using h2, l⟩
    | false => exact iteF ⟨Hz, H0, σ0, bb, vas, as, Hb', r, x.trans x', q.mono x'.up, rfl, fl, by simpa using h2, l⟩
end

/-! ### what is asked of the error -/
def isxD (b : Bool) : D → Res D
  | .exn => .ok (.bl b)
  | _ => .bad
def xatD (x : Option D) : D → Res D
  | .exn => match x with
    | some (.int k) => .ok (.int k)
    | _ => .bad
  | _ => .bad
/-- the class of the error, as isinstance asks it -/
structure ExcD (K : PySem.W.Frag) (D : Addr) : Prop where
  hc : (PySem.W.clsIn K D).isSome = true
  hg : PySem.W.findIn K (.ref D) "__getattribute__" = some (some (.builtin "BaseException.__getattribute__"))
  hk : PySem.W.findIn K (.ref D) "__getattr__" = some none
  hs : PySem.W.subIn K (.ref D) (.type "BaseException") = some true
  hd : PySem.W.hasDictIn K D = true
  ha : PySem.W.findIn K (.ref D) "__class__" = some (some (.builtin "object.__class__"))
  hn : PySem.W.specialIn K (.builtin "object.__class__") "__get__" = some (some (.builtin "getset_descriptor.__get__"))
  ht : PySem.W.takesIn K (.builtin "object.__class__") = some true
  hm : PySem.W.mroIn K D (.type "object") = some true
  fx : PySem.W.findIn K (.ref D) "at" = some none
def rIsX (K : PySem.W.Frag) (D a : Addr) (d : Option Addr) : List V → Hp → VK → Prop := fun xs H Q => ∃ (c : V) (cv : Value) (b : Bool), xs = [.ref a, c] ∧ ClsV c cv ∧ PySem.W.kitOne K (.ref D) cv = some b ∧ (d = none ∨ ∃ dd fs, d = some dd ∧ H dd = some (.xd fs)) ∧ Q (.bl b) H
def rIsXT (K : PySem.W.Frag) (D a : Addr) (d : Option Addr) : List V → Hp → VK → Prop := fun xs H Q => ∃ (tp : Addr) (cs : List V) (us : List Value) (b : Bool), xs = [.ref a, .ref tp] ∧ H tp = some (.tup cs) ∧ Paired ClsV cs us ∧ PySem.W.kitAny K (.ref D) us = some b ∧ (d = none ∨ ∃ dd fs, d = some dd ∧ H dd = some (.xd fs)) ∧ Q (.bl b) H
section
variable {X : Cx} {a D : Addr} {oe : Obj} {d : Option Addr} {pn : List (Addr × Obj)}
theorem inst_at {pins : List (Addr × Obj)} {s : Shared} {σ : L2.St} {H : Hp} (I : Inv (X.suite a ((a, oe) :: pn)) pins σ H s) (hz : Zc (.ref D) d oe) (hf : ∃ vs, oe.data = .fields vs) (hd : d = none ∨ ∃ dd fs, d = some dd ∧ H dd = some (.xd fs)) : ∃ od, PySem.W.InstAt s.heap a oe D od := by
  obtain ⟨hget, _⟩ := I.pin (a, oe) (List.mem_append.mpr (.inl List.mem_cons_self))
  obtain ⟨vs, hv⟩ := hf
  rcases hd with rfl | ⟨dd, fs, rfl, hdd⟩
  · refine ⟨none, ?_⟩
    obtain ⟨oc, od, oda, osl⟩ := oe
    obtain ⟨h1, h2⟩ := hz
    dsimp only at h1 h2 hv
    subst h1 h2 hv
    exact ⟨hget, rfl, rfl, trivial⟩
  · have hx : ObjOk X.prog X.w H s.heap dd (.xd fs) := I.hok dd _ hdd
    obtain ⟨mA, hns, hr⟩ := hx
    obtain ⟨od, ho, hl⟩ := lookIn_ns hns
    exact ⟨some od, ⟨hget, hz.1, by unfold PySem.W.notCls; rw [hv] <;> rfl, by rw [hz.2]; exact ho⟩⟩
theorem call_isX (C : ExcD X.K D) (hz : Zc (.ref D) d oe) (hf : ∃ vs, oe.data = .fields vs) : CallR (X.suite a ((a, oe) :: pn)) (.builtin "isinstance") (rIsX X.K D a d) := by
  intro pins s σ H xs us Q I r h
  obtain ⟨c, cv, b, rfl, hcv, e, hd, q⟩ := h
  obtain ⟨u1, u2, rfl, r1, r2⟩ := vals2 r
  have e2 := hcv.eq r2
  subst e2
  cases (show u1 = Value.ref a from r1)
  obtain ⟨od, J⟩ := inst_at I hz hf hd
  exact PySem.W.kia_one (PySem.W.kitx_exc C.hc C.hg C.hk C.hs C.ha C.hn C.ht C.hm) I.kIn J e (fun z => nomatch z) fun tk => ⟨.bl b, H, I.kept (t' := tk) fun _ _ z => z, rfl, q⟩
theorem call_isXT (C : ExcD X.K D) (hz : Zc (.ref D) d oe) (hf : ∃ vs, oe.data = .fields vs) : CallR (X.suite a ((a, oe) :: pn)) (.builtin "isinstance") (rIsXT X.K D a d) := by
  intro pins s σ H xs us Q I r h
  obtain ⟨tp, cs, ws, b, rfl, hT, k, e, hd, q⟩ := h
  obtain ⟨u1, u2, rfl, r1, r2⟩ := vals2 r
  cases (show u1 = Value.ref a from r1)
  cases (show u2 = Value.ref tp from r2)
  obtain ⟨od, J⟩ := inst_at I hz hf hd
  obtain ⟨_, its, rv, o, h1, h2, n, h3⟩ := (show ObjOk X.prog X.w H s.heap tp (.tup cs) from I.hok tp _ hT)
  have e3 := ClsV.all k rv
  subst e3
  obtain ⟨oc, od', dt, sl⟩ := o
  simp only at h2 h3
  subst h2 h3
  exact PySem.W.kia_tup (PySem.W.kitx_exc C.hc C.hg C.hk C.hs C.ha C.hn C.ht C.hm) I.kIn J h1 e (fun z => nomatch z) fun tk => ⟨.bl b, H, I.kept (t' := tk) fun _ _ z => z, rfl, q⟩
theorem exn_at {g : G} {Hs H : Hp} {v : V} {x : Option PL.D} (s : Same Hs H) (r : R (gX g a d x) Hs v .exn) : v = .ref a ∧ (d = none ∨ ∃ dd fs, d = some dd ∧ H dd = some (.xd fs)) := by
  cases r with
  | exn h =>
    obtain ⟨e1, k⟩ := (h : XP a d x _ Hs)
    refine ⟨by rw [e1], ?_⟩
    split at k
    · exact .inl k
    · obtain ⟨dd, h1, h2⟩ := k
      exact .inr ⟨dd, _, h1, s _ _ h2⟩
    · exact k.elim
variable {g : G} {x : Option PL.D} {e : Expr} {es : List Expr} {pos : Pos} {f : BEnv → Res PL.D} {E : XK}
theorem se_isx {b : Bool} {xT : Str} {c : V} {cv : Value} {p p2 : Pos} (C : ExcD X.K D) (hz : Zc (.ref D) d oe) (hf : ∃ vs, oe.data = .fields vs) (hg : Gl (X.suite a ((a, oe) :: pn)) "isinstance") (hm : X.mg "isinstance" = none)
    (hT : PE (X.suite a ((a, oe) :: pn)) (.Name xT p2) (tC c)) (hc : ClsV c cv) (hk : PySem.W.kitOne X.K (.ref D) cv = some b) (ha : PE (X.suite a ((a, oe) :: pn)) e (ER (gX g a d x) E f))
    (h1 : starEach [e, .Name xT p2] X.env = (false, eval e X.env) :: starEach [.Name xT p2] X.env := by rfl) (h2 : starEach [.Name xT p2] X.env = (false, eval (.Name xT p2) X.env) :: starEach [] X.env := by rfl)
    (hpl : (backTo pos (starEach [.Name xT p2] X.env)).any (·.1) = false := by rfl) : PE (X.suite a ((a, oe) :: pn)) (.Call (.Name "isinstance" p) [e, .Name xT p2] [] pos) (ER (gX g a d x) E (e1 (isxD b) f)) :=
  PE_mono (pe_callB (call_isX C hz hf) hg hm boot_isinstance (pa_cons ha (pa_cons hT pa_nil h2) h1) (by decide) (by decide) h1 hpl) fun σ H Q w => by
    refine one (r := fun y H Q => rIsX X.K D a d [y, c] H Q) (fun Hs H v dd Q s r E w => ?_) w
    cases dd with
    | exn =>
      obtain ⟨rfl, hd⟩ := exn_at s r
      exact ⟨c, cv, b, rfl, hc, hk, hd, w.is_ok _ _ _ (Ext.refl s) (.bl _)⟩
    | _ => exact absurd rfl w.bad
/-- a row of classes' names -/
def tAll (vs : List V) : TA := fun _ H Q => Q vs H
structure NmL (X : Cx) (K : PySem.W.Frag) (C : Value) (es : List Expr) (b : Bool) : Prop where
  ex : ∃ vs us, PA X es (tAll vs) ∧ Paired ClsV vs us ∧ PySem.W.kitAny K C us = some b ∧ vs.length = es.length
theorem nm_nil {X : Cx} {K : PySem.W.Frag} {C : Value} : NmL X K C [] false := ⟨[], [], PA_mono pa_nil fun σ H Q w => w, .nil, rfl, rfl⟩
theorem nm_cons {X : Cx} {K : PySem.W.Frag} {C cv : Value} {es : List Expr} {b b' : Bool} {xT : Str} {p : Pos} {c : V} (hT : PE X (.Name xT p) (tC c)) (hc : ClsV c cv) (hk : PySem.W.kitOne K C cv = some b) (r : NmL X K C es b') (h : starEach (.Name xT p :: es) X.env = (false, eval (.Name xT p) X.env) :: starEach es X.env := by rfl) :
    NmL X K C (.Name xT p :: es) (b || b') := by
  obtain ⟨vs, us, h1, h2, h3, h4⟩ := r.ex
  refine ⟨c :: vs, cv :: us, PA_mono (pa_cons hT h1 h) fun σ H Q w => w, .cons hc h2, ?_, by simp [h4]⟩
  unfold PySem.W.kitAny
  rw [hk]
  cases b with
  | true => rfl
  | false => exact h3
theorem se_isxT {b : Bool} {x1 : Nat} {tpos p : Pos} (C : ExcD X.K D) (hz : Zc (.ref D) d oe) (hf : ∃ vs, oe.data = .fields vs) (hg : Gl (X.suite a ((a, oe) :: pn)) "isinstance") (hm : X.mg "isinstance" = none)
    (hT : NmL (X.suite a ((a, oe) :: pn)) X.K (.ref D) es b) (hl : es.length ≤ 1000) (ha : PE (X.suite a ((a, oe) :: pn)) e (ER (gX g a d x) E f))
    (h1 : starEach [e, .Tuple es x1 tpos] X.env = (false, eval e X.env) :: starEach [.Tuple es x1 tpos] X.env := by rfl) (h2 : starEach [.Tuple es x1 tpos] X.env = (false, eval (.Tuple es x1 tpos) X.env) :: starEach [] X.env := by rfl)
    (hpl : (backTo pos (starEach [.Tuple es x1 tpos] X.env)).any (·.1) = false := by rfl) : PE (X.suite a ((a, oe) :: pn)) (.Call (.Name "isinstance" p) [e, .Tuple es x1 tpos] [] pos) (ER (gX g a d x) E (e1 (isxD b) f)) := by
  obtain ⟨vs, us, hp, hc, hk, hlen⟩ := hT.ex
  refine PE_mono (pe_callB (call_isXT C hz hf) hg hm boot_isinstance (pa_cons ha (pa_cons (pe_tup hp) pa_nil h2) h1) (by decide) (by decide) h1 hpl) fun σ H Q w => ?_
  refine one (r := fun y H Q => tCons (fun σ H Q => tAll vs σ H fun xs H1 => xs.length ≤ sizeLine ∧ ∀ p, H1 p = none → Q (.ref p) (upd H1 p (.tup xs))) tNil σ H fun ys H1 => rIsXT X.K D a d (y :: ys) H1 Q) (fun Hs H v dd Q s r E w => ?_) w
  cases dd with
  | exn =>
    obtain ⟨rfl, hd⟩ := exn_at s r
    refine ⟨?_, fun p np => ?_⟩
    · rw [hlen]; exact line1000 hl
    · refine ⟨p, vs, us, b, rfl, upd_same, hc, hk, ?_, ?_⟩
      · rcases hd with hd | ⟨dd, fs, h1, h2⟩
        · exact .inl hd
        · exact .inr ⟨dd, fs, h1, by rw [upd_ne (ne_of_none h2 np)]; exact h2⟩
      · exact w.is_ok _ _ _ (Ext.new1 s np) (.bl _)
  | _ => exact absurd rfl w.bad
/-- e.at -/
theorem se_xat (C : ExcD X.K D) (hz : Zc (.ref D) d oe) (hf : ∃ vs, oe.data = .fields vs) (he : PE (X.suite a ((a, oe) :: pn)) e (ER (gX g a d x) E f)) (hb : attributeBase e "at" X.env (eval e X.env) = eval e X.env := by rfl) :
    PE (X.suite a ((a, oe) :: pn)) (.Attribute e "at" pos) (ER (gX g a d x) E (e1 (xatD x) f)) :=
  PE_mono (pe_xf (T := ⟨C.hg, C.hk, C.hs, C.hd⟩) (hno := C.fx) hz hf he hb) fun σ H Q w => by
    refine one (r := fun y H1 Q => y = .ref a ∧ Value.ref D = .ref D ∧ ∃ (dd : Addr) (fs : List (Str × V)) (v : V), d = some dd ∧ H1 dd = some (.xd fs) ∧ fs.lookup ("at" : Str) = some v ∧ Q v H1) (fun Hs H v dd Q s r E w => ?_) w
    cases dd with
    | exn =>
      cases r with
      | exn h =>
        obtain ⟨e1, k⟩ := (h : XP a d x _ Hs)
        have w : Wk (gX g a d x) E H (match x with
          | some (.int k) => Res.ok (PL.D.int k)
          | _ => .bad) (Lands (gX g a d x) Hs H Q) := w
        split at k
        · exact absurd rfl w.bad
        · obtain ⟨dd, h1, h2⟩ := k
          exact ⟨by rw [e1], rfl, dd, _, _, h1, s _ _ h2, rfl, w.is_ok _ _ _ (Ext.refl s) (.int _)⟩
        · exact k.elim
    | _ => exact absurd rfl w.bad
end

/-! ### try .. except X as n -/
def okY : Option D → Bool
  | none => true
  | some (.int _) => true
  | _ => false
def sTry (i : Nat) (cs : List String) (s : Env → Res Fl) (h : String → Option D → UD) : Env → Res Fl := fun env => match s env with
  | .ok fl => .ok fl
  | .exc k y => if k ∈ cs ∧ okY y = true then must (h k y (env.borrow.set i (some .exn)) []) fun
      | .nx as => if noXA as = true then .ok (.nx ((setAllE env as).set i none)) else .bad
      | .rt d => if noX d = true then .ok (.rt (.val d)) else .bad
    else .bad
  | .bad => .bad
theorem hz_ex {g : G} {H' Hq : Hp} {o : Option Addr} {y : Option D} {a : Addr} {k : String} {C : Value} (s : Same Hq H') (hy : okY y = true) (ex : ExcAt g k y C o H') :
    ∃ Hz, Same Hq Hz ∧ Same Hz H' ∧ (∀ b u, Hz b = some u → Hq b = some u ∨ ∃ fs, u = HO.xd fs) ∧ XP a o y a Hz := by
  obtain ⟨_, _, _, h⟩ := ex
  cases y with
  | none => exact ⟨Hq, Same.refl _, s, fun b u e => .inl e, rfl, h⟩
  | some d =>
    obtain ⟨dd, w, h1, h2, h3⟩ := h
    cases d with
    | int k =>
      cases h3
      refine ⟨upd Hq dd (.xd [("at", .int k)]), fun b u e => ?_, fun b u e => ?_, fun b u e => ?_, rfl, dd, h1, upd_same⟩
      · by_cases hb : b = dd
        · subst hb
          rw [upd_same]
          rw [← h2]
          exact s _ _ e
        · rw [upd_ne hb]; exact e
      · by_cases hb : b = dd
        · subst hb; rw [upd_same] at e; cases e; exact h2
        · rw [upd_ne hb] at e; exact s _ _ e
      · by_cases hb : b = dd
        · subst hb; rw [upd_same] at e; cases e; exact .inr ⟨_, rfl⟩
        · rw [upd_ne hb] at e; exact .inl e
    | _ => cases hy
section
variable {X : Cx} {g : G} {E : XK} {B Hs0 : Hp} {x n : Str} {c : Value} {i : Nat} {body suite : List Stmt} {b₀ : Stmt} {np pos pos' : Pos} {s : Env → Res Fl} {h : String → Option D → UD}
theorem ss_try (cs : List String) (no : ∀ a H, ¬ g.xp a H) (hK : X.K = g.K) (hs : X.stack = X.env :: X.outer) (hf : X.env.frame = some X.env.locals) (hN : X.N.Nodup) (hi : X.N[i]? = some n) (hln : X.env.kindOf n = some .local) (hc : Names X x c) (tk : Takes X (fun cls d _ H => E cls d H))
    (hcs : ∀ k ∈ cs, ∀ C, g.mg (Str.ofString k) = some (.ref C) → PySem.W.exmOne g.K (.ref C) c = some true)
    (hb : ∀ (W : WX) (pn : List (Addr × Obj)) (xe : Value → Shared → Prop), Takes (X.tr pn xe) W → PSs (X.tr pn xe) body (BR g W B Hs0 s))
    (hsu : ∀ k ∈ cs, ∀ (a : Addr) (oe : Obj) (C : Addr) (d : Option Addr) (y : Option D) (pn : List (Addr × Obj)), g.mg (Str.ofString k) = some (.ref C) → Zc (.ref C) d oe → (∃ vs, oe.data = .fields vs) → PSs (X.suite a ((a, oe) :: pn)) (b₀ :: suite) (UR (gX g a d y) (h k y))) :
    PS X (.Try body [.ExceptHandler (some (.Name x np)) (some n) (b₀ :: suite) pos'] [] [] pos) (SR g E B Hs0 (sTry i cs s h)) := by
  refine PS_mono (ps_try_as (tb := fun W => BR g W B Hs0 s) (ts := fun a cls d => fun Z σ H => ∃ k, k ∈ cs ∧ ∃ C y, cls = .ref C ∧ g.mg (Str.ofString k) = some (.ref C) ∧ UR (gX g a d y) (h k y) Z σ H) hs hf hN hi hln hc tk (fun W pn xe t _ => hb W pn xe t) fun a oe cls d pn hz hv => ⟨fun pins s σ H D I ⟨k, hk, C, y, e, hm, w⟩ => ?_⟩) fun Z σ H w => ?_
  · subst e
    exact (hsu k hk a oe C d y pn hm hz hv).run pins s σ H D I w
  · obtain ⟨Hs, env, r, w⟩ := w
    refine ⟨Hs, env, H, r, Same.refl _, ?_⟩
    unfold sTry at w
    cases q : s env with
    | ok fl => rw [q] at w; exact .of_ok w.is_ok
    | bad => rw [q] at w; exact absurd rfl w.bad
    | exc k y =>
      rw [q] at w
      refine Wk.mk (fun _ e => nomatch e) (fun k' y' e C o H' sm ex => ?_) (fun e => nomatch e)
      cases e
      by_cases hk : k ∈ cs ∧ okY y = true
      · have w' : Wk g E B (must (h k y (env.borrow.set i (some .exn)) []) fun
            | .nx as => if noXA as = true then Res.ok (Fl.nx ((setAllE env as).set i none)) else .bad
            | .rt d => if noX d = true then .ok (.rt (.val d)) else .bad) (SLand g B Hs0 Hs Z) := by
          have w := w
          simp only [if_pos hk] at w
          exact w
        obtain ⟨fl, hfl, w'⟩ := must_wk w'
        have ex0 := ex
        obtain ⟨ad, hm, eC, ho⟩ := (ex : ExcAt g k y C o H')
        subst eC
        have r1 := r.same sm
        refine ⟨true, by rw [hK]; exact hcs k hk.1 ad hm, fun _ a na => ⟨k, hk.1, ad, y, rfl, hm, ?_⟩, fun e => nomatch e⟩
        obtain ⟨Hz, z1, z2, z3, z4⟩ := hz_ex (a := a) r1.hb_sub hk.2 ex0
        refine ⟨Hz, H', σ.set i (some (.ref a)), env.borrow.set i (some .exn), [], [], Hz, EnvR.set1 (EnvR.mono (EnvR.inX no r1.borrow) z1) (.exn z4), Ext.refl z2, .nil, rfl, fl, hfl, ?_⟩
        -- at the end
        have fin : ∀ {H2 Hb : Hp}, Ext Hz H' Hb H2 → ∃ Hs2, Same Hs Hs2 ∧ StR g B Hs0 Hs2 H2 σ env ∧ KeepX Hb Hs2 := fun {H2 Hb} x => by
          let Hb2 : Hp := fun b => match Hbor Hs H' σ env b, Hz b with
            | none, some _ => none
            | _, _ => Hb b
          have e1 : ∀ b u, Hb2 b = some u → Hb b = some u := fun b u e => by
            show Hb b = some u
            have e : (match Hbor Hs H' σ env b, Hz b with
              | none, some _ => none
              | _, _ => Hb b) = some u := e
            split at e
            · cases e
            · exact e
          have x2 : Ext (Hbor Hs H' σ env) H' Hb2 H2 := by
            refine ⟨x.same, fun b u e => ?_, fun b u e => x.sub _ _ (e1 b u e), fun b u e => ?_⟩
            · show (match Hbor Hs H' σ env b, Hz b with
                | none, some _ => none
                | _, _ => Hb b) = some u
              rw [e]
              exact x.up _ _ (z1 _ _ e)
            · have e' : (match Hbor Hs H' σ env b, Hz b with
                | none, some _ => none
                | _, _ => Hb b) = some u := e
              rcases x.new b u (e1 b u e) with q | q
              · cases hh : Hbor Hs H' σ env b with
                | none => rw [hh, q] at e'; cases e'
                | some u' =>
                  have := z1 _ _ hh
                  rw [q] at this
                  left; rw [this]
              · exact .inr q
          obtain ⟨r2, up, k, _⟩ := r1.bor x2
          refine ⟨_, up, r2, fun b u h1 h2 e => k b u h1 ?_⟩
          show (match Hbor Hs H' σ env b, Hz b with
            | none, some _ => none
            | _, _ => Hb b) = some u
          cases hh : Hbor Hs H' σ env b with
          | some u' => exact e
          | none =>
            cases hq : Hz b with
            | none => exact e
            | some u2 =>
              have e2 := x.up _ _ hq
              rw [e] at e2
              cases e2
              rcases z3 b u hq with z | ⟨fs, z⟩
              · rw [hh] at z; cases z
              · exact absurd z (h2 fs)
        cases fl with
        | nx as =>
          intro vas H2 Hb x q
          obtain ⟨hn, l⟩ := wk_if w'
          obtain ⟨Hs2, up, r2, kx⟩ := fin x
          show Z.nx ((setAll (σ.set i (some (.ref a))) vas).set i none) H2
          rw [setAll_set]
          exact l _ _ Hs2 up ((r2.setAll (As.outX kx q hn)).setNone i)
        | rt d =>
          intro v H2 Hb x q
          obtain ⟨hn, l⟩ := wk_if w'
          obtain ⟨Hs2, up, r2, kx⟩ := fin x
          exact l v H2 ⟨Hs2, ⟨r2.keep, r2.sub0, r2.sub, r2.new⟩, R.outX kx q hn⟩
      · have w := w
        simp only [if_neg hk] at w
        exact absurd rfl w.bad
end
theorem hc_of {K : PySem.W.Frag} {D : Addr} (h : PySem.W.hasDictIn K D = true) : (PySem.W.clsIn K D).isSome = true := by
  obtain ⟨cd, hc, _⟩ := PySem.W.any_some h
  rw [hc]; rfl
/-! reckoned out -/
section
variable {env : BEnv} {s : Env} {f : BEnv → Res D} {p : BEnv → Res Bool} {fs : BEnv → Res (List D)} {g1 g2 : Env → Res Fl} {u u' : UD} {as : List (Nat × D)} {d : D} {b : Bool} {n : Nat}
@[simp] theorem x_mustE : mustE f env = must (f env) .ok := rfl
@[simp] theorem x_eFnM {den : List D → Res Cell} : eFnM den fs env = must (fs env) fun ds => den ds >>= fun c => .ok c.toD := rfl
@[simp] theorem x_sIfM : sIfM p g1 g2 s = must (p s.borrow) fun b => if b = true then g1 s else g2 s := rfl
@[simp] theorem x_uNil : uNil env as = .ok (.nx as) := rfl
@[simp] theorem x_uSeq : uSeq u u' env as = must (u env as) fun
  | .nx as' => u' env as'
  | .rt d => .ok (.rt d) := rfl
@[simp] theorem x_uSet : uSet n f env as = must (f (setAllB env as)) fun d => .ok (.nx (as ++ [(n, d)])) := rfl
@[simp] theorem x_uRet : uRet f env as = must (f (setAllB env as)) fun d => .ok (.rt d) := rfl
@[simp] theorem x_uIf : uIf p u u' env as = must (p (setAllB env as)) fun b => if b = true then u env as else u' env as := rfl
@[simp] theorem x_isx : isxD b .exn = .ok (.bl b) := rfl
@[simp] theorem x_xat {k : Int} : xatD (some (.int k)) .exn = .ok (.int k) := rfl
@[simp] theorem x_setB_nil : setAllB env [] = env := rfl
@[simp] theorem x_setB_cons {r : List (Nat × D)} : setAllB env ((n, d) :: r) = setAllB (env.set n (some d)) r := rfl
@[simp] theorem x_noXA_nil : noXA [] = true := rfl
@[simp] theorem x_noXA_cons {r : List (Nat × D)} : noXA ((n, d) :: r) = (noX d && noXA r) := rfl
@[simp] theorem x_noX_t {l : List D} : noX (.tup l) = noXs l := by simp [noX]
@[simp] theorem x_noX_b : noX (.bl b) = true := by simp [noX]
@[simp] theorem x_noX_i {i : Int} : noX (.int i) = true := by simp [noX]
@[simp] theorem x_noX_s {i : Str} : noX (.str i) = true := by simp [noX]
@[simp] theorem x_noX_n : noX .non = true := by simp [noX]
@[simp] theorem x_noXs_n : noXs [] = true := by simp [noXs]
@[simp] theorem x_noXs_c {l : List D} : noXs (d :: l) = (noX d && noXs l) := by simp [noXs]
@[simp] theorem x_okY_n : okY none = true := rfl
@[simp] theorem x_okY_i {i : Int} : okY (some (.int i)) = true := rfl
theorem x_try {i : Nat} {cs : List String} {h : String → Option D → UD} : sTry i cs g1 h s = match g1 s with
  | .ok fl => .ok fl
  | .exc k y => if k ∈ cs ∧ okY y = true then must (h k y (s.borrow.set i (some .exn)) []) fun
      | .nx as => if noXA as = true then .ok (.nx ((setAllE s as).set i none)) else .bad
      | .rt d => if noX d = true then .ok (.rt (.val d)) else .bad
    else .bad
  | .bad => .bad := rfl
end
end PL

set_option Elab.async false
set_option linter.all false
set_option maxRecDepth 100000
set_option maxHeartbeats 1000000
namespace PL
open PySem PySem.Spec PyProof.Rows L2
/-! ### == reckoned -/
section
variable {l m : List D} {a b : D} {i j : Int} {x y : Str} {t u : Bool} {n : Nat}
theorem eqD_ok (h1 : eqOk 60 a = true) (h2 : eqOk 60 b = true) : eqD a b = .ok (.bl (deq a b)) := by unfold eqD; rw [if_pos ⟨h1, h2⟩]
theorem neD_ok (h1 : eqOk 60 a = true) (h2 : eqOk 60 b = true) : neD a b = .ok (.bl (!deq a b)) := by unfold neD; rw [if_pos ⟨h1, h2⟩]
@[simp] theorem eqOk_i : eqOk n (.int i) = true := by simp [eqOk]
@[simp] theorem eqOk_b : eqOk n (.bl t) = true := by simp [eqOk]
@[simp] theorem eqOk_n : eqOk n .non = true := by simp [eqOk]
@[simp] theorem eqOk_s : eqOk n (.str x) = PyData.strOk x := by simp [eqOk]
@[simp] theorem eqOk_t : eqOk n (.tup l) = (decide (0 < n) && eqOks (n - 1) l) := by simp [eqOk]
@[simp] theorem eqOk_l : eqOk n (.lst l) = (decide (0 < n) && eqOks (n - 1) l) := by simp [eqOk]
@[simp] theorem eqOks_nil : eqOks n [] = true := by simp [eqOks]
@[simp] theorem eqOks_cons : eqOks n (a :: l) = (eqOk n a && eqOks n l) := by simp [eqOks]
@[simp] theorem deq_i : deq (.int i) (.int j) = (i == j) := by simp [deq, toPy, PyData.eqv]
@[simp] theorem deq_b : deq (.bl t) (.bl u) = (t == u) := by simp [deq, toPy, PyData.eqv]
@[simp] theorem deq_s : deq (.str x) (.str y) = (x == y) := by simp [deq, toPy, PyData.eqv]
@[simp] theorem deq_tt : deq (.tup l) (.tup m) = deqs l m := by simp [deq, deqs, toPy, PyData.eqv]
@[simp] theorem deq_ll : deq (.lst l) (.lst m) = deqs l m := by simp [deq, deqs, toPy, PyData.eqv]
@[simp] theorem deqs_nn : deqs [] [] = true := by simp [deqs, toPys, PyData.eqvAll]
@[simp] theorem deqs_nc : deqs [] (a :: l) = false := by simp [deqs, toPys, PyData.eqvAll]
@[simp] theorem deqs_cn : deqs (a :: l) [] = false := by simp [deqs, toPys, PyData.eqvAll]
@[simp] theorem deqs_cc : deqs (a :: l) (b :: m) = (deq a b && deqs l m) := by simp [deqs, deq, toPys, PyData.eqvAll]
theorem eqOks_ints : ∀ ns : List Int, eqOks n (ns.map D.int) = true
  | [] => by simp
  | k :: ns => by simp [eqOks_ints ns]
theorem deqs_ints : ∀ ns ms : List Int, deqs (ns.map D.int) (ms.map D.int) = (ns == ms)
  | [], [] => by simp
  | [], _ :: _ => by simp
  | _ :: _, [] => by simp
  | k :: ns, j :: ms => by simp [deqs_ints ns ms]
@[simp] theorem eqD_tt : eqD (.tup l) (.tup m) = if eqOks 59 l = true ∧ eqOks 59 m = true then .ok (.bl (deqs l m)) else .bad := by simp [eqD]
@[simp] theorem eqD_ll : eqD (.lst l) (.lst m) = if eqOks 59 l = true ∧ eqOks 59 m = true then .ok (.bl (deqs l m)) else .bad := by simp [eqD]
@[simp] theorem neD_tt : neD (.tup l) (.tup m) = if eqOks 59 l = true ∧ eqOks 59 m = true then .ok (.bl (!deqs l m)) else .bad := by simp [neD]
@[simp] theorem neD_ll : neD (.lst l) (.lst m) = if eqOks 59 l = true ∧ eqOks 59 m = true then .ok (.bl (!deqs l m)) else .bad := by simp [neD]
end
theorem atI_nn {α : Type} {l : List α} {k : Nat} : atI l (k : Int) = l[k]? := by
  unfold atI ixN
  rw [if_pos (Int.natCast_nonneg k)]
  by_cases h : k < l.length
  · rw [if_pos (by omega)]
    show l[(k : Int).toNat]? = _
    rw [Int.toNat_natCast]
  · rw [if_neg (by omega), List.getElem?_eq_none (by omega)]
    rfl

/-! ### a list that stands still from its making -/
def sSetL (i : Nat) (f : BEnv → Res (List D)) : Env → Res Fl := fun env => f env.clean >>= fun l => .ok (.nx (env.set i (some (.val (.lst l)))))
def sSetLB (i : Nat) (f : BEnv → Res (List D)) : Env → Res Fl := fun env => f env.borrow >>= fun l => if noLsts l = true then .ok (.nx (env.set i (some (.val (.lst l))))) else .bad
section
variable {X : Cx} {g : G} {E : XK} {B Hs0 : Hp} {i : Nat} {fo : BEnv → Res (List D)} {D : Ends} {σ : L2.St} {H : Hp}
theorem land_frz {Hs : Hp} {env : Env} {l : List PL.D} (h : SLand g B Hs0 Hs D (.nx (env.set i (some (.val (.lst l)))))) : SLand g B Hs0 Hs D (.nx (env.set i (some (.own l)))) := fun σ' H' Hs' s r => by
  by_cases hi : i < env.length
  · obtain ⟨Hs2, up, r2⟩ := r.frz (i := i) (l := l) (by rw [List.getElem?_set_self hi])
    rw [List.set_set] at r2
    exact h σ' H' Hs2 (s.trans up) r2
  · have hi := Nat.not_lt.mp hi
    rw [List.set_eq_of_length_le hi] at r
    refine h σ' H' Hs' s ?_
    rw [List.set_eq_of_length_le hi]
    exact r
theorem rd_setL (w : SR g E B Hs0 (sSetL i fo) D σ H) : SR g E B Hs0 (sOwn i fo) D σ H := by
  obtain ⟨Hs, env, r, w⟩ := w
  refine ⟨Hs, env, r, ?_⟩
  unfold sSetL at w
  unfold sOwn
  cases q : fo env.clean with
  | ok l => rw [q] at w; exact .of_ok (land_frz w.is_ok)
  | exc c x => rw [q] at w; exact ⟨fun b e => (nomatch e), w.exc, fun e => (nomatch e)⟩
  | bad => rw [q] at w; exact absurd rfl w.bad
theorem rd_setLB (w : SR g E B Hs0 (sSetLB i fo) D σ H) : SR g E B Hs0 (sOwnB i fo) D σ H := by
  obtain ⟨Hs, env, r, w⟩ := w
  refine ⟨Hs, env, r, ?_⟩
  unfold sSetLB at w
  unfold sOwnB
  cases q : fo env.borrow with
  | ok l =>
    rw [q] at w
    by_cases h : noLsts l = true
    · have w' : Wk g E B (.ok (.nx (env.set i (some (.val (.lst l)))))) (SLand g B Hs0 Hs D) := by
        have w := w
        simp only [Res.bind_ok, if_pos h] at w
        exact w
      simp only [Res.bind_ok, if_pos h]
      exact .of_ok (land_frz w'.is_ok)
    · have w := w
      simp only [Res.bind_ok, if_neg h] at w
      exact absurd rfl w.bad
  | exc c x => rw [q] at w; exact ⟨fun b e => (nomatch e), w.exc, fun e => (nomatch e)⟩
  | bad => rw [q] at w; exact absurd rfl w.bad
theorem ss_setL {st : Stmt} (h : PS X st (SR g E B Hs0 (sOwn i fo))) : PS X st (SR g E B Hs0 (sSetL i fo)) := PS_mono h fun _ _ _ w => rd_setL w
theorem ss_setLB {st : Stmt} (h : PS X st (SR g E B Hs0 (sOwnB i fo))) : PS X st (SR g E B Hs0 (sSetLB i fo)) := PS_mono h fun _ _ _ w => rd_setLB w
end
@[simp] theorem x_sSetL {s : Env} {n : Nat} {fo : BEnv → Res (List D)} : sSetL n fo s = (fo s.clean >>= fun l => .ok (.nx (s.set n (some (.val (.lst l)))))) := rfl
@[simp] theorem x_sSetLB {s : Env} {n : Nat} {fo : BEnv → Res (List D)} : sSetLB n fo s = (fo s.borrow >>= fun l => if noLsts l = true then .ok (.nx (s.set n (some (.val (.lst l))))) else .bad) := rfl

section
variable {X : Cx} {g : G} {E : XK} {e a b : Expr} {es : List Expr} {pos p : Pos} {f h : BEnv → Res D} {fs : BEnv → Res (List D)} {x : Str} {n k : Nat} {den : List D → Res Cell}
/-- a def that hands back a list of its own -/
theorem eo_call (F : Fn X.prog X.w X.base g x n k den) (hK : X.K = g.K) (hM : X.mg = g.mg) (hr : Room k X.A) (hx : Passes (L2.CX X.prog X.w) X E) (hg : Gl X x) (ha : PA X (e :: es) (AR g E fs)) (hdb : (x == ("__debug__" : Str)) = false := by decide)
    (he : starEach (e :: es) X.env = (false, eval e X.env) :: starEach es X.env := by rfl) (hpl : (backTo pos (starEach es X.env)).any (·.1) = false := by rfl) : PE X (.Call (.Name x p) (e :: es) [] pos) (EO g E (oFn den fs)) := by
  obtain ⟨f, fd, ps, hn, h1, h2, h3, h4⟩ := F.ex
  rw [← hM] at h1
  rw [← hK] at h2 h3 h4
  rw [← hM] at h4
  refine PE_mono (pe_call h4 hr hg h1 h2 h3 .nil hx ha hdb he hpl) fun σ H Q w => ?_
  obtain ⟨Hs, env, s, rr, w⟩ := w
  unfold oFn at w
  rw [res_assoc] at w
  refine ⟨Hs, env, s, rr, w.bind.mono (Same.refl _) fun ds wd vs H1 Hs1 x1 r1 => ?_⟩
  show spD g n den (vs ++ []) H1 Q E
  rw [List.append_nil]
  refine ⟨Hs1, ds, x1.sub, r1, ?_, wd.bind.mono x1.same fun c wc v H' rt => ?_⟩
  · refine F.ar ds fun z => wd.bad ?_
    rw [z]; rfl
  · cases c with
    | val d => exact absurd rfl wc.bad
    | own l =>
      obtain ⟨b, us, Hs', rfl, x', q1, q2, q3, q4⟩ := rt
      exact wc.is_ok b us H' Hs' (x1.trans x') (x1.same.free q2) q1 q3 q4
/-- {} -/
theorem se_dic : PE X (.Dict [] [] pos) (ER g E (eC .dic)) := PE_mono pe_dnewK fun σ H Q ⟨Hs, env, s, r, w⟩ p np => lands_new w.is_ok s np (.dic upd_same)
/-- a number that stands at the top -/
theorem se_gi {i : Int} (hi : ∃ u, g.mg x = some u ∧ RelV (.int i) u) (hM : X.mg = g.mg) (hg : Gl X x) (hd : (x == ("__debug__" : Str)) = false := by decide) : PE X (.Name x p) (ER g E (eC (.int i))) := by
  obtain ⟨u, h1, h2⟩ := hi
  exact se_c (pe_glob hg (by rw [hM]; exact h1) h2 hd) fun _ => .int i
/-- << >> & -/
def shlD : D → D → Res D := iiD (fun i j => decide (0 ≤ j ∧ j ≤ 1000000 ∧ i.natAbs < 2 ^ 64)) fun i j => .int (i * 2 ^ j.toNat)
def shrD : D → D → Res D := iiD (fun _ j => decide (0 ≤ j)) fun i j => .int (i / 2 ^ j.toNat)
def andD : D → D → Res D := iiD0 fun i j => .int (Builtin.bitAnd i j)
theorem od_shl : OpD g (rI CPow fun i j => V.int (i * 2 ^ j.toNat)) shlD := od_ii (fun i j h => (of_decide_eq_true h : 0 ≤ j ∧ j ≤ 1000000 ∧ i.natAbs < 2 ^ 64)) fun _ _ _ => .int _
theorem od_shr : OpD g (rI (fun _ j => 0 ≤ j) fun i j => V.int (i / 2 ^ j.toNat)) shrD := od_ii (fun i j h => of_decide_eq_true h) fun _ _ _ => .int _
theorem od_and : OpD g (rI0 fun i j => V.int (Builtin.bitAnd i j)) andD := od_ii0 fun _ _ _ => .int _
/-- in, of a list -/
def inD : D → D → Res D
  | a, .lst l => if eqOk 60 a = true ∧ eqOks 59 l = true then .ok (.bl (l.any fun z => deq z a)) else .bad
  | _, _ => .bad
def ninD : D → D → Res D
  | a, .lst l => if eqOk 60 a = true ∧ eqOks 59 l = true then .ok (.bl (!l.any fun z => deq z a)) else .bad
  | _, _ => .bad
theorem toPys_any (q : PyData → Bool) : ∀ l : List D, (toPys l).any q = l.any fun z => q (toPy z)
  | [] => rfl
  | d :: l => by
    show (toPy d :: toPys l).any q = _
    rw [List.any_cons, List.any_cons, toPys_any q l]
theorem od_in : OpD g (rInD g.K) inD := by
  intro Hs H v u a b Q s r1 r2 E w
  cases b with
  | lst l =>
    obtain ⟨⟨h1, h2⟩, l'⟩ := wk_if w
    obtain ⟨d1, s1⟩ := shaped_of (r1.mono s) h1
    obtain ⟨d2, s2⟩ := shaped_of (r2.mono s) (show eqOk 60 (.lst l) = true by simp [h2])
    refine ⟨toPy a, toPys l, d1, d2, s1, s2, ?_⟩
    rw [toPys_any]
    exact l' _ _ _ (Ext.refl s) (.bl _)
  | _ => exact absurd rfl w.bad
theorem od_nin : OpD g (rNotInD g.K) ninD := by
  intro Hs H v u a b Q s r1 r2 E w
  cases b with
  | lst l =>
    obtain ⟨⟨h1, h2⟩, l'⟩ := wk_if w
    obtain ⟨d1, s1⟩ := shaped_of (r1.mono s) h1
    obtain ⟨d2, s2⟩ := shaped_of (r2.mono s) (show eqOk 60 (.lst l) = true by simp [h2])
    refine ⟨toPy a, toPys l, d1, d2, s1, s2, ?_⟩
    rw [toPys_any]
    exact l' _ _ _ (Ext.refl s) (.bl _)
  | _ => exact absurd rfl w.bad
end
@[simp] theorem y_shl {i j : Int} : shlD (.int i) (.int j) = if decide (0 ≤ j ∧ j ≤ 1000000 ∧ i.natAbs < 2 ^ 64) = true then .ok (.int (i * 2 ^ j.toNat)) else .bad := rfl
@[simp] theorem y_shr {i j : Int} : shrD (.int i) (.int j) = if decide (0 ≤ j) = true then .ok (.int (i / 2 ^ j.toNat)) else .bad := rfl
@[simp] theorem y_and {i j : Int} : andD (.int i) (.int j) = .ok (.int (Builtin.bitAnd i j)) := rfl
@[simp] theorem y_in {a : D} {l : List D} : inD a (.lst l) = if eqOk 60 a = true ∧ eqOks 59 l = true then .ok (.bl (l.any fun z => deq z a)) else .bad := rfl
@[simp] theorem y_nin {a : D} {l : List D} : ninD a (.lst l) = if eqOk 60 a = true ∧ eqOks 59 l = true then .ok (.bl (!l.any fun z => deq z a)) else .bad := rfl

/-! ### a, b = e -/
def sUnp (p : Pat) (f : BEnv → Res D) : Env → Res Fl := fun env => f env.clean >>= fun d => must (p d) fun as => .ok (.nx (setAllE env as))
theorem ss_unp {X : Cx} {g : G} {E : XK} {B Hs0 : Hp} {tg e : Expr} {p : Pat} {f : BEnv → Res D} {pos : Pos} (he : PE X e (ER g E f)) (hg : PG X tg (GA g p)) (hs : swapsWithSole [tg] e pos.line X.env = pure false := by rfl) (hw : swappedStores [tg] e X.env = pure none := by rfl) (h1 : (assignEach [tg] X.env).map (·.2) = [assign tg X.env] := by rfl) : PS X (.Assign [tg] e pos) (SR g E B Hs0 (sUnp p f)) :=
  PS_mono (ps_asg he hg hs hw h1) fun D σ H w => clean_then (kd := fun d env => must (p d) fun as => .ok (.nx (setAllE env as))) w fun Hs env d v H r q w => by
    obtain ⟨as, ha, w⟩ := must_wk w
    exact ⟨Hs, d, as, r.sub, q, ha, fun vas ra => nx_end w (r.setAll ra)⟩
@[simp] theorem x_sUnp {p : Pat} {f : BEnv → Res D} {s : Env} : sUnp p f s = (f s.clean >>= fun d => must (p d) fun as => .ok (.nx (setAllE s as))) := rfl
@[simp] theorem x_pTup {q : PatL} {l : List D} : pTup q (.tup l) = q l := rfl
@[simp] theorem x_pNil : pNil [] = .ok [] := rfl
@[simp] theorem x_pCons {p : Pat} {q : PatL} {d : D} {l : List D} : pCons p q (d :: l) = (p d >>= fun a => q l >>= fun b => .ok (a ++ b)) := rfl
/-! walks -/
@[simp] theorem x_iSeq {f : BEnv → Res D} {env : BEnv} : iSeq f env = (f env >>= seqD) := rfl
@[simp] theorem x_seq_t {l : List D} : seqD (.tup l) = .ok l := rfl
@[simp] theorem x_seq_l {l : List D} : seqD (.lst l) = .ok l := rfl
@[simp] theorem x_seq_s {l : List Int} : seqD (.scr l) = .ok (l.map D.int) := rfl
@[simp] theorem x_zip2 {fs : BEnv → Res (List D)} {env : BEnv} : zip2D fs env = (fs env >>= fun ds => match ds with | [d, e] => seqD d >>= fun l => seqD e >>= fun m => .ok (pair2 l m) | _ => .bad) := rfl
@[simp] theorem x_frz {i : Nat} {s : Env → Res Fl} {env : Env} : sFrz i s env = s (frz1 i env) := rfl
@[simp] theorem x_sRetV {i : Nat} {s : Env} : sRetV i s = (match s[i]? with | some (some (.own l)) => .ok (.rt (.own l)) | _ => .bad) := rfl
@[simp] theorem x_ownOnly {l : List D} : ownOnly (.own l) = .ok l := rfl
@[simp] theorem x_sApp {i : Nat} {f : BEnv → Res D} {s : Env} : sApp i f s = ownAt s i fun l => f s.clean >>= fun d => if l.length < 1000000 then .ok (.nx (s.set i (some (.own (l ++ [d]))))) else .bad := rfl
@[simp] theorem x_sAppB {i : Nat} {f : BEnv → Res D} {s : Env} : sAppB i f s = ownAt s i fun l => f s.borrow >>= fun d => if noLst d = true then (if l.length < 1000000 then .ok (.nx (s.set i (some (.own (l ++ [d]))))) else .bad) else .bad := rfl
@[simp] theorem x_ownAt {k : List D → Res Fl} {s : Env} {i : Nat} : ownAt s i k = (match s[i]? with | some (some (.own l)) => k l | _ => .bad) := rfl
/-! ranges -/
def RngOk (j : Int) : Prop := -(2 ^ 62) ≤ j ∧ j < 2 ^ 62
theorem rngOk_of {j : Int} (h1 : -1000000 ≤ j) (h2 : j ≤ 1000000) : RngOk j := by
  unfold RngOk
  have e : (2 : Int) ^ 62 = 4611686018427387904 := by decide
  rw [e]
  exact ⟨by omega, by omega⟩
theorem rngOk_n {n : Nat} (h : n ≤ 1000000) : RngOk (n : Int) := rngOk_of (by omega) (by omega)
open Classical in
noncomputable def rng1K : D → Res (List D)
  | .int j => if RngOk j then .ok (rngD 0 j.toNat) else .bad
  | _ => .bad
open Classical in
noncomputable def rng2K : D → D → Res (List D)
  | .int i, .int j => if RngOk i ∧ RngOk j then .ok (rngD i (j - i).toNat) else .bad
  | _, _ => .bad
theorem x_rng1K {j : Int} (h : RngOk j) : rng1K (.int j) = .ok (rngD 0 j.toNat) := by
  unfold rng1K
  simp only [if_pos h]
theorem x_rng2K {i j : Int} (h : RngOk i) (h2 : RngOk j) : rng2K (.int i) (.int j) = .ok (rngD i (j - i).toNat) := by
  unfold rng2K
  simp only [if_pos (And.intro h h2)]
theorem x_rng1N {n : Nat} (h : n ≤ 1000000) : rng1K (.int (n : Int)) = .ok (rngD 0 n) := by
  rw [x_rng1K (rngOk_n h)]
  rfl
@[simp] theorem x_rng1 {f : BEnv → Res D} {env : BEnv} : iRng1 (aCons f aNil) env = (f env >>= rng1K) := by
  unfold iRng1 aCons aNil
  cases h : f env with
  | ok d =>
    cases d with
    | int j =>
      show (if -(2 ^ 62) ≤ j ∧ j < 2 ^ 62 then Res.ok (rngD 0 j.toNat) else .bad) = rng1K (.int j)
      unfold rng1K
      by_cases h : RngOk j
      · simp only [if_pos h]
        exact if_pos h
      · simp only [if_neg h]
        exact if_neg h
    | _ => rfl
  | _ => rfl
@[simp] theorem x_rng2 {f h : BEnv → Res D} {env : BEnv} : iRng2 (aCons f (aCons h aNil)) env = (f env >>= fun d => h env >>= fun e => rng2K d e) := by
  unfold iRng2 aCons aNil
  cases f env with
  | ok d =>
    cases h env with
    | ok e =>
      cases d with
      | int i =>
        cases e with
        | int j =>
          show (if -(2 ^ 62) ≤ i ∧ i < 2 ^ 62 ∧ -(2 ^ 62) ≤ j ∧ j < 2 ^ 62 then Res.ok (rngD i (j - i).toNat) else .bad) = rng2K (.int i) (.int j)
          unfold rng2K
          by_cases h : RngOk i ∧ RngOk j
          · simp only [if_pos h]
            exact if_pos ⟨h.1.1, h.1.2, h.2.1, h.2.2⟩
          · simp only [if_neg h]
            exact if_neg fun k => h ⟨⟨k.1, k.2.1⟩, k.2.2⟩
        | _ => rfl
      | _ => rfl
    | _ => rfl
  | _ => rfl
end PL

set_option Elab.async false
set_option linter.all false
set_option maxRecDepth 100000
set_option maxHeartbeats 4000000
namespace PL
open PySem PySem.Spec PyProof.Rows L2
theorem tuple_mulS (l : Addr) (items : Array Value) (n : Nat) (dd : Option Addr) (sl : Array (Option Value)) (x : Int) (u : Tok) (c0 : (decide (x < -(2 ^ 63)) || decide (x ≥ 2 ^ 63)) = false) (c1 : (items.isEmpty || x == 1) = true) :
    Meets (Builtin.«tuple.__mul__» ⟨[.ref l, .int x u], []⟩) (fun _ Q s => s.heap.get? l = some { cls := .type "tuple", dict := dd, data := .seq items n, slots := sl } ∧ Q (.ok (.ret (Value.ref l))) s) :=
  .of_wp fun prog w A Q s h => by
    obtain ⟨hp, g, d, tk, os⟩ := s
    obtain ⟨hl, h⟩ := h
    have f1 := AutoSeq1.idx_int
    wp_walk using wpAny_loadPart' hl
    repeat (first
      | (refine wpAny_ite_false (decide_eq_false (by rw [c0]; exact Bool.false_ne_true)) ?_; wp_walk using wpAny_loadPart' hl)
      | (refine wpAny_ite_true (decide_eq_true (by rw [c1])) ?_; wp_walk using wpAny_loadPart' hl))
    exact ⟨_, rfl, h⟩
theorem tuple_mulZ (l : Addr) (items : Array Value) (n : Nat) (dd : Option Addr) (sl : Array (Option Value)) (x : Int) (u : Tok) (c0 : (decide (x < -(2 ^ 63)) || decide (x ≥ 2 ^ 63)) = false) (c1 : (items.isEmpty || x == 1) = false) (c2 : (decide (x ≤ 0) || items.isEmpty) = true) :
    Meets (Builtin.«tuple.__mul__» ⟨[.ref l, .int x u], []⟩) (fun _ Q s => s.heap.get? l = some { cls := .type "tuple", dict := dd, data := .seq items n, slots := sl } ∧
      Q (.ok (.ret (Value.ref s.heap.objs.size))) { s with heap := s.heap.push { cls := Value.type "tuple", data := Data.seq #[] }, toks := s.toks }) :=
  .of_wp fun prog w A Q s h => by
    obtain ⟨hp, g, d, tk, os⟩ := s
    obtain ⟨hl, h⟩ := h
    have f1 := AutoSeq1.idx_int
    wp_walk using wpAny_loadPart' hl
    repeat (first
      | (refine wpAny_ite_false (decide_eq_false (by rw [c0]; exact Bool.false_ne_true)) ?_; wp_walk using wpAny_loadPart' hl)
      | (refine wpAny_ite_false (decide_eq_false (by rw [c1]; exact Bool.false_ne_true)) ?_; wp_walk using wpAny_loadPart' hl)
      | (refine wpAny_ite_true (decide_eq_true (by rw [c2])) ?_; wp_walk using wpAny_loadPart' hl))
    exact ⟨_, rfl, h⟩
def rRepS (K : PySem.W.Frag) : R2 := fun x y H Q => ∃ l k xs, x = .ref l ∧ y = .int k ∧ SqT K H l xs ∧ ((xs = [] ∨ k = 1) ∧ -1000000 ≤ k ∧ k ≤ 1000000) ∧ Q (.ref l) H
def rRepZ (K : PySem.W.Frag) : R2 := fun x y H Q => ∃ l k xs, x = .ref l ∧ y = .int k ∧ SqT K H l xs ∧ xs ≠ [] ∧ (-1000000 ≤ k ∧ k ≤ 0) ∧ ∀ p, H p = none → Q (.ref p) (upd H p (.tup []))
section
variable {X : Cx}
theorem op_repS : OpR X (binaryOp .Mult) (rRepS X.K) := by
  intro pins s σ H x y v u Q I rx ry h
  obtain ⟨l, k, xs, rfl, rfl, hT, ⟨hk, h1, h2⟩, q⟩ := h
  cases rx
  obtain ⟨t, rfl⟩ := ry
  obtain ⟨its, r, ⟨⟨cls, dd, data, sl⟩, ho, hc, n, hd⟩, hs⟩ := I.tuple hT
  simp only at hc hd
  subst hc hd
  have hle : its.length = xs.length := r.length.symm
  have c0 : (decide (k < -(2 ^ 63)) || decide (k ≥ 2 ^ 63)) = false := by
    rw [decide_eq_false (by omega), decide_eq_false (by omega)] <;> rfl
  have c1 : (its.toArray.isEmpty || k == 1) = true := by
    rcases hk with hk | hk
    · rw [hk] at hle
      rw [List.eq_nil_of_length_eq_zero hle]
      rfl
    · rw [hk]
      simp
  refine wpAny_binaryOp_repeat_ref (T := "tuple") (U := "int") (by decide) ⟨_, ho, rfl⟩ (fun s' => typeIs_int s' k t) noFill_tuple_mul F.fills_int_mul F.slot_int_rmul repeat_tuple F.slot_int_index.lookup
    (call_meets F.slot_int_rmul (typeIs_int s k t) F.entry_int_rmul (F.args_int_rmul_2 _ _) (int_rmul_tuple k t l its.toArray n dd sl)
      ⟨ho, rfl, ⟨_, ho, rfl⟩, call_meets F.slot_tuple_mul ⟨_, ho, rfl⟩ F.entry_tuple_mul (F.args_tuple_mul_2 _ _) (tuple_mulS l its.toArray n dd sl k t c0 c1) ⟨ho, ?_⟩⟩)
  exact ⟨.ref l, H, I, rfl, q⟩
theorem op_repZ : OpR X (binaryOp .Mult) (rRepZ X.K) := by
  intro pins s σ H x y v u Q I rx ry h
  obtain ⟨l, k, xs, rfl, rfl, hT, hne, ⟨h1, h2⟩, q⟩ := h
  cases rx
  obtain ⟨t, rfl⟩ := ry
  obtain ⟨its, r, ⟨⟨cls, dd, data, sl⟩, ho, hc, n, hd⟩, hs⟩ := I.tuple hT
  simp only at hc hd
  subst hc hd
  have hle : its.length = xs.length := r.length.symm
  have hn : its ≠ [] := fun e => hne (by
    rw [e] at hle
    exact List.eq_nil_of_length_eq_zero hle.symm)
  have hi : its.toArray.isEmpty = false := by
    cases its with
    | nil => exact absurd rfl hn
    | cons a b => rfl
  have c0 : (decide (k < -(2 ^ 63)) || decide (k ≥ 2 ^ 63)) = false := by
    rw [decide_eq_false (by omega), decide_eq_false (by omega)] <;> rfl
  have c1 : (its.toArray.isEmpty || k == 1) = false := by
    rw [hi, Bool.false_or]
    exact beq_eq_false_iff_ne.mpr (by omega)
  have c2 : (decide (k ≤ 0) || its.toArray.isEmpty) = true := by
    rw [hi, Bool.or_false]
    exact decide_eq_true (by omega)
  refine wpAny_binaryOp_repeat_ref (T := "tuple") (U := "int") (by decide) ⟨_, ho, rfl⟩ (fun s' => typeIs_int s' k t) noFill_tuple_mul F.fills_int_mul F.slot_int_rmul repeat_tuple F.slot_int_index.lookup
    (call_meets F.slot_int_rmul (typeIs_int s k t) F.entry_int_rmul (F.args_int_rmul_2 _ _) (int_rmul_tuple k t l its.toArray n dd sl)
      ⟨ho, rfl, ⟨_, ho, rfl⟩, call_meets F.slot_tuple_mul ⟨_, ho, rfl⟩ F.entry_tuple_mul (F.args_tuple_mul_2 _ _) (tuple_mulZ l its.toArray n dd sl k t c0 c1 c2) ⟨ho, ?_⟩⟩)
  refine ⟨.ref s.heap.objs.size, _, I.laid (t' := s.toks) (o := .tup []) (fun b ob q => Heap.get?_push_of_some _ q) (Nat.le_refl _) ?_, rfl, q _ (I.hok.fresh (Nat.le_refl _))⟩
  exact ⟨Nat.zero_le _, [], .nil, IsTup.new _ _⟩
end
theorem room65 {k : Nat} {A : Around} (r : Room k A) : A.units + 65 < cLine := by have := r.un; omega
/-- * of all sorts -/
def mulX : D → D → Res D
  | .tup a, .int k => if -1000000 ≤ k ∧ k ≤ 1000 ∧ a.length ≤ 1000 then .ok (.tup (List.replicate k.toNat a).flatten) else .bad
  | a, b => mulD a b
abbrev rMulX (K : PySem.W.Frag) : R2 := fun x y H Q => rMulD K x y H Q ∨ (rRepS K x y H Q ∨ rRepZ K x y H Q)
theorem or_mulX {X : Cx} : OpR X (binaryOp .Mult) (rMulX X.K) := or_mul.or (op_repS.or op_repZ)
theorem rep_nil {α : Type} : ∀ n : Nat, (List.replicate n ([] : List α)).flatten = []
  | 0 => rfl
  | n + 1 => by rw [List.replicate_succ, List.flatten_cons, rep_nil n]; rfl
theorem od_mulX {g : G} : OpD g (rMulX g.K) mulX := by
  intro Hs H v u a b Q s r1 r2 E w
  by_cases ht : (∃ l k, a = .tup l ∧ b = .int k)
  · obtain ⟨l, k, rfl, rfl⟩ := ht
    have w : Wk g E H (if -1000000 ≤ k ∧ k ≤ 1000 ∧ l.length ≤ 1000 then Res.ok (.tup (List.replicate k.toNat l).flatten) else .bad) (Lands g Hs H Q) := w
    obtain ⟨⟨h1, h2, h3⟩, L⟩ := wk_if w
    cases r1 with
    | tup h q =>
      cases r2 with
      | int k =>
        by_cases hl : l = []
        · subst hl
          refine .inr (.inl ⟨_, k, _, rfl, rfl, SameT s h, ⟨.inl (by cases q; rfl), h1, by omega⟩, ?_⟩)
          rw [rep_nil] at L
          exact L _ _ _ (Ext.refl s) (.tup h q)
        · have hv : ∀ vs : List V, Rs g Hs vs l → vs ≠ [] := fun vs q e => by
            rw [e] at q
            cases q
            exact hl rfl
          by_cases h4 : k = 1
          · subst h4
            refine .inr (.inl ⟨_, 1, _, rfl, rfl, SameT s h, ⟨.inr rfl, h1, by omega⟩, ?_⟩)
            have e : (List.replicate (1 : Int).toNat l).flatten = l := by simp
            rw [e] at L
            exact L _ _ _ (Ext.refl s) (.tup h q)
          · by_cases h5 : k ≤ 0
            · refine .inr (.inr ⟨_, k, _, rfl, rfl, SameT s h, hv _ q, ⟨h1, h5⟩, fun p np => ?_⟩)
              have e : k.toNat = 0 := by omega
              rw [e] at L
              exact lands_new L s np (.tup (.inl (.inl upd_same)) .nil)
            · refine .inl (.inr (.inr ⟨_, k, _, rfl, rfl, SameT s h, hv _ q, by omega, h2, by rw [q.length]; exact h3, fun p np => ?_⟩))
              exact lands_new L s np (.tup (.inl (.inl upd_same)) ((q.rep _).mono (same_upd (s.free np))))
  · have e : mulX a b = mulD a b := by
      unfold mulX
      split
      · rename_i l k
        exact absurd ⟨l, k, rfl, rfl⟩ ht
      · rfl
    rw [e] at w
    exact .inl (od_mul Hs H v u a b Q s r1 r2 E w)
@[simp] theorem z_mul {i j : Int} : mulX (.int i) (.int j) = if mulOk i j = true then .ok (.int (i * j)) else .bad := rfl
@[simp] theorem z_mul_l {a : List D} {i : Int} : mulX (.lst a) (.int i) = if 0 ≤ i ∧ i ≤ 1000 ∧ a.length ≤ 1000 then .ok (.lst (List.replicate i.toNat a).flatten) else .bad := rfl
@[simp] theorem z_mul_t {a : List D} {i : Int} : mulX (.tup a) (.int i) = if -1000000 ≤ i ∧ i ≤ 1000 ∧ a.length ≤ 1000 then .ok (.tup (List.replicate i.toNat a).flatten) else .bad := rfl
end PL

set_option Elab.async false
set_option linter.all false
set_option maxRecDepth 100000
set_option maxHeartbeats 1000000
namespace PL
open PySem PySem.Spec PyProof.Rows L2

/-! ### what is not reached -/
def sBad : Env → Res Fl := fun _ => .bad
theorem ss_bad {X : Cx} {g : G} {E : XK} {B Hs0 : Hp} {st : Stmt} : PS X st (SR g E B Hs0 sBad) := ⟨fun _ _ _ _ _ _ w => by
  obtain ⟨_, _, _, w⟩ := w
  exact absurd rfl w.bad⟩
@[simp] theorem x_sBad {env : Env} : sBad env = .bad := rfl

/-! ### the class Cutting -/
structure CutC (g : G) : Prop where
  cls : Cls g.K g.cC
  w : NoAttr g.K g.cC "wide"
  r : NoAttr g.K g.cC "rows"
def wideD : D → Res D
  | .cut n _ => .ok (.int n)
  | _ => .bad
def rowsD : D → Res D
  | .cut _ l => .ok (.tup l)
  | _ => .bad
@[simp] theorem y_wide {n : Int} {l : List D} : wideD (.cut n l) = .ok (.int n) := rfl
@[simp] theorem y_rows {n : Int} {l : List D} : rowsD (.cut n l) = .ok (.tup l) := rfl
section
variable {X : Cx} {g : G} {E : XK} {o e : Expr} {es : List Expr} {pos apos p : Pos} {f : BEnv → Res D} {fs : BEnv → Res (List D)}
theorem se_wide (c : CutC g) (hK : X.K = g.K) (he : PE X o (ER g E f)) (hb : attributeBase o "wide" X.env (eval o X.env) = eval o X.env := by rfl) : PE X (.Attribute o "wide" pos) (ER g E (e1 wideD f)) :=
  PE_mono (pe_fld he hb) fun σ H Q w => by
    refine one (r := fun x H1 Q => ∃ a C dx fs v, x = .ref a ∧ H1 a = some (.ins C dx fs) ∧ Cls X.K C ∧ NoAttr X.K C "wide" ∧ fs.lookup ("wide" : Str) = some v ∧ Q v H1) (fun Hs H v d Q s r E w => ?_) w
    cases r with
    | cut h k q => exact ⟨_, _, _, _, _, rfl, s _ _ h, hK ▸ c.cls, hK ▸ c.w, rfl, w.is_ok _ _ _ (Ext.refl s) (.int _)⟩
    | _ => exact absurd rfl w.bad
theorem se_rows (c : CutC g) (hK : X.K = g.K) (he : PE X o (ER g E f)) (hb : attributeBase o "rows" X.env (eval o X.env) = eval o X.env := by rfl) : PE X (.Attribute o "rows" pos) (ER g E (e1 rowsD f)) :=
  PE_mono (pe_fld he hb) fun σ H Q w => by
    refine one (r := fun x H1 Q => ∃ a C dx fs v, x = .ref a ∧ H1 a = some (.ins C dx fs) ∧ Cls X.K C ∧ NoAttr X.K C "rows" ∧ fs.lookup ("rows" : Str) = some v ∧ Q v H1) (fun Hs H v d Q s r E w => ?_) w
    cases r with
    | cut h k q => exact ⟨_, _, _, _, _, rfl, s _ _ h, hK ▸ c.cls, hK ▸ c.r, rfl, w.is_ok _ _ _ (Ext.refl s) (.tup k q)⟩
    | _ => exact absurd rfl w.bad

/-- a method's def -/
structure FnM (P : Program) (w : World) (base : Heap) (g : G) (m : Str) (n k : Nat) (den : List D → Res Cell) : Prop where
  ar : ∀ ds, den ds ≠ .bad → ds.length = n
  no : m ≠ "wide" ∧ m ≠ "rows"
  ex : ∃ f fd ps, ps.length = n ∧ Meth g.K g.cC m f ∧ Binds g.K fd ps [] ∧ FnOk P w g.K g.mg base (L2.CX P w) k f fd ps (spD g n den)
theorem FnM.mono {P : Program} {w : World} {base : Heap} {g : G} {m : Str} {n k k' : Nat} {den : List D → Res Cell} (F : FnM P w base g m n k den) (h : k ≤ k') : FnM P w base g m n k' den := by
  obtain ⟨f, fd, ps, hn, a, b, d⟩ := F.ex
  exact ⟨F.ar, F.no, f, fd, ps, hn, a, b, d.mono h⟩
def cutOf : D → Res (Int × List D)
  | .cut n l => .ok (n, l)
  | _ => .bad
def eMeth (den : List D → Res Cell) (f : BEnv → Res D) (fs : BEnv → Res (List D)) : BEnv → Res D := fun env => f env >>= fun d => cutOf d >>= fun nl => fs env >>= fun ds => den (.cut nl.1 nl.2 :: ds) >>= fun c => .ok c.toD
def oMeth (den : List D → Res Cell) (f : BEnv → Res D) (fs : BEnv → Res (List D)) : BEnv → Res (List D) := fun env => f env >>= fun d => cutOf d >>= fun nl => fs env >>= fun ds => den (.cut nl.1 nl.2 :: ds) >>= ownOnly
@[simp] theorem x_eMeth {den : List D → Res Cell} {env : BEnv} : eMeth den f fs env = (f env >>= fun d => cutOf d >>= fun nl => fs env >>= fun ds => den (.cut nl.1 nl.2 :: ds) >>= fun c => .ok c.toD) := rfl
@[simp] theorem x_oMeth {den : List D → Res Cell} {env : BEnv} : oMeth den f fs env = (f env >>= fun d => cutOf d >>= fun nl => fs env >>= fun ds => den (.cut nl.1 nl.2 :: ds) >>= ownOnly) := rfl
@[simp] theorem x_cutOf {n : Int} {l : List D} : cutOf (.cut n l) = .ok (n, l) := rfl
variable {P : Program} {w : World} {base : Heap} {m : Str} {n k : Nat} {den : List D → Res Cell} {pl : Sem Bool}
theorem look_cut {t : Addr} {n : Int} (no : m ≠ "wide" ∧ m ≠ "rows") : ([("wide", V.int n), ("rows", V.ref t)] : List (Str × V)).lookup m = none := by
  have e1 : (m == ("wide" : Str)) = false := by simpa using no.1
  have e2 : (m == ("rows" : Str)) = false := by simpa using no.2
  simp [List.lookup, e1, e2]
/-- a method called in a try's body: what it lets out comes at the slots that stand -/
def tMethS (C : Addr) (m : Str) (sp : Sp) (E : L2.St → XK) (ta : TE) (t : TA) : TE := fun σ H Q => ta σ H fun x H1 => ∃ a dx fs, x = .ref a ∧ H1 a = some (.ins C dx fs) ∧ fs.lookup m = none ∧
  t σ H1 fun vs H2 => sp (x :: vs) H2 Q (E σ)
theorem pe_methS {X : Cx} {CX : CXT} {k : Nat} {fa C : Addr} {fd : FuncData} {ps : List Str} {sp : Sp} {E : L2.St → XK} {m : Str} {pos apos : Pos} {e o : Expr} {es : List Expr} {ta : TE} {t : TA} {pl : Sem Bool} (he : PE X o ta) (c : Cls X.K C) (hm : Meth X.K C m fa) (F : FnOk X.prog X.w X.K X.mg X.base CX k fa fd ps sp) (hr : Room k X.A) (hb : Binds X.K fd ps []) (hx : ∀ σ, PassesAt CX X σ (E σ)) (ha : PA X (e :: es) t)
    (hst : starEach (e :: es) X.env = (false, eval e X.env) :: starEach es X.env := by rfl) (hpl : (backTo pos (starEach es X.env)).any (·.1) = false := by rfl)
    (ht : eval (.Call (.Attribute o m apos) (e :: es) [] pos) X.env = (do
      let ov ← eval o X.env
      standAt apos.atName
      let (f, first) ← holding [ov] (getMethod ov m pl)
      callWith pos f first (backTo pos (starEach (e :: es) X.env)) (backToKw pos (keywordEach [] X.env))) := by rfl) :
    PE X (.Call (.Attribute o m apos) (e :: es) [] pos) (tMethS C m sp E ta t) := by
  refine ⟨fun pins s σ H Q I h => ?_⟩
  refine PySem.W.methodCall_KW (pl := pl) (thn (he.run pins s σ H _ I h) fun u s1 ⟨x, H1, I1, rx, a, dx, fs, ex, ea, l, q⟩ => ?_) ht
  subst ex
  obtain rfl : u = Value.ref a := rx
  refine getmeth_ok I1 ea c hm l ?_
  refine PySem.W.callWith_K (first := [.ref a]) (h₀ := X.base) I.ok.mod.kin hm.kp (thn (ha.run pos pins s1 σ H1 _ I1 q) fun us s2 ⟨vs, H2, I2, r, q2⟩ => ⟨I2.kIn, ?_⟩) hst hpl
  exact run_fnS (us := .ref a :: us) (vs := .ref a :: vs) F hr hb (hx σ) I2 (.cons rfl r) q2
variable {W : WX}
def eMethM (den : List D → Res Cell) (f : BEnv → Res D) (fs : BEnv → Res (List D)) : BEnv → Res D := fun env => must (f env) fun d => cutOf d >>= fun nl => must (fs env) fun ds => den (.cut nl.1 nl.2 :: ds) >>= fun c => .ok c.toD
@[simp] theorem x_eMethM {den : List D → Res Cell} {env : BEnv} : eMethM den f fs env = must (f env) fun d => cutOf d >>= fun nl => must (fs env) fun ds => den (.cut nl.1 nl.2 :: ds) >>= fun c => .ok c.toD := rfl
theorem cut_end {Hs Hs1 Hs2 H H1 H2 : Hp} {ds : List D} {vs : List V} {v : V} {nn : Int} {ll : List D} {Q : VK} {E : XK} (ar : ∀ ds, den ds ≠ .bad → ds.length = n) (x1 : Ext Hs H Hs1 H1) (x2 : Ext Hs1 H1 Hs2 H2) (r1 : R g Hs1 v (.cut nn ll)) (r2 : Rs g Hs2 vs ds) (w : Wk g E H (den (.cut nn ll :: ds) >>= fun c => Res.ok c.toD) (Lands g Hs H Q)) : spD g n den (v :: (vs ++ [])) H2 Q E := by
  rw [List.append_nil]
  refine ⟨Hs2, .cut nn ll :: ds, x2.sub, .cons (r1.mono x2.up) r2, ?_, w.bind.mono (x1.same.trans x2.same) fun c wc v H' rt => ?_⟩
  · refine ar _ fun z => w.bad ?_
    rw [z]; rfl
  · obtain ⟨Hs', x', r'⟩ := rt.toD
    exact wc.is_ok v H' Hs' (x1.trans (x2.trans x')) r'
theorem cut_endO {Hs Hs1 Hs2 H H1 H2 : Hp} {ds : List D} {vs : List V} {v : V} {nn : Int} {ll : List D} {Q : VK} {E : XK} (ar : ∀ ds, den ds ≠ .bad → ds.length = n) (x1 : Ext Hs H Hs1 H1) (x2 : Ext Hs1 H1 Hs2 H2) (r1 : R g Hs1 v (.cut nn ll)) (r2 : Rs g Hs2 vs ds) (w : Wk g E H (den (.cut nn ll :: ds) >>= ownOnly) (LandsO g Hs H Q)) : spD g n den (v :: (vs ++ [])) H2 Q E := by
  rw [List.append_nil]
  refine ⟨Hs2, .cut nn ll :: ds, x2.sub, .cons (r1.mono x2.up) r2, ?_, w.bind.mono (x1.same.trans x2.same) fun c wc v H' rt => ?_⟩
  · refine ar _ fun z => w.bad ?_
    rw [z]; rfl
  · cases c with
    | val d => exact absurd rfl wc.bad
    | own l =>
      obtain ⟨b, us, Hs', rfl, x', q1, q2, q3, q4⟩ := rt
      exact wc.is_ok b us H' Hs' (x1.trans (x2.trans x')) ((x1.trans x2).same.free q2) q1 q3 q4
theorem se_meth (F : FnM X.prog X.w X.base g m n k den) (c : CutC g) (hK : X.K = g.K) (hM : X.mg = g.mg) (hr : Room k X.A) (hx : Passes (L2.CX X.prog X.w) X E) (ho : PE X o (ER g E f)) (ha : PA X (e :: es) (AR g E fs))
    (hst : starEach (e :: es) X.env = (false, eval e X.env) :: starEach es X.env := by rfl) (hpl : (backTo pos (starEach es X.env)).any (·.1) = false := by rfl)
    (ht : eval (.Call (.Attribute o m apos) (e :: es) [] pos) X.env = (do
      let ov ← eval o X.env
      standAt apos.atName
      let (f, first) ← holding [ov] (getMethod ov m pl)
      callWith pos f first (backTo pos (starEach (e :: es) X.env)) (backToKw pos (keywordEach [] X.env))) := by rfl) :
    PE X (.Call (.Attribute o m apos) (e :: es) [] pos) (ER g E (eMeth den f fs)) := by
  obtain ⟨fa, fd, ps, hn, h1, h3, h4⟩ := F.ex
  rw [← hK] at h1 h3 h4
  rw [← hM] at h4
  refine PE_mono (pe_meth ho (by rw [hK]; exact c.cls) h1 h4 hr h3 .nil hx ha hst hpl ht) fun σ H Q w => ?_
  obtain ⟨Hs, env, s, rr, w⟩ := w
  refine ⟨Hs, env, s, rr, w.bind.mono (Same.refl _) fun d wd v H1 Hs1 x1 r1 => ?_⟩
  cases r1 with
  | cut h k' q =>
    refine ⟨_, _, _, rfl, x1.sub _ _ h, look_cut F.no, ?_⟩
    refine ⟨Hs1, env, x1.sub, rr.mono x1.up, (Wk.bind (show Wk g E H (fs env >>= _) _ from wd)).mono x1.same fun ds wds vs H2 Hs2 x2 r2 => ?_⟩
    exact cut_end F.ar x1 x2 (.cut h k' q) r2 wds
  | _ => exact absurd rfl wd.bad
theorem eo_meth (F : FnM X.prog X.w X.base g m n k den) (c : CutC g) (hK : X.K = g.K) (hM : X.mg = g.mg) (hr : Room k X.A) (hx : Passes (L2.CX X.prog X.w) X E) (ho : PE X o (ER g E f)) (ha : PA X (e :: es) (AR g E fs))
    (hst : starEach (e :: es) X.env = (false, eval e X.env) :: starEach es X.env := by rfl) (hpl : (backTo pos (starEach es X.env)).any (·.1) = false := by rfl)
    (ht : eval (.Call (.Attribute o m apos) (e :: es) [] pos) X.env = (do
      let ov ← eval o X.env
      standAt apos.atName
      let (f, first) ← holding [ov] (getMethod ov m pl)
      callWith pos f first (backTo pos (starEach (e :: es) X.env)) (backToKw pos (keywordEach [] X.env))) := by rfl) :
    PE X (.Call (.Attribute o m apos) (e :: es) [] pos) (EO g E (oMeth den f fs)) := by
  obtain ⟨fa, fd, ps, hn, h1, h3, h4⟩ := F.ex
  rw [← hK] at h1 h3 h4
  rw [← hM] at h4
  refine PE_mono (pe_meth ho (by rw [hK]; exact c.cls) h1 h4 hr h3 .nil hx ha hst hpl ht) fun σ H Q w => ?_
  obtain ⟨Hs, env, s, rr, w⟩ := w
  refine ⟨Hs, env, s, rr, w.bind.mono (Same.refl _) fun d wd v H1 Hs1 x1 r1 => ?_⟩
  cases r1 with
  | cut h k' q =>
    refine ⟨_, _, _, rfl, x1.sub _ _ h, look_cut F.no, ?_⟩
    refine ⟨Hs1, env, x1.sub, rr.mono x1.up, (Wk.bind (show Wk g E H (fs env >>= _) _ from wd)).mono x1.same fun ds wds vs H2 Hs2 x2 r2 => ?_⟩
    exact cut_endO F.ar x1 x2 (.cut h k' q) r2 wds
  | _ => exact absurd rfl wd.bad
theorem se_meth0 (F : FnM X.prog X.w X.base g m n k den) (c : CutC g) (hK : X.K = g.K) (hM : X.mg = g.mg) (hr : Room k X.A) (hx : Passes (L2.CX X.prog X.w) X E) (ho : PE X o (ER g E f)) (ht : eval (.Call (.Attribute o m apos) [] [] pos) X.env = (do
      let ov ← eval o X.env
      standAt apos.atName
      let (f, first) ← holding [ov] (getMethod ov m pl)
      callWith pos f first (backTo pos (starEach [] X.env)) (backToKw pos (keywordEach [] X.env))) := by rfl) :
    PE X (.Call (.Attribute o m apos) [] [] pos) (ER g E (eMeth den f aNil)) := by
  obtain ⟨fa, fd, ps, hn, h1, h3, h4⟩ := F.ex
  rw [← hK] at h1 h3 h4
  rw [← hM] at h4
  refine PE_mono (pe_meth0 ho (by rw [hK]; exact c.cls) h1 h4 hr h3 .nil hx ht) fun σ H Q w => ?_
  obtain ⟨Hs, env, s, rr, w⟩ := w
  refine ⟨Hs, env, s, rr, w.bind.mono (Same.refl _) fun d wd v H1 Hs1 x1 r1 => ?_⟩
  cases r1 with
  | cut h k' q =>
    refine ⟨_, _, _, rfl, x1.sub _ _ h, look_cut F.no, ?_⟩
    exact cut_end F.ar x1 (Ext.refl x1.sub) (.cut h k' q) .nil wd
  | _ => exact absurd rfl wd.bad
theorem eo_meth0 (F : FnM X.prog X.w X.base g m n k den) (c : CutC g) (hK : X.K = g.K) (hM : X.mg = g.mg) (hr : Room k X.A) (hx : Passes (L2.CX X.prog X.w) X E) (ho : PE X o (ER g E f)) (ht : eval (.Call (.Attribute o m apos) [] [] pos) X.env = (do
      let ov ← eval o X.env
      standAt apos.atName
      let (f, first) ← holding [ov] (getMethod ov m pl)
      callWith pos f first (backTo pos (starEach [] X.env)) (backToKw pos (keywordEach [] X.env))) := by rfl) :
    PE X (.Call (.Attribute o m apos) [] [] pos) (EO g E (oMeth den f aNil)) := by
  obtain ⟨fa, fd, ps, hn, h1, h3, h4⟩ := F.ex
  rw [← hK] at h1 h3 h4
  rw [← hM] at h4
  refine PE_mono (pe_meth0 ho (by rw [hK]; exact c.cls) h1 h4 hr h3 .nil hx ht) fun σ H Q w => ?_
  obtain ⟨Hs, env, s, rr, w⟩ := w
  refine ⟨Hs, env, s, rr, w.bind.mono (Same.refl _) fun d wd v H1 Hs1 x1 r1 => ?_⟩
  cases r1 with
  | cut h k' q =>
    refine ⟨_, _, _, rfl, x1.sub _ _ h, look_cut F.no, ?_⟩
    exact cut_endO F.ar x1 (Ext.refl x1.sub) (.cut h k' q) .nil wd
  | _ => exact absurd rfl wd.bad
theorem bw_meth (F : FnM X.prog X.w X.base g m n k den) (c : CutC g) (hK : X.K = g.K) (hM : X.mg = g.mg) (hr : Room k X.A) (tk : Takes X W) (ho : PE X o (ER g EN f)) (ha : PA X (e :: es) (AR g EN fs))
    (hst : starEach (e :: es) X.env = (false, eval e X.env) :: starEach es X.env := by rfl) (hpl : (backTo pos (starEach es X.env)).any (·.1) = false := by rfl)
    (ht : eval (.Call (.Attribute o m apos) (e :: es) [] pos) X.env = (do
      let ov ← eval o X.env
      standAt apos.atName
      let (f, first) ← holding [ov] (getMethod ov m pl)
      callWith pos f first (backTo pos (starEach (e :: es) X.env)) (backToKw pos (keywordEach [] X.env))) := by rfl) :
    PE X (.Call (.Attribute o m apos) (e :: es) [] pos) (ERW g W (eMethM den f fs)) := by
  obtain ⟨fa, fd, ps, hn, h1, h3, h4⟩ := F.ex
  rw [← hK] at h1 h3 h4
  rw [← hM] at h4
  refine PE_mono (pe_methS (E := WE W) ho (by rw [hK]; exact c.cls) h1 h4 hr h3 (passAt tk) ha hst hpl ht) fun σ H Q w => ?_
  obtain ⟨Hs, env, s, rr, w⟩ := w
  obtain ⟨d, hd, w⟩ := must_wk w
  refine ⟨Hs, env, s, rr, .of_ne hd fun v H1 Hs1 x1 r1 => ?_⟩
  cases r1 with
  | cut h k' q =>
    refine ⟨_, _, _, rfl, x1.sub _ _ h, look_cut F.no, ?_⟩
    obtain ⟨ds, hds, w⟩ := must_wk w
    refine ⟨Hs1, env, x1.sub, rr.mono x1.up, .of_ne hds fun vs H2 Hs2 x2 r2 => ?_⟩
    have := cut_end (Q := Q) (E := WE W σ) F.ar x1 x2 (.cut h k' q) r2 w
    rwa [List.append_nil] at this
  | _ => exact absurd rfl w.bad
end

/-! ### Cutting(..) -/
def spInit (g : G) (den : List D → Res D) : Sp := fun vs H Q E => ∃ (x dx : Addr) (vs' : List V) (Hs H0 : Hp) (ds : List D), vs = .ref x :: vs' ∧ H = upd (upd H0 dx (.own x)) x (.ins g.cC dx []) ∧ H0 x = none ∧ H0 dx = none ∧ dx ≠ x ∧ Same Hs H0 ∧ Rs g Hs vs' ds ∧ ds.length = 2 ∧
  Wk g E H0 (den ds) (fun d => ∀ H' Hs', Ext Hs H0 Hs' H' → R g Hs' (.ref x) d → Q .non H')
structure MkF (P : Program) (w : World) (base : Heap) (g : G) (k : Nat) (den : List D → Res D) : Prop where
  hm : g.mg "Cutting" = some (.ref g.cC)
  c : CutC g
  ex : ∃ f fd ps, Mk g.K g.cC f ∧ Binds g.K fd ps [] ∧ FnOk P w g.K g.mg base (L2.CX P w) k f fd ps (spInit g den)
section
variable {X : Cx} {g : G} {E : XK} {e e2 : Expr} {pos p : Pos} {fs : BEnv → Res (List D)} {k : Nat} {den : List D → Res D} {W : WX}
theorem make_end {Hs H : Hp} {ds : List D} {vs : List V} {Q : VK} {E : XK} (hl : ds.length = 2) (s : Same Hs H) (r : Rs g Hs vs ds) {P : D → Prop} (w : Wk g E H (den ds) P) (hP : ∀ d, P d → ∀ x H' Hs', Ext Hs H Hs' H' → R g Hs' (.ref x) d → Q (.ref x) H') :
    ∀ x dx, H x = none → H dx = none → dx ≠ x → spInit g den (.ref x :: (vs ++ [])) (upd (upd H dx (.own x)) x (.ins g.cC dx [])) (fun v H2 => v = .non ∧ Q (.ref x) H2) E := fun x dx h1 h2 h3 => by
  rw [List.append_nil]
  exact ⟨x, dx, vs, Hs, H, ds, rfl, rfl, h1, h2, h3, s, r, hl, w.mono (Same.refl _) fun d pd H' Hs' x' r' => ⟨rfl, hP d pd _ H' Hs' x' r'⟩⟩
def eMake (den : List D → Res D) (fs : BEnv → Res (List D)) : BEnv → Res D := fun env => fs env >>= fun ds => if ds.length = 2 then den ds else .bad
def eMakeM (den : List D → Res D) (fs : BEnv → Res (List D)) : BEnv → Res D := fun env => must (fs env) fun ds => if ds.length = 2 then den ds else .bad
@[simp] theorem x_eMake {env : BEnv} : eMake den fs env = (fs env >>= fun ds => if ds.length = 2 then den ds else .bad) := rfl
@[simp] theorem x_eMakeM {env : BEnv} : eMakeM den fs env = must (fs env) fun ds => if ds.length = 2 then den ds else .bad := rfl
theorem se_make (F : MkF X.prog X.w X.base g k den) (hK : X.K = g.K) (hM : X.mg = g.mg) (hr : Room (k + 1) X.A) (hx : Passes (L2.CX X.prog X.w) X E) (hg : Gl X "Cutting") (ha : PA X [e, e2] (AR g E fs))
    (he : starEach [e, e2] X.env = (false, eval e X.env) :: starEach [e2] X.env := by rfl) (hpl : (backTo pos (starEach [e2] X.env)).any (·.1) = false := by rfl) : PE X (.Call (.Name "Cutting" p) [e, e2] [] pos) (ER g E (eMake den fs)) := by
  obtain ⟨f, fd, ps, h1, h3, h4⟩ := F.ex
  rw [← hK] at h1 h3 h4
  rw [← hM] at h4
  refine PE_mono (pe_make h1 h4 hr hg (by rw [hM]; exact F.hm) h3 .nil hx ha (by decide) he hpl) fun σ H Q w => ?_
  obtain ⟨Hs, env, s, rr, w⟩ := w
  refine ⟨Hs, env, s, rr, w.bind.mono (Same.refl _) fun ds wd vs H1 Hs1 x1 r1 => ?_⟩
  by_cases hl : ds.length = 2
  · rw [if_pos hl] at wd
    exact make_end hl x1.sub r1 (wd.mono x1.same fun _ h => h) fun d pd x H' Hs' x' r' => pd _ H' Hs' (x1.trans x') r'
  · rw [if_neg hl] at wd; exact absurd rfl wd.bad
/-- in a try's body -/
theorem bw_make (F : MkF X.prog X.w X.base g k den) (hK : X.K = g.K) (hM : X.mg = g.mg) (hr : Room (k + 1) X.A) (tk : Takes X W) (hg : Gl X "Cutting") (ha : PA X [e, e2] (AR g EN fs))
    (he : starEach [e, e2] X.env = (false, eval e X.env) :: starEach [e2] X.env := by rfl) (hpl : (backTo pos (starEach [e2] X.env)).any (·.1) = false := by rfl) : PE X (.Call (.Name "Cutting" p) [e, e2] [] pos) (ERW g W (eMakeM den fs)) := by
  obtain ⟨f, fd, ps, h1, h3, h4⟩ := F.ex
  rw [← hK] at h1 h3 h4
  rw [← hM] at h4
  refine ⟨fun pins s σ H Q I w => ?_⟩
  obtain ⟨Hs, env, sm, rr, w⟩ := w
  obtain ⟨ds, hds, w⟩ := must_wk w
  refine wpAny_Call_Name_kw (ld_glob I hg (by rw [hM]; exact F.hm) ?_ (by decide))
  refine PySem.W.callWith_K (h₀ := X.base) I.ok.mod.kin h1.kp (thn (ha.run pos pins s σ H (fun vs H1 => ∀ x dx, H1 x = none → H1 dx = none → dx ≠ x → spInit g den (.ref x :: (vs ++ [])) (upd (upd H1 dx (.own x)) x (.ins g.cC dx [])) (fun v H2 => v = .non ∧ Q (.ref x) H2) (WE W σ)) I ?_) fun us s1 ⟨vs, H1, I1, r, q⟩ => ⟨I1.kIn, ?_⟩) he hpl
  · refine ⟨Hs, env, sm, rr, .of_ne hds fun vs H1 Hs1 x1 r1 => ?_⟩
    by_cases hl : ds.length = 2
    · rw [if_pos hl] at w
      exact make_end hl x1.sub r1 (w.mono x1.same fun _ h => h) fun d pd x H' Hs' x' r' => pd _ H' Hs' (x1.trans x') r'
    · rw [if_neg hl] at w; exact absurd rfl w.bad
  · have hr' := hr
    have hq := q (s1.heap.objs.size + 1) s1.heap.objs.size (I1.hok.fresh (Nat.le_succ _)) (I1.hok.fresh (Nat.le_refl _)) (Nat.ne_of_lt (Nat.lt_succ_self _))
    have I2 := Inv.made (C := g.cC) I1
    have r2 : Vals (V.ref (s1.heap.objs.size + 1) :: (vs ++ [])) (Value.ref (s1.heap.objs.size + 1) :: us) := .cons rfl (by rw [List.append_nil]; exact r)
    have hl : (Value.ref (s1.heap.objs.size + 1) :: us ++ ([] : List Value)).length = ps.length := by
      have e := r2.length
      rw [h4.len _ _ _ _ hq] at e
      rw [List.append_nil]
      exact e.symm
    refine wpAny_call (make_map (f := f) I1.kIn h1.makes h1.init (beq_iff_eq.mp h1.fn) (codeAny_mono (h4.run _ X.stack _ _ ⟨Value.ref (s1.heap.objs.size + 1) :: us, []⟩ (Value.ref (s1.heap.objs.size + 1) :: us) _ _ (WE W σ) (hr.make g.cC us [])
      (I2.env0.make g.cC us []) (by have := h3 _ (Value.ref (s1.heap.objs.size + 1) :: us) I2.kIn hl; rwa [List.append_nil] at this) r2 hq) fun r s' hq' => ?_))
    cases r with
    | error e => exact passAt tk σ pins _ _ e s' I2 hq'
    | ok fl =>
      cases fl with
      | ret u =>
        obtain ⟨v, H', I3, rv, ev, q3⟩ := I2.after hq'
        subst ev
        exact ⟨rv, ⟨V.ref (s1.heap.objs.size + 1), H', I3, rfl, q3⟩⟩
      | next => exact False.elim hq'
      | brk => exact False.elim hq'
      | cont => exact False.elim hq'
end
/-! ### its __init__ -/
def mkCut : D → D → Res D
  | .int n, .lst l => .ok (.cut n l)
  | _, _ => .bad
def initD (chk : List D → Res Cell) : List D → Res D
  | [a, b] => chk [a, b] >>= fun _ => mkCut a b
  | _ => .bad
theorem x_initD {chk : List D → Res Cell} {a b : D} : initD chk [a, b] = (chk [a, b] >>= fun _ => mkCut a b) := rfl
@[simp] theorem x_mkCut {n : Int} {l : List D} : mkCut (.int n) (.lst l) = .ok (.cut n l) := rfl
abbrev tInit (g : G) (E : XK) (chk : List D → Res Cell) : TS := tSeq (tDrop (ER g E (eFn chk (aCons (eVar 1) (aCons (eVar 2) aNil))))) (tSeq (sFld g.K (tVar 0) (tVar 1) "wide") (sFld g.K (tVar 0) (ER g E (eCall tupleD (aCons (eVar 2) aNil))) "rows"))
theorem init_read {g : G} {H : Hp} {vs : List V} {Q : VK} {E : XK} {chk : List D → Res Cell} (c : CutC g) (h : spInit g (initD chk) vs H Q E) :
    tInit g E chk { nx := fun _ H' => Q .non H', rt := Q } (L2.start ["self", "dims", "cuts"] vs) H := by
  obtain ⟨x, dx, vs', Hs, H0, ds, rfl, rfl, nx, ndx, ne, s, r, hl, w⟩ := h
  match ds, hl with
  | [d1, d2], _ =>
  obtain ⟨⟩ | ⟨r1, r⟩ := r
  obtain ⟨⟩ | ⟨r2, r⟩ := r
  cases r
  rename_i v1 v2
  have s01 : Same H0 (upd (upd H0 dx (.own x)) x (.ins g.cC dx [])) := fun b o e => by
    rw [upd_ne (ne_of_none e nx), upd_ne (ne_of_none e ndx)]
    exact e
  have er : EnvR g Hs (L2.start ["self", "dims", "cuts"] [.ref x, v1, v2]) [none, some d1, some d2] := ⟨rfl, fun i d e => by
    match i, e with
    | 1, e => cases e; exact ⟨_, rfl, r1⟩
    | 2, e => cases e; exact ⟨_, rfl, r2⟩⟩
  refine ⟨Hs, [none, some d1, some d2], s.trans s01, er, ?_⟩
  have ef : eFn chk (aCons (eVar 1) (aCons (eVar 2) aNil)) [none, some d1, some d2] = (chk [d1, d2] >>= fun c => .ok c.toD) := rfl
  rw [ef]
  have w : Wk g E H0 (chk [d1, d2] >>= fun _ => mkCut d1 d2) _ := w
  cases hq : chk [d1, d2] with
  | bad => rw [hq] at w; exact absurd rfl w.bad
  | exc k y =>
    rw [hq] at w
    refine Wk.mk (fun _ e => nomatch e) (fun k' y' e C o H' sm ex => ?_) (fun e => nomatch e)
    cases e
    exact w.exc _ _ rfl C o H' (s01.trans sm) ex
  | ok cc =>
    rw [hq] at w
    have w : Wk g E H0 (mkCut d1 d2) _ := w
    refine .of_ok fun v H2 Hs2 x2 _ => ?_
    cases r1 with
    | int n =>
      cases r2 with
      | @lst a us l hh rr =>
        have hx1 : (upd (upd H0 dx (HO.own x)) x (HO.ins g.cC dx [])) x = some (.ins g.cC dx []) := upd_same
        have hx2 := x2.same _ _ hx1
        have n2 : Hs2 x = none := by
          cases q : Hs2 x with
          | none => rfl
          | some o =>
            rcases x2.new x o q with z | z
            · have := s _ _ z; rw [nx] at this; cases this
            · rw [hx1] at z; cases z
        refine ⟨.int n, rfl, .ref x, rfl, x, g.cC, dx, [], rfl, hx2, c.cls, c.w, by decide, ?_⟩
        have s23 : Same Hs2 (upd H2 x (.ins g.cC dx (putF "wide" (.int n) []))) := fun b o e => by
          rw [upd_ne (ne_of_none e n2)]
          exact x2.sub _ _ e
        have er2 := er.mono x2.up
        refine ⟨Hs2, [none, some (.int n), some (.lst l)], s23, er2, .of_ne (a := .tup l) rfl fun v4 H4 Hs4 x4 r4 => ?_⟩
        have hx4 := x4.same x _ upd_same
        cases r4 with
        | @tup t ws _ kk qq =>
          refine ⟨.ref x, rfl, x, g.cC, dx, _, rfl, hx4, c.cls, c.r, (by show 1 < 1000; decide), ?_⟩
          have n4 : Hs4 x = none := by
            cases q : Hs4 x with
            | none => rfl
            | some o =>
              rcases x4.new x o q with z | z
              · rw [n2] at z; cases z
              · rw [upd_same] at z; cases z
          have u4 : Same Hs4 (upd Hs4 x (.ins g.cC dx [("wide", .int n), ("rows", .ref t)])) := same_upd n4
          refine w.is_ok _ (upd Hs4 x (.ins g.cC dx [("wide", .int n), ("rows", .ref t)])) ⟨fun b o e => ?_, fun b o e => ?_, sameUpd2 x4.sub, fun b o e => ?_⟩ (.cut upd_same (SameT u4 kk) (qq.mono u4))
          · have nb := ne_of_none e nx
            rw [upd_ne nb]
            refine x4.same _ _ ?_
            rw [upd_ne nb]
            exact x2.same _ _ (s01 _ _ e)
          · have e4 := x4.up _ _ (x2.up _ _ e)
            exact u4 _ _ e4
          · by_cases hb : b = x
            · subst hb; exact .inr nx
            · rw [upd_ne hb] at e
              rcases x4.new b o e with z | z
              · rcases x2.new b o z with y | y
                · exact .inl y
                · exact .inr (s01.free y)
              · rw [upd_ne hb] at z
                exact .inr (s01.free (x2.same.free z))
      | _ => exact absurd rfl w.bad
    | _ => exact absurd rfl w.bad
theorem init_fn {P : Program} {w : World} {base : Heap} {g : G} {st : Stmt} {f : Addr} {fd : FuncData} {k : Nat} {chk : List D → Res Cell} (F : Fun g.K "__init__" "Cutting.__init__" st f fd) (S : FnScope ["self", "dims", "cuts"] ["self", "dims", "cuts"] (defScope st)) (c : CutC g)
    (hbody : ∀ (cdv : Value) (A : Around) (outer : List PySem.Env) (sh : Shared) (H : Hp) (E : XK), Room k (A.deeper (envOfC "Cutting.__init__" (defScope st) sh.heap.objs.size f cdv)) →
      PSs (cxOf (L2.CX P w) P w g.K g.mg base ["self", "dims", "cuts"] "Cutting.__init__" (defScope st) f cdv A outer sh H E) (defBody st) (tInit g E chk)) : FnOk P w g.K g.mg base (L2.CX P w) (k + 1) f fd ["self", "dims", "cuts"] (spInit g (initD chk)) :=
  F.okX S (fun vs H Q E h => by
    obtain ⟨x, dx, vs', Hs, H0, ds, rfl, _, _, _, _, _, r, hl, _⟩ := h
    show vs'.length + 1 = 3
    rw [r.length, hl]) fun cdv A outer sh H vs Q E hr h => ⟨_, hbody cdv A outer sh H E hr, init_read c h⟩
/-- a method, from its body -/
theorem defM_ok {P : Program} {w : World} {base : Heap} {g : G} {x qual : Str} {st : Stmt} {f : Addr} {fd : FuncData} {N ps : List Str} {k : Nat} {s : Env → Res Fl} (F : Fun g.K x qual st f fd) (S : FnScope N ps (defScope st))
    (hm : Meth g.K g.cC x f) (no : x ≠ "wide" ∧ x ≠ "rows") (hb : Binds g.K fd ps [])
    (hbody : ∀ (cdv : Value) (A : Around) (outer : List PySem.Env) (sh : Shared) (H : Hp) (E : XK) (B Hs0 : Hp), Room k (A.deeper (envOfC qual (defScope st) sh.heap.objs.size f cdv)) →
      PSs (cxOf (L2.CX P w) P w g.K g.mg base N qual (defScope st) f cdv A outer sh H E) (defBody st) (SR g E B Hs0 s)) : FnM P w base g x ps.length (k + 1) (runB N.length ps.length s) := by
  refine ⟨fun ds nb => ?_, no, f, fd, ps, rfl, hm, hb, def_fn F S hbody⟩
  by_cases e : ds.length = ps.length
  · exact e
  · unfold runB at nb; rw [if_neg e] at nb; exact absurd rfl nb
end PL

set_option Elab.async false
set_option linter.all false
set_option maxRecDepth 100000
set_option maxHeartbeats 1000000
namespace PL
open PySem PySem.Spec PyProof.Rows L2

/-! ### a def that is called within an except suite and raises nothing there -/
abbrev CtxQ (P : Program) (w : World) (g : G) (base : Heap) (N : List Str) (qual : Str) (sc : Scope) (f : Addr) (cd : Value) (A : Around) (out : List PySem.Env) (s : Shared) (H : Hp) (p : Addr × Obj) : Cx :=
  L2H.cxH (L2.CX P w) P w g.K g.mg base N qual sc f cd A out s H EN p
structure FnQ (P : Program) (w : World) (base : Heap) (g : G) (x : Str) (n k : Nat) (den : List D → Res Cell) : Prop where
  ar : ∀ ds, den ds ≠ .bad → ds.length = n
  ex : ∃ f fd ps, ps.length = n ∧ g.mg x = some (.ref f) ∧ PySem.W.keepIn g.K (.ref f) = true ∧ Binds g.K fd ps [] ∧
    ∀ (A : Around) (out : List PySem.Env) (s : Shared) (H : Hp) (us : List Value) (vs : List V) (Q : VK) (p : Addr × Obj), L2H.RoomH k A → L2H.PinOk out H s p → Env0 P w g.K g.mg base A out s H → us.length = n → Vals vs us → spD g n den vs H Q EN →
      codeAny (model P w) A (.call (.ref f) ⟨us, []⟩) (CR (L2.CX P w) out P w H s Q EN) s
theorem defQ_ok {P : Program} {w : World} {base : Heap} {g : G} {x qual : Str} {f : Addr} {params : Arguments} {body : List Stmt} {sc : Scope} {dV kV doc pm cdv ct oc : Value} {an od : Option Addr} {osl : Array (Option Value)} {N ps : List Str} {k : Nat} {s : Env → Res Fl}
    (lk : g.K.lookup f = some ⟨oc, od, .func (PySem.W.fnOf x qual params body sc dV kV doc pm an cdv ct), osl⟩) (hcd : PySem.W.codeIn g.K cdv qual = true) (S : FnScope N ps sc) (hm : g.mg x = some (.ref f)) (kp : PySem.W.keepIn g.K (.ref f) = true)
    (hb : Binds g.K (PySem.W.fnOf x qual params body sc dV kV doc pm an cdv ct) ps [])
    (hbody : ∀ (A : Around) (out : List PySem.Env) (sh : Shared) (H : Hp) (p : Addr × Obj) (B Hs0 : Hp), PSs (CtxQ P w g base N qual sc f cdv A out sh H p) body (SR g EN B Hs0 s)) : FnQ P w base g x ps.length (k + 1) (runB N.length ps.length s) := by
  refine ⟨fun ds nb => ?_, f, _, ps, rfl, hm, kp, hb, fun A out st H us vs Q p hr hpin e0 hl r hsp => ?_⟩
  · by_cases e : ds.length = ps.length
    · exact e
    · unfold runB at nb; rw [if_neg e] at nb; exact absurd rfl nb
  have hv : vs.length = ps.length := spD.len _ _ _ _ hsp
  have kin : g.K.In st.heap := e0.mod.kin.keeps fun b o q => (e0.bs b o q).1
  have nol : st.heap.NoLimit := e0.mod.nolimit.keeps fun b o q => (e0.bs b o q).1
  have hk : ∀ y ∈ ps.zip us, sc.names.lookup y.1 = some .local ∨ (sc.names.lookup y.1 = some .cell ∧ ((cellsFrom (st.heap.objs.size + 1) sc.names []).lookup y.1).isSome = true) := by
    rintro ⟨nm, v⟩ hy
    cases S.par nm (List.of_mem_zip hy).1 with
    | inl q => exact .inl q
    | inr q => exact .inr ⟨q, PySem.W.cellsFrom_some _ _ _ (.inl q)⟩
  have bt := hb st us kin (by rw [List.append_nil]; exact hl)
  rw [List.append_nil] at bt
  refine codeAny_call_function hr.depth (kin _ _ lk) rfl S.co S.gen rfl (PySem.W.codeRec_of kin hcd) (bt _ _ _ _ ?_)
  refine wpAny_newFunctionEnv_cells S.kind hk fun env he s1 ic => ?_
  subst he
  refine ⟨nol.keeps ic.toInCall.keep, codeAny_func ?_⟩
  obtain ⟨B, Hs0, rd⟩ := body_read hsp
  have J0 : Inv (CtxQ P w g base N qual sc f cdv A out st H p) [] (L2.start N vs) H s1 := L2H.inv_startH S hpin e0 hv r ic
  refine wpAny_mono ((hbody A out st H p B Hs0).run [] s1 _ H _ J0 rd) (fun fl s' hs => ?_) fun er s' hs => hs
  have out_ : ∀ {σ' : L2.St} {H' : Hp} {v : V} {u : Value}, Inv (CtxQ P w g base N qual sc f cdv A out st H p) [] σ' H' s' → RelV v u → Q v H' → CE out P w H st Q u s' :=
    fun {σ' H' v u} J rv q => ⟨v, H', J.os, J.bare, J.base, J.hok, rv, q⟩
  match fl, hs with
  | .ret u, ⟨v, σ', H', J, rv, q⟩ => exact out_ J rv q
  | .next, ⟨σ', H', J, q⟩ => exact out_ (v := V.non) (u := Value.none) J rfl q
  | .brk, ⟨_, _, _, q⟩ => exact q.elim
  | .cont, ⟨_, _, _, q⟩ => exact q.elim
theorem cx_no {P : Program} {w : World} {out : List PySem.Env} {H : Hp} {s s' : Shared} {u : Value} (h : L2.CX P w out H s (fun _ _ _ => False) u s') : False := by
  obtain ⟨_, _, _, _, _, _, _, _, _, _, _, _, z⟩ := h
  exact z.elim
section
variable {X : Cx} {g : G} {e : Expr} {es : List Expr} {pos p : Pos} {fs : BEnv → Res (List D)} {x : Str} {n k : Nat} {den : List D → Res Cell} {a : Addr} {oe : Obj} {pn : List (Addr × Obj)} {dd : Option Addr} {y : Option D}
/-- called in a suite: the arguments may be asked of the error, the def knows nothing of it -/
theorem se_callQ (no : ∀ a H, ¬ g.xp a H) (F : FnQ X.prog X.w X.base g x n k den) (hK : X.K = g.K) (hM : X.mg = g.mg) (hr : L2H.RoomH k X.A) (hg : Gl (X.suite a ((a, oe) :: pn)) x) (ha : PA (X.suite a ((a, oe) :: pn)) (e :: es) (AR (gX g a dd y) EN fs)) (hdb : (x == ("__debug__" : Str)) = false := by decide)
    (he : starEach (e :: es) X.env = (false, eval e X.env) :: starEach es X.env := by rfl) (hpl : (backTo pos (starEach es X.env)).any (·.1) = false := by rfl) :
    PE (X.suite a ((a, oe) :: pn)) (.Call (.Name x p) (e :: es) [] pos) (ER (gX g a dd y) EN (fun env => must (fs env) fun ds => if noXs ds = true then must (den ds) fun c => .ok c.toD else .bad)) := by
  obtain ⟨f, fd, ps, hn, h1, h2, h3, h4⟩ := F.ex
  refine ⟨fun pins s σ H Q I w => ?_⟩
  obtain ⟨Hs, env, sm, rr, w⟩ := w
  obtain ⟨ds, hds, w⟩ := must_wk w
  refine wpAny_Call_Name_kw (ld_glob I hg (by show X.mg x = _; rw [hM]; exact h1) ?_ hdb)
  refine PySem.W.callWith_K (h₀ := X.base) I.ok.mod.kin (by show PySem.W.keepIn X.K _ = true; rw [hK]; exact h2) (thn (ha.run pos pins s σ H (fun vs H1 => spD g n den vs H1 Q EN) I ?_) fun us s1 ⟨vs, H1, I1, r, q⟩ => ⟨I1.kIn, ?_⟩) he hpl
  · refine ⟨Hs, env, sm, rr, .of_ne hds fun vs H1 Hs1 x1 r1 => ?_⟩
    by_cases hx : noXs ds = true
    · rw [if_pos hx] at w
      have kx : KeepX Hs1 Hs1 := fun _ _ _ _ e => e
      obtain ⟨c, hc, w⟩ := must_wk w
      refine ⟨Hs1, ds, x1.sub, Rs.outX kx r1 hx, F.ar ds (fun z => by rw [z] at hc; cases hc), .of_ne hc fun v H' rt => ?_⟩
      obtain ⟨Hs', x', r'⟩ := rt.toD
      exact w.is_ok v H' Hs' (x1.trans x') (R.inX no r')
    · rw [if_neg hx] at w; exact absurd rfl w.bad
  · have P1 := I1.pin (a, oe) (List.mem_append_left _ List.mem_cons_self)
    have hpin : L2H.PinOk (X.suite a ((a, oe) :: pn)).stack H1 s1 (a, oe) := ⟨P1.1, P1.2.1, fun hm => (List.mem_cons.mp (I1.stkSub a hm)).elim P1.2.2.1 P1.2.2.2.1, P1.2.2.2.2⟩
    have ql : us.length = n := by rw [← r.length]; exact spD.len _ _ _ _ q
    have e0 := I1.env0
    have run := h4 (X.suite a ((a, oe) :: pn)).A (X.suite a ((a, oe) :: pn)).stack s1 H1 us vs Q (a, oe) ⟨hr.dp, hr.un⟩ hpin (by rw [← hK, ← hM]; exact e0) ql r q
    refine wpAny_call (codeAny_mono run fun rs s' hq => ?_)
    match rs, hq with
    | .error er, hq => exact (cx_no hq).elim
    | .ok (.ret u), hq => exact I1.after hq
    | .ok .next, hq => exact hq.elim
    | .ok .brk, hq => exact hq.elim
    | .ok .cont, hq => exact hq.elim
end
def eFnQ (den : List D → Res Cell) (fs : BEnv → Res (List D)) : BEnv → Res D := fun env => must (fs env) fun ds => if noXs ds = true then must (den ds) fun c => .ok c.toD else .bad
@[simp] theorem x_eFnQ {den : List D → Res Cell} {fs : BEnv → Res (List D)} {env : BEnv} : eFnQ den fs env = must (fs env) fun ds => if noXs ds = true then must (den ds) fun c => .ok c.toD else .bad := rfl

/-! ### raise of an own class whose __init__ stores at -/
/-- the promise of such an __init__ -/
def spAt (C : Addr) : Sp := fun vs H Q _ => ∃ (a : Addr) (k : Int), vs = [.ref a, .int k] ∧ H a = some (exo a C none) ∧ ∀ dx, H dx = none → dx ≠ a → Q .non (upd (upd H dx (exd dx [("at", .int k)])) a (exo a C (some dx)))
/-- what the class must have -/
structure AtC (P : Program) (w : World) (base : Heap) (g : G) (c : String) (C : Addr) : Prop where
  hm : g.mg (Str.ofString c) = some (.ref C)
  o : OexC g.K C
  ex : ∃ fI fd ps, PySem.W.findIn g.K (.ref C) "__init__" = some (some (.ref fI)) ∧ PySem.W.typeIn g.K (.ref fI) = some (.type "function") ∧ Binds g.K fd ps [] ∧ FnOk P w g.K g.mg base (L2.CX P w) 1 fI fd ps (spAt C)
/-- what CutError.__init__ is -/
structure CeF (g : G) (D : Addr) : Prop where
  hm : g.mg "CutError" = some (.ref D)
  sp : PySem.W.specialIn g.K (.ref D) "__getattribute__" = some (some (.builtin "type.__getattribute__"))
  ty : PySem.W.typeIn g.K (.ref D) = some (.type "type")
  rd : PySem.W.readsIn g.K D (.type "type") = true
  fi : PySem.W.findCls g.K (.ref D) (.type "type") "__init__" = some (.val (.builtin "ValueError.__init__"))
section
variable {X : Cx} {g : G} {e : Expr} {es : List Expr} {ta : TA} {p1 p2 pos : Pos} {D : Addr}
theorem pe_ceinit {pl : Sem Bool} (c : CeF g D) (hK : X.K = g.K) (hM : X.mg = g.mg) (hg : Gl X "CutError") (ha : PA X (e :: es) ta)
    (hc : eval (.Call (.Attribute (.Name "CutError" p1) "__init__" p2) (e :: es) [] pos) X.env = (do
      let ov ← eval (.Name "CutError" p1) X.env
      standAt p2.atName
      let (f, first) ← holding [ov] (getMethod ov "__init__" pl)
      callWith pos f first (backTo pos (starEach (e :: es) X.env)) (backToKw pos (keywordEach [] X.env))) := by rfl)
    (he : starEach (e :: es) X.env = (false, eval e X.env) :: starEach es X.env := by rfl) (hpl : (backTo pos (starEach es X.env)).any (·.1) = false := by rfl) :
    PE X (.Call (.Attribute (.Name "CutError" p1) "__init__" p2) (e :: es) [] pos) (tVeI X.K ta) := by
  have h1 := c.sp
  have h2 := c.ty
  have h3 := c.rd
  have h4 := c.fi
  rw [← hK] at h1 h2 h3 h4
  refine ⟨fun pins s σ H Q I h => ?_⟩
  refine PySem.W.methodCall_KW (ld_glob I hg (by rw [hM]; exact c.hm) ?_ (by decide)) hc
  obtain ⟨m, fr⟩ := I.fr
  refine PySem.W.method_of_cls fr I.ok.mod.kin h1 (PySem.W.cls_val fr I.ok.mod.kin h2 h3 h4 (by decide +kernel) ?_)
  show wpAny _ _ (callWith pos (Value.builtin "ValueError.__init__") [] _ []) _ _ _
  refine PyProof.Rows.callWith_method1 (thn (ha.run pos pins _ σ H _ (I.tok _) h) fun us s1 hh => ?_) he hpl
  obtain ⟨vs, H1, I1, r1, a, C, ws, ev, hl, T, ea, q⟩ := hh
  subst ev
  cases r1 with
  | @cons _ u0 _ ur ra rw' =>
    cases (show u0 = Value.ref a from ra)
    exact oinit_ok T I1 ea (by rw [← Paired.length rw', sizeLine_eq]; omega) fun s' J => ⟨.non, H1, J, rfl, q⟩
end
/-- its __init__: CutError.__init__(self, 'm'); self.at = at -/
abbrev tAt (K : PySem.W.Frag) (m : Str) : TS := tSeq (tDrop (tVeI K (tCons (tVar 0) (tCons (tC (.str m)) tNil)))) (tOst K "at" (tVar 0) (tVar 1))
theorem at_read {K : PySem.W.Frag} {C : Addr} {m : Str} {vs : List V} {H : Hp} {Q : VK} {E : XK} (o : OexC K C) (hno : PySem.W.findIn K (.ref C) "at" = some none) (h : spAt C vs H Q E) : tAt K m { nx := fun _ H' => Q .non H', rt := Q } (L2.start ["self", "at"] vs) H := by
  obtain ⟨a, k, rfl, ha, q⟩ := h
  refine ⟨.ref a, rfl, a, C, [.str m], rfl, (by show 1 ≤ 1000; decide), o, ha, ?_⟩
  exact ⟨.int k, rfl, .ref a, rfl, a, C, rfl, o, hno, .inl ⟨ha, fun dx h1 h2 => q dx h1 h2⟩⟩
theorem at_fn {P : Program} {w : World} {base : Heap} {g : G} {qual : Str} {st : Stmt} {f C : Addr} {fd : FuncData} {m : Str} (F : Fun g.K "__init__" qual st f fd) (S : FnScope ["self", "at"] ["self", "at"] (defScope st)) (o : OexC g.K C) (hno : PySem.W.findIn g.K (.ref C) "at" = some none)
    (hbody : ∀ (cdv : Value) (A : Around) (outer : List PySem.Env) (sh : Shared) (H : Hp) (E : XK), PSs (cxOf (L2.CX P w) P w g.K g.mg base ["self", "at"] qual (defScope st) f cdv A outer sh H E) (defBody st) (tAt g.K m)) : FnOk P w g.K g.mg base (L2.CX P w) 1 f fd ["self", "at"] (spAt C) :=
  F.okX S (fun vs H Q E h => by
    obtain ⟨a, k, rfl, _⟩ := h
    rfl) fun cdv A outer sh H vs Q E hr h => ⟨_, hbody cdv A outer sh H E, at_read o hno h⟩
def rAt (c : String) : D → Res Fl
  | .int k => .exc c (some (.int k))
  | _ => .bad
def sRaiseA (c : String) (f : BEnv → Res D) : Env → Res Fl := fun env => must (f env.borrow) (rAt c)
@[simp] theorem x_sRaiseA {c : String} {f : BEnv → Res D} {env : Env} : sRaiseA c f env = must (f env.borrow) (rAt c) := rfl
@[simp] theorem x_rAt {c : String} {k : Int} : rAt c (.int k) = .exc c (some (.int k)) := rfl
theorem ss_raiseA {X : Cx} {g : G} {E : XK} {B Hs0 : Hp} {c : String} {C : Addr} {e : Expr} {p pos pos' : Pos} {f : BEnv → Res D} (A : AtC X.prog X.w X.base g c C) (hK : X.K = g.K) (hM : X.mg = g.mg) (hc : X.calm = true) (hr : Room 2 X.A) (tk : Takes X (fun cls d _ H => E cls d H)) (hg : Gl X (Str.ofString c)) (he : PE X e (ER g EN f))
    (hdb : (Str.ofString c == ("__debug__" : Str)) = false := by decide) (hst : starEach [e] X.env = (false, eval e X.env) :: starEach [] X.env := by rfl) (hpl : (backTo pos (starEach [] X.env)).any (·.1) = false := by rfl) :
    PS X (.Raise (some (.Call (.Name (Str.ofString c) p) [e] [] pos)) none pos') (SR g E B Hs0 (sRaiseA c f)) := by
  obtain ⟨fI, fd, ps, h1, h2, h3, h4⟩ := A.ex
  have o := A.o
  rw [← hK] at h1 h2 h3 h4 o
  rw [← hM] at h4
  refine PS_mono (ps_raise hc tk (pmk_oex o h1 h2 h4 hr h3 .nil (fun _ _ _ _ _ _ _ z => (cx_no z).elim) hg (by rw [hM]; exact A.hm) (pa_cons he pa_nil hst) hdb hst hpl)) fun Z σ H w => ?_
  obtain ⟨Hs, env, r, w⟩ := w
  obtain ⟨d, hd, w⟩ := must_wk w
  refine ⟨Hbor Hs H σ env, env.borrow, r.hb_sub, r.borrow, .of_ne hd fun v H1 Hs1 x1 r1 => ?_⟩
  cases r1 with
  | int k =>
    refine ⟨(by show 1 ≤ 1000; decide), fun a na => ?_⟩
    show spAt C (.ref a :: ([V.int k] ++ [])) _ _ _
    refine ⟨a, k, rfl, upd_same, fun dx hdx ne => ⟨rfl, dx, _, upd_same, (by rw [upd_ne ne, upd_same]), ?_, ?_⟩⟩
    · rw [upd_ne ne] at hdx; exact hdx
    · rw [upd_ne ne] at hdx
      refine w.exc c (some (.int k)) rfl (.ref C) (some dx) _ (fun b u e => ?_) ⟨C, A.hm, rfl, dx, .int k, rfl, upd_same, .int k⟩
      have e1 : H1 b = some u := x1.same _ _ (r.keep _ _ e)
      have n1 : b ≠ a := ne_of_none e1 na
      have n2 : b ≠ dx := ne_of_none e1 hdx
      rw [upd_ne n2, del_ne n1, upd_ne n1, upd_ne n2, upd_ne n1]
      exact e1
  | _ => exact absurd rfl w.bad
end PL

set_option Elab.async false
set_option linter.all false
set_option maxRecDepth 100000
set_option maxHeartbeats 4000000
namespace K05
open PySem PySem.Spec PyProof.Rows L2 PL
def isK (k T : String) : Bool := decide ((k, T) ∈ ([("NoCutting", "CutError"), ("NoCutting", "NoCutting"), ("NoCutting", "ValueError")] : List (String × String)))
/-- less than 2 ^ n in size -/
def Bd (n : Nat) (x : Int) : Prop := x.natAbs < 2 ^ n
theorem Bd.log {n : Nat} {x : Int} (h : Bd n x) : x.natAbs.log2 ≤ n := by
  unfold Bd at h
  by_cases h0 : x.natAbs = 0
  · rw [h0]; exact Nat.zero_le _
  · exact Nat.le_of_lt ((Nat.log2_lt h0).mpr h)
theorem mulOk_of {m n : Nat} {x y : Int} (hx : Bd m x) (hy : Bd n y) (h : m + n < 100000000) : mulOk x y = true := by
  have a := hx.log
  have b := hy.log
  exact decide_eq_true (by omega)
theorem divOk_of {n : Nat} {x y : Int} (h0 : y ≠ 0) (hy : Bd n y) (h : n < 9000) : divOk x y = true := by
  unfold divOk
  have e : Builtin.divisionGoesByPylong x y = false := PyProof.noPylong_of_log2 (by have := hy.log; omega)
  rw [e]
  simp [h0]
theorem Bd.mono {m n : Nat} {x : Int} (hx : Bd m x) (h : m ≤ n) : Bd n x := Nat.lt_of_lt_of_le hx (Nat.pow_le_pow_right (by decide) h)
theorem Bd.mul {m n : Nat} {x y : Int} (hx : Bd m x) (hy : Bd n y) : Bd (m + n) (x * y) := by
  unfold Bd at *
  rw [Int.natAbs_mul, Nat.pow_add]
  exact Nat.mul_lt_mul'' hx hy
theorem Bd.add {m : Nat} {x y : Int} (hx : Bd m x) (hy : Bd m y) : Bd (m + 1) (x + y) := by
  unfold Bd at *
  have := Int.natAbs_add_le x y
  have e : 2 ^ (m + 1) = 2 ^ m + 2 ^ m := by rw [Nat.pow_succ]; omega
  omega
theorem Bd.neg {m : Nat} {x : Int} (hx : Bd m x) : Bd m (-x) := by
  unfold Bd at *
  rwa [Int.natAbs_neg]
theorem bd_bits {z : Int} (h : Builtin.Int.intBits z ≤ 1048576) : Bd 1048576 z := by
  unfold Builtin.Int.intBits at h
  unfold Bd
  by_cases h0 : z = 0
  · subst h0; exact Nat.pow_pos (by decide)
  · have h1 : z.natAbs ≠ 0 := by omega
    have h2 : z.natAbs.log2 < 1048576 := by
      revert h
      simp [h0]
      omega
    exact (Nat.log2_lt h1).mp h2
theorem divOk_big {x y : Int} (hx : Bd 13000 x) (h0 : y ≠ 0) : divOk x y = true := by
  unfold divOk
  have e : Builtin.divisionGoesByPylong x y = false := by
    have hl := hx.log
    unfold Builtin.divisionGoesByPylong
    have hd : (if x == 0 then 0 else x.natAbs.log2 / 30 + 1) ≤ 450 := by split <;> omega
    simp only [Bool.and_eq_false_iff, decide_eq_false_iff_not]
    generalize (if x == 0 then 0 else x.natAbs.log2 / 30 + 1) = a at *
    generalize (if y == 0 then 0 else y.natAbs.log2 / 30 + 1) = b at *
    omega
  rw [e]
  simp [h0]
theorem Bd.sub {m : Nat} {x y : Int} (hx : Bd m x) (hy : Bd m y) : Bd (m + 1) (x - y) := by
  rw [Int.sub_eq_add_neg]
  exact hx.add hy.neg
/-- a fraction as data -/
def qD (q : Rat) : D := .tup [.int q.num, .int (q.den : Int)]
theorem qD_eq (q : Rat) : qD q = .tup [.int q.num, .int (q.den : Int)] := rfl
/-- top and bottom below 2 ^ n -/
def QB (n : Nat) (q : Rat) : Prop := Bd n q.num ∧ Bd n (q.den : Int)
theorem QB.mono {m n : Nat} {q : Rat} (h : QB m q) (k : m ≤ n) : QB n q := ⟨h.1.mono k, h.2.mono k⟩
theorem QB.divInt {m n : Nat} {t b : Int} (ht : Bd m t) (hb : Bd n b) (h0 : b ≠ 0) (k : Nat) (k1 : m ≤ k) (k2 : n ≤ k) : QB k (Rat.divInt t b) := by
  constructor
  · have : (Rat.divInt t b).num.natAbs ≤ t.natAbs := by
      rw [Rat.num_divInt]
      refine Nat.le_trans (Int.natAbs_ediv_le_natAbs _ _) ?_
      rw [Int.natAbs_mul, Int.natAbs_sign_of_ne_zero h0, Nat.one_mul]
      exact Nat.le_refl _
    have := ht.mono k1
    unfold Bd at *
    omega
  · have : ((Rat.divInt t b).den : Int).natAbs ≤ b.natAbs := by
      rw [Rat.den_divInt, if_neg h0]
      simp
      exact Nat.div_le_self _ _
    have := hb.mono k2
    unfold Bd at *
    omega
theorem den_ne (q : Rat) : (q.den : Int) ≠ 0 := by have := q.den_pos; omega
theorem QB.add {m n : Nat} {p q : Rat} (hp : QB m p) (hq : QB n q) : QB (m + n + 1) (p + q) := by
  rw [Rat.add_def', ← Rat.divInt_ofNat]
  have b1 : Bd (m + n + 1) (p.num * q.den + q.num * p.den) := (hp.1.mul hq.2).add ((hq.1.mul hp.2).mono (by omega))
  have b2 : Bd (m + n) ((p.den * q.den : Nat) : Int) := by rw [Int.natCast_mul]; exact hp.2.mul hq.2
  exact QB.divInt b1 b2 (by rw [Int.natCast_mul]; exact Int.mul_ne_zero (den_ne p) (den_ne q)) _ (by omega) (by omega)
theorem QB.neg {m : Nat} {p : Rat} (hp : QB m p) : QB m (-p) := ⟨show Bd m (-p.num) from hp.1.neg, hp.2⟩
theorem QB.sub {m n : Nat} {p q : Rat} (hp : QB m p) (hq : QB n q) : QB (m + n + 1) (p - q) := by
  rw [Rat.sub_eq_add_neg]
  exact hp.add hq.neg
theorem QB.mul {m n : Nat} {p q : Rat} (hp : QB m p) (hq : QB n q) : QB (m + n) (p * q) := by
  rw [Rat.mul_def', ← Rat.divInt_ofNat]
  have b2 : Bd (m + n) ((p.den * q.den : Nat) : Int) := by rw [Int.natCast_mul]; exact hp.2.mul hq.2
  exact QB.divInt (hp.1.mul hq.1) b2 (by rw [Int.natCast_mul]; exact Int.mul_ne_zero (den_ne p) (den_ne q)) _ (by omega) (by omega)
theorem QB.inv {m : Nat} {p : Rat} (hp : QB m p) (h0 : p ≠ 0) : QB m p⁻¹ := by
  have pn : p.num ≠ 0 := fun e => h0 (Rat.num_eq_zero.mp e)
  have : p⁻¹ = Rat.divInt p.den p.num := by rw [← Rat.inv_divInt, Rat.num_divInt_den]
  rw [this]
  exact QB.divInt hp.2 hp.1 pn _ (Nat.le_refl _) (Nat.le_refl _)
theorem QB.div {m n : Nat} {p q : Rat} (hp : QB m p) (hq : QB n q) (h0 : q ≠ 0) : QB (m + n) (p / q) := by
  rw [Rat.div_def]
  exact hp.mul (hq.inv h0)

section
variable {α β : Type}
theorem comp_gen {enc : α → D} {P : α → Prop} {p : Pat} {f : BEnv → Res D} {env : BEnv} : ∀ (l : List D), (∀ d ∈ l, ∃ as x, p d = .ok as ∧ f (setAllB env as) = .ok (enc x) ∧ P x) → ∃ xs : List α, compD p cTrue f env l = .ok (xs.map enc) ∧ xs.length = l.length ∧ ∀ x ∈ xs, P x
  | [], _ => ⟨[], rfl, rfl, fun x h => absurd h List.not_mem_nil⟩
  | d :: l, h => by
    obtain ⟨as, x, h1, h2, h3⟩ := h d List.mem_cons_self
    obtain ⟨xs, e, hl, hp⟩ := comp_gen l fun d hd => h d (List.mem_cons_of_mem _ hd)
    refine ⟨x :: xs, ?_, by simp [hl], ?_⟩
    · unfold compD
      rw [h1, must_ok]
      simp [cTrue, h2, e]
    · intro y hy
      rcases List.mem_cons.mp hy with rfl | hy
      · exact h3
      · exact hp y hy
theorem comp_map {dec : β → D} {enc : α → D} (k : β → α) {p : Pat} {f : BEnv → Res D} {env : BEnv} : ∀ (l : List β), (∀ b ∈ l, ∃ as, p (dec b) = .ok as ∧ f (setAllB env as) = .ok (enc (k b))) → compD p cTrue f env (l.map dec) = .ok ((l.map k).map enc)
  | [], _ => rfl
  | b :: l, h => by
    obtain ⟨as, h1, h2⟩ := h b List.mem_cons_self
    have e := comp_map k (dec := dec) (enc := enc) l fun d hd => h d (List.mem_cons_of_mem _ hd)
    rw [List.map_cons]
    unfold compD
    rw [h1, must_ok]
    simp only [List.map_map] at e
    simp [cTrue, h2, e]
theorem x_comp {vs : List Nat} {it : BEnv → Res (List D)} {p : Pat} {c : BEnv → Res Bool} {f : BEnv → Res D} {env : BEnv} : oComp vs it p c f env = (it env >>= fun l => if l.length ≤ 1000000 then compD p c f (wipeB env vs) l else .bad) := rfl
@[simp] theorem x_wipe_nil {env : BEnv} : wipeB env [] = env := rfl
@[simp] theorem x_wipe_cons {env : BEnv} {i : Nat} {r : List Nat} : wipeB env (i :: r) = (wipeB env r).set i none := rfl
theorem mem_rng {lo : Int} {n : Nat} {d : D} (h : d ∈ rngD lo n) : ∃ i : Nat, i < n ∧ d = .int (lo + i) := by
  unfold rngD at h
  obtain ⟨i, hi, e⟩ := List.mem_map.mp h
  exact ⟨i, List.mem_range.mp hi, e.symm⟩
@[simp] theorem rng_len {lo : Int} {n : Nat} : (rngD lo n).length = n := by unfold rngD; rw [List.length_map, List.length_range]
@[simp] theorem enum_len {l : List D} : (enumD l).length = l.length := by unfold enumD; simp
theorem mem_enum {l : List D} {d : D} (h : d ∈ enumD l) : ∃ i v, i < l.length ∧ v ∈ l ∧ d = .tup [.int (i : Nat), v] := by
  unfold enumD at h
  obtain ⟨i, hi, e⟩ := List.mem_mapIdx.mp h
  exact ⟨i, l[i], hi, List.getElem_mem hi, e.symm⟩
@[simp] theorem x_enum1 {f : BEnv → Res D} {env : BEnv} : enum1D (aCons f aNil) env = (f env >>= fun d => seqD d >>= fun l => .ok (enumD l)) := by
  unfold enum1D aCons aNil
  cases f env <;> rfl
theorem bls_map : ∀ bs : List Bool, blsD (bs.map D.bl) = some bs
  | [] => rfl
  | b :: bs => by
    show (blsD (bs.map D.bl)).map (b :: ·) = _
    rw [bls_map bs]
    rfl
theorem all_bls {bs : List Bool} : allD [.lst (bs.map D.bl)] = .ok (.bl (bs.all id)) := by
  show (match blsD (bs.map D.bl) with | some bs => Res.ok (D.bl (bs.all id)) | none => .bad) = _
  rw [bls_map]
theorem ints_map : ∀ bs : List Int, intsD (bs.map D.int) = some bs
  | [] => rfl
  | b :: bs => by
    show (intsD (bs.map D.int)).map (b :: ·) = _
    rw [ints_map bs]
    rfl
theorem sum_ints {bs : List Int} : sumD [.lst (bs.map D.int)] = .ok (.int bs.sum) := by
  show (match intsD (bs.map D.int) with | some ns => Res.ok (D.int ns.sum) | none => .bad) = _
  rw [ints_map]
theorem pair_map {γ δ : Type} {e1 : γ → D} {e2 : δ → D} : ∀ (l : List γ) (m : List δ), pair2 (l.map e1) (m.map e2) = (l.zip m).map fun p => .tup [e1 p.1, e2 p.2]
  | [], _ => by simp [pair2]
  | _ :: _, [] => by simp [pair2]
  | a :: l, b :: m => by
    have := pair_map (e1 := e1) (e2 := e2) l m
    simp [pair2] at this ⊢
    exact this
theorem at_last {l : List D} {d : D} : atD (l ++ [d]) (-1) = .ok d := by
  unfold atD ixN
  have e : (-1 + ((l.length : Int) + 1)).toNat = l.length := by omega
  rw [if_neg (by decide), if_pos (by simp; omega)]
  simp [e]
@[simp] theorem rep_one {d : D} {n : Nat} : (List.replicate n [d]).flatten = List.replicate n d := by simp
theorem at_map {enc : α → D} {l : List α} {k : Nat} (h : k < l.length) : atD (l.map enc) (k : Int) = .ok (enc l[k]) := by
  rw [y_atn, List.getElem?_map, List.getElem?_eq_getElem h]
  rfl
/-- some item, by a number that is in reach -/
theorem at_some {enc : α → D} {l : List α} {z : Int} (h0 : 0 ≤ z) (h : z < l.length) : ∃ x ∈ l, atD (l.map enc) z = .ok (enc x) := by
  have hz : z = ((z.toNat : Nat) : Int) := by omega
  have hk : z.toNat < l.length := by omega
  refine ⟨l[z.toNat], List.getElem_mem hk, ?_⟩
  have := at_map (enc := enc) hk
  rw [← hz] at this
  exact this
end
def setIx (s : PL.Env) (i : Nat) (l : List D) (d : D) : D → Res Fl
  | .int k => match ixN l.length k with
    | some j => .ok (.nx (s.set i (some (.own (l.set j d)))))
    | none => .bad
  | _ => .bad
theorem setIx_i {s : PL.Env} {i j : Nat} {l : List D} {d : D} {k : Int} (h : ixN l.length k = some j) : setIx s i l d (.int k) = .ok (.nx (s.set i (some (.own (l.set j d))))) := by
  unfold setIx
  simp only [h]
@[simp] theorem x_sIx {i : Nat} {fi f : BEnv → Res D} {s : PL.Env} : sIx i fi f s = (f s.clean >>= fun d => ownAt s i fun l => fi s.borrow >>= setIx s i l d) := by
  unfold sIx
  congr 1
@[simp] theorem x_sIxB {i : Nat} {fi f : BEnv → Res D} {s : PL.Env} : sIxB i fi f s = (f s.borrow >>= fun d => if noLst d = true then (ownAt s i fun l => fi s.borrow >>= setIx s i l d) else .bad) := by
  unfold sIxB
  congr 1
@[simp] theorem y_listO_t {l : List D} : listO [.tup l] = .ok l := rfl
@[simp] theorem y_listO_l {l : List D} : listO [.lst l] = .ok l := rfl
@[simp] theorem y_listO_s {l : List Int} : listO [.scr l] = .ok (l.map D.int) := rfl
theorem bd64 {x : Int} (h1 : -18446744073709551616 < x) (h2 : x < 18446744073709551616) : Bd 64 x := by
  unfold Bd
  have e : (2 : Nat) ^ 64 = 18446744073709551616 := by decide
  rw [e]
  omega
theorem mul64 {x y : Int} (a : -18446744073709551616 < x) (b : x < 18446744073709551616) (c : -18446744073709551616 < y) (d : y < 18446744073709551616) : mulOk x y = true := mulOk_of (bd64 a b) (bd64 c d) (by decide)
theorem fm {a b : Int} (h : 0 < b) : 0 ≤ a.fmod b ∧ a.fmod b < b := by
  rw [Int.fmod_eq_emod_of_nonneg _ (by omega)]
  exact ⟨Int.emod_nonneg _ (by omega), Int.emod_lt_of_pos _ h⟩
theorem Bd.fdiv {n : Nat} {x y : Int} (h : Bd n x) : Bd n (x.fdiv y) := by
  unfold Bd at *
  have := Int.natAbs_fdiv_le_natAbs x y
  omega

theorem for_chk {p : Pat} {s : PL.Env → Res Fl} {r : Cell} (c : Nat → Bool) (I : PL.Env → Prop) : ∀ (l : List D) (env : PL.Env) (k : Nat), I env →
    (∀ (i : Nat) (hi : i < l.length) (env : PL.Env), I env → ∃ as, p l[i] = .ok as ∧ ((c (k + i) = true ∧ ∃ env', s (setAllE env as) = .ok (.nx env') ∧ I env') ∨ (c (k + i) = false ∧ s (setAllE env as) = .ok (.rt r)))) →
    (∃ env', forD p s l env = .ok (.nx env') ∧ I env' ∧ ∀ i, i < l.length → c (k + i) = true) ∨ (forD p s l env = .ok (.rt r) ∧ ∃ i, i < l.length ∧ c (k + i) = false)
  | [], env, k, h0, _ => .inl ⟨env, rfl, h0, fun i h => absurd h (Nat.not_lt_zero _)⟩
  | d :: ds, env, k, h0, hs => by
    obtain ⟨as, hp, h1⟩ := hs 0 (by simp) env h0
    have hp : p d = .ok as := hp
    rw [x_for_cons, hp, must_ok]
    rcases h1 with ⟨hc, e1, h1, h2⟩ | ⟨hc, h1⟩
    · rw [h1]
      have := for_chk (p := p) (s := s) (r := r) c I ds e1 (k + 1) h2 (fun i hi env hI => by
        obtain ⟨as, a, b⟩ := hs (i + 1) (by simpa using hi) env hI
        exact ⟨as, by simpa using a, by rwa [show k + 1 + i = k + (i + 1) by omega]⟩)
      rcases this with ⟨e2, h3, h4, h5⟩ | ⟨h3, i, hi, h4⟩
      · refine .inl ⟨e2, h3, h4, fun i hi => ?_⟩
        cases i with
        | zero => exact hc
        | succ i => have := h5 i (by simpa using hi); rwa [show k + 1 + i = k + (i + 1) by omega] at this
      · exact .inr ⟨h3, i + 1, by simpa using hi, by rwa [show k + 1 + i = k + (i + 1) by omega] at h4⟩
    · rw [h1]
      exact .inr ⟨rfl, 0, by simp, hc⟩
theorem comp_filter {dec : α → D} {p : Pat} {c : BEnv → Res Bool} {f : BEnv → Res D} {env : BEnv} (b : α → Bool) : ∀ (l : List α), (∀ x ∈ l, ∃ as, p (dec x) = .ok as ∧ c (setAllB env as) = .ok (b x) ∧ f (setAllB env as) = .ok (dec x)) → compD p c f env (l.map dec) = .ok ((l.filter b).map dec)
  | [], _ => rfl
  | x :: l, h => by
    obtain ⟨as, h1, h2, h3⟩ := h x List.mem_cons_self
    have e := comp_filter b (dec := dec) l fun d hd => h d (List.mem_cons_of_mem _ hd)
    rw [List.map_cons]
    unfold compD
    rw [h1, must_ok, h2, must_ok]
    cases hb : b x with
    | true => simp [h3, e, hb]
    | false => simp [e, hb]

theorem seq_nx {s t : PL.Env → Res Fl} {env e1 : PL.Env} (h : s env = .ok (.nx e1)) : sSeq s t env = t e1 := by
  rw [x_seq, h]
  rfl
theorem run_rt {N n : Nat} {s : PL.Env → Res Fl} {ds : List D} {c : Cell} (hl : ds.length = n) (h : s (startE N ds) = .ok (.rt c)) : runB N n s ds = .ok c := by
  rw [run_eq hl, h]
  rfl

theorem for_exc {p : Pat} {s : PL.Env → Res Fl} {c : String} {x : Option D} (I : Nat → PL.Env → Prop) : ∀ (l : List D) (m : Nat) (hm : m < l.length) (env : PL.Env) (k : Nat), I k env →
    (∀ (i : Nat) (hi : i < l.length) (env : PL.Env), i < m → I (k + i) env → ∃ as env', p l[i] = .ok as ∧ s (setAllE env as) = .ok (.nx env') ∧ I (k + i + 1) env') →
    (∀ (env : PL.Env), I (k + m) env → ∃ as, p (l[m]'hm) = .ok as ∧ s (setAllE env as) = .exc c x) → forD p s l env = .exc c x
  | [], m, hm, _, _, _, _, _ => absurd hm (Nat.not_lt_zero _)
  | d :: ds, 0, hm, env, k, h0, hs, he => by
    obtain ⟨as, h1, h2⟩ := he env h0
    have h1 : p d = .ok as := h1
    rw [x_for_cons, h1, must_ok, h2]
    rfl
  | d :: ds, m + 1, hm, env, k, h0, hs, he => by
    obtain ⟨as, e1, h1, h2, h3⟩ := hs 0 (by simp) env (Nat.succ_pos m) h0
    have h1 : p d = .ok as := h1
    rw [x_for_cons, h1, must_ok, h2]
    exact for_exc I ds m (by simpa using hm) e1 (k + 1) h3 (fun i hi env hm hI => by
      obtain ⟨as, e', a, b, c⟩ := hs (i + 1) (by simpa using hi) env (by omega) (by rwa [show k + (i + 1) = k + 1 + i by omega])
      exact ⟨as, e', by simpa using a, b, by rwa [show k + 1 + i + 1 = k + (i + 1) + 1 by omega]⟩) (fun env hI => by
      obtain ⟨as, a, b⟩ := he env (by rwa [show k + (m + 1) = k + 1 + m by omega])
      exact ⟨as, by simpa using a, b⟩)
theorem forR_exc {p : Pat} {s : PL.Env → Res Fl} {c : String} {x : Option D} {n : Nat} (I : Nat → PL.Env → Prop) (m : Nat) (hm : m < n) (env : PL.Env) (h0 : I 0 env)
    (hs : ∀ (i : Nat), i < m → ∀ (env : PL.Env), I i env → ∃ as env', p (.int i) = .ok as ∧ s (setAllE env as) = .ok (.nx env') ∧ I (i + 1) env')
    (he : ∀ (env : PL.Env), I m env → ∃ as, p (.int m) = .ok as ∧ s (setAllE env as) = .exc c x) : forD p s (rngD 0 n) env = .exc c x := by
  have e : ∀ (i : Nat) (hi : i < (rngD 0 n).length), (rngD 0 n)[i] = .int i := fun i hi => by simp [rngD]
  refine for_exc I (rngD 0 n) m (by rw [rng_len]; exact hm) env 0 h0 (fun i hi env h hI => ?_) (fun env hI => ?_)
  · rw [e]
    simpa using hs i h env (by simpa using hI)
  · rw [e]
    exact he env (by simpa using hI)
theorem seq_exc {s t : PL.Env → Res Fl} {env : PL.Env} {c : String} {x : Option D} (h : s env = .exc c x) : sSeq s t env = .exc c x := by
  rw [x_seq, h]
  rfl
theorem run_exc {N n : Nat} {s : PL.Env → Res Fl} {ds : List D} {c : String} {x : Option D} (hl : ds.length = n) (h : s (startE N ds) = .exc c x) : runB N n s ds = .exc c x := by
  rw [run_eq hl, h]
  rfl
theorem run_nx {N n : Nat} {s : PL.Env → Res Fl} {ds : List D} {e : PL.Env} (hl : ds.length = n) (h : s (startE N ds) = .ok (.nx e)) : runB N n s ds = .ok (.val .non) := by
  rw [run_eq hl, h]
  rfl

noncomputable def s_is_whole : PL.Env → Res Fl := (sRet (eAnd (e1 (isiB "int") (eVar 0)) (eNot (e1 (isiB "bool") (eVar 0)))))
noncomputable def d_is_whole : List D → Res Cell := Classical.choose (⟨runB 1 1 s_is_whole, rfl⟩ : ∃ y : List D → Res Cell, y = runB 1 1 s_is_whole)
theorem d_is_whole_eq : d_is_whole = runB 1 1 s_is_whole := Classical.choose_spec (⟨runB 1 1 s_is_whole, rfl⟩ : ∃ y : List D → Res Cell, y = runB 1 1 s_is_whole)
theorem v_is_whole {a : Int} : d_is_whole [.int a] = .ok (.val (.bl true)) := by
  simp [d_is_whole_eq, s_is_whole, start_eq]
noncomputable def c_is_cut_1 : BEnv → Res D := Classical.choose (⟨(eFn d_is_whole (aCons (eVar 2) aNil)), rfl⟩ : ∃ y : BEnv → Res D, y = (eFn d_is_whole (aCons (eVar 2) aNil)))
theorem c_is_cut_1_eq : c_is_cut_1 = (eFn d_is_whole (aCons (eVar 2) aNil)) := Classical.choose_spec (⟨(eFn d_is_whole (aCons (eVar 2) aNil)), rfl⟩ : ∃ y : BEnv → Res D, y = (eFn d_is_whole (aCons (eVar 2) aNil)))
noncomputable def s_is_cut : PL.Env → Res Fl := (sSeq (sIf (tOrD (tNotD (tst (e1 (isiB "tuple") (eVar 0)))) (tst (e2 neD (eCall lenD (aCons (eVar 0) aNil)) (e2 addD (eVar 1) (eC (.int 1)))))) (sRet (eC (.bl false))) sNil)
    (sRet (eAnd (eCall allD (aCons (lstD (oComp [2] (iSeq (eVar 0)) (pName 2) cTrue c_is_cut_1)) aNil)) (e2 neD (eSl (eVar 0) oNo (oSome (eVar 1))) (e2 mulX (eTup (aCons (eC (.int 0)) aNil)) (eVar 1))))))
noncomputable def d_is_cut : List D → Res Cell := Classical.choose (⟨runB 3 2 s_is_cut, rfl⟩ : ∃ y : List D → Res Cell, y = runB 3 2 s_is_cut)
theorem d_is_cut_eq : d_is_cut = runB 3 2 s_is_cut := Classical.choose_spec (⟨runB 3 2 s_is_cut, rfl⟩ : ∃ y : List D → Res Cell, y = runB 3 2 s_is_cut)
def cutB (n : Nat) (cs : List Int) : Bool := decide (cs.length = n + 1) && !(cs.take n == List.replicate n 0)
theorem v_is_cut {cs : List Int} {n : Nat} (hn : n ≤ 3) (hc : cs.length ≤ 1000) : d_is_cut [.tup (cs.map D.int), .int n] = .ok (.val (.bl (cutB n cs))) := by
  have k := comp_map (dec := D.int) (enc := D.bl) (p := pName 2) (f := c_is_cut_1) (env := [some (.tup (cs.map D.int)), some (.int n), none]) (fun _ => true) cs (fun b _ => ⟨[(2, .int b)], rfl, by simp [c_is_cut_1_eq, v_is_whole]⟩)
  have a : (cs.map fun _ => true).all id = true := by simp
  have e := all_bls (bs := cs.map fun _ => true)
  rw [a] at e
  have z : List.replicate n (D.int 0) = (List.replicate n 0).map D.int := by simp
  have dq := deqs_ints (cs.take n) (List.replicate n 0)
  have q1 := eqOks_ints (n := 59) (cs.take n)
  have q2 := eqOks_ints (n := 59) (List.replicate n 0)
  have n1 : (n : Int) ≤ 1000 := by omega
  have n2 : -1000000 ≤ (n : Int) := by omega
  have l1 : cs.length ≤ 1000000 := by omega
  rw [List.map_take] at dq q1
  rw [← z] at dq q2
  by_cases h : cs.length = n + 1
  · simp only [List.map_map] at k e
    have l2 : n ≤ 999999 := by omega
    simp [d_is_cut_eq, s_is_cut, start_eq, x_comp, h, k, e, n1, n2, q1, q2, dq, cutB, l2]
  · have h' : ¬ ((cs.length : Int) = (n : Int) + 1) := by omega
    simp [d_is_cut_eq, s_is_cut, start_eq, h, h', cutB]
noncomputable def b_same_spots_1 : PL.Env → Res Fl := Classical.choose (⟨(sIf (tst (e2 neD (e2 mulX (e2 ixD (eVar 0) (eVar 2)) (e2 ixD (eVar 1) (eVar 3))) (e2 mulX (e2 ixD (eVar 0) (eVar 3)) (e2 ixD (eVar 1) (eVar 2))))) (sRet (eC (.bl false))) sNil), rfl⟩ : ∃ y : PL.Env → Res Fl, y = (sIf (tst (e2 neD (e2 mulX (e2 ixD (eVar 0) (eVar 2)) (e2 ixD (eVar 1) (eVar 3))) (e2 mulX (e2 ixD (eVar 0) (eVar 3)) (e2 ixD (eVar 1) (eVar 2))))) (sRet (eC (.bl false))) sNil))
theorem b_same_spots_1_eq : b_same_spots_1 = (sIf (tst (e2 neD (e2 mulX (e2 ixD (eVar 0) (eVar 2)) (e2 ixD (eVar 1) (eVar 3))) (e2 mulX (e2 ixD (eVar 0) (eVar 3)) (e2 ixD (eVar 1) (eVar 2))))) (sRet (eC (.bl false))) sNil) := Classical.choose_spec (⟨(sIf (tst (e2 neD (e2 mulX (e2 ixD (eVar 0) (eVar 2)) (e2 ixD (eVar 1) (eVar 3))) (e2 mulX (e2 ixD (eVar 0) (eVar 3)) (e2 ixD (eVar 1) (eVar 2))))) (sRet (eC (.bl false))) sNil), rfl⟩ : ∃ y : PL.Env → Res Fl, y = (sIf (tst (e2 neD (e2 mulX (e2 ixD (eVar 0) (eVar 2)) (e2 ixD (eVar 1) (eVar 3))) (e2 mulX (e2 ixD (eVar 0) (eVar 3)) (e2 ixD (eVar 1) (eVar 2))))) (sRet (eC (.bl false))) sNil))
noncomputable def b_same_spots_2 : PL.Env → Res Fl := Classical.choose (⟨(sForR (iRng1 (aCons (eVar 2) aNil)) (pName 3) b_same_spots_1), rfl⟩ : ∃ y : PL.Env → Res Fl, y = (sForR (iRng1 (aCons (eVar 2) aNil)) (pName 3) b_same_spots_1))
theorem b_same_spots_2_eq : b_same_spots_2 = (sForR (iRng1 (aCons (eVar 2) aNil)) (pName 3) b_same_spots_1) := Classical.choose_spec (⟨(sForR (iRng1 (aCons (eVar 2) aNil)) (pName 3) b_same_spots_1), rfl⟩ : ∃ y : PL.Env → Res Fl, y = (sForR (iRng1 (aCons (eVar 2) aNil)) (pName 3) b_same_spots_1))
noncomputable def s_same_spots : PL.Env → Res Fl := (sSeq (sForR (iRng1 (aCons (eCall lenD (aCons (eVar 0) aNil)) aNil)) (pName 2) b_same_spots_2)
    (sRet (eC (.bl true))))
noncomputable def d_same_spots : List D → Res Cell := Classical.choose (⟨runB 4 2 s_same_spots, rfl⟩ : ∃ y : List D → Res Cell, y = runB 4 2 s_same_spots)
theorem d_same_spots_eq : d_same_spots = runB 4 2 s_same_spots := Classical.choose_spec (⟨runB 4 2 s_same_spots, rfl⟩ : ∃ y : List D → Res Cell, y = runB 4 2 s_same_spots)
def full (p : List Int × Int) : List Int := p.1 ++ [p.2]
/-- the same spots: crosswise alike -/
def sameB (u v : List Int) : Bool := decide (∀ k, k < u.length → ∀ j, j < k → u.getD k 0 * v.getD j 0 = u.getD j 0 * v.getD k 0)
theorem sameB_symm {u v : List Int} (h : u.length = v.length) : sameB u v = sameB v u := by
  unfold sameB
  refine decide_eq_decide.mpr ⟨fun q k hk j hj => ?_, fun q k hk j hj => ?_⟩
  · have := q k (by omega) j hj
    rw [Int.mul_comm (v.getD k 0), Int.mul_comm (v.getD j 0)]
    exact this.symm
  · have := q k (by omega) j hj
    rw [Int.mul_comm (u.getD k 0), Int.mul_comm (u.getD j 0)]
    exact this.symm
theorem at_getD {l : List Int} {k : Nat} (h : k < l.length) : atD (l.map D.int) (k : Int) = .ok (.int (l.getD k 0)) := by
  rw [at_map h]
  simp [h]
theorem bd_getD {l : List Int} {n k : Nat} (h : ∀ z ∈ l, Bd n z) (hn : k < l.length) : Bd n (l.getD k 0) := by
  have : l.getD k 0 = l[k] := by simp [hn]
  rw [this]
  exact h _ (List.getElem_mem hn)
theorem v_same_spots {u v : List Int} (hl : u.length = v.length) (h4 : u.length ≤ 1000) (hu : ∀ z ∈ u, Bd 300 z) (hv : ∀ z ∈ v, Bd 300 z) : d_same_spots [.tup (u.map D.int), .tup (v.map D.int)] = .ok (.val (.bl (sameB u v))) := by
  obtain ⟨U, hU⟩ : ∃ U, u.map D.int = U := ⟨_, rfl⟩
  obtain ⟨V, hV⟩ : ∃ V, v.map D.int = V := ⟨_, rfl⟩
  have lU : U.length = u.length := by rw [← hU, List.length_map]
  have au : ∀ k, k < u.length → atD U (k : Int) = .ok (.int (u.getD k 0)) := fun k h => by rw [← hU]; exact at_getD h
  have av : ∀ k, k < u.length → atD V (k : Int) = .ok (.int (v.getD k 0)) := fun k h => by rw [← hV]; exact at_getD (by omega)
  have inner : ∀ k, k < u.length → ∀ x3 : Option Cell, (∃ x3', forD (pName 3) b_same_spots_1 (rngD 0 k) [some (.val (.tup U)), some (.val (.tup V)), some (.val (.int k)), x3] = .ok (.nx [some (.val (.tup U)), some (.val (.tup V)), some (.val (.int k)), x3']) ∧ ∀ j, j < k → u.getD k 0 * v.getD j 0 = u.getD j 0 * v.getD k 0) ∨
      (forD (pName 3) b_same_spots_1 (rngD 0 k) [some (.val (.tup U)), some (.val (.tup V)), some (.val (.int k)), x3] = .ok (.rt (.val (.bl false))) ∧ ∃ j, j < k ∧ u.getD k 0 * v.getD j 0 ≠ u.getD j 0 * v.getD k 0) := by
    intro k hk x3
    have := for_chk (p := pName 3) (s := b_same_spots_1) (r := .val (.bl false)) (fun j => decide (u.getD k 0 * v.getD j 0 = u.getD j 0 * v.getD k 0)) (fun env => ∃ x3, env = [some (.val (.tup U)), some (.val (.tup V)), some (.val (.int k)), x3]) (rngD 0 k) [some (.val (.tup U)), some (.val (.tup V)), some (.val (.int k)), x3] 0 ⟨_, rfl⟩ (by
      rintro j hj env ⟨x3, rfl⟩
      rw [rng_len] at hj
      have e : (rngD 0 k)[j]'(by rw [rng_len]; exact hj) = .int (j : Int) := by simp [rngD]
      rw [e]
      have a1 := au k hk
      have a2 := av j (by omega)
      have a3 := au j (by omega)
      have a4 := av k hk
      have m1 := mulOk_of (bd_getD hu hk) (bd_getD hv (show j < v.length by omega)) (by decide)
      have m2 := mulOk_of (bd_getD hu (show j < u.length by omega)) (bd_getD hv (show k < v.length by omega)) (by decide)
      refine ⟨_, rfl, ?_⟩
      rw [Nat.zero_add]
      by_cases hq : u.getD k 0 * v.getD j 0 = u.getD j 0 * v.getD k 0
      · refine .inl ⟨decide_eq_true hq, [some (.val (.tup U)), some (.val (.tup V)), some (.val (.int k)), some (.val (.int j))], ?_, _, rfl⟩
        generalize u.getD k 0 = a at *
        generalize v.getD j 0 = b at *
        generalize u.getD j 0 = c at *
        generalize v.getD k 0 = d at *
        simp [b_same_spots_1_eq, a1, a2, a3, a4, m1, m2, hq]
      · refine .inr ⟨decide_eq_false hq, ?_⟩
        generalize u.getD k 0 = a at *
        generalize v.getD j 0 = b at *
        generalize u.getD j 0 = c at *
        generalize v.getD k 0 = d at *
        simp [b_same_spots_1_eq, a1, a2, a3, a4, m1, m2, hq])
    rcases this with ⟨env', h1, ⟨x3', rfl⟩, h2⟩ | ⟨h1, j, hj, h2⟩
    · refine .inl ⟨x3', h1, fun j hj => ?_⟩
      have := h2 j (by rw [rng_len]; exact hj)
      rw [Nat.zero_add] at this
      exact of_decide_eq_true this
    · rw [Nat.zero_add] at h2
      rw [rng_len] at hj
      exact .inr ⟨h1, j, hj, of_decide_eq_false h2⟩
  have outer := for_chk (p := pName 2) (s := b_same_spots_2) (r := .val (.bl false)) (fun k => decide (∀ j, j < k → u.getD k 0 * v.getD j 0 = u.getD j 0 * v.getD k 0)) (fun env => ∃ x2 x3, env = [some (.val (.tup U)), some (.val (.tup V)), x2, x3]) (rngD 0 u.length) [some (.val (.tup U)), some (.val (.tup V)), none, none] 0 ⟨_, _, rfl⟩ (by
    rintro k hk env ⟨x2, x3, rfl⟩
    rw [rng_len] at hk
    have e : (rngD 0 u.length)[k]'(by rw [rng_len]; exact hk) = .int (k : Int) := by simp [rngD]
    rw [e]
    have rk := x_rng1N (n := k) (by omega)
    obtain ⟨L, hL⟩ : ∃ L, rngD 0 k = L := ⟨_, rfl⟩
    refine ⟨_, rfl, ?_⟩
    rw [Nat.zero_add]
    rcases inner k hk x3 with ⟨x3', h1, h2⟩ | ⟨h1, j, hj, h2⟩
    · rw [hL] at rk h1
      refine .inl ⟨decide_eq_true h2, [some (.val (.tup U)), some (.val (.tup V)), some (.val (.int k)), x3'], ?_, _, _, rfl⟩
      simp [b_same_spots_2_eq, rk, h1]
    · rw [hL] at rk h1
      refine .inr ⟨decide_eq_false fun q => h2 (q j hj), ?_⟩
      simp [b_same_spots_2_eq, rk, h1])
  have ru := x_rng1N (n := u.length) (by omega)
  obtain ⟨L, hL⟩ : ∃ L, rngD 0 u.length = L := ⟨_, rfl⟩
  rw [hU, hV]
  rcases outer with ⟨env', h1, ⟨x2, x3, rfl⟩, h2⟩ | ⟨h1, k, hk, h2⟩
  · have hb : sameB u v = true := decide_eq_true fun k hk j hj => by
      have := h2 k (by rw [rng_len]; exact hk)
      rw [Nat.zero_add] at this
      exact of_decide_eq_true this j hj
    rw [hL] at ru h1
    rw [hb]
    simp [d_same_spots_eq, s_same_spots, start_eq, lU, ru, h1]
  · have hb : sameB u v = false := decide_eq_false fun q => by
      rw [rng_len] at hk
      rw [Nat.zero_add] at h2
      exact of_decide_eq_false h2 fun j hj => q k hk j hj
    rw [hL] at ru h1
    rw [hb]
    simp [d_same_spots_eq, s_same_spots, start_eq, lU, ru, h1]
noncomputable def b_check_cuts_1 : PL.Env → Res Fl := Classical.choose (⟨(sIf (tst (eFn d_same_spots (aCons (e2 ixD (eVar 1) (eVar 2)) (aCons (eVar 3) aNil)))) (sRaiseA "NoCutting" (eVar 2)) sNil), rfl⟩ : ∃ y : PL.Env → Res Fl, y = (sIf (tst (eFn d_same_spots (aCons (e2 ixD (eVar 1) (eVar 2)) (aCons (eVar 3) aNil)))) (sRaiseA "NoCutting" (eVar 2)) sNil))
theorem b_check_cuts_1_eq : b_check_cuts_1 = (sIf (tst (eFn d_same_spots (aCons (e2 ixD (eVar 1) (eVar 2)) (aCons (eVar 3) aNil)))) (sRaiseA "NoCutting" (eVar 2)) sNil) := Classical.choose_spec (⟨(sIf (tst (eFn d_same_spots (aCons (e2 ixD (eVar 1) (eVar 2)) (aCons (eVar 3) aNil)))) (sRaiseA "NoCutting" (eVar 2)) sNil), rfl⟩ : ∃ y : PL.Env → Res Fl, y = (sIf (tst (eFn d_same_spots (aCons (e2 ixD (eVar 1) (eVar 2)) (aCons (eVar 3) aNil)))) (sRaiseA "NoCutting" (eVar 2)) sNil))
noncomputable def b_check_cuts_2 : PL.Env → Res Fl := Classical.choose (⟨(sSeq (sIf (tOrD (tst (e2 geD (eVar 2) (eC (.int 7)))) (tNotD (tst (eFn d_is_cut (aCons (e2 ixD (eVar 1) (eVar 2)) (aCons (eVar 0) aNil)))))) (sRaiseA "NoCutting" (eVar 2)) sNil)
    (sFor (iSeq (eSl (eVar 1) oNo (oSome (eVar 2)))) (pName 3) b_check_cuts_1)), rfl⟩ : ∃ y : PL.Env → Res Fl, y = (sSeq (sIf (tOrD (tst (e2 geD (eVar 2) (eC (.int 7)))) (tNotD (tst (eFn d_is_cut (aCons (e2 ixD (eVar 1) (eVar 2)) (aCons (eVar 0) aNil)))))) (sRaiseA "NoCutting" (eVar 2)) sNil)
    (sFor (iSeq (eSl (eVar 1) oNo (oSome (eVar 2)))) (pName 3) b_check_cuts_1)))
theorem b_check_cuts_2_eq : b_check_cuts_2 = (sSeq (sIf (tOrD (tst (e2 geD (eVar 2) (eC (.int 7)))) (tNotD (tst (eFn d_is_cut (aCons (e2 ixD (eVar 1) (eVar 2)) (aCons (eVar 0) aNil)))))) (sRaiseA "NoCutting" (eVar 2)) sNil)
    (sFor (iSeq (eSl (eVar 1) oNo (oSome (eVar 2)))) (pName 3) b_check_cuts_1)) := Classical.choose_spec (⟨(sSeq (sIf (tOrD (tst (e2 geD (eVar 2) (eC (.int 7)))) (tNotD (tst (eFn d_is_cut (aCons (e2 ixD (eVar 1) (eVar 2)) (aCons (eVar 0) aNil)))))) (sRaiseA "NoCutting" (eVar 2)) sNil)
    (sFor (iSeq (eSl (eVar 1) oNo (oSome (eVar 2)))) (pName 3) b_check_cuts_1)), rfl⟩ : ∃ y : PL.Env → Res Fl, y = (sSeq (sIf (tOrD (tst (e2 geD (eVar 2) (eC (.int 7)))) (tNotD (tst (eFn d_is_cut (aCons (e2 ixD (eVar 1) (eVar 2)) (aCons (eVar 0) aNil)))))) (sRaiseA "NoCutting" (eVar 2)) sNil)
    (sFor (iSeq (eSl (eVar 1) oNo (oSome (eVar 2)))) (pName 3) b_check_cuts_1)))
noncomputable def s_check_cuts : PL.Env → Res Fl := (sSeq (sIf (tOrD (tNotD (tst (eFn d_is_whole (aCons (eVar 0) aNil)))) (tOrD (tNotD (tst (eChain leD leD (eC (.int 1)) (eVar 0) (eC (.int 3))))) (tNotD (tst (e1 (isiB "list") (eVar 1)))))) (sRaiseA "NoCutting" (e1 negD (eC (.int 1)))) sNil)
    (sForR (iRng1 (aCons (eCall lenD (aCons (eVar 1) aNil)) aNil)) (pName 2) b_check_cuts_2))
noncomputable def d_check_cuts : List D → Res Cell := Classical.choose (⟨runB 4 2 s_check_cuts, rfl⟩ : ∃ y : List D → Res Cell, y = runB 4 2 s_check_cuts)
theorem d_check_cuts_eq : d_check_cuts = runB 4 2 s_check_cuts := Classical.choose_spec (⟨runB 4 2 s_check_cuts, rfl⟩ : ∃ y : List D → Res Cell, y = runB 4 2 s_check_cuts)
theorem snoc_of {n : Nat} {ds : List Int} (h : ds.length = n + 1) : ∃ cs c, ds = cs ++ [c] ∧ cs.length = n := by
  refine ⟨ds.take n, ds[n], ?_, by simp; omega⟩
  have := List.take_succ_eq_append_getElem (l := ds) (i := n) (by omega)
  rw [← this, List.take_of_length_le (by omega)]
def ctD (p : List Int × Int) : D := .tup ((p.1 ++ [p.2]).map D.int)
structure CtOk (n : Nat) (p : List Int × Int) : Prop where
  len : p.1.length = n
  bc : Bd 200 p.2
  bs : ∀ z ∈ p.1, Bd 200 z
/-- the cuts of a cutting -/
structure CsOk (n : Nat) (C : List (List Int × Int)) : Prop where
  d1 : 1 ≤ n
  d3 : n ≤ 3
  l7 : C.length ≤ 7
  ok : ∀ p ∈ C, CtOk n p
  nz : ∀ p ∈ C, p.1 ≠ List.replicate n 0
  pw : C.Pairwise fun p q => sameB (full p) (full q) = false
theorem full_len {n : Nat} {p : List Int × Int} (h : CtOk n p) : (full p).length = n + 1 := by simp [full, h.len]
theorem full_bd {n : Nat} {p : List Int × Int} (h : CtOk n p) : ∀ z ∈ full p, Bd 300 z := by
  intro z hz
  rcases List.mem_append.mp hz with q | q
  · exact (h.bs z q).mono (by decide)
  · rw [List.mem_singleton.mp q]; exact h.bc.mono (by decide)
theorem ctD_full (p : List Int × Int) : ctD p = .tup ((full p).map D.int) := rfl
theorem noLsts_i : ∀ zs : List Int, noLsts (zs.map D.int) = true
  | [] => by simp [noLsts]
  | z :: zs => by simp [noLsts, noLst, noLsts_i zs]
theorem noLst_ct (p : List Int × Int) : noLst (ctD p) = true := by
  unfold ctD
  simp only [noLst]
  exact noLsts_i _
theorem noLsts_ct : ∀ C : List (List Int × Int), noLsts (C.map ctD) = true
  | [] => by simp [noLsts]
  | p :: C => by simp [noLsts, noLst_ct p, noLsts_ct C]
theorem eqOks_ct : ∀ (C : List (List Int × Int)) (k : Nat), eqOks (k + 1) (C.map ctD) = true
  | [], k => by simp
  | p :: C, k => by
    have e := eqOks_ints (n := k) (p.1 ++ [p.2])
    have h := eqOks_ct C k
    simp only [List.map_cons, eqOks_cons, h, Bool.and_true]
    unfold ctD
    rw [eqOk_t]
    simp only [Nat.add_sub_cancel]
    rw [e]
    simp
theorem deqs_ct : ∀ C : List (List Int × Int), deqs (C.map ctD) (C.map ctD) = true
  | [] => by simp
  | p :: C => by
    have e := deqs_ints (p.1 ++ [p.2]) (p.1 ++ [p.2])
    have h := deqs_ct C
    simp only [List.map_cons, deqs_cc, h, Bool.and_true]
    unfold ctD
    rw [deq_tt, e]
    simp
theorem not_cut_nt {d : D} {n : Int} (h : isiB "tuple" d = .ok (.bl false)) : d_is_cut [d, .int n] = .ok (.val (.bl false)) := by
  simp [d_is_cut_eq, s_is_cut, start_eq, h]
theorem not_cut_len {l : List D} {n : Nat} (h : l.length ≠ n + 1) : d_is_cut [.tup l, .int n] = .ok (.val (.bl false)) := by
  have h' : ¬ ((l.length : Int) = (n : Int) + 1) := by omega
  simp [d_is_cut_eq, s_is_cut, start_eq, h']
def isI : D → Bool
  | .int _ => true
  | _ => false
theorem not_cut_odd {l : List D} {n : Nat} (h3 : n ≤ 3) (hl : l.length = n + 1) (h : ∀ d ∈ l, d_is_whole [d] = .ok (.val (.bl (isI d)))) (hf : l.all isI = false) : d_is_cut [.tup l, .int n] = .ok (.val (.bl false)) := by
  have k := comp_map (dec := id) (enc := D.bl) (p := pName 2) (f := c_is_cut_1) (env := [some (.tup l), some (.int n), none]) isI l (fun b hb => ⟨[(2, b)], rfl, by
    have := h b hb
    show c_is_cut_1 _ = _
    simp [c_is_cut_1_eq, this]⟩)
  rw [List.map_id] at k
  have e := all_bls (bs := l.map isI)
  have a : (l.map isI).all id = false := by rw [List.all_map]; exact hf
  rw [a] at e
  have l2 : n + 1 ≤ 1000000 := by omega
  have l2' : n ≤ 999999 := by omega
  have lc : (l.length : Int) = n + 1 := by omega
  generalize (l.map isI).map D.bl = U at *
  simp [d_is_cut_eq, s_is_cut, start_eq, x_comp, hl, k, e, l2, l2']
theorem w_i {z : Int} : d_is_whole [.int z] = .ok (.val (.bl (isI (.int z)))) := v_is_whole
theorem w_n : d_is_whole [.non] = .ok (.val (.bl (isI .non))) := by simp [d_is_whole_eq, s_is_whole, start_eq, isI]
theorem w_s {x : Str} : d_is_whole [.str x] = .ok (.val (.bl (isI (.str x)))) := by simp [d_is_whole_eq, s_is_whole, start_eq, isI]
theorem w_b {x : Bool} : d_is_whole [.bl x] = .ok (.val (.bl (isI (.bl x)))) := by simp [d_is_whole_eq, s_is_whole, start_eq, isI]
theorem w_t {x : List D} : d_is_whole [.tup x] = .ok (.val (.bl (isI (.tup x)))) := by simp [d_is_whole_eq, s_is_whole, start_eq, isI]
theorem all_map_snoc {cs : List Int} {d : D} (h : isI d = false) : (cs.map D.int ++ [d]).all isI = false := by
  rw [List.all_append]
  simp [h]
/-- a list whose first ones are good cuts -/
structure Pre (n : Nat) (C : List (List Int × Int)) (T : List D) : Prop where
  c : CsOk n C
  at_ : ∀ i (h : i < C.length), atD T (i : Int) = .ok (ctD C[i])
  cut : ∀ i, i ≤ C.length → cutL T none (some (i : Int)) = (C.take i).map ctD
theorem pre_of {n : Nat} {C : List (List Int × Int)} (R : List D) (h : CsOk n C) : Pre n C (C.map ctD ++ R) := by
  refine ⟨h, fun i hi => ?_, fun i hi => ?_⟩
  · rw [y_atn, List.getElem?_append_left (by simpa using hi), List.getElem?_map, List.getElem?_eq_getElem hi]
    rfl
  · rw [cutL_to, List.take_append_of_le_length (by simpa using hi), ← List.map_take]
/-- the cuts ahead, looked at by one more -/
theorem ck_inner {n i : Nat} {C : List (List Int × Int)} {T : List D} {u : List Int} (p : Pre n C T) (hi : i ≤ C.length) (hu : u.length = n + 1) (bu : ∀ z ∈ u, Bd 300 z) (au : atD T (i : Int) = .ok (.tup (u.map D.int))) (x3 : Option Cell) :
    ((∀ q ∈ C.take i, sameB u (full q) = false) → ∃ x3', forD (pName 3) b_check_cuts_1 ((C.take i).map ctD) [some (.val (.int n)), some (.val (.lst T)), some (.val (.int i)), x3] = .ok (.nx [some (.val (.int n)), some (.val (.lst T)), some (.val (.int i)), x3'])) ∧
    ((∃ q ∈ C.take i, sameB u (full q) = true) → forD (pName 3) b_check_cuts_1 ((C.take i).map ctD) [some (.val (.int n)), some (.val (.lst T)), some (.val (.int i)), x3] = .exc "NoCutting" (some (.int i))) := by
  have d3 := p.c.d3
  have step : ∀ (j : Nat) (hj : j < (C.take i).length) (y3 : Option Cell), b_check_cuts_1 [some (.val (.int n)), some (.val (.lst T)), some (.val (.int i)), some (.val (ctD (C.take i)[j]))] = if sameB u (full (C.take i)[j]) = true then .exc "NoCutting" (some (.int i)) else .ok (.nx [some (.val (.int n)), some (.val (.lst T)), some (.val (.int i)), some (.val (ctD (C.take i)[j]))]) := by
    intro j hj _
    have oj := p.c.ok _ (List.mem_of_mem_take (List.getElem_mem hj))
    generalize (C.take i)[j] = q at *
    have ss := v_same_spots (u := u) (v := full q) (by rw [hu, full_len oj]) (by rw [hu]; omega) bu (full_bd oj)
    rw [← ctD_full] at ss
    generalize ctD q = Q at *
    generalize u.map D.int = U at *
    generalize (n : Int) = z at *
    cases hb : sameB u (full q) with
    | true =>
      rw [hb] at ss
      simp [b_check_cuts_1_eq, au, ss]
    | false =>
      rw [hb] at ss
      simp [b_check_cuts_1_eq, au, ss]
  refine ⟨fun h => ?_, fun ⟨q, hq, hs⟩ => ?_⟩
  · obtain ⟨env1, hf1, y3, rfl⟩ := for_inv (p := pName 3) (s := b_check_cuts_1) (fun _ env => ∃ y3, env = [some (.val (.int n)), some (.val (.lst T)), some (.val (.int i)), y3]) ((C.take i).map ctD) [some (.val (.int n)), some (.val (.lst T)), some (.val (.int i)), x3] 0 ⟨_, rfl⟩ (by
      rintro j hj env ⟨y3, rfl⟩
      have hj' : j < (C.take i).length := by simpa using hj
      have e : ((C.take i).map ctD)[j] = ctD (C.take i)[j] := by rw [List.getElem_map]
      rw [e]
      have st := step j hj' y3
      rw [h _ (List.getElem_mem hj'), if_neg (by decide)] at st
      exact ⟨[(3, ctD (C.take i)[j])], _, rfl, .inl st, _, rfl⟩)
    exact ⟨y3, hf1⟩
  · -- the first one that is the same
    have key : ∀ (m : Nat) (hm : m < (C.take i).length), sameB u (full (C.take i)[m]) = true → ∃ (m : Nat) (hm : m < (C.take i).length), sameB u (full (C.take i)[m]) = true ∧ ∀ j (hj : j < m), sameB u (full ((C.take i)[j]'(by omega))) = false := by
      intro m
      induction m using Nat.strongRecOn with
      | _ m ih =>
        intro hm hs
        by_cases hx : ∃ (j : Nat) (hj : j < m), sameB u (full ((C.take i)[j]'(by omega))) = true
        · obtain ⟨j, hj, hj2⟩ := hx
          exact ih j hj (by omega) hj2
        · refine ⟨m, hm, hs, fun j hj => ?_⟩
          cases hb : sameB u (full ((C.take i)[j]'(by omega))) with
          | false => rfl
          | true => exact absurd ⟨j, hj, hb⟩ hx
    obtain ⟨m0, hm0, e0⟩ := List.getElem_of_mem hq
    obtain ⟨m, hm, hs2, hbef⟩ := key m0 hm0 (by rw [e0]; exact hs)
    refine for_exc (fun _ env => ∃ y3, env = [some (.val (.int n)), some (.val (.lst T)), some (.val (.int i)), y3]) ((C.take i).map ctD) m (by simpa using hm) _ 0 ⟨_, rfl⟩ ?_ ?_
    · rintro j hj env hjm ⟨y3, rfl⟩
      have hj' : j < (C.take i).length := by simpa using hj
      have e : ((C.take i).map ctD)[j] = ctD (C.take i)[j] := by rw [List.getElem_map]
      rw [e]
      have st := step j hj' y3
      rw [hbef j hjm, if_neg (by decide)] at st
      exact ⟨[(3, ctD (C.take i)[j])], _, rfl, st, _, rfl⟩
    · rintro env ⟨y3, rfl⟩
      have e : ((C.take i).map ctD)[m]'(by simpa using hm) = ctD (C.take i)[m] := by rw [List.getElem_map]
      rw [e]
      have st := step m hm y3
      rw [hs2, if_pos rfl] at st
      exact ⟨[(3, ctD (C.take i)[m])], rfl, st⟩
theorem ck_good {n i : Nat} {C : List (List Int × Int)} {T : List D} (p : Pre n C T) (hi : i < C.length) (x3 : Option Cell) : ∃ x3', b_check_cuts_2 [some (.val (.int n)), some (.val (.lst T)), some (.val (.int i)), x3] = .ok (.nx [some (.val (.int n)), some (.val (.lst T)), some (.val (.int i)), x3']) := by
  have d3 := p.c.d3
  have l7 := p.c.l7
  have oi := p.c.ok _ (List.getElem_mem hi)
  have ai := p.at_ i hi
  have ct := p.cut i (Nat.le_of_lt hi)
  have ic := v_is_cut (cs := full C[i]) (n := n) d3 (by rw [full_len oi]; omega)
  have cb : cutB n (full C[i]) = true := by
    unfold cutB full
    rw [List.take_append_of_le_length (by rw [oi.len]; exact Nat.le_refl _), List.take_of_length_le (by rw [oi.len]; exact Nat.le_refl _)]
    have := p.c.nz _ (List.getElem_mem hi)
    simp [oi.len, this]
  rw [cb] at ic
  rw [ctD_full] at ai
  obtain ⟨x3', hf⟩ := (ck_inner (u := full C[i]) p (Nat.le_of_lt hi) (full_len oi) (full_bd oi) ai x3).1 (fun q hq => by
    obtain ⟨j, hj, rfl⟩ := List.getElem_of_mem hq
    rw [List.length_take] at hj
    rw [List.getElem_take]
    have oj := p.c.ok _ (List.getElem_mem (show j < C.length by omega))
    rw [sameB_symm (by rw [full_len oi, full_len oj])]
    exact List.pairwise_iff_getElem.mp p.c.pw j i (by omega) hi (by omega))
  have i7 : ¬ (7 : Int) ≤ i := by omega
  refine ⟨x3', ?_⟩
  generalize (full C[i]).map D.int = U at *
  generalize (C.take i).map ctD = A at *
  generalize (n : Int) = z at *
  rw [b_check_cuts_2_eq]
  refine (seq_nx (e1 := [some (.val (.int z)), some (.val (.lst T)), some (.val (.int i)), x3]) ?_).trans ?_
  · simp [ai, ic, i7]
  · simp [-cutL_to, ct, hf]
/-- what is no cut, or the same as one ahead, or one too many -/
theorem ck_bad {n i : Nat} {C : List (List Int × Int)} {T : List D} {d : D} (p : Pre n C T) (hi : i = C.length) (ai : atD T (i : Int) = .ok d) (h : 7 ≤ i ∨ d_is_cut [d, .int n] = .ok (.val (.bl false)) ∨ ∃ u : List Int, d = .tup (u.map D.int) ∧ u.length = n + 1 ∧ (∀ z ∈ u, Bd 300 z) ∧ ∃ q ∈ C, sameB u (full q) = true) (x3 : Option Cell) :
    b_check_cuts_2 [some (.val (.int n)), some (.val (.lst T)), some (.val (.int i)), x3] = .exc "NoCutting" (some (.int i)) := by
  have d3 := p.c.d3
  rw [b_check_cuts_2_eq]
  by_cases h7 : 7 ≤ i
  · have i7 : (7 : Int) ≤ i := by omega
    refine seq_exc ?_
    generalize (n : Int) = z at *
    simp [i7]
  · have i7 : ¬ (7 : Int) ≤ i := by omega
    rcases h with h | h | ⟨u, rfl, hu, bu, hq⟩
    · exact absurd h h7
    · refine seq_exc ?_
      generalize (n : Int) = z at *
      simp [i7, ai, h]
    · have ic := v_is_cut (cs := u) (n := n) d3 (by omega)
      cases hc : cutB n u with
      | false =>
        rw [hc] at ic
        refine seq_exc ?_
        generalize u.map D.int = U at *
        generalize (n : Int) = z at *
        simp [i7, ai, ic]
      | true =>
        rw [hc] at ic
        have ct := p.cut i (Nat.le_of_eq hi)
        have tk : C.take i = C := by rw [hi, List.take_length]
        have ft := (ck_inner (u := u) p (Nat.le_of_eq hi) hu bu ai x3).2 (by rw [tk]; exact hq)
        generalize u.map D.int = U at *
        generalize (C.take i).map ctD = A at *
        generalize (n : Int) = z at *
        refine (seq_nx (e1 := [some (.val (.int z)), some (.val (.lst T)), some (.val (.int i)), x3]) ?_).trans ?_
        · simp [ai, ic, i7]
        · simp [-cutL_to, ct, ft]
/-- a kind of dims, of a thing -/
theorem v_check_pre {z : Int} {d e : D} (h : (d_is_whole [d] = .ok (.val (.bl false))) ∨ (d = .int z ∧ (z < 1 ∨ 3 < z)) ∨ (d = .int z ∧ 1 ≤ z ∧ z ≤ 3 ∧ isiB "list" e = .ok (.bl false))) : d_check_cuts [d, e] = .exc "NoCutting" (some (.int (-1))) := by
  rw [d_check_cuts_eq]
  refine run_exc rfl ?_
  have es : startE 4 [d, e] = [some (.val d), some (.val e), none, none] := rfl
  rw [es]
  unfold s_check_cuts
  refine seq_exc ?_
  rcases h with h | ⟨rfl, h⟩ | ⟨rfl, h1, h2, h3⟩
  · simp [h]
  · rcases h with h | h
    · have a : ¬ (1 : Int) ≤ z := by omega
      simp [v_is_whole, a]
    · have a : (1 : Int) ≤ z := by omega
      have b : ¬ z ≤ 3 := by omega
      simp [v_is_whole, a, b]
  · simp [v_is_whole, h1, h2, h3]
theorem ck_head {z : Int} {T : List D} (h1 : 1 ≤ z) (h2 : z ≤ 3) : (sIf (tOrD (tNotD (tst (eFn d_is_whole (aCons (eVar 0) aNil)))) (tOrD (tNotD (tst (eChain leD leD (eC (.int 1)) (eVar 0) (eC (.int 3))))) (tNotD (tst (e1 (isiB "list") (eVar 1)))))) (sRaiseA "NoCutting" (e1 negD (eC (.int 1)))) sNil) [some (.val (.int z)), some (.val (.lst T)), none, none] = .ok (.nx [some (.val (.int z)), some (.val (.lst T)), none, none]) := by
  simp [v_is_whole, h1, h2]
theorem v_check_cuts {n : Nat} {C : List (List Int × Int)} (h : CsOk n C) : d_check_cuts [.int n, .lst (C.map ctD)] = .ok (.val .non) := by
  have p := pre_of [] h
  rw [List.append_nil] at p
  have l7 := h.l7
  have lC : (C.map ctD).length = C.length := by simp
  have g1 : (1 : Int) ≤ (n : Int) := by have := h.d1; omega
  have g2 : (n : Int) ≤ 3 := by have := h.d3; omega
  obtain ⟨env', hfor, x2, x3, rfl⟩ := forR_inv (p := pName 2) (s := b_check_cuts_2) (lo := 0) (n := C.length) (env := [some (.val (.int n)), some (.val (.lst (C.map ctD))), none, none]) (fun _ env => ∃ x2 x3, env = [some (.val (.int n)), some (.val (.lst (C.map ctD))), x2, x3]) ⟨_, _, rfl⟩ (by
    rintro i hi env ⟨x2, x3, rfl⟩
    obtain ⟨x3', hg⟩ := ck_good p hi x3
    refine ⟨[(2, .int (0 + (i : Int)))], [some (.val (.int n)), some (.val (.lst (C.map ctD))), some (.val (.int i)), x3'], rfl, .inl ?_, _, _, rfl⟩
    show b_check_cuts_2 [some (.val (.int n)), some (.val (.lst (C.map ctD))), some (.val (.int (0 + (i : Int)))), x3] = _
    rw [Int.zero_add]
    exact hg)
  rw [d_check_cuts_eq]
  refine run_nx (e := [some (.val (.int n)), some (.val (.lst (C.map ctD))), x2, x3]) rfl ?_
  have es : startE 4 [D.int n, .lst (C.map ctD)] = [some (.val (.int n)), some (.val (.lst (C.map ctD))), none, none] := rfl
  rw [es]
  unfold s_check_cuts
  refine (seq_nx (ck_head g1 g2)).trans ?_
  have rc := x_rng1N (n := C.length) (by omega)
  obtain ⟨L, hL⟩ : ∃ L, rngD 0 C.length = L := ⟨_, rfl⟩
  rw [hL] at rc hfor
  generalize hcl : ((C.length : Nat) : Int) = w at *
  generalize (n : Int) = z at *
  generalize C.map ctD = T at *
  simp [lC, hcl, rc, hfor]
theorem v_check_bad {n : Nat} {C : List (List Int × Int)} {d : D} {R : List D} (hc : CsOk n C) (hR : R.length ≤ 1000) (h : 7 ≤ C.length ∨ d_is_cut [d, .int n] = .ok (.val (.bl false)) ∨ ∃ u : List Int, d = .tup (u.map D.int) ∧ u.length = n + 1 ∧ (∀ z ∈ u, Bd 300 z) ∧ ∃ q ∈ C, sameB u (full q) = true) :
    d_check_cuts [.int n, .lst (C.map ctD ++ d :: R)] = .exc "NoCutting" (some (.int C.length)) := by
  have p := pre_of (d :: R) hc
  have l7 := hc.l7
  have lT : (C.map ctD ++ d :: R).length = C.length + (R.length + 1) := by simp
  have ad : atD (C.map ctD ++ d :: R) (C.length : Int) = .ok d := by
    rw [y_atn, List.getElem?_append_right (by simp)]
    simp
  have g1 : (1 : Int) ≤ (n : Int) := by have := hc.d1; omega
  have g2 : (n : Int) ≤ 3 := by have := hc.d3; omega
  generalize C.map ctD ++ d :: R = T at *
  have hfor := forR_exc (p := pName 2) (s := b_check_cuts_2) (n := C.length + (R.length + 1)) (c := "NoCutting") (x := some (.int C.length)) (fun _ env => ∃ x2 x3, env = [some (.val (.int n)), some (.val (.lst T)), x2, x3]) C.length (by omega) [some (.val (.int n)), some (.val (.lst T)), none, none] ⟨_, _, rfl⟩ (by
    rintro i hi env ⟨x2, x3, rfl⟩
    obtain ⟨x3', hg⟩ := ck_good p hi x3
    exact ⟨[(2, .int i)], _, rfl, hg, _, _, rfl⟩) (by
    rintro env ⟨x2, x3, rfl⟩
    exact ⟨[(2, .int C.length)], rfl, ck_bad p rfl ad h x3⟩)
  rw [d_check_cuts_eq]
  refine run_exc rfl ?_
  have es : startE 4 [D.int n, .lst T] = [some (.val (.int n)), some (.val (.lst T)), none, none] := rfl
  rw [es]
  unfold s_check_cuts
  refine (seq_nx (ck_head g1 g2)).trans ?_
  have rc := x_rng1N (n := C.length + (R.length + 1)) (by omega)
  obtain ⟨L, hL⟩ : ∃ L, rngD 0 (C.length + (R.length + 1)) = L := ⟨_, rfl⟩
  rw [hL] at rc hfor
  generalize hm : ((C.length + (R.length + 1) : Nat) : Int) = w at *
  generalize ((C.length : Nat) : Int) = cl at *
  generalize (n : Int) = z at *
  have lw : ((T.length : Nat) : Int) = w := by rw [lT, hm]
  simp [lw, rc, hfor]
/-- a cutting, as data -/
def kD (n : Nat) (C : List (List Int × Int)) : D := .cut n (C.map ctD)
theorem v_make {n : Nat} {C : List (List Int × Int)} (h : CsOk n C) : initD d_check_cuts [.int n, .lst (C.map ctD)] = .ok (kD n C) := by
  have := v_check_cuts h
  unfold kD
  generalize C.map ctD = T at *
  simp [x_initD, this]
theorem noLst_k (n : Nat) (C : List (List Int × Int)) : noLst (kD n C) = true := by
  unfold kD
  simp only [noLst]
  exact noLsts_ct C
theorem v_make_bad {a b : D} {x : Option D} (h : d_check_cuts [a, b] = .exc "NoCutting" x) : initD d_check_cuts [a, b] = .exc "NoCutting" x := by
  simp [x_initD, h]

noncomputable def s_Cutting_cuts : PL.Env → Res Fl := (sRetO (eCallO listO (aCons (e1 rowsD (eVar 0)) aNil)))
noncomputable def d_Cutting_cuts : List D → Res Cell := Classical.choose (⟨runB 1 1 s_Cutting_cuts, rfl⟩ : ∃ y : List D → Res Cell, y = runB 1 1 s_Cutting_cuts)
theorem d_Cutting_cuts_eq : d_Cutting_cuts = runB 1 1 s_Cutting_cuts := Classical.choose_spec (⟨runB 1 1 s_Cutting_cuts, rfl⟩ : ∃ y : List D → Res Cell, y = runB 1 1 s_Cutting_cuts)
theorem v_cuts {n : Nat} {C : List (List Int × Int)} : d_Cutting_cuts [kD n C] = .ok (.own (C.map ctD)) := by
  unfold kD
  generalize C.map ctD = T
  simp [d_Cutting_cuts_eq, s_Cutting_cuts, start_eq]
noncomputable def s_Cutting_with_one : PL.Env → Res Fl := (sRet (eMake (initD d_check_cuts) (aCons (e1 wideD (eVar 0)) (aCons (e2 addD (lstD (eCallO listO (aCons (e1 rowsD (eVar 0)) aNil))) (lstD (oLst (aCons (eVar 1) aNil)))) aNil))))
noncomputable def d_Cutting_with_one : List D → Res Cell := Classical.choose (⟨runB 2 2 s_Cutting_with_one, rfl⟩ : ∃ y : List D → Res Cell, y = runB 2 2 s_Cutting_with_one)
theorem d_Cutting_with_one_eq : d_Cutting_with_one = runB 2 2 s_Cutting_with_one := Classical.choose_spec (⟨runB 2 2 s_Cutting_with_one, rfl⟩ : ∃ y : List D → Res Cell, y = runB 2 2 s_Cutting_with_one)
theorem v_with_one_bad {n : Nat} {C : List (List Int × Int)} {d : D} {x : Option D} (hl : C.length ≤ 1000) (h : d_check_cuts [.int n, .lst (C.map ctD ++ [d])] = .exc "NoCutting" x) : d_Cutting_with_one [kD n C, d] = .exc "NoCutting" x := by
  have k := v_make_bad h
  have la : (C.map ctD).length + 1 ≤ 1000000 := by simp; omega
  have la' : (C.map ctD).length ≤ 999999 := by simp; omega
  have rk : rowsD (kD n C) = .ok (.tup (C.map ctD)) := rfl
  have wk : wideD (kD n C) = .ok (.int n) := rfl
  generalize kD n C = K at *
  generalize C.map ctD = T at *
  generalize (n : Int) = z at *
  simp [d_Cutting_with_one_eq, s_Cutting_with_one, start_eq, rk, wk, la, la', k]
noncomputable def s__law_cell_at : PL.Env → Res Fl := (sSeq (sIf (tst (e2 ltD (eVar 1) (eCall lenD (aCons (eVar 0) aNil)))) (sRet (e2 ixD (eVar 0) (eVar 1))) sNil)
    (sRet (eC (.int 0))))
noncomputable def d__law_cell_at : List D → Res Cell := Classical.choose (⟨runB 2 2 s__law_cell_at, rfl⟩ : ∃ y : List D → Res Cell, y = runB 2 2 s__law_cell_at)
theorem d__law_cell_at_eq : d__law_cell_at = runB 2 2 s__law_cell_at := Classical.choose_spec (⟨runB 2 2 s__law_cell_at, rfl⟩ : ∃ y : List D → Res Cell, y = runB 2 2 s__law_cell_at)
theorem v__law_cell_at {ns : List Int} {k : Nat} : d__law_cell_at [.scr ns, .int k] = .ok (.val (.int (ns.getD k 0))) := by
  by_cases h : k < ns.length
  · simp [d__law_cell_at_eq, s__law_cell_at, start_eq, h, atI_nn]
  · simp [d__law_cell_at_eq, s__law_cell_at, start_eq, h]
theorem bd_cell {ns : List Int} (hb : ∀ z ∈ ns, Builtin.Int.intBits z ≤ 1048576) (k : Nat) : Bd 1048576 (ns.getD k 0) := by
  by_cases h : k < ns.length
  · have : ns.getD k 0 = ns[k] := by simp [h]
    rw [this]
    exact bd_bits (hb _ (List.getElem_mem h))
  · have : ns.getD k 0 = 0 := by simp [h]
    rw [this]
    exact bd_bits (by decide +kernel)
noncomputable def b__law_draw_1 : PL.Env → Res Fl := Classical.choose (⟨(sSet 3 (e2 fdivD (eVar 3) (eVar 2))), rfl⟩ : ∃ y : PL.Env → Res Fl, y = (sSet 3 (e2 fdivD (eVar 3) (eVar 2))))
theorem b__law_draw_1_eq : b__law_draw_1 = (sSet 3 (e2 fdivD (eVar 3) (eVar 2))) := Classical.choose_spec (⟨(sSet 3 (e2 fdivD (eVar 3) (eVar 2))), rfl⟩ : ∃ y : PL.Env → Res Fl, y = (sSet 3 (e2 fdivD (eVar 3) (eVar 2))))
noncomputable def s__law_draw : PL.Env → Res Fl := (sSeq (sIf (tst (e2 geD (eVar 0) (e2 powD (eC (.int 10)) (eC (.int 18))))) (sSeq (sSet 3 (eVar 0))
    (sSeq (sForR (iRng1 (aCons (eVar 1) aNil)) (pName 4) b__law_draw_1)
    (sRet (e2 modD (eVar 3) (eVar 2))))) sNil)
    (sSeq (sSet 5 (e2 modD (e2 mulX (e2 addD (e2 addD (e2 modD (eVar 0) (eC (.int 1000000007))) (e2 mulX (eC (.int 1009)) (eVar 1))) (eC (.int 17))) (eC (.int 69621))) (eC (.int 2147483647))))
    (sSeq (sSet 5 (e2 modD (e2 addD (e2 addD (e2 mulX (eVar 5) (eVar 5)) (e2 mulX (eC (.int 40503)) (eVar 1))) (eC (.int 5))) (eC (.int 2147483629))))
    (sRet (e2 modD (e2 fdivD (e2 modD (e2 mulX (eVar 5) (eC (.int 48271))) (eC (.int 2147483647))) (eC (.int 32))) (eVar 2))))))
noncomputable def d__law_draw : List D → Res Cell := Classical.choose (⟨runB 6 3 s__law_draw, rfl⟩ : ∃ y : List D → Res Cell, y = runB 6 3 s__law_draw)
theorem d__law_draw_eq : d__law_draw = runB 6 3 s__law_draw := Classical.choose_spec (⟨runB 6 3 s__law_draw, rfl⟩ : ∃ y : List D → Res Cell, y = runB 6 3 s__law_draw)
theorem v__law_draw {c k b : Int} (hc : Bd 1048576 c) (k0 : 0 ≤ k) (k1 : k ≤ 1000000) (b0 : 0 < b) (b1 : b < 4611686018427387904) : ∃ z, d__law_draw [.int c, .int k, .int b] = .ok (.val (.int z)) ∧ 0 ≤ z ∧ z < b := by
  have bn : b ≠ 0 := by omega
  have bb : Bd 64 b := bd64 (by omega) (by omega)
  by_cases hge : 1000000000000000000 ≤ c
  · obtain ⟨env', hfor, z, x4, x5, rfl, bz⟩ := forR_inv (p := pName 4) (s := b__law_draw_1) (lo := 0) (n := k.toNat) (env := [some (.val (.int c)), some (.val (.int k)), some (.val (.int b)), some (.val (.int c)), none, none])
      (fun _ env => ∃ z x4 x5, env = [some (.val (.int c)), some (.val (.int k)), some (.val (.int b)), some (.val (.int z)), x4, x5] ∧ Bd 1048576 z) ⟨c, none, none, rfl, hc⟩ (by
        rintro i hi env ⟨z, x4, x5, rfl, bz⟩
        refine ⟨[(4, .int (0 + i))], [some (.val (.int c)), some (.val (.int k)), some (.val (.int b)), some (.val (.int (z.fdiv b))), some (.val (.int i)), x5], rfl, .inl ?_, z.fdiv b, _, _, rfl, bz.fdiv⟩
        simp [b__law_draw_1_eq, divOk_of bn bb (by decide)])
    have r1 := x_rng1K (rngOk_of (j := k) (by omega) k1)
    have f := fm (a := z) b0
    refine ⟨z.fmod b, ?_, f.1, f.2⟩
    simp [d__law_draw_eq, s__law_draw, start_eq, hge, r1, hfor, bn]
  · obtain ⟨r, hr⟩ : ∃ r, c.fmod 1000000007 = r := ⟨_, rfl⟩
    have fr := fm (a := c) (b := 1000000007) (by decide)
    rw [hr] at fr
    have m1 : mulOk 1009 k = true := mul64 (by decide) (by decide) (by omega) (by omega)
    have m2 : mulOk (r + 1009 * k + 17) 69621 = true := mul64 (by omega) (by omega) (by decide) (by decide)
    obtain ⟨s, hs⟩ : ∃ s, ((r + 1009 * k + 17) * 69621).fmod 2147483647 = s := ⟨_, rfl⟩
    have fs := fm (a := (r + 1009 * k + 17) * 69621) (b := 2147483647) (by decide)
    rw [hs] at fs
    have m3 : mulOk s s = true := mul64 (by omega) (by omega) (by omega) (by omega)
    have m4 : mulOk 40503 k = true := mul64 (by decide) (by decide) (by omega) (by omega)
    obtain ⟨t, ht⟩ : ∃ t, (s * s + 40503 * k + 5).fmod 2147483629 = t := ⟨_, rfl⟩
    have ft := fm (a := s * s + 40503 * k + 5) (b := 2147483629) (by decide)
    rw [ht] at ft
    have m5 : mulOk t 48271 = true := mul64 (by omega) (by omega) (by decide) (by decide)
    have dv : divOk ((t * 48271).fmod 2147483647) 32 = true := divOk_of (n := 6) (by decide) (by unfold Bd; decide) (by decide)
    have f := fm (a := ((t * 48271).fmod 2147483647).fdiv 32) b0
    refine ⟨_, ?_, f.1, f.2⟩
    simp [d__law_draw_eq, s__law_draw, start_eq, hge, hr, m1, m2, hs, m3, m4, ht, m5, dv, bn]
noncomputable def s__law_whole : PL.Env → Res Fl := (sRet (eAnd (e1 (isiB "int") (eVar 0)) (eNot (e1 (isiB "bool") (eVar 0)))))
noncomputable def d__law_whole : List D → Res Cell := Classical.choose (⟨runB 1 1 s__law_whole, rfl⟩ : ∃ y : List D → Res Cell, y = runB 1 1 s__law_whole)
theorem d__law_whole_eq : d__law_whole = runB 1 1 s__law_whole := Classical.choose_spec (⟨runB 1 1 s__law_whole, rfl⟩ : ∃ y : List D → Res Cell, y = runB 1 1 s__law_whole)
theorem v__law_whole {a : Int} : d__law_whole [.int a] = .ok (.val (.bl true)) := by
  simp [d__law_whole_eq, s__law_whole, start_eq]
noncomputable def b__law_same_1 : PL.Env → Res Fl := Classical.choose (⟨(sIf (tst (e2 neD (e2 mulX (e2 ixD (eVar 0) (eVar 2)) (e2 ixD (eVar 1) (eVar 3))) (e2 mulX (e2 ixD (eVar 0) (eVar 3)) (e2 ixD (eVar 1) (eVar 2))))) (sRet (eC (.bl false))) sNil), rfl⟩ : ∃ y : PL.Env → Res Fl, y = (sIf (tst (e2 neD (e2 mulX (e2 ixD (eVar 0) (eVar 2)) (e2 ixD (eVar 1) (eVar 3))) (e2 mulX (e2 ixD (eVar 0) (eVar 3)) (e2 ixD (eVar 1) (eVar 2))))) (sRet (eC (.bl false))) sNil))
theorem b__law_same_1_eq : b__law_same_1 = (sIf (tst (e2 neD (e2 mulX (e2 ixD (eVar 0) (eVar 2)) (e2 ixD (eVar 1) (eVar 3))) (e2 mulX (e2 ixD (eVar 0) (eVar 3)) (e2 ixD (eVar 1) (eVar 2))))) (sRet (eC (.bl false))) sNil) := Classical.choose_spec (⟨(sIf (tst (e2 neD (e2 mulX (e2 ixD (eVar 0) (eVar 2)) (e2 ixD (eVar 1) (eVar 3))) (e2 mulX (e2 ixD (eVar 0) (eVar 3)) (e2 ixD (eVar 1) (eVar 2))))) (sRet (eC (.bl false))) sNil), rfl⟩ : ∃ y : PL.Env → Res Fl, y = (sIf (tst (e2 neD (e2 mulX (e2 ixD (eVar 0) (eVar 2)) (e2 ixD (eVar 1) (eVar 3))) (e2 mulX (e2 ixD (eVar 0) (eVar 3)) (e2 ixD (eVar 1) (eVar 2))))) (sRet (eC (.bl false))) sNil))
noncomputable def b__law_same_2 : PL.Env → Res Fl := Classical.choose (⟨(sForR (iRng1 (aCons (eVar 2) aNil)) (pName 3) b__law_same_1), rfl⟩ : ∃ y : PL.Env → Res Fl, y = (sForR (iRng1 (aCons (eVar 2) aNil)) (pName 3) b__law_same_1))
theorem b__law_same_2_eq : b__law_same_2 = (sForR (iRng1 (aCons (eVar 2) aNil)) (pName 3) b__law_same_1) := Classical.choose_spec (⟨(sForR (iRng1 (aCons (eVar 2) aNil)) (pName 3) b__law_same_1), rfl⟩ : ∃ y : PL.Env → Res Fl, y = (sForR (iRng1 (aCons (eVar 2) aNil)) (pName 3) b__law_same_1))
noncomputable def s__law_same : PL.Env → Res Fl := (sSeq (sForR (iRng1 (aCons (eCall lenD (aCons (eVar 0) aNil)) aNil)) (pName 2) b__law_same_2)
    (sRet (eC (.bl true))))
noncomputable def d__law_same : List D → Res Cell := Classical.choose (⟨runB 4 2 s__law_same, rfl⟩ : ∃ y : List D → Res Cell, y = runB 4 2 s__law_same)
theorem d__law_same_eq : d__law_same = runB 4 2 s__law_same := Classical.choose_spec (⟨runB 4 2 s__law_same, rfl⟩ : ∃ y : List D → Res Cell, y = runB 4 2 s__law_same)
theorem v__law_same {u v : List Int} (hl : u.length = v.length) (h4 : u.length ≤ 1000) (hu : ∀ z ∈ u, Bd 300 z) (hv : ∀ z ∈ v, Bd 300 z) : d__law_same [.tup (u.map D.int), .tup (v.map D.int)] = .ok (.val (.bl (sameB u v))) := by
  obtain ⟨U, hU⟩ : ∃ U, u.map D.int = U := ⟨_, rfl⟩
  obtain ⟨V, hV⟩ : ∃ V, v.map D.int = V := ⟨_, rfl⟩
  have lU : U.length = u.length := by rw [← hU, List.length_map]
  have au : ∀ k, k < u.length → atD U (k : Int) = .ok (.int (u.getD k 0)) := fun k h => by rw [← hU]; exact at_getD h
  have av : ∀ k, k < u.length → atD V (k : Int) = .ok (.int (v.getD k 0)) := fun k h => by rw [← hV]; exact at_getD (by omega)
  have inner : ∀ k, k < u.length → ∀ x3 : Option Cell, (∃ x3', forD (pName 3) b__law_same_1 (rngD 0 k) [some (.val (.tup U)), some (.val (.tup V)), some (.val (.int k)), x3] = .ok (.nx [some (.val (.tup U)), some (.val (.tup V)), some (.val (.int k)), x3']) ∧ ∀ j, j < k → u.getD k 0 * v.getD j 0 = u.getD j 0 * v.getD k 0) ∨
      (forD (pName 3) b__law_same_1 (rngD 0 k) [some (.val (.tup U)), some (.val (.tup V)), some (.val (.int k)), x3] = .ok (.rt (.val (.bl false))) ∧ ∃ j, j < k ∧ u.getD k 0 * v.getD j 0 ≠ u.getD j 0 * v.getD k 0) := by
    intro k hk x3
    have := for_chk (p := pName 3) (s := b__law_same_1) (r := .val (.bl false)) (fun j => decide (u.getD k 0 * v.getD j 0 = u.getD j 0 * v.getD k 0)) (fun env => ∃ x3, env = [some (.val (.tup U)), some (.val (.tup V)), some (.val (.int k)), x3]) (rngD 0 k) [some (.val (.tup U)), some (.val (.tup V)), some (.val (.int k)), x3] 0 ⟨_, rfl⟩ (by
      rintro j hj env ⟨x3, rfl⟩
      rw [rng_len] at hj
      have e : (rngD 0 k)[j]'(by rw [rng_len]; exact hj) = .int (j : Int) := by simp [rngD]
      rw [e]
      have a1 := au k hk
      have a2 := av j (by omega)
      have a3 := au j (by omega)
      have a4 := av k hk
      have m1 := mulOk_of (bd_getD hu hk) (bd_getD hv (show j < v.length by omega)) (by decide)
      have m2 := mulOk_of (bd_getD hu (show j < u.length by omega)) (bd_getD hv (show k < v.length by omega)) (by decide)
      refine ⟨_, rfl, ?_⟩
      rw [Nat.zero_add]
      by_cases hq : u.getD k 0 * v.getD j 0 = u.getD j 0 * v.getD k 0
      · refine .inl ⟨decide_eq_true hq, [some (.val (.tup U)), some (.val (.tup V)), some (.val (.int k)), some (.val (.int j))], ?_, _, rfl⟩
        generalize u.getD k 0 = a at *
        generalize v.getD j 0 = b at *
        generalize u.getD j 0 = c at *
        generalize v.getD k 0 = d at *
        simp [b__law_same_1_eq, a1, a2, a3, a4, m1, m2, hq]
      · refine .inr ⟨decide_eq_false hq, ?_⟩
        generalize u.getD k 0 = a at *
        generalize v.getD j 0 = b at *
        generalize u.getD j 0 = c at *
        generalize v.getD k 0 = d at *
        simp [b__law_same_1_eq, a1, a2, a3, a4, m1, m2, hq])
    rcases this with ⟨env', h1, ⟨x3', rfl⟩, h2⟩ | ⟨h1, j, hj, h2⟩
    · refine .inl ⟨x3', h1, fun j hj => ?_⟩
      have := h2 j (by rw [rng_len]; exact hj)
      rw [Nat.zero_add] at this
      exact of_decide_eq_true this
    · rw [Nat.zero_add] at h2
      rw [rng_len] at hj
      exact .inr ⟨h1, j, hj, of_decide_eq_false h2⟩
  have outer := for_chk (p := pName 2) (s := b__law_same_2) (r := .val (.bl false)) (fun k => decide (∀ j, j < k → u.getD k 0 * v.getD j 0 = u.getD j 0 * v.getD k 0)) (fun env => ∃ x2 x3, env = [some (.val (.tup U)), some (.val (.tup V)), x2, x3]) (rngD 0 u.length) [some (.val (.tup U)), some (.val (.tup V)), none, none] 0 ⟨_, _, rfl⟩ (by
    rintro k hk env ⟨x2, x3, rfl⟩
    rw [rng_len] at hk
    have e : (rngD 0 u.length)[k]'(by rw [rng_len]; exact hk) = .int (k : Int) := by simp [rngD]
    rw [e]
    have rk := x_rng1N (n := k) (by omega)
    obtain ⟨L, hL⟩ : ∃ L, rngD 0 k = L := ⟨_, rfl⟩
    refine ⟨_, rfl, ?_⟩
    rw [Nat.zero_add]
    rcases inner k hk x3 with ⟨x3', h1, h2⟩ | ⟨h1, j, hj, h2⟩
    · rw [hL] at rk h1
      refine .inl ⟨decide_eq_true h2, [some (.val (.tup U)), some (.val (.tup V)), some (.val (.int k)), x3'], ?_, _, _, rfl⟩
      simp [b__law_same_2_eq, rk, h1]
    · rw [hL] at rk h1
      refine .inr ⟨decide_eq_false fun q => h2 (q j hj), ?_⟩
      simp [b__law_same_2_eq, rk, h1])
  have ru := x_rng1N (n := u.length) (by omega)
  obtain ⟨L, hL⟩ : ∃ L, rngD 0 u.length = L := ⟨_, rfl⟩
  rw [hU, hV]
  rcases outer with ⟨env', h1, ⟨x2, x3, rfl⟩, h2⟩ | ⟨h1, k, hk, h2⟩
  · have hb : sameB u v = true := decide_eq_true fun k hk j hj => by
      have := h2 k (by rw [rng_len]; exact hk)
      rw [Nat.zero_add] at this
      exact of_decide_eq_true this j hj
    rw [hL] at ru h1
    rw [hb]
    simp [d__law_same_eq, s__law_same, start_eq, lU, ru, h1]
  · have hb : sameB u v = false := decide_eq_false fun q => by
      rw [rng_len] at hk
      rw [Nat.zero_add] at h2
      exact of_decide_eq_false h2 fun j hj => q k hk j hj
    rw [hL] at ru h1
    rw [hb]
    simp [d__law_same_eq, s__law_same, start_eq, lU, ru, h1]
noncomputable def c__law_cut_1 : BEnv → Res D := Classical.choose (⟨(e2 subD (eFn d__law_draw (aCons (eVar 0) (aCons (eVar 7) (aCons (eC (.int 7)) aNil)))) (eC (.int 3))), rfl⟩ : ∃ y : BEnv → Res D, y = (e2 subD (eFn d__law_draw (aCons (eVar 0) (aCons (eVar 7) (aCons (eC (.int 7)) aNil)))) (eC (.int 3))))
theorem c__law_cut_1_eq : c__law_cut_1 = (e2 subD (eFn d__law_draw (aCons (eVar 0) (aCons (eVar 7) (aCons (eC (.int 7)) aNil)))) (eC (.int 3))) := Classical.choose_spec (⟨(e2 subD (eFn d__law_draw (aCons (eVar 0) (aCons (eVar 7) (aCons (eC (.int 7)) aNil)))) (eC (.int 3))), rfl⟩ : ∃ y : BEnv → Res D, y = (e2 subD (eFn d__law_draw (aCons (eVar 0) (aCons (eVar 7) (aCons (eC (.int 7)) aNil)))) (eC (.int 3))))
noncomputable def c__law_cut_2 : BEnv → Res D := Classical.choose (⟨(e2 mulX (eVar 8) (eVar 9)), rfl⟩ : ∃ y : BEnv → Res D, y = (e2 mulX (eVar 8) (eVar 9)))
theorem c__law_cut_2_eq : c__law_cut_2 = (e2 mulX (eVar 8) (eVar 9)) := Classical.choose_spec (⟨(e2 mulX (eVar 8) (eVar 9)), rfl⟩ : ∃ y : BEnv → Res D, y = (e2 mulX (eVar 8) (eVar 9)))
noncomputable def c__law_cut_3 : BEnv → Res D := Classical.choose (⟨(e2 mulX (eVar 8) (eVar 6)), rfl⟩ : ∃ y : BEnv → Res D, y = (e2 mulX (eVar 8) (eVar 6)))
theorem c__law_cut_3_eq : c__law_cut_3 = (e2 mulX (eVar 8) (eVar 6)) := Classical.choose_spec (⟨(e2 mulX (eVar 8) (eVar 6)), rfl⟩ : ∃ y : BEnv → Res D, y = (e2 mulX (eVar 8) (eVar 6)))
noncomputable def s__law_cut : PL.Env → Res Fl := (sSeq (sOwn 3 (oComp [7] (iRng1 (aCons (eVar 1) aNil)) (pName 7) cTrue c__law_cut_1))
    (sSeq (sIf (tst (e2 eqD (eVar 3) (e2 mulX (lstD (oLst (aCons (eC (.int 0)) aNil))) (eVar 1)))) (sIx 3 (eFn d__law_draw (aCons (eVar 0) (aCons (eC (.int 4)) (aCons (eVar 1) aNil)))) (e2 addD (eC (.int 1)) (eFn d__law_draw (aCons (eVar 0) (aCons (eC (.int 5)) (aCons (eC (.int 3)) aNil)))))) sNil)
    (sSeq (sSet 4 (e2 subD (eFn d__law_draw (aCons (eVar 0) (aCons (eC (.int 6)) (aCons (eC (.int 9)) aNil)))) (eC (.int 4))))
    (sSeq (sSet 5 (eFn d__law_draw (aCons (eVar 0) (aCons (eC (.int 7)) (aCons (eC (.int 7)) aNil)))))
    (sSeq (sIf (tAndD (tst (e2 eqD (eVar 5) (eC (.int 1)))) (tst (e2 neD (eVar 2) (lstD (oLst aNil))))) (sOwn 3 (eCallO listO (aCons (eSl (e2 ixD (eVar 2) (eFn d__law_draw (aCons (eVar 0) (aCons (eC (.int 8)) (aCons (eCall lenD (aCons (eVar 2) aNil)) aNil))))) oNo (oSome (eVar 1))) aNil))) sNil)
    (sSeq (sIf (tOrD (tst (e2 eqD (eVar 5) (eC (.int 2)))) (tst (e2 eqD (eVar 5) (eC (.int 3))))) (sSetB 4 (eCall sumD (aCons (lstD (oComp [8, 9] (zip2D (aCons (eVar 3) (aCons (lstD (oLst (aCons (eC (.int 1)) (aCons (eC (.int 2)) (aCons (e1 negD (eC (.int 1))) aNil))))) aNil))) (pTup (pCons (pName 8) (pCons (pName 9) pNil))) cTrue c__law_cut_2)) aNil))) sNil)
    (sSeq (sIf (tst (e2 eqD (eVar 5) (eC (.int 4)))) (sSeq (sSet 6 (e2 mulX (e2 addD (eC (.int 1)) (eFn d__law_draw (aCons (eVar 0) (aCons (eC (.int 9)) (aCons (e2 powD (eC (.int 10)) (eC (.int 6))) aNil))))) (e2 ixD (lstD (oLst (aCons (eC (.int 1)) (aCons (eC (.int 1)) (aCons (e2 powD (eC (.int 10)) (eC (.int 18))) aNil))))) (eFn d__law_draw (aCons (eVar 0) (aCons (eC (.int 11)) (aCons (eC (.int 3)) aNil)))))))
    (sSeq (sOwnB 3 (oComp [8] (iSeq (eVar 3)) (pName 8) cTrue c__law_cut_3))
    (sSet 4 (e2 addD (e2 mulX (eVar 4) (eVar 6)) (eFn d__law_draw (aCons (eVar 0) (aCons (eC (.int 10)) (aCons (eC (.int 7)) aNil)))))))) sNil)
    (sRet (eCall tupleD (aCons (e2 addD (eVar 3) (lstD (oLst (aCons (eVar 4) aNil)))) aNil))))))))))
noncomputable def d__law_cut : List D → Res Cell := Classical.choose (⟨runB 10 3 s__law_cut, rfl⟩ : ∃ y : List D → Res Cell, y = runB 10 3 s__law_cut)
theorem d__law_cut_eq : d__law_cut = runB 10 3 s__law_cut := Classical.choose_spec (⟨runB 10 3 s__law_cut, rfl⟩ : ∃ y : List D → Res Cell, y = runB 10 3 s__law_cut)
/-- a cut of a cutting -/
structure CuOk (n : Nat) (p : List Int × Int) : Prop where
  ct : CtOk n p
  nz : p.1 ≠ List.replicate n 0
theorem b200 {z : Int} (a : -1000000000000000000000000000000 ≤ z) (b : z ≤ 1000000000000000000000000000000) : Bd 200 z := by
  refine Bd.mono (m := 100) ?_ (by decide)
  unfold Bd
  have e : (2 : Nat) ^ 100 = 1267650600228229401496703205376 := by decide
  rw [e]
  omega
theorem nz_map {n : Nat} {zs : List Int} {far : Int} (hf : far ≠ 0) (h : zs ≠ List.replicate n 0) (hl : zs.length = n) : zs.map (fun z => z * far) ≠ List.replicate n 0 := by
  intro e
  refine h (List.eq_replicate_iff.mpr ⟨hl, fun z hz => ?_⟩)
  have : z * far ∈ List.replicate n 0 := by rw [← e]; exact List.mem_map_of_mem hz
  have := (List.mem_replicate.mp this).2
  rcases Int.mul_eq_zero.mp this with h | h
  · exact h
  · exact absurd h hf
theorem v__law_cut {c : Int} {n : Nat} {C : List (List Int × Int)} (hc : Bd 1048576 c) (n1 : 1 ≤ n) (n3 : n ≤ 3) (hC : ∀ p ∈ C, CuOk n p) (h7 : C.length ≤ 100) : ∃ p, d__law_cut [.int c, .int n, .lst (C.map ctD)] = .ok (.val (ctD p)) ∧ CuOk n p := by
  have draw : ∀ (k : Int) (b : Int), 0 ≤ k → k ≤ 1000 → 0 < b → b ≤ 1000000 → ∃ z, d__law_draw [.int c, .int k, .int b] = .ok (.val (.int z)) ∧ 0 ≤ z ∧ z < b := fun k b k0 k1 b0 b1 => v__law_draw hc k0 (by omega) b0 (by omega)
  obtain ⟨y4, f4, g4, h4⟩ := draw 4 n (by decide) (by decide) (by omega) (by omega)
  obtain ⟨y5, f5, g5, h5⟩ := draw 5 3 (by decide) (by decide) (by decide) (by decide)
  obtain ⟨y6, f6, g6, h6⟩ := draw 6 9 (by decide) (by decide) (by decide) (by decide)
  obtain ⟨y7, f7, g7, h7'⟩ := draw 7 7 (by decide) (by decide) (by decide) (by decide)
  obtain ⟨y9, f9, g9, h9⟩ := draw 9 1000000 (by decide) (by decide) (by decide) (by decide)
  obtain ⟨y10, f10, g10, h10⟩ := draw 10 7 (by decide) (by decide) (by decide) (by decide)
  obtain ⟨y11, f11, g11, h11⟩ := draw 11 3 (by decide) (by decide) (by decide) (by decide)
  have qC := eqOks_ct C 58
  have lC : (C.map ctD).length = C.length := by simp
  have neC : C ≠ [] → neD (.lst (C.map ctD)) (.lst []) = .ok (.bl true) := fun h => by
    cases C with
    | nil => exact absurd rfl h
    | cons a l =>
      simp only [List.map_cons] at qC ⊢
      simp [neD_ll] at qC ⊢
      exact qC
  have pick : C ≠ [] → ∃ y8 p, d__law_draw [.int c, .int 8, .int C.length] = .ok (.val (.int y8)) ∧ p ∈ C ∧ atD (C.map ctD) y8 = .ok (ctD p) := fun h => by
    have : 1 ≤ C.length := by cases C with
      | nil => exact absurd rfl h
      | cons a l => simp
    obtain ⟨y8, f8, g8, h8⟩ := draw 8 C.length (by decide) (by decide) (by omega) (by omega)
    obtain ⟨p, hp, e⟩ := at_some (enc := ctD) (l := C) g8 h8
    exact ⟨y8, p, f8, hp, e⟩
  have neC0 : C = [] → neD (.lst (C.map ctD)) (.lst []) = .ok (.bl false) := fun h => by rw [h]; simp
  obtain ⟨T, hT⟩ : ∃ T, C.map ctD = T := ⟨_, rfl⟩
  rw [hT] at neC neC0 lC
  have pick' : C ≠ [] → ∃ y8 p, d__law_draw [.int c, .int 8, .int C.length] = .ok (.val (.int y8)) ∧ p ∈ C ∧ atD T y8 = .ok (ctD p) := fun h => by
    have := pick h
    rwa [hT] at this
  rw [hT]
  -- the numbers
  obtain ⟨zs, hz, zl, zb⟩ := comp_gen (enc := D.int) (P := fun t => -3 ≤ t ∧ t ≤ 3) (p := pName 7) (f := c__law_cut_1) (env := [some (.int c), some (.int n), some (.lst T), none, none, none, none, none, none, none]) (rngD 0 n) (by
    intro d hd
    obtain ⟨j, hj, rfl⟩ := mem_rng hd
    obtain ⟨z, ez, az, bz⟩ := draw j 7 (by omega) (by omega) (by decide) (by decide)
    refine ⟨[(7, .int (0 + j))], z - 3, rfl, ?_, by omega, by omega⟩
    simp [c__law_cut_1_eq, ez])
  rw [rng_len] at zl
  have n6 : n ≤ 1000000 := by omega
  have rn := x_rng1N n6
  obtain ⟨LN, hLN⟩ : ∃ L, rngD 0 n = L := ⟨_, rfl⟩
  have lLN : LN.length ≤ 1000000 := by rw [← hLN, rng_len]; exact n6
  rw [hLN] at rn hz
  have z0 : List.replicate n (D.int 0) = (List.replicate n 0).map D.int := by simp
  have nn : (n : Int) = n := rfl
  have ml : (0 : Int) ≤ n ∧ (n : Int) ≤ 1000 := by omega
  -- made other than nought
  obtain ⟨ws, hw, wl, wb, wn⟩ : ∃ ws : List Int, (sIf (tst (e2 eqD (eVar 3) (e2 mulX (lstD (oLst (aCons (eC (.int 0)) aNil))) (eVar 1)))) (sIx 3 (eFn d__law_draw (aCons (eVar 0) (aCons (eC (.int 4)) (aCons (eVar 1) aNil)))) (e2 addD (eC (.int 1)) (eFn d__law_draw (aCons (eVar 0) (aCons (eC (.int 5)) (aCons (eC (.int 3)) aNil)))))) sNil) [some (.val (.int c)), some (.val (.int n)), some (.val (.lst T)), some (.own (zs.map D.int)), none, none, none, none, none, none] = .ok (.nx [some (.val (.int c)), some (.val (.int n)), some (.val (.lst T)), some (.own (ws.map D.int)), none, none, none, none, none, none]) ∧ ws.length = n ∧ (∀ t ∈ ws, -3 ≤ t ∧ t ≤ 3) ∧ ws ≠ List.replicate n 0 := by
    have dq := deqs_ints zs (List.replicate n 0)
    have q1 := eqOks_ints (n := 59) zs
    have q2 := eqOks_ints (n := 59) (List.replicate n 0)
    rw [← z0] at dq q2
    have lu : (zs.map D.int).length = n := by rw [List.length_map, zl]
    have ix : ixN n y4 = some y4.toNat := by
      unfold ixN
      rw [if_pos g4, if_pos (by omega)]
    have st : (zs.map D.int).set y4.toNat (D.int (1 + y5)) = (zs.set y4.toNat (1 + y5)).map D.int := by rw [List.map_set]
    by_cases h : zs = List.replicate n 0
    · have hb : (zs == List.replicate n 0) = true := by simpa using h
      rw [hb] at dq
      refine ⟨zs.set y4.toNat (1 + y5), ?_, by simp [zl], fun t ht => ?_, fun e => ?_⟩
      · have si := fun s => setIx_i (s := s) (i := 3) (l := zs.map D.int) (d := .int (1 + y5)) (k := y4) (by rw [lu]; exact ix)
        rw [st] at si
        generalize hZ : List.replicate n (D.int 0) = Z at *
        generalize (zs.set y4.toNat (1 + y5)).map D.int = V at *
        generalize zs.map D.int = U at *
        simp [hZ, dq, q1, q2, ml.1, ml.2, f5, f4, si]
      · rcases List.mem_or_eq_of_mem_set ht with ht | ht
        · exact zb t ht
        · rw [ht]; omega
      · have : (zs.set y4.toNat (1 + y5))[y4.toNat]? = some (1 + y5) := List.getElem?_set_self (by omega)
        have := List.mem_of_getElem? this
        rw [e] at this
        have := (List.mem_replicate.mp this).2
        omega
    · have hb : (zs == List.replicate n 0) = false := by simpa using h
      rw [hb] at dq
      refine ⟨zs, ?_, zl, zb, h⟩
      generalize hZ : List.replicate n (D.int 0) = Z at *
      generalize zs.map D.int = U at *
      simp [hZ, dq, q1, q2, ml.1, ml.2]
  -- the numbers of one ahead
  obtain ⟨us, hu, ul, ub, un, uw⟩ : ∃ us : List Int, (sIf (tAndD (tst (e2 eqD (eVar 5) (eC (.int 1)))) (tst (e2 neD (eVar 2) (lstD (oLst aNil))))) (sOwn 3 (eCallO listO (aCons (eSl (e2 ixD (eVar 2) (eFn d__law_draw (aCons (eVar 0) (aCons (eC (.int 8)) (aCons (eCall lenD (aCons (eVar 2) aNil)) aNil))))) oNo (oSome (eVar 1))) aNil))) sNil) [some (.val (.int c)), some (.val (.int n)), some (.val (.lst T)), some (.own (ws.map D.int)), some (.val (.int (y6 - 4))), some (.val (.int y7)), none, none, none, none] = .ok (.nx [some (.val (.int c)), some (.val (.int n)), some (.val (.lst T)), some (.own (us.map D.int)), some (.val (.int (y6 - 4))), some (.val (.int y7)), none, none, none, none]) ∧ us.length = n ∧ (∀ t ∈ us, Bd 200 t) ∧ us ≠ List.replicate n 0 ∧ (y7 ≠ 1 → us = ws) := by
    by_cases hy : y7 = 1
    · by_cases hC0 : C = []
      · refine ⟨ws, ?_, wl, fun t ht => b200 (by have := wb t ht; omega) (by have := wb t ht; omega), wn, fun h => absurd hy h⟩
        have ne := neC0 hC0
        generalize ws.map D.int = W at *
        simp [hy, ne]
      · obtain ⟨y8, p, f8, hp, ap⟩ := pick' hC0
        have ne := neC hC0
        have po := hC p hp
        refine ⟨p.1, ?_, po.ct.len, po.ct.bs, po.nz, fun h => absurd hy h⟩
        have ct : cutL ((p.1 ++ [p.2]).map D.int) none (some (n : Int)) = p.1.map D.int := by
          rw [cutL_to, ← List.map_take, List.take_append_of_le_length (by rw [po.ct.len]; exact Nat.le_refl _), List.take_of_length_le (by rw [po.ct.len]; exact Nat.le_refl _)]
        have lc : (T.length : Int) = (C.length : Int) := by rw [lC]
        unfold ctD at ap
        generalize (p.1 ++ [p.2]).map D.int = P at *
        generalize p.1.map D.int = V at *
        generalize ws.map D.int = W at *
        simp [hy, ne, lC, f8, ap, -cutL_to, ct]
    · refine ⟨ws, ?_, wl, fun t ht => b200 (by have := wb t ht; omega) (by have := wb t ht; omega), wn, fun _ => rfl⟩
      generalize ws.map D.int = W at *
      simp [hy]
  -- c by the numbers
  obtain ⟨c1, hc1, b1⟩ : ∃ c1 : Int, (sIf (tOrD (tst (e2 eqD (eVar 5) (eC (.int 2)))) (tst (e2 eqD (eVar 5) (eC (.int 3))))) (sSetB 4 (eCall sumD (aCons (lstD (oComp [8, 9] (zip2D (aCons (eVar 3) (aCons (lstD (oLst (aCons (eC (.int 1)) (aCons (eC (.int 2)) (aCons (e1 negD (eC (.int 1))) aNil))))) aNil))) (pTup (pCons (pName 8) (pCons (pName 9) pNil))) cTrue c__law_cut_2)) aNil))) sNil) [some (.val (.int c)), some (.val (.int n)), some (.val (.lst T)), some (.own (us.map D.int)), some (.val (.int (y6 - 4))), some (.val (.int y7)), none, none, none, none] = .ok (.nx [some (.val (.int c)), some (.val (.int n)), some (.val (.lst T)), some (.own (us.map D.int)), some (.val (.int c1)), some (.val (.int y7)), none, none, none, none]) ∧ -1000 ≤ c1 ∧ c1 ≤ 1000 := by
    by_cases hy : y7 = 2 ∨ y7 = 3
    · have ew : us = ws := uw (by omega)
      subst ew
      have pm := pair_map (e1 := D.int) (e2 := D.int) us [1, 2, -1]
      have mm : ∀ p ∈ us.zip [1, 2, -1], (-3 ≤ p.1 ∧ p.1 ≤ 3) ∧ (-1 ≤ p.2 ∧ p.2 ≤ 2) := fun p hp => by
        have h1 := wb _ (List.of_mem_zip hp).1
        have h2 := (List.of_mem_zip hp).2
        simp at h2
        exact ⟨h1, by omega⟩
      have k := comp_map (dec := fun p : Int × Int => .tup [.int p.1, .int p.2]) (enc := D.int) (p := pTup (pCons (pName 8) (pCons (pName 9) pNil))) (f := c__law_cut_2) (env := [some (.int c), some (.int n), some (.lst T), some (.lst (us.map D.int)), some (.int (y6 - 4)), some (.int y7), none, none, none, none]) (fun p => p.1 * p.2) (us.zip [1, 2, -1]) (fun p hp => ⟨[(8, .int p.1), (9, .int p.2)], by simp, by
        have := mm p hp
        have m1 := mul64 (x := p.1) (y := p.2) (by omega) (by omega) (by omega) (by omega)
        simp [c__law_cut_2_eq, m1]⟩)
      have sb : ∀ l : List (Int × Int), (∀ p ∈ l, (-3 ≤ p.1 ∧ p.1 ≤ 3) ∧ (-1 ≤ p.2 ∧ p.2 ≤ 2)) → -(6 * (l.length : Int)) ≤ (l.map fun p => p.1 * p.2).sum ∧ (l.map fun p => p.1 * p.2).sum ≤ 6 * (l.length : Int) := by
        intro l
        induction l with
        | nil => intro _; simp
        | cons p l ih =>
          intro h
          have := ih fun q hq => h q (List.mem_cons_of_mem _ hq)
          have hp := h p List.mem_cons_self
          have hm : -6 ≤ p.1 * p.2 ∧ p.1 * p.2 ≤ 6 := by
            obtain ⟨⟨a1, a2⟩, a3, a4⟩ := hp
            have : p.2 = -1 ∨ p.2 = 0 ∨ p.2 = 1 ∨ p.2 = 2 := by omega
            rcases this with e | e | e | e <;> rw [e] <;> omega
          simp only [List.map_cons, List.sum_cons, List.length_cons]
          omega
      have s1 := sb _ mm
      have lz : (us.zip [1, 2, -1]).length ≤ 3 := by rw [List.length_zip]; simp; omega
      refine ⟨((us.zip [1, 2, -1]).map fun p => p.1 * p.2).sum, ?_, by omega, by omega⟩
      have sm := sum_ints (bs := (us.zip [1, 2, -1]).map fun p => p.1 * p.2)
      have lp : ((us.zip [1, 2, -1]).map fun p : Int × Int => D.tup [.int p.1, .int p.2]).length ≤ 1000000 := by rw [List.length_map]; omega
      simp only [List.map_cons, List.map_nil] at pm
      generalize ((us.zip [1, 2, -1]).map fun p => p.1 * p.2).sum = s at *
      generalize ((us.zip [1, 2, -1]).map fun p => p.1 * p.2).map D.int = A at *
      generalize (us.zip [1, 2, -1]).map (fun p : Int × Int => D.tup [.int p.1, .int p.2]) = B at *
      generalize us.map D.int = U at *
      have nls : ∀ x : Int, noLst (.int x) = true := fun x => by simp [noLst]
      rcases hy with hy | hy
      · simp [hy, x_comp, pm, lp, k, sm, nls] at k ⊢
        simp [hy, x_comp, pm, lp, k, sm, nls]
      · simp [hy, x_comp, pm, lp, k, sm, nls] at k ⊢
        simp [hy, x_comp, pm, lp, k, sm, nls]
    · refine ⟨y6 - 4, ?_, by omega, by omega⟩
      generalize us.map D.int = U at *
      have a1 : ¬ y7 = 2 := fun h => hy (.inl h)
      have a2 : ¬ y7 = 3 := fun h => hy (.inr h)
      simp [a1, a2]
  -- the great ones
  obtain ⟨ws2, c2, h2, w2l, w2b, w2n, c2b⟩ : ∃ (ws2 : List Int) (c2 : Int) , (∃ x6, (sIf (tst (e2 eqD (eVar 5) (eC (.int 4)))) (sSeq (sSet 6 (e2 mulX (e2 addD (eC (.int 1)) (eFn d__law_draw (aCons (eVar 0) (aCons (eC (.int 9)) (aCons (e2 powD (eC (.int 10)) (eC (.int 6))) aNil))))) (e2 ixD (lstD (oLst (aCons (eC (.int 1)) (aCons (eC (.int 1)) (aCons (e2 powD (eC (.int 10)) (eC (.int 18))) aNil))))) (eFn d__law_draw (aCons (eVar 0) (aCons (eC (.int 11)) (aCons (eC (.int 3)) aNil)))))))
      (sSeq (sOwnB 3 (oComp [8] (iSeq (eVar 3)) (pName 8) cTrue c__law_cut_3))
      (sSet 4 (e2 addD (e2 mulX (eVar 4) (eVar 6)) (eFn d__law_draw (aCons (eVar 0) (aCons (eC (.int 10)) (aCons (eC (.int 7)) aNil)))))))) sNil) [some (.val (.int c)), some (.val (.int n)), some (.val (.lst T)), some (.own (us.map D.int)), some (.val (.int c1)), some (.val (.int y7)), none, none, none, none] = .ok (.nx [some (.val (.int c)), some (.val (.int n)), some (.val (.lst T)), some (.own (ws2.map D.int)), some (.val (.int c2)), some (.val (.int y7)), x6, none, none, none])) ∧ ws2.length = n ∧ (∀ t ∈ ws2, Bd 200 t) ∧ ws2 ≠ List.replicate n 0 ∧ Bd 200 c2 := by
    by_cases hy : y7 = 4
    · have ew : us = ws := uw (by omega)
      subst ew
      obtain ⟨e, he, qe⟩ := at_some (enc := D.int) (l := [1, 1, 1000000000000000000]) g11 h11
      have e1' : 1 ≤ e ∧ e ≤ 1000000000000000000 := by simp at he; omega
      obtain ⟨far, hfar⟩ : ∃ far, (1 + y9) * e = far := ⟨_, rfl⟩
      have fb : 1 ≤ far ∧ far ≤ 1000000000000000000000000 := by
        rw [← hfar]
        constructor
        · have := Int.mul_le_mul (show (1 : Int) ≤ 1 + y9 by omega) e1'.1 (by decide) (by omega)
          omega
        · have := Int.mul_le_mul (show 1 + y9 ≤ (1000000 : Int) by omega) e1'.2 (by omega) (by decide)
          omega
      have m1 : mulOk (1 + y9) e = true := mul64 (by omega) (by omega) (by omega) (by omega)
      have b100 : Bd 100 far := by
        unfold Bd
        have e : (2 : Nat) ^ 100 = 1267650600228229401496703205376 := by decide
        rw [e]
        omega
      have bs : ∀ b ∈ us, Bd 3 b := fun b hb => by have := wb b hb; unfold Bd; omega
      have m2 : ∀ b ∈ us, mulOk b far = true := fun b hb => mulOk_of (bs b hb) b100 (by decide)
      have bc : Bd 20 c1 := by
        unfold Bd
        have e : (2 : Nat) ^ 20 = 1048576 := by decide
        rw [e]
        omega
      have m3 : mulOk c1 far = true := mulOk_of bc b100 (by decide)
      have b10 : Bd 20 y10 := by
        unfold Bd
        have e : (2 : Nat) ^ 20 = 1048576 := by decide
        rw [e]
        omega
      have k := comp_map (dec := D.int) (enc := D.int) (p := pName 8) (f := c__law_cut_3) (env := [some (.int c), some (.int n), some (.lst T), some (.lst (us.map D.int)), some (.int c1), some (.int y7), some (.int far), none, none, none]) (fun z => z * far) us (fun b hb => ⟨[(8, .int b)], rfl, by simp [c__law_cut_3_eq, m2 b hb]⟩)
      refine ⟨us.map (fun z => z * far), c1 * far + y10, ⟨some (.val (.int far)), ?_⟩, by simp [ul], fun t ht => ?_, nz_map (by omega) un ul, (((bc.mul b100).mono (by decide : 120 ≤ 150)).add (b10.mono (by decide))).mono (by decide)⟩
      · have nls := noLsts_i (us.map (fun z => z * far))
        have lu : (us.map D.int).length ≤ 1000000 := by rw [List.length_map]; omega
        simp only [List.map_cons, List.map_nil] at qe
        generalize (us.map (fun z => z * far)).map D.int = V at *
        generalize us.map D.int = U at *
        subst hy
        simp [f9, f11, qe, m1, hfar, x_comp, lu, k, nls, m3, f10]
      · obtain ⟨z, hz, rfl⟩ := List.mem_map.mp ht
        exact ((bs z hz).mul b100).mono (by decide)
    · refine ⟨us, c1, ⟨none, ?_⟩, ul, ub, un, b200 (by omega) (by omega)⟩
      generalize us.map D.int = U at *
      simp [hy]
  obtain ⟨x6, h2⟩ := h2
  refine ⟨(ws2, c2), ?_, ⟨w2l, c2b, w2b⟩, w2n⟩
  rw [d__law_cut_eq]
  refine run_rt rfl ?_
  have e0 : startE 10 [D.int c, .int n, .lst T] = [some (.val (.int c)), some (.val (.int n)), some (.val (.lst T)), none, none, none, none, none, none, none] := rfl
  rw [e0]
  unfold s__law_cut
  refine (seq_nx (e1 := [some (.val (.int c)), some (.val (.int n)), some (.val (.lst T)), some (.own (zs.map D.int)), none, none, none, none, none, none]) ?_).trans ?_
  · generalize zs.map D.int = U at *
    simp [x_comp, rn, lLN, hz]
  refine (seq_nx hw).trans ?_
  refine (seq_nx (e1 := [some (.val (.int c)), some (.val (.int n)), some (.val (.lst T)), some (.own (ws.map D.int)), some (.val (.int (y6 - 4))), none, none, none, none, none]) ?_).trans ?_
  · generalize ws.map D.int = U at *
    simp [f6]
  refine (seq_nx (e1 := [some (.val (.int c)), some (.val (.int n)), some (.val (.lst T)), some (.own (ws.map D.int)), some (.val (.int (y6 - 4))), some (.val (.int y7)), none, none, none, none]) ?_).trans ?_
  · generalize ws.map D.int = U at *
    simp [f7]
  refine (seq_nx hu).trans ?_
  refine (seq_nx hc1).trans ?_
  refine (seq_nx h2).trans ?_
  have ap : ctD (ws2, c2) = .tup (ws2.map D.int ++ [.int c2]) := by simp [ctD]
  rw [ap]
  have lw : (ws2.map D.int).length = n := by rw [List.length_map, w2l]
  have n7 : n + 1 ≤ 1000000 := by omega
  have n7' : n ≤ 999999 := by omega
  generalize ws2.map D.int = U at *
  simp [lw, n7, n7']
noncomputable def c__law_cuts_1 : BEnv → Res D := Classical.choose (⟨(eVar 7), rfl⟩ : ∃ y : BEnv → Res D, y = (eVar 7))
theorem c__law_cuts_1_eq : c__law_cuts_1 = (eVar 7) := Classical.choose_spec (⟨(eVar 7), rfl⟩ : ∃ y : BEnv → Res D, y = (eVar 7))
noncomputable def i__law_cuts_1 : BEnv → Res Bool := Classical.choose (⟨(tst (eFn d__law_same (aCons (eVar 6) (aCons (eVar 7) aNil)))), rfl⟩ : ∃ y : BEnv → Res Bool, y = (tst (eFn d__law_same (aCons (eVar 6) (aCons (eVar 7) aNil)))))
theorem i__law_cuts_1_eq : i__law_cuts_1 = (tst (eFn d__law_same (aCons (eVar 6) (aCons (eVar 7) aNil)))) := Classical.choose_spec (⟨(tst (eFn d__law_same (aCons (eVar 6) (aCons (eVar 7) aNil)))), rfl⟩ : ∃ y : BEnv → Res Bool, y = (tst (eFn d__law_same (aCons (eVar 6) (aCons (eVar 7) aNil)))))
noncomputable def b__law_cuts_1 : PL.Env → Res Fl := Classical.choose (⟨(sSeq (sSetB 6 (eFn d__law_cut (aCons (eFn d__law_cell_at (aCons (eVar 0) (aCons (e2 addD (eVar 1) (eVar 5)) aNil))) (aCons (eVar 2) (aCons (eVar 4) aNil)))))
    (sIf (tst (e2 eqD (lstD (oComp [7] (iSeq (eVar 4)) (pName 7) i__law_cuts_1 c__law_cuts_1)) (lstD (oLst aNil)))) (sApp 4 (eVar 6)) sNil)), rfl⟩ : ∃ y : PL.Env → Res Fl, y = (sSeq (sSetB 6 (eFn d__law_cut (aCons (eFn d__law_cell_at (aCons (eVar 0) (aCons (e2 addD (eVar 1) (eVar 5)) aNil))) (aCons (eVar 2) (aCons (eVar 4) aNil)))))
    (sIf (tst (e2 eqD (lstD (oComp [7] (iSeq (eVar 4)) (pName 7) i__law_cuts_1 c__law_cuts_1)) (lstD (oLst aNil)))) (sApp 4 (eVar 6)) sNil)))
theorem b__law_cuts_1_eq : b__law_cuts_1 = (sSeq (sSetB 6 (eFn d__law_cut (aCons (eFn d__law_cell_at (aCons (eVar 0) (aCons (e2 addD (eVar 1) (eVar 5)) aNil))) (aCons (eVar 2) (aCons (eVar 4) aNil)))))
    (sIf (tst (e2 eqD (lstD (oComp [7] (iSeq (eVar 4)) (pName 7) i__law_cuts_1 c__law_cuts_1)) (lstD (oLst aNil)))) (sApp 4 (eVar 6)) sNil)) := Classical.choose_spec (⟨(sSeq (sSetB 6 (eFn d__law_cut (aCons (eFn d__law_cell_at (aCons (eVar 0) (aCons (e2 addD (eVar 1) (eVar 5)) aNil))) (aCons (eVar 2) (aCons (eVar 4) aNil)))))
    (sIf (tst (e2 eqD (lstD (oComp [7] (iSeq (eVar 4)) (pName 7) i__law_cuts_1 c__law_cuts_1)) (lstD (oLst aNil)))) (sApp 4 (eVar 6)) sNil)), rfl⟩ : ∃ y : PL.Env → Res Fl, y = (sSeq (sSetB 6 (eFn d__law_cut (aCons (eFn d__law_cell_at (aCons (eVar 0) (aCons (e2 addD (eVar 1) (eVar 5)) aNil))) (aCons (eVar 2) (aCons (eVar 4) aNil)))))
    (sIf (tst (e2 eqD (lstD (oComp [7] (iSeq (eVar 4)) (pName 7) i__law_cuts_1 c__law_cuts_1)) (lstD (oLst aNil)))) (sApp 4 (eVar 6)) sNil)))
noncomputable def s__law_cuts : PL.Env → Res Fl := (sSeq (sOwn 4 (oLst aNil))
    (sSeq (sForR (iRng1 (aCons (eVar 3) aNil)) (pName 5) b__law_cuts_1)
    (sRetV 4)))
noncomputable def d__law_cuts : List D → Res Cell := Classical.choose (⟨runB 8 4 s__law_cuts, rfl⟩ : ∃ y : List D → Res Cell, y = runB 8 4 s__law_cuts)
theorem d__law_cuts_eq : d__law_cuts = runB 8 4 s__law_cuts := Classical.choose_spec (⟨runB 8 4 s__law_cuts, rfl⟩ : ∃ y : List D → Res Cell, y = runB 8 4 s__law_cuts)
theorem cs_take {n k : Nat} {C : List (List Int × Int)} (h : CsOk n C) : CsOk n (C.take k ++ C.drop (k + 1)) := by
  have sub : (C.take k ++ C.drop (k + 1)).Sublist C := by
    have := List.take_append_drop k C
    conv => rhs; rw [← this]
    exact List.Sublist.append (List.Sublist.refl _) (List.drop_sublist_drop_left _ (Nat.le_succ k))
  exact ⟨h.d1, h.d3, Nat.le_trans sub.length_le h.l7, fun p hp => h.ok p (sub.subset hp), fun p hp => h.nz p (sub.subset hp), h.pw.sublist sub⟩
theorem cs_snoc {n : Nat} {C : List (List Int × Int)} {p : List Int × Int} (h : CsOk n C) (hp : CuOk n p) (hl : C.length < 7) (hn : ∀ q ∈ C, sameB (full q) (full p) = false) : CsOk n (C ++ [p]) := by
  refine ⟨h.d1, h.d3, by simp; omega, fun q hq => ?_, fun q hq => ?_, ?_⟩
  · rcases List.mem_append.mp hq with a | a
    · exact h.ok q a
    · rw [List.mem_singleton.mp a]; exact hp.ct
  · rcases List.mem_append.mp hq with a | a
    · exact h.nz q a
    · rw [List.mem_singleton.mp a]; exact hp.nz
  · refine List.pairwise_append.mpr ⟨h.pw, List.pairwise_singleton _ _, fun a ha b hb => ?_⟩
    rw [List.mem_singleton.mp hb]
    exact hn a ha
theorem cs_back {n k : Nat} {C : List (List Int × Int)} (h : CsOk n C) (hk : k < C.length) : CsOk n ((C.take k ++ C.drop (k + 1)) ++ [C[k]]) := by
  have o := h.ok _ (List.getElem_mem hk)
  have e : C = C.take k ++ C[k] :: C.drop (k + 1) := by
    conv => lhs; rw [← List.take_append_drop k C, List.drop_eq_getElem_cons hk]
  have pw := h.pw
  rw [e] at pw
  obtain ⟨_, p2, p3⟩ := List.pairwise_append.mp pw
  have p4 := (List.pairwise_cons.mp p2).1
  have l7 := h.l7
  refine cs_snoc (cs_take h) ⟨o, h.nz _ (List.getElem_mem hk)⟩ (by simp; omega) fun q hq => ?_
  rcases List.mem_append.mp hq with a | a
  · exact p3 q a _ List.mem_cons_self
  · have oq := h.ok q (List.mem_of_mem_drop a)
    rw [sameB_symm (by rw [full_len oq, full_len o])]
    exact p4 q a
theorem v__law_cuts {ns : List Int} {at_ n m : Nat} (hb : ∀ z ∈ ns, Builtin.Int.intBits z ≤ 1048576) (n1 : 1 ≤ n) (n3 : n ≤ 3) (m7 : m ≤ 7) : ∃ C, d__law_cuts [.scr ns, .int at_, .int n, .int m] = .ok (.own (C.map ctD)) ∧ CsOk n C ∧ C.length ≤ m ∧ (0 < m → C ≠ []) := by
  obtain ⟨env', hfor, C, x5, x6, x7, rfl, cl, cok, cn⟩ := forR_inv (p := pName 5) (s := b__law_cuts_1) (lo := 0) (n := m) (env := [some (.val (.scr ns)), some (.val (.int at_)), some (.val (.int n)), some (.val (.int m)), some (.own (([] : List (List Int × Int)).map ctD)), none, none, none])
    (fun k env => ∃ (C : List (List Int × Int)) (x5 x6 x7 : Option Cell), env = [some (.val (.scr ns)), some (.val (.int at_)), some (.val (.int n)), some (.val (.int m)), some (.own (C.map ctD)), x5, x6, x7] ∧ C.length ≤ k ∧ CsOk n C ∧ (0 < k → C ≠ []))
    ⟨[], none, none, none, rfl, Nat.le_refl _, ⟨n1, n3, Nat.zero_le _, fun _ h => absurd h List.not_mem_nil, fun _ h => absurd h List.not_mem_nil, List.Pairwise.nil⟩, fun h => absurd h (by decide)⟩ (by
      rintro i hi env ⟨C, x5, x6, x7, rfl, cl, cok, cn⟩
      have l7 := cok.l7
      have ca : d__law_cell_at [.scr ns, .int ((at_ : Int) + i)] = .ok (.val (.int (ns.getD (at_ + i) 0))) := v__law_cell_at (k := at_ + i)
      have bc := bd_cell hb (at_ + i)
      generalize ns.getD (at_ + i) 0 = c at *
      obtain ⟨p, hp, po⟩ := v__law_cut (C := C) bc n1 n3 (fun q hq => ⟨cok.ok q hq, cok.nz q hq⟩) (by omega)
      have kf := comp_filter (dec := ctD) (p := pName 7) (c := i__law_cuts_1) (f := c__law_cuts_1) (env := [some (.scr ns), some (.int at_), some (.int n), some (.int m), some (.lst (C.map ctD)), some (.int i), some (ctD p), none]) (fun q => sameB (full p) (full q)) C (fun q hq => ⟨[(7, ctD q)], rfl, by
        have oq := cok.ok q hq
        have ss := v__law_same (u := full p) (v := full q) (by rw [full_len po.ct, full_len oq]) (by rw [full_len po.ct]; omega) (full_bd po.ct) (full_bd oq)
        rw [← ctD_full, ← ctD_full] at ss
        generalize ctD p = P at *
        generalize ctD q = Q at *
        generalize C.map ctD = T at *
        simp [i__law_cuts_1_eq, ss], by
        generalize ctD p = P at *
        generalize ctD q = Q at *
        generalize C.map ctD = T at *
        simp [c__law_cuts_1_eq]⟩)
      have lC : (C.map ctD).length = C.length := by simp
      have nl := noLst_ct p
      have c6 : C.length ≤ 1000000 := by omega
      have c6' : C.length < 1000000 := by omega
      by_cases hF : C.filter (fun q => sameB (full p) (full q)) = []
      · rw [hF] at kf
        have sp : (C ++ [p]).map ctD = C.map ctD ++ [ctD p] := by simp
        refine ⟨_, [some (.val (.scr ns)), some (.val (.int at_)), some (.val (.int n)), some (.val (.int m)), some (.own ((C ++ [p]).map ctD)), some (.val (.int i)), some (.val (ctD p)), x7], rfl, .inl ?_, C ++ [p], _, _, _, rfl, by simp; omega, cs_snoc cok po (by omega) fun q hq => ?_, fun _ => by simp⟩
        · rw [sp]
          simp only [List.map_nil] at kf
          generalize ctD p = P at *
          generalize C.map ctD = T at *
          simp [b__law_cuts_1_eq, ca, hp, nl, x_comp, lC, c6, kf, c6']
        · have oq := cok.ok q hq
          rw [sameB_symm (by rw [full_len po.ct, full_len oq])]
          have := List.filter_eq_nil_iff.mp hF q hq
          simpa using this
      · refine ⟨_, [some (.val (.scr ns)), some (.val (.int at_)), some (.val (.int n)), some (.val (.int m)), some (.own (C.map ctD)), some (.val (.int i)), some (.val (ctD p)), x7], rfl, .inl ?_, C, _, _, _, rfl, by omega, cok, fun _ e => hF (by rw [e]; rfl)⟩
        have e0 := eqOks_ct (C.filter fun q => sameB (full p) (full q)) 58
        have d0 : deqs ((C.filter fun q => sameB (full p) (full q)).map ctD) [] = false := by
          cases hq : C.filter fun q => sameB (full p) (full q) with
          | nil => exact absurd hq hF
          | cons a l => simp
        generalize (C.filter fun q => sameB (full p) (full q)).map ctD = F at *
        generalize ctD p = P at *
        generalize C.map ctD = T at *
        simp [b__law_cuts_1_eq, ca, hp, nl, x_comp, lC, c6, kf, e0, d0])
  refine ⟨C, ?_, cok, cl, cn⟩
  have rm := x_rng1N (n := m) (by omega)
  obtain ⟨L, hL⟩ : ∃ L, rngD 0 m = L := ⟨_, rfl⟩
  rw [hL] at rm hfor
  have e0 : ([] : List (List Int × Int)).map ctD = [] := rfl
  rw [e0] at hfor
  generalize C.map ctD = T at *
  rw [d__law_cuts_eq]
  refine run_rt rfl ?_
  have es : startE 8 [D.scr ns, .int at_, .int n, .int m] = [some (.val (.scr ns)), some (.val (.int at_)), some (.val (.int n)), some (.val (.int m)), none, none, none, none] := rfl
  rw [es]
  unfold s__law_cuts
  refine (seq_nx (e1 := [some (.val (.scr ns)), some (.val (.int at_)), some (.val (.int n)), some (.val (.int m)), some (.own []), none, none, none]) (by simp)).trans ?_
  refine (seq_nx (e1 := [some (.val (.scr ns)), some (.val (.int at_)), some (.val (.int n)), some (.val (.int m)), some (.own T), x5, x6, x7]) (by simp [rm, hfor])).trans ?_
  simp
noncomputable def s__law_odd : PL.Env → Res Fl := (sSeq (sSet 2 (e2 mulX (eTup (aCons (eC (.int 1)) aNil)) (e2 addD (eVar 1) (eC (.int 1)))))
    (sSeq (sSet 3 (lstD (oLst (aCons (e2 addD (e2 mulX (eTup (aCons (eC (.int 0)) aNil)) (eVar 1)) (eTup (aCons (eC (.int 5)) aNil))) (aCons (eSl (eVar 2) (oSome (eC (.int 1))) oNo) (aCons (e2 addD (eVar 2) (eTup (aCons (eC (.int 1)) aNil))) (aCons (lstD (eCallO listO (aCons (eVar 2) aNil))) (aCons (eC .non) (aCons (eC (.int 5)) (aCons (eC (.str "1:1")) (aCons (eTup aNil) (aCons (e2 addD (eSl (eVar 2) oNo (oSome (e1 negD (eC (.int 1))))) (eTup (aCons (eC (.bl true)) aNil))) aNil))))))))))))
    (sSeq (sSet 3 (e2 addD (eVar 3) (lstD (oLst (aCons (e2 addD (eTup (aCons (eC (.bl true)) aNil)) (eSl (eVar 2) (oSome (eC (.int 1))) oNo)) (aCons (e2 addD (eSl (eVar 2) oNo (oSome (e1 negD (eC (.int 1))))) (eTup (aCons (eC .non) aNil))) (aCons (e2 addD (eSl (eVar 2) oNo (oSome (e1 negD (eC (.int 1))))) (eTup (aCons (eC (.str "1")) aNil))) (aCons (e2 addD (eTup (aCons (eC .non) aNil)) (eSl (eVar 2) (oSome (eC (.int 1))) oNo)) (aCons (eC .dic) aNil)))))))))
    (sRet (e2 ixD (eVar 3) (eFn d__law_draw (aCons (eVar 0) (aCons (eC (.int 1)) (aCons (eC (.int 14)) aNil)))))))))
noncomputable def d__law_odd : List D → Res Cell := Classical.choose (⟨runB 4 2 s__law_odd, rfl⟩ : ∃ y : List D → Res Cell, y = runB 4 2 s__law_odd)
theorem d__law_odd_eq : d__law_odd = runB 4 2 s__law_odd := Classical.choose_spec (⟨runB 4 2 s__law_odd, rfl⟩ : ∃ y : List D → Res Cell, y = runB 4 2 s__law_odd)
theorem v__law_odd {c : Int} {n : Nat} (hc : Bd 1048576 c) (n1 : 1 ≤ n) (n3 : n ≤ 3) : ∃ d, d__law_odd [.int c, .int n] = .ok (.val d) ∧ d_is_cut [d, .int n] = .ok (.val (.bl false)) := by
  obtain ⟨y, f, g, h⟩ := v__law_draw (c := c) (k := 1) (b := 14) hc (by decide) (by decide) (by decide) (by decide)
  have wi : ∀ (m : Nat) (e : D), e ∈ List.replicate m (D.int 1) → d_is_whole [e] = .ok (.val (.bl (isI e))) := fun m e he => by
    rw [(List.mem_replicate.mp he).2]
    exact w_i
  have ws : ∀ x : D, d_is_whole [x] = .ok (.val (.bl (isI x))) → ∀ e ∈ List.replicate n (D.int 1) ++ [x], d_is_whole [e] = .ok (.val (.bl (isI e))) := fun x hx e he => by
    rcases List.mem_append.mp he with h | h
    · exact wi n e h
    · rw [List.mem_singleton.mp h]; exact hx
  have wf : ∀ x : D, d_is_whole [x] = .ok (.val (.bl (isI x))) → ∀ e ∈ x :: List.replicate n (D.int 1), d_is_whole [e] = .ok (.val (.bl (isI e))) := fun x hx e he => by
    rcases List.mem_cons.mp he with h | h
    · rw [h]; exact hx
    · exact wi n e h
  have as : ∀ x : D, isI x = false → (List.replicate n (D.int 1) ++ [x]).all isI = false := fun x hx => by
    rw [List.all_append]
    simp [hx]
  have af : ∀ x : D, isI x = false → (x :: List.replicate n (D.int 1)).all isI = false := fun x hx => by simp [hx]
  obtain ⟨W, hW⟩ : ∃ W : List D, W = [.tup (List.replicate n (.int 0) ++ [.int 5]), .tup (List.replicate n (.int 1)), .tup (List.replicate (n + 1) (.int 1) ++ [.int 1]), .lst (List.replicate (n + 1) (.int 1)), .non, .int 5, .str "1:1", .tup [], .tup (List.replicate n (.int 1) ++ [.bl true]), .tup (.bl true :: List.replicate n (.int 1)), .tup (List.replicate n (.int 1) ++ [.non]), .tup (List.replicate n (.int 1) ++ [.str "1"]), .tup (.non :: List.replicate n (.int 1)), .dic] := ⟨_, rfl⟩
  have lW : W.length = 14 := by rw [hW]; rfl
  have nW : ∀ d ∈ W, d_is_cut [d, .int n] = .ok (.val (.bl false)) := by
    intro d hd
    have zc : d_is_cut [.tup (List.replicate n (D.int 0) ++ [.int 5]), .int n] = .ok (.val (.bl false)) := by
      have e : List.replicate n (D.int 0) ++ [.int 5] = ((List.replicate n 0 ++ [5] : List Int).map D.int) := by simp
      rw [e, v_is_cut n3 (by simp; omega)]
      unfold cutB
      rw [List.take_append_of_le_length (by simp), List.take_of_length_le (by simp)]
      simp
    rw [hW] at hd
    simp only [List.mem_cons, List.not_mem_nil, or_false] at hd
    rcases hd with rfl | rfl | rfl | rfl | rfl | rfl | rfl | rfl | rfl | rfl | rfl | rfl | rfl | rfl
    · exact zc
    · exact not_cut_len (by simp)
    · exact not_cut_len (by simp)
    · exact not_cut_nt rfl
    · exact not_cut_nt rfl
    · exact not_cut_nt rfl
    · exact not_cut_nt rfl
    · exact not_cut_len (by simp)
    · exact not_cut_odd n3 (by simp) (ws _ w_b) (as _ rfl)
    · exact not_cut_odd n3 (by simp) (wf _ w_b) (af _ rfl)
    · exact not_cut_odd n3 (by simp) (ws _ w_n) (as _ rfl)
    · exact not_cut_odd n3 (by simp) (ws _ w_s) (as _ rfl)
    · exact not_cut_odd n3 (by simp) (wf _ w_n) (af _ rfl)
    · exact not_cut_nt rfl
  obtain ⟨d, hd, aw⟩ := at_some (enc := id) (l := W) g (by rw [lW]; exact h)
  rw [List.map_id] at aw
  have aw : atD W y = .ok d := aw
  refine ⟨d, ?_, nW d hd⟩
  have ml : -1000000 ≤ (n : Int) + 1 ∧ (n : Int) + 1 ≤ 1000 := by omega
  have ml' : -1000000 ≤ (n : Int) ∧ (n : Int) ≤ 1000 := by omega
  have tn : ((n : Int) + 1).toNat = n + 1 := by omega
  have c1 : cutL (List.replicate (n + 1) (D.int 1)) (some 1) none = List.replicate n (.int 1) := by
    have := cutL_from (l := List.replicate (n + 1) (D.int 1)) (k := 1)
    refine this.trans ?_
    simp
  have c2 : cutL (List.replicate (n + 1) (D.int 1)) none (some (-1)) = List.replicate n (.int 1) := by
    unfold cutL
    have e1 : HT.sIx (List.replicate (n + 1) (D.int 1)).length 0 none = 0 := HT.sIx_none ..
    have e2 : HT.sIx (List.replicate (n + 1) (D.int 1)).length (List.replicate (n + 1) (D.int 1)).length (some (-1)) = n := by
      simp [HT.sIx]
      omega
    rw [e1, e2]
    simp
  have lG : (List.replicate (n + 1) (D.int 1)).length = n + 1 := by simp
  have lO : (List.replicate n (D.int 1)).length = n := by simp
  have lZ : (List.replicate n (D.int 0)).length = n := by simp
  have k1 : n + 1 ≤ 1000000 := by omega
  have k2 : n + 1 + 1 ≤ 1000000 := by omega
  have k3 : 1 + n ≤ 1000000 := by omega
  have k1' : n ≤ 999999 := by omega
  have k2' : n ≤ 999998 := by omega
  rw [d__law_odd_eq]
  refine run_rt rfl ?_
  have es : startE 4 [D.int c, .int n] = [some (.val (.int c)), some (.val (.int n)), none, none] := rfl
  rw [es]
  unfold s__law_odd
  rw [show W = _ from hW] at aw
  generalize hG : List.replicate (n + 1) (D.int 1) = G at *
  generalize hO : List.replicate n (D.int 1) = O at *
  generalize hZ : List.replicate n (D.int 0) = Z at *
  refine (seq_nx (e1 := [some (.val (.int c)), some (.val (.int n)), some (.val (.tup G)), none]) ?_).trans ?_
  · simp [ml.1, ml.2, tn, hG]
  generalize hz : (n : Int) = z at *
  have tz : z.toNat = n := by omega
  refine (seq_nx (e1 := [some (.val (.int c)), some (.val (.int z)), some (.val (.tup G)), some (.val (.lst [.tup (Z ++ [.int 5]), .tup O, .tup (G ++ [.int 1]), .lst G, .non, .int 5, .str "1:1", .tup [], .tup (O ++ [.bl true])]))]) ?_).trans ?_
  · simp [ml'.1, ml'.2, tz, hZ, lZ, lG, lO, k1, k2, k1', k2', -cutL_to, -cutL_from, c1, c2]
  refine (seq_nx (e1 := [some (.val (.int c)), some (.val (.int z)), some (.val (.tup G)), some (.val (.lst [.tup (Z ++ [.int 5]), .tup O, .tup (G ++ [.int 1]), .lst G, .non, .int 5, .str "1:1", .tup [], .tup (O ++ [.bl true]), .tup (.bl true :: O), .tup (O ++ [.non]), .tup (O ++ [.str "1"]), .tup (.non :: O), .dic]))]) ?_).trans ?_
  · simp [lO, k1, k1', k3, -cutL_to, -cutL_from, c1, c2]
  simp [f, aw]
noncomputable def s__law_refused : PL.Env → Res Fl := (sSeq (sSet 3 (eC .non))
    (sSeq (sTry 4 ["NoCutting"] (sIfM (tst (e2 isD (eVar 2) (eC .non))) (sExpr (eMakeM (initD d_check_cuts) (aCons (eVar 0) (aCons (eVar 1) aNil)))) (sExpr (eMethM d_Cutting_with_one (eVar 2) (aCons (eVar 1) aNil)))) (fun k y => (uSeq (uSet 5 (e1 (isxD (isK k "NoLand" || (isK k "NoNumber" || (isK k "NoSigns" || (isK k "NoSpot" || false))))) (eVar 4))) (uIf (tAndD (tst (e1 (isxD (isK k "NoCutting")) (eVar 4))) (tAndD (tst (e1 (isxD (isK k "ValueError")) (eVar 4))) (tAndD (tNotD (tst (eVar 5))) (tst (eFnQ d__law_whole (aCons (e1 (xatD y) (eVar 4)) aNil)))))) (uSet 3 (e1 (xatD y) (eVar 4))) uNil))))
    (sRet (eVar 3))))
noncomputable def d__law_refused : List D → Res Cell := Classical.choose (⟨runB 6 3 s__law_refused, rfl⟩ : ∃ y : List D → Res Cell, y = runB 6 3 s__law_refused)
theorem d__law_refused_eq : d__law_refused = runB 6 3 s__law_refused := Classical.choose_spec (⟨runB 6 3 s__law_refused, rfl⟩ : ∃ y : List D → Res Cell, y = runB 6 3 s__law_refused)
theorem v__law_refused {a b : D} {k : Int} (h : d_check_cuts [a, b] = .exc "NoCutting" (some (.int k))) : d__law_refused [a, b, .non] = .ok (.val (.int k)) := by
  have hm := v_make_bad h
  have hw := v__law_whole (a := k)
  rw [d__law_refused_eq]
  refine run_rt rfl ?_
  have es : startE 6 [a, b, .non] = [some (.val a), some (.val b), some (.val .non), none, none, none] := rfl
  rw [es]
  unfold s__law_refused
  refine (seq_nx (e1 := [some (.val a), some (.val b), some (.val .non), some (.val .non), none, none]) (by simp)).trans ?_
  refine (seq_nx (e1 := [some (.val a), some (.val b), some (.val .non), some (.val (.int k)), none, some (.val (.bl false))]) ?_).trans ?_
  · simp [x_try, hm, isK, hw]
  simp
theorem v__law_refusedC {n : Nat} {C : List (List Int × Int)} {a b : D} {k : Int} (h : d_Cutting_with_one [kD n C, b] = .exc "NoCutting" (some (.int k))) : d__law_refused [a, b, kD n C] = .ok (.val (.int k)) := by
  have hw := v__law_whole (a := k)
  have hi : isD (kD n C) .non = .ok (.bl false) := rfl
  have ck : cutOf (kD n C) = .ok ((n : Int), C.map ctD) := rfl
  have hk : D.cut n (C.map ctD) = kD n C := rfl
  rw [d__law_refused_eq]
  refine run_rt rfl ?_
  have es : startE 6 [a, b, kD n C] = [some (.val a), some (.val b), some (.val (kD n C)), none, none, none] := rfl
  rw [es]
  unfold s__law_refused
  generalize kD n C = K at *
  generalize C.map ctD = T at *
  generalize (n : Int) = z at *
  refine (seq_nx (e1 := [some (.val a), some (.val b), some (.val K), some (.val .non), none, none]) (by simp)).trans ?_
  refine (seq_nx (e1 := [some (.val a), some (.val b), some (.val K), some (.val (.int k)), none, some (.val (.bl false))]) ?_).trans ?_
  · simp [x_try, hi, ck, hk, h, isK, hw]
  simp
noncomputable def c_law_1 : BEnv → Res D := Classical.choose (⟨(e2 mulX (eVar 7) (eVar 14)), rfl⟩ : ∃ y : BEnv → Res D, y = (e2 mulX (eVar 7) (eVar 14)))
theorem c_law_1_eq : c_law_1 = (e2 mulX (eVar 7) (eVar 14)) := Classical.choose_spec (⟨(e2 mulX (eVar 7) (eVar 14)), rfl⟩ : ∃ y : BEnv → Res D, y = (e2 mulX (eVar 7) (eVar 14)))
noncomputable def b_law_1 : PL.Env → Res Fl := Classical.choose (⟨(sSeq (sSet 4 (eFn d__law_cell_at (aCons (eVar 0) (aCons (e2 addD (eC (.int 8)) (eVar 3)) aNil))))
    (sSeq (sSet 5 (eFn d__law_draw (aCons (eVar 4) (aCons (eC (.int 2)) (aCons (e2 addD (eCall lenD (aCons (eVar 2) aNil)) (eC (.int 1))) aNil)))))
    (sSeq (sSet 6 (eFn d__law_odd (aCons (eVar 4) (aCons (eVar 1) aNil))))
    (sSeq (sIf (tst (e2 neD (eFn d__law_refused (aCons (eVar 1) (aCons (e2 addD (e2 addD (eSl (eVar 2) oNo (oSome (eVar 5))) (lstD (oLst (aCons (eVar 6) aNil)))) (eSl (eVar 2) (oSome (eVar 5)) oNo)) (aCons (eC .non) aNil)))) (eVar 5))) (sRet (eC (.bl false))) sNil)
    (sSeq (sSet 7 (e2 ixD (lstD (oLst (aCons (e1 negD (eC (.int 1))) (aCons (eC (.int 1)) (aCons (eC (.int 2)) (aCons (e1 negD (eC (.int 3))) (aCons (e2 powD (eC (.int 10)) (eC (.int 20))) aNil))))))) (eFn d__law_draw (aCons (eVar 4) (aCons (eC (.int 3)) (aCons (eC (.int 5)) aNil))))))
    (sSeq (sSet 8 (eFn d__law_draw (aCons (eVar 4) (aCons (eC (.int 4)) (aCons (eCall lenD (aCons (eVar 2) aNil)) aNil)))))
    (sSeq (sSet 9 (eCall tupleD (aCons (lstD (oComp [14] (iSeq (e2 ixD (eVar 2) (eVar 8))) (pName 14) cTrue c_law_1)) aNil)))
    (sSeq (sIf (tst (e2 neD (eFn d__law_refused (aCons (eVar 1) (aCons (e2 addD (eVar 2) (lstD (oLst (aCons (eVar 9) aNil)))) (aCons (eC .non) aNil)))) (eCall lenD (aCons (eVar 2) aNil)))) (sRet (eC (.bl false))) sNil)
    (sSeq (sSet 10 (eMake (initD d_check_cuts) (aCons (eVar 1) (aCons (eVar 2) aNil))))
    (sSeq (sIf (tOrD (tst (e2 neD (eFn d__law_refused (aCons (eVar 1) (aCons (eVar 9) (aCons (eVar 10) aNil)))) (eCall lenD (aCons (eVar 2) aNil)))) (tst (e2 neD (eFn d__law_refused (aCons (eVar 1) (aCons (eVar 6) (aCons (eVar 10) aNil)))) (eCall lenD (aCons (eVar 2) aNil))))) (sRet (eC (.bl false))) sNil)
    (sIf (tst (e2 neD (lstD (oMeth d_Cutting_cuts (eVar 10) aNil)) (eVar 2))) (sRet (eC (.bl false))) sNil))))))))))), rfl⟩ : ∃ y : PL.Env → Res Fl, y = (sSeq (sSet 4 (eFn d__law_cell_at (aCons (eVar 0) (aCons (e2 addD (eC (.int 8)) (eVar 3)) aNil))))
    (sSeq (sSet 5 (eFn d__law_draw (aCons (eVar 4) (aCons (eC (.int 2)) (aCons (e2 addD (eCall lenD (aCons (eVar 2) aNil)) (eC (.int 1))) aNil)))))
    (sSeq (sSet 6 (eFn d__law_odd (aCons (eVar 4) (aCons (eVar 1) aNil))))
    (sSeq (sIf (tst (e2 neD (eFn d__law_refused (aCons (eVar 1) (aCons (e2 addD (e2 addD (eSl (eVar 2) oNo (oSome (eVar 5))) (lstD (oLst (aCons (eVar 6) aNil)))) (eSl (eVar 2) (oSome (eVar 5)) oNo)) (aCons (eC .non) aNil)))) (eVar 5))) (sRet (eC (.bl false))) sNil)
    (sSeq (sSet 7 (e2 ixD (lstD (oLst (aCons (e1 negD (eC (.int 1))) (aCons (eC (.int 1)) (aCons (eC (.int 2)) (aCons (e1 negD (eC (.int 3))) (aCons (e2 powD (eC (.int 10)) (eC (.int 20))) aNil))))))) (eFn d__law_draw (aCons (eVar 4) (aCons (eC (.int 3)) (aCons (eC (.int 5)) aNil))))))
    (sSeq (sSet 8 (eFn d__law_draw (aCons (eVar 4) (aCons (eC (.int 4)) (aCons (eCall lenD (aCons (eVar 2) aNil)) aNil)))))
    (sSeq (sSet 9 (eCall tupleD (aCons (lstD (oComp [14] (iSeq (e2 ixD (eVar 2) (eVar 8))) (pName 14) cTrue c_law_1)) aNil)))
    (sSeq (sIf (tst (e2 neD (eFn d__law_refused (aCons (eVar 1) (aCons (e2 addD (eVar 2) (lstD (oLst (aCons (eVar 9) aNil)))) (aCons (eC .non) aNil)))) (eCall lenD (aCons (eVar 2) aNil)))) (sRet (eC (.bl false))) sNil)
    (sSeq (sSet 10 (eMake (initD d_check_cuts) (aCons (eVar 1) (aCons (eVar 2) aNil))))
    (sSeq (sIf (tOrD (tst (e2 neD (eFn d__law_refused (aCons (eVar 1) (aCons (eVar 9) (aCons (eVar 10) aNil)))) (eCall lenD (aCons (eVar 2) aNil)))) (tst (e2 neD (eFn d__law_refused (aCons (eVar 1) (aCons (eVar 6) (aCons (eVar 10) aNil)))) (eCall lenD (aCons (eVar 2) aNil))))) (sRet (eC (.bl false))) sNil)
    (sIf (tst (e2 neD (lstD (oMeth d_Cutting_cuts (eVar 10) aNil)) (eVar 2))) (sRet (eC (.bl false))) sNil))))))))))))
theorem b_law_1_eq : b_law_1 = (sSeq (sSet 4 (eFn d__law_cell_at (aCons (eVar 0) (aCons (e2 addD (eC (.int 8)) (eVar 3)) aNil))))
    (sSeq (sSet 5 (eFn d__law_draw (aCons (eVar 4) (aCons (eC (.int 2)) (aCons (e2 addD (eCall lenD (aCons (eVar 2) aNil)) (eC (.int 1))) aNil)))))
    (sSeq (sSet 6 (eFn d__law_odd (aCons (eVar 4) (aCons (eVar 1) aNil))))
    (sSeq (sIf (tst (e2 neD (eFn d__law_refused (aCons (eVar 1) (aCons (e2 addD (e2 addD (eSl (eVar 2) oNo (oSome (eVar 5))) (lstD (oLst (aCons (eVar 6) aNil)))) (eSl (eVar 2) (oSome (eVar 5)) oNo)) (aCons (eC .non) aNil)))) (eVar 5))) (sRet (eC (.bl false))) sNil)
    (sSeq (sSet 7 (e2 ixD (lstD (oLst (aCons (e1 negD (eC (.int 1))) (aCons (eC (.int 1)) (aCons (eC (.int 2)) (aCons (e1 negD (eC (.int 3))) (aCons (e2 powD (eC (.int 10)) (eC (.int 20))) aNil))))))) (eFn d__law_draw (aCons (eVar 4) (aCons (eC (.int 3)) (aCons (eC (.int 5)) aNil))))))
    (sSeq (sSet 8 (eFn d__law_draw (aCons (eVar 4) (aCons (eC (.int 4)) (aCons (eCall lenD (aCons (eVar 2) aNil)) aNil)))))
    (sSeq (sSet 9 (eCall tupleD (aCons (lstD (oComp [14] (iSeq (e2 ixD (eVar 2) (eVar 8))) (pName 14) cTrue c_law_1)) aNil)))
    (sSeq (sIf (tst (e2 neD (eFn d__law_refused (aCons (eVar 1) (aCons (e2 addD (eVar 2) (lstD (oLst (aCons (eVar 9) aNil)))) (aCons (eC .non) aNil)))) (eCall lenD (aCons (eVar 2) aNil)))) (sRet (eC (.bl false))) sNil)
    (sSeq (sSet 10 (eMake (initD d_check_cuts) (aCons (eVar 1) (aCons (eVar 2) aNil))))
    (sSeq (sIf (tOrD (tst (e2 neD (eFn d__law_refused (aCons (eVar 1) (aCons (eVar 9) (aCons (eVar 10) aNil)))) (eCall lenD (aCons (eVar 2) aNil)))) (tst (e2 neD (eFn d__law_refused (aCons (eVar 1) (aCons (eVar 6) (aCons (eVar 10) aNil)))) (eCall lenD (aCons (eVar 2) aNil))))) (sRet (eC (.bl false))) sNil)
    (sIf (tst (e2 neD (lstD (oMeth d_Cutting_cuts (eVar 10) aNil)) (eVar 2))) (sRet (eC (.bl false))) sNil))))))))))) := Classical.choose_spec (⟨(sSeq (sSet 4 (eFn d__law_cell_at (aCons (eVar 0) (aCons (e2 addD (eC (.int 8)) (eVar 3)) aNil))))
    (sSeq (sSet 5 (eFn d__law_draw (aCons (eVar 4) (aCons (eC (.int 2)) (aCons (e2 addD (eCall lenD (aCons (eVar 2) aNil)) (eC (.int 1))) aNil)))))
    (sSeq (sSet 6 (eFn d__law_odd (aCons (eVar 4) (aCons (eVar 1) aNil))))
    (sSeq (sIf (tst (e2 neD (eFn d__law_refused (aCons (eVar 1) (aCons (e2 addD (e2 addD (eSl (eVar 2) oNo (oSome (eVar 5))) (lstD (oLst (aCons (eVar 6) aNil)))) (eSl (eVar 2) (oSome (eVar 5)) oNo)) (aCons (eC .non) aNil)))) (eVar 5))) (sRet (eC (.bl false))) sNil)
    (sSeq (sSet 7 (e2 ixD (lstD (oLst (aCons (e1 negD (eC (.int 1))) (aCons (eC (.int 1)) (aCons (eC (.int 2)) (aCons (e1 negD (eC (.int 3))) (aCons (e2 powD (eC (.int 10)) (eC (.int 20))) aNil))))))) (eFn d__law_draw (aCons (eVar 4) (aCons (eC (.int 3)) (aCons (eC (.int 5)) aNil))))))
    (sSeq (sSet 8 (eFn d__law_draw (aCons (eVar 4) (aCons (eC (.int 4)) (aCons (eCall lenD (aCons (eVar 2) aNil)) aNil)))))
    (sSeq (sSet 9 (eCall tupleD (aCons (lstD (oComp [14] (iSeq (e2 ixD (eVar 2) (eVar 8))) (pName 14) cTrue c_law_1)) aNil)))
    (sSeq (sIf (tst (e2 neD (eFn d__law_refused (aCons (eVar 1) (aCons (e2 addD (eVar 2) (lstD (oLst (aCons (eVar 9) aNil)))) (aCons (eC .non) aNil)))) (eCall lenD (aCons (eVar 2) aNil)))) (sRet (eC (.bl false))) sNil)
    (sSeq (sSet 10 (eMake (initD d_check_cuts) (aCons (eVar 1) (aCons (eVar 2) aNil))))
    (sSeq (sIf (tOrD (tst (e2 neD (eFn d__law_refused (aCons (eVar 1) (aCons (eVar 9) (aCons (eVar 10) aNil)))) (eCall lenD (aCons (eVar 2) aNil)))) (tst (e2 neD (eFn d__law_refused (aCons (eVar 1) (aCons (eVar 6) (aCons (eVar 10) aNil)))) (eCall lenD (aCons (eVar 2) aNil))))) (sRet (eC (.bl false))) sNil)
    (sIf (tst (e2 neD (lstD (oMeth d_Cutting_cuts (eVar 10) aNil)) (eVar 2))) (sRet (eC (.bl false))) sNil))))))))))), rfl⟩ : ∃ y : PL.Env → Res Fl, y = (sSeq (sSet 4 (eFn d__law_cell_at (aCons (eVar 0) (aCons (e2 addD (eC (.int 8)) (eVar 3)) aNil))))
    (sSeq (sSet 5 (eFn d__law_draw (aCons (eVar 4) (aCons (eC (.int 2)) (aCons (e2 addD (eCall lenD (aCons (eVar 2) aNil)) (eC (.int 1))) aNil)))))
    (sSeq (sSet 6 (eFn d__law_odd (aCons (eVar 4) (aCons (eVar 1) aNil))))
    (sSeq (sIf (tst (e2 neD (eFn d__law_refused (aCons (eVar 1) (aCons (e2 addD (e2 addD (eSl (eVar 2) oNo (oSome (eVar 5))) (lstD (oLst (aCons (eVar 6) aNil)))) (eSl (eVar 2) (oSome (eVar 5)) oNo)) (aCons (eC .non) aNil)))) (eVar 5))) (sRet (eC (.bl false))) sNil)
    (sSeq (sSet 7 (e2 ixD (lstD (oLst (aCons (e1 negD (eC (.int 1))) (aCons (eC (.int 1)) (aCons (eC (.int 2)) (aCons (e1 negD (eC (.int 3))) (aCons (e2 powD (eC (.int 10)) (eC (.int 20))) aNil))))))) (eFn d__law_draw (aCons (eVar 4) (aCons (eC (.int 3)) (aCons (eC (.int 5)) aNil))))))
    (sSeq (sSet 8 (eFn d__law_draw (aCons (eVar 4) (aCons (eC (.int 4)) (aCons (eCall lenD (aCons (eVar 2) aNil)) aNil)))))
    (sSeq (sSet 9 (eCall tupleD (aCons (lstD (oComp [14] (iSeq (e2 ixD (eVar 2) (eVar 8))) (pName 14) cTrue c_law_1)) aNil)))
    (sSeq (sIf (tst (e2 neD (eFn d__law_refused (aCons (eVar 1) (aCons (e2 addD (eVar 2) (lstD (oLst (aCons (eVar 9) aNil)))) (aCons (eC .non) aNil)))) (eCall lenD (aCons (eVar 2) aNil)))) (sRet (eC (.bl false))) sNil)
    (sSeq (sSet 10 (eMake (initD d_check_cuts) (aCons (eVar 1) (aCons (eVar 2) aNil))))
    (sSeq (sIf (tOrD (tst (e2 neD (eFn d__law_refused (aCons (eVar 1) (aCons (eVar 9) (aCons (eVar 10) aNil)))) (eCall lenD (aCons (eVar 2) aNil)))) (tst (e2 neD (eFn d__law_refused (aCons (eVar 1) (aCons (eVar 6) (aCons (eVar 10) aNil)))) (eCall lenD (aCons (eVar 2) aNil))))) (sRet (eC (.bl false))) sNil)
    (sIf (tst (e2 neD (lstD (oMeth d_Cutting_cuts (eVar 10) aNil)) (eVar 2))) (sRet (eC (.bl false))) sNil))))))))))))
noncomputable def c_law_2 : BEnv → Res D := Classical.choose (⟨(eCall tupleD (aCons (e2 addD (e2 addD (lstD (oLst (aCons (eC (.int 1)) aNil))) (e2 mulX (lstD (oLst (aCons (eC (.int 0)) aNil))) (e2 subD (eVar 1) (eC (.int 1))))) (lstD (oLst (aCons (e2 addD (eC (.int 1000)) (eVar 3)) aNil)))) aNil)), rfl⟩ : ∃ y : BEnv → Res D, y = (eCall tupleD (aCons (e2 addD (e2 addD (lstD (oLst (aCons (eC (.int 1)) aNil))) (e2 mulX (lstD (oLst (aCons (eC (.int 0)) aNil))) (e2 subD (eVar 1) (eC (.int 1))))) (lstD (oLst (aCons (e2 addD (eC (.int 1000)) (eVar 3)) aNil)))) aNil)))
theorem c_law_2_eq : c_law_2 = (eCall tupleD (aCons (e2 addD (e2 addD (lstD (oLst (aCons (eC (.int 1)) aNil))) (e2 mulX (lstD (oLst (aCons (eC (.int 0)) aNil))) (e2 subD (eVar 1) (eC (.int 1))))) (lstD (oLst (aCons (e2 addD (eC (.int 1000)) (eVar 3)) aNil)))) aNil)) := Classical.choose_spec (⟨(eCall tupleD (aCons (e2 addD (e2 addD (lstD (oLst (aCons (eC (.int 1)) aNil))) (e2 mulX (lstD (oLst (aCons (eC (.int 0)) aNil))) (e2 subD (eVar 1) (eC (.int 1))))) (lstD (oLst (aCons (e2 addD (eC (.int 1000)) (eVar 3)) aNil)))) aNil)), rfl⟩ : ∃ y : BEnv → Res D, y = (eCall tupleD (aCons (e2 addD (e2 addD (lstD (oLst (aCons (eC (.int 1)) aNil))) (e2 mulX (lstD (oLst (aCons (eC (.int 0)) aNil))) (e2 subD (eVar 1) (eC (.int 1))))) (lstD (oLst (aCons (e2 addD (eC (.int 1000)) (eVar 3)) aNil)))) aNil)))
noncomputable def b_law_2 : PL.Env → Res Fl := Classical.choose (⟨(sIf (tOrD (tst (e2 neD (eFn d__law_refused (aCons (eVar 12) (aCons (lstD (oLst aNil)) (aCons (eC .non) aNil)))) (e1 negD (eC (.int 1))))) (tst (e2 neD (eFn d__law_refused (aCons (eVar 12) (aCons (eVar 2) (aCons (eC .non) aNil)))) (e1 negD (eC (.int 1)))))) (sRet (eC (.bl false))) sNil), rfl⟩ : ∃ y : PL.Env → Res Fl, y = (sIf (tOrD (tst (e2 neD (eFn d__law_refused (aCons (eVar 12) (aCons (lstD (oLst aNil)) (aCons (eC .non) aNil)))) (e1 negD (eC (.int 1))))) (tst (e2 neD (eFn d__law_refused (aCons (eVar 12) (aCons (eVar 2) (aCons (eC .non) aNil)))) (e1 negD (eC (.int 1)))))) (sRet (eC (.bl false))) sNil))
theorem b_law_2_eq : b_law_2 = (sIf (tOrD (tst (e2 neD (eFn d__law_refused (aCons (eVar 12) (aCons (lstD (oLst aNil)) (aCons (eC .non) aNil)))) (e1 negD (eC (.int 1))))) (tst (e2 neD (eFn d__law_refused (aCons (eVar 12) (aCons (eVar 2) (aCons (eC .non) aNil)))) (e1 negD (eC (.int 1)))))) (sRet (eC (.bl false))) sNil) := Classical.choose_spec (⟨(sIf (tOrD (tst (e2 neD (eFn d__law_refused (aCons (eVar 12) (aCons (lstD (oLst aNil)) (aCons (eC .non) aNil)))) (e1 negD (eC (.int 1))))) (tst (e2 neD (eFn d__law_refused (aCons (eVar 12) (aCons (eVar 2) (aCons (eC .non) aNil)))) (e1 negD (eC (.int 1)))))) (sRet (eC (.bl false))) sNil), rfl⟩ : ∃ y : PL.Env → Res Fl, y = (sIf (tOrD (tst (e2 neD (eFn d__law_refused (aCons (eVar 12) (aCons (lstD (oLst aNil)) (aCons (eC .non) aNil)))) (e1 negD (eC (.int 1))))) (tst (e2 neD (eFn d__law_refused (aCons (eVar 12) (aCons (eVar 2) (aCons (eC .non) aNil)))) (e1 negD (eC (.int 1)))))) (sRet (eC (.bl false))) sNil))
noncomputable def c_law_3 : BEnv → Res D := Classical.choose (⟨(eFn d__law_refused (aCons (eVar 1) (aCons (eVar 13) (aCons (eC .non) aNil)))), rfl⟩ : ∃ y : BEnv → Res D, y = (eFn d__law_refused (aCons (eVar 1) (aCons (eVar 13) (aCons (eC .non) aNil)))))
theorem c_law_3_eq : c_law_3 = (eFn d__law_refused (aCons (eVar 1) (aCons (eVar 13) (aCons (eC .non) aNil)))) := Classical.choose_spec (⟨(eFn d__law_refused (aCons (eVar 1) (aCons (eVar 13) (aCons (eC .non) aNil)))), rfl⟩ : ∃ y : BEnv → Res D, y = (eFn d__law_refused (aCons (eVar 1) (aCons (eVar 13) (aCons (eC .non) aNil)))))
noncomputable def s_law : PL.Env → Res Fl := (sSeq (sSet 1 (e2 addD (eC (.int 1)) (eFn d__law_draw (aCons (eFn d__law_cell_at (aCons (eVar 0) (aCons (eC (.int 0)) aNil))) (aCons (eC (.int 0)) (aCons (eC (.int 3)) aNil))))))
    (sSeq (sSet 2 (eFn d__law_cuts (aCons (eVar 0) (aCons (eC (.int 1)) (aCons (eVar 1) (aCons (e2 addD (eC (.int 1)) (eFn d__law_draw (aCons (eFn d__law_cell_at (aCons (eVar 0) (aCons (eC (.int 0)) aNil))) (aCons (eC (.int 1)) (aCons (eC (.int 6)) aNil))))) aNil))))))
    (sSeq (sForR (iRng1 (aCons (eC (.int 5)) aNil)) (pName 3) b_law_1)
    (sSeq (sSetL 11 (oComp [3] (iRng1 (aCons (eC (.int 8)) aNil)) (pName 3) cTrue c_law_2))
    (sSeq (sIf (tst (e2 neD (eFn d__law_refused (aCons (eVar 1) (aCons (e2 addD (eVar 11) (lstD (oLst (aCons (eC .non) aNil)))) (aCons (eC .non) aNil)))) (eC (.int 7)))) (sRet (eC (.bl false))) sNil)
    (sSeq (sFor (iSeq (lstD (oLst (aCons (eC (.int 0)) (aCons (eC (.int 4)) (aCons (e1 negD (eC (.int 1))) (aCons (e2 powD (eC (.int 10)) (eC (.int 9))) (aCons (eC (.bl true)) (aCons (eC .non) (aCons (eC (.str "2")) (aCons (lstD (oLst (aCons (eC (.int 2)) aNil))) (aCons (eTup (aCons (eC (.int 1)) aNil)) aNil)))))))))))) (pName 12) b_law_2)
    (sRet (e2 eqD (lstD (oComp [13] (iSeq (lstD (oLst (aCons (eC .non) (aCons (eTup aNil) (aCons (eCall tupleD (aCons (eVar 2) aNil)) (aCons (eC (.str "1")) (aCons (eC (.int 5)) (aCons (eC .dic) aNil))))))))) (pName 13) cTrue c_law_3)) (e2 mulX (lstD (oLst (aCons (e1 negD (eC (.int 1))) aNil))) (eC (.int 6)))))))))))
noncomputable def d_law : List D → Res Cell := Classical.choose (⟨runB 15 1 s_law, rfl⟩ : ∃ y : List D → Res Cell, y = runB 15 1 s_law)
theorem d_law_eq : d_law = runB 15 1 s_law := Classical.choose_spec (⟨runB 15 1 s_law, rfl⟩ : ∃ y : List D → Res Cell, y = runB 15 1 s_law)
theorem getD_mul {l : List Int} {o : Int} {k : Nat} : (l.map fun z => o * z).getD k 0 = o * l.getD k 0 := by
  by_cases h : k < l.length
  · simp [h]
  · simp [h]
theorem same_mul {l : List Int} {o : Int} : sameB (l.map fun z => o * z) l = true := by
  refine decide_eq_true fun k _ j _ => ?_
  rw [getD_mul, getD_mul, Int.mul_assoc, Int.mul_assoc, Int.mul_comm (l.getD k 0)]
theorem w_l {x : List D} : d_is_whole [.lst x] = .ok (.val (.bl false)) := by simp [d_is_whole_eq, s_is_whole, start_eq]
theorem cs_pre {n k : Nat} {C : List (List Int × Int)} (h : CsOk n C) : CsOk n (C.take k) := by
  have sub := List.take_sublist k C
  exact ⟨h.d1, h.d3, Nat.le_trans sub.length_le h.l7, fun p hp => h.ok p (sub.subset hp), fun p hp => h.nz p (sub.subset hp), h.pw.sublist sub⟩
def r8 (n : Nat) (k : Nat) : List Int × Int := (1 :: List.replicate (n - 1) 0, 1000 + (k : Int))
theorem cs_r7 {n : Nat} (n1 : 1 ≤ n) (n3 : n ≤ 3) : CsOk n ((List.range 7).map (r8 n)) := by
  refine ⟨n1, n3, by simp, fun p hp => ?_, fun p hp e => ?_, ?_⟩
  · obtain ⟨k, hk, rfl⟩ := List.mem_map.mp hp
    have hk := List.mem_range.mp hk
    refine ⟨by simp [r8]; omega, b200 (by simp only [r8]; omega) (by simp only [r8]; omega), fun z hz => ?_⟩
    rcases List.mem_cons.mp hz with h | h
    · rw [h]; exact b200 (by decide) (by decide)
    · rw [(List.mem_replicate.mp h).2]; exact b200 (by decide) (by decide)
  · obtain ⟨k, hk, rfl⟩ := List.mem_map.mp hp
    have : (1 : Int) ∈ List.replicate n 0 := by rw [← e]; simp [r8]
    have := (List.mem_replicate.mp this).2
    exact absurd this (by decide)
  · refine List.pairwise_iff_getElem.mpr fun i j hi hj hij => ?_
    simp only [List.getElem_map, List.getElem_range]
    refine decide_eq_false fun h => ?_
    obtain ⟨m, rfl⟩ : ∃ m, n = m + 1 := ⟨n - 1, by omega⟩
    have := h (m + 1) (by simp [full, r8]) 0 (by omega)
    simp [full, r8] at this
    omega
theorem law_true (ns : List Int) (h : ns.length ≤ 63) (hb : ∀ z ∈ ns, Builtin.Int.intBits z ≤ 1048576) : d_law [.scr ns] = .ok (.val (.bl true)) := by
  have ca : d__law_cell_at [.scr ns, .int 0] = .ok (.val (.int (ns.getD 0 0))) := v__law_cell_at (k := 0)
  have bc := bd_cell hb 0
  generalize ns.getD 0 0 = c at *
  obtain ⟨y0, f0, g0, h0⟩ := v__law_draw (c := c) (k := 0) (b := 3) bc (by decide) (by decide) (by decide) (by decide)
  obtain ⟨y1, f1, g1, h1⟩ := v__law_draw (c := c) (k := 1) (b := 6) bc (by decide) (by decide) (by decide) (by decide)
  obtain ⟨n, hn⟩ : ∃ n : Nat, 1 + y0 = (n : Int) := ⟨(1 + y0).toNat, by omega⟩
  obtain ⟨m, hm⟩ : ∃ m : Nat, 1 + y1 = (m : Int) := ⟨(1 + y1).toNat, by omega⟩
  have n1 : 1 ≤ n := by omega
  have n3 : n ≤ 3 := by omega
  obtain ⟨C, hC, co, cl, cn⟩ := v__law_cuts (at_ := 1) (m := m) hb n1 n3 (by omega)
  have hC : d__law_cuts [.scr ns, .int 1, .int n, .int m] = .ok (.own (C.map ctD)) := hC
  have c0 : C ≠ [] := cn (by omega)
  have c1 : 1 ≤ C.length := by cases C with
    | nil => exact absurd rfl c0
    | cons a l => simp
  have c6 : C.length ≤ 6 := by omega
  have lT : (C.map ctD).length = C.length := by simp
  have kc := v_cuts (n := n) (C := C)
  have kk : cutOf (kD n C) = .ok ((n : Int), C.map ctD) := rfl
  have hk : D.cut n (C.map ctD) = kD n C := rfl
  have km := v_make co
  have eq1 := eqOks_ct C 58
  have eq2 := deqs_ct C
  -- each turn
  obtain ⟨env1, hfor, x3, x4, x5, x6, x7, x8, x9, x10, x11, x12, x13, x14, rfl⟩ := forR_inv (p := pName 3) (s := b_law_1) (lo := 0) (n := 5) (env := [some (.val (.scr ns)), some (.val (.int n)), some (.val (.lst (C.map ctD))), none, none, none, none, none, none, none, none, none, none, none, none])
    (fun _ env => ∃ x3 x4 x5 x6 x7 x8 x9 x10 x11 x12 x13 x14 : Option Cell, env = [some (.val (.scr ns)), some (.val (.int n)), some (.val (.lst (C.map ctD))), x3, x4, x5, x6, x7, x8, x9, x10, x11, x12, x13, x14]) ⟨_, _, _, _, _, _, _, _, _, _, _, _, rfl⟩ (by
    rintro i hi env ⟨x3, x4, x5, x6, x7, x8, x9, x10, x11, x12, x13, x14, rfl⟩
    have cb : d__law_cell_at [.scr ns, .int (8 + (i : Int))] = .ok (.val (.int (ns.getD (8 + i) 0))) := v__law_cell_at (k := 8 + i)
    have bb := bd_cell hb (8 + i)
    generalize ns.getD (8 + i) 0 = e at *
    obtain ⟨ya, fa, ga, ha⟩ := v__law_draw (c := e) (k := 2) (b := (C.length : Int) + 1) bb (by decide) (by decide) (by omega) (by omega)
    obtain ⟨a, rfl⟩ : ∃ a : Nat, ya = (a : Int) := ⟨ya.toNat, by omega⟩
    have al : a ≤ C.length := by omega
    obtain ⟨d, hd, dn⟩ := v__law_odd (c := e) bb n1 n3
    obtain ⟨yo, fo, go, ho⟩ := v__law_draw (c := e) (k := 3) (b := 5) bb (by decide) (by decide) (by decide) (by decide)
    obtain ⟨o, ho1, ho2⟩ := at_some (enc := D.int) (l := [-1, 1, 2, -3, 100000000000000000000]) go ho
    have o1 : -3 ≤ o ∧ o ≤ 100000000000000000000 := by simp at ho1; omega
    simp only [List.map_cons, List.map_nil] at ho2
    obtain ⟨yp, fp, gp, hp⟩ := v__law_draw (c := e) (k := 4) (b := (C.length : Int)) bb (by decide) (by decide) (by omega) (by omega)
    obtain ⟨p, hp1, hp2⟩ := at_some (enc := ctD) (l := C) gp hp
    have po := co.ok p hp1
    have ob : Bd 70 o := by
      unfold Bd
      have e : (2 : Nat) ^ 70 = 1180591620717411303424 := by decide
      rw [e]
      omega
    have bz : ∀ z ∈ full p, Bd 200 z := fun z hz => by
      rcases List.mem_append.mp hz with q | q
      · exact po.bs z q
      · rw [List.mem_singleton.mp q]; exact po.bc
    have kt := comp_map (dec := D.int) (enc := D.int) (p := pName 14) (f := c_law_1) (env := [some (.scr ns), some (.int n), some (.lst (C.map ctD)), some (.int i), some (.int e), some (.int a), some d, some (.int o), some (.int yp), cleanC x9, cleanC x10, cleanC x11, cleanC x12, cleanC x13, none]) (fun z => o * z) (full p) (fun b hb => ⟨[(14, .int b)], rfl, by
      have mo := mulOk_of ob (bz b hb) (by decide)
      generalize C.map ctD = T at *
      simp [c_law_1_eq, mo]⟩)
    obtain ⟨u, hu⟩ : ∃ u, (full p).map (fun z => o * z) = u := ⟨_, rfl⟩
    have ul : u.length = n + 1 := by rw [← hu, List.length_map, full_len po]
    have ub : ∀ z ∈ u, Bd 300 z := fun z hz => by
      rw [← hu] at hz
      obtain ⟨w, hw, rfl⟩ := List.mem_map.mp hz
      exact (ob.mul (bz w hw)).mono (by decide)
    have us : sameB u (full p) = true := by rw [← hu]; exact same_mul
    rw [hu] at kt
    have tw : 7 ≤ C.length ∨ d_is_cut [.tup (u.map D.int), .int n] = .ok (.val (.bl false)) ∨ ∃ u' : List Int, D.tup (u.map D.int) = .tup (u'.map D.int) ∧ u'.length = n + 1 ∧ (∀ z ∈ u', Bd 300 z) ∧ ∃ q ∈ C, sameB u' (full q) = true := .inr (.inr ⟨u, rfl, ul, ub, p, hp1, us⟩)
    -- the four refusals
    have q1 := v__law_refused (v_check_bad (R := (C.drop a).map ctD) (cs_pre (k := a) co) (by simp; omega) (.inr (.inl dn)))
    have q2 := v__law_refused (v_check_bad (R := []) co (by decide) tw)
    have q3 := v__law_refusedC (a := .int n) (v_with_one_bad (by omega) (v_check_bad (R := []) co (by decide) tw))
    have q4 := v__law_refusedC (a := .int n) (v_with_one_bad (d := d) (by omega) (v_check_bad (R := []) co (by decide) (.inr (.inl dn))))
    have la : (C.take a).length = a := by rw [List.length_take]; omega
    rw [la] at q1
    have s1 : cutL (C.map ctD) none (some (a : Int)) = (C.take a).map ctD := by rw [cutL_to, List.map_take]
    have s2 : cutL (C.map ctD) (some (a : Int)) none = (C.drop a).map ctD := by rw [cutL_from, List.map_drop]
    have l1 : ((C.take a).map ctD).length = a := by rw [List.length_map, la]
    have l2 : ((C.drop a).map ctD).length = C.length - a := by simp
    have lf : ((full p).map D.int).length = n + 1 := by rw [List.length_map, full_len po]
    rw [ctD_full] at hp2
    refine ⟨_, [some (.val (.scr ns)), some (.val (.int n)), some (.val (.lst (C.map ctD))), some (.val (.int i)), some (.val (.int e)), some (.val (.int a)), some (.val d), some (.val (.int o)), some (.val (.int yp)), some (.val (.tup (u.map D.int))), some (.val (kD n C)), x11, x12, x13, x14], rfl, .inl ?_, _, _, _, _, _, _, _, _, _, _, _, _, rfl⟩
    show b_law_1 [_, _, _, some (.val (.int (0 + (i : Int)))), _, _, _, _, _, _, _, _, _, _, _] = _
    rw [Int.zero_add, b_law_1_eq]
    have b1 : a + 1 ≤ 1000000 := by omega
    have b2 : a + 1 + (C.length - a) ≤ 1000000 := by omega
    have b3 : C.length + 1 ≤ 1000000 := by omega
    have b4 : n + 1 ≤ 1000000 := by omega
    have b1' : a ≤ 999999 := by omega
    have b3' : C.length ≤ 999999 := by omega
    have b4' : n ≤ 999999 := by omega
    generalize (C.take a).map ctD = A at *
    generalize (C.drop a).map ctD = B at *
    generalize kD n C = K at *
    generalize u.map D.int = U at *
    generalize (full p).map D.int = V at *
    generalize C.map ctD = T at *
    have ap : A ++ [d] ++ B = A ++ d :: B := by simp
    generalize hcl : ((C.length : Nat) : Int) = w at *
    generalize (n : Int) = z at *
    generalize (a : Int) = az at *
    generalize (i : Int) = iz at *
    have lw : ((T.length : Nat) : Int) = w := by rw [lT, hcl]
    refine (seq_nx (e1 := [some (.val (.scr ns)), some (.val (.int z)), some (.val (.lst T)), some (.val (.int iz)), some (.val (.int e)), x5, x6, x7, x8, x9, x10, x11, x12, x13, x14]) (by simp [cb])).trans ?_
    refine (seq_nx (e1 := [some (.val (.scr ns)), some (.val (.int z)), some (.val (.lst T)), some (.val (.int iz)), some (.val (.int e)), some (.val (.int az)), x6, x7, x8, x9, x10, x11, x12, x13, x14]) (by simp [lw, fa])).trans ?_
    refine (seq_nx (e1 := [some (.val (.scr ns)), some (.val (.int z)), some (.val (.lst T)), some (.val (.int iz)), some (.val (.int e)), some (.val (.int az)), some (.val d), x7, x8, x9, x10, x11, x12, x13, x14]) (by simp [hd])).trans ?_
    refine (seq_nx (e1 := [some (.val (.scr ns)), some (.val (.int z)), some (.val (.lst T)), some (.val (.int iz)), some (.val (.int e)), some (.val (.int az)), some (.val d), x7, x8, x9, x10, x11, x12, x13, x14]) (by simp [-cutL_to, -cutL_from, s1, s2, l1, l2, b1, b1', b2, q1])).trans ?_
    refine (seq_nx (e1 := [some (.val (.scr ns)), some (.val (.int z)), some (.val (.lst T)), some (.val (.int iz)), some (.val (.int e)), some (.val (.int az)), some (.val d), some (.val (.int o)), x8, x9, x10, x11, x12, x13, x14]) (by simp [fo, ho2])).trans ?_
    refine (seq_nx (e1 := [some (.val (.scr ns)), some (.val (.int z)), some (.val (.lst T)), some (.val (.int iz)), some (.val (.int e)), some (.val (.int az)), some (.val d), some (.val (.int o)), some (.val (.int yp)), x9, x10, x11, x12, x13, x14]) (by simp [lw, fp])).trans ?_
    refine (seq_nx (e1 := [some (.val (.scr ns)), some (.val (.int z)), some (.val (.lst T)), some (.val (.int iz)), some (.val (.int e)), some (.val (.int az)), some (.val d), some (.val (.int o)), some (.val (.int yp)), some (.val (.tup U)), x10, x11, x12, x13, x14]) (by simp [hp2, x_comp, lf, b4, b4', kt])).trans ?_
    refine (seq_nx (e1 := [some (.val (.scr ns)), some (.val (.int z)), some (.val (.lst T)), some (.val (.int iz)), some (.val (.int e)), some (.val (.int az)), some (.val d), some (.val (.int o)), some (.val (.int yp)), some (.val (.tup U)), x10, x11, x12, x13, x14]) (by simp [lT, hcl, b3, b3', q2])).trans ?_
    refine (seq_nx (e1 := [some (.val (.scr ns)), some (.val (.int z)), some (.val (.lst T)), some (.val (.int iz)), some (.val (.int e)), some (.val (.int az)), some (.val d), some (.val (.int o)), some (.val (.int yp)), some (.val (.tup U)), some (.val K), x11, x12, x13, x14]) (by simp [km])).trans ?_
    refine (seq_nx (e1 := [some (.val (.scr ns)), some (.val (.int z)), some (.val (.lst T)), some (.val (.int iz)), some (.val (.int e)), some (.val (.int az)), some (.val d), some (.val (.int o)), some (.val (.int yp)), some (.val (.tup U)), some (.val K), x11, x12, x13, x14]) (by simp [lw, q3, q4])).trans ?_
    simp [kk, hk, kc, eq1, eq2])
  -- eight cuts, then none
  have hr : compD (pName 3) cTrue c_law_2 [some (.scr ns), some (.int n), some (.lst (C.map ctD)), none, cleanC x4, cleanC x5, cleanC x6, cleanC x7, cleanC x8, cleanC x9, cleanC x10, cleanC x11, cleanC x12, cleanC x13, cleanC x14] (rngD 0 8) = .ok (((List.range 8).map (r8 n)).map ctD) := by
    have e : rngD 0 8 = (List.range 8).map (fun i : Nat => D.int (0 + (i : Int))) := rfl
    rw [e]
    refine comp_map (r8 n) (List.range 8) fun b hb => ⟨[(3, .int (0 + (b : Int)))], rfl, ?_⟩
    have hb := List.mem_range.mp hb
    obtain ⟨m', rfl⟩ : ∃ m', n = m' + 1 := ⟨n - 1, by omega⟩
    have e1 : ctD (r8 (m' + 1) b) = .tup ((1 :: List.replicate m' 0 ++ [1000 + (b : Int)]).map D.int) := rfl
    rw [e1]
    have t0 : ((m' + 1 : Nat) : Int) - 1 = (m' : Int) := by omega
    have t1 : m' ≤ 1000 := by omega
    have t2 : m' + 1 ≤ 1000000 := by omega
    have t3 : m' + 1 + 1 ≤ 1000000 := by omega
    have t4 : m' ≤ 999999 := by omega
    have t5 : m' ≤ 999998 := by omega
    have t6 : (m' : Int) ≤ 1000 := by omega
    have t7 : 1 + m' ≤ 1000000 := by omega
    have t8 : 1 + m' + 1 ≤ 1000000 := by omega
    generalize C.map ctD = T at *
    simp [c_law_2_eq, t0, t1, t2, t3, t4, t5, t6, t7, t8]
  have R7 : ((List.range 8).map (r8 n)).map ctD = ((List.range 7).map (r8 n)).map ctD ++ [ctD (r8 n 7)] := by simp [List.range_succ]
  have q7 := v__law_refused (v_check_bad (d := ctD (r8 n 7)) (R := [.non]) (cs_r7 n1 n3) (by decide) (.inl (by simp)))
  have R7b : ((List.range 7).map (r8 n)).map ctD ++ ctD (r8 n 7) :: [.non] = ((List.range 8).map (r8 n)).map ctD ++ [.non] := by rw [R7]; simp
  rw [R7b] at q7
  have i7 : ((((List.range 7).map (r8 n)).length : Nat) : Int) = 7 := by simp
  rw [i7] at q7
  have l8 : (((List.range 8).map (r8 n)).map ctD).length = 8 := by simp
  -- no dims
  have wd : ∀ d ∈ ([.int 0, .int 4, .int (-1), .int 1000000000, .bl true, .non, .str "2", .lst [.int 2], .tup [.int 1]] : List D), ∀ e, d_check_cuts [d, e] = .exc "NoCutting" (some (.int (-1))) := by
    intro d hd e
    simp only [List.mem_cons, List.not_mem_nil, or_false] at hd
    rcases hd with rfl | rfl | rfl | rfl | rfl | rfl | rfl | rfl | rfl
    · exact v_check_pre (.inr (.inl ⟨rfl, .inl (by decide)⟩))
    · exact v_check_pre (.inr (.inl ⟨rfl, .inr (by decide)⟩))
    · exact v_check_pre (.inr (.inl ⟨rfl, .inl (by decide)⟩))
    · exact v_check_pre (.inr (.inl ⟨rfl, .inr (by decide)⟩))
    · exact v_check_pre (z := 0) (.inl w_b)
    · exact v_check_pre (z := 0) (.inl w_n)
    · exact v_check_pre (z := 0) (.inl w_s)
    · exact v_check_pre (z := 0) (.inl w_l)
    · exact v_check_pre (z := 0) (.inl w_t)
  -- no list
  have wt : ∀ d ∈ ([.non, .tup [], .tup (C.map ctD), .str "1", .int 5, .dic] : List D), d_check_cuts [.int n, d] = .exc "NoCutting" (some (.int (-1))) := by
    intro d hd
    simp only [List.mem_cons, List.not_mem_nil, or_false] at hd
    refine v_check_pre (.inr (.inr ⟨rfl, by omega, by omega, ?_⟩))
    rcases hd with rfl | rfl | rfl | rfl | rfl | rfl <;> rfl
  generalize ((List.range 8).map (r8 n)).map ctD = R8 at *
  generalize C.map ctD = T at *
  generalize (n : Int) = z at *
  obtain ⟨env2, hfor2, x12', rfl⟩ := for_inv (p := pName 12) (s := b_law_2) (fun _ env => ∃ x12 : Option Cell, env = [some (.val (.scr ns)), some (.val (.int z)), some (.val (.lst T)), x3, x4, x5, x6, x7, x8, x9, x10, some (.val (.lst R8)), x12, x13, x14]) ([.int 0, .int 4, .int (-1), .int 1000000000, .bl true, .non, .str "2", .lst [.int 2], .tup [.int 1]] : List D) [some (.val (.scr ns)), some (.val (.int z)), some (.val (.lst T)), x3, x4, x5, x6, x7, x8, x9, x10, some (.val (.lst R8)), x12, x13, x14] 0 ⟨_, rfl⟩ (by
    rintro i hi env ⟨x12, rfl⟩
    obtain ⟨d, hd⟩ : ∃ d, ([.int 0, .int 4, .int (-1), .int 1000000000, .bl true, .non, .str "2", .lst [.int 2], .tup [.int 1]] : List D)[i] = d := ⟨_, rfl⟩
    have w := wd d (hd ▸ List.getElem_mem hi)
    have w1 := v__law_refused (w (.lst []))
    have w2 := v__law_refused (w (.lst T))
    refine ⟨[(12, d)], [some (.val (.scr ns)), some (.val (.int z)), some (.val (.lst T)), x3, x4, x5, x6, x7, x8, x9, x10, some (.val (.lst R8)), some (.val d), x13, x14], by rw [hd]; rfl, .inl ?_, _, rfl⟩
    show b_law_2 [_, _, _, _, _, _, _, _, _, _, _, _, _, _, _] = _
    simp [b_law_2_eq, w1, w2])
  have ht : compD (pName 13) cTrue c_law_3 [some (.scr ns), some (.int z), some (.lst T), Option.map Cell.toD x3, Option.map Cell.toD x4, Option.map Cell.toD x5, Option.map Cell.toD x6, Option.map Cell.toD x7, Option.map Cell.toD x8, Option.map Cell.toD x9, Option.map Cell.toD x10, some (.lst R8), Option.map Cell.toD x12', none, Option.map Cell.toD x14] (([.non, .tup [], .tup T, .str "1", .int 5, .dic] : List D).map fun d => d) = .ok ((([.non, .tup [], .tup T, .str "1", .int 5, .dic] : List D).map fun _ => ()).map fun _ => D.int (-1)) :=
    comp_map (fun _ => ()) _ fun b hb => ⟨[(13, b)], rfl, by
      have w := v__law_refused (wt b hb)
      simp [c_law_3_eq, w]⟩
  simp only [List.map_cons, List.map_nil] at ht
  rw [d_law_eq]
  refine run_rt rfl ?_
  have es : startE 15 [D.scr ns] = [some (.val (.scr ns)), none, none, none, none, none, none, none, none, none, none, none, none, none, none] := rfl
  rw [es]
  unfold s_law
  have r8' : rng1K (.int 8) = .ok (rngD 0 8) := x_rng1N (n := 8) (by decide)
  have r5' : rng1K (.int 5) = .ok (rngD 0 5) := x_rng1N (n := 5) (by decide)
  have l8L : (rngD 0 8).length = 8 := rng_len
  generalize rngD 0 8 = L8 at *
  generalize rngD 0 5 = L5 at *
  have hm' : d__law_draw [.int c, .int 0, .int 3] = .ok (.val (.int y0)) := f0
  refine (seq_nx (e1 := [some (.val (.scr ns)), some (.val (.int z)), none, none, none, none, none, none, none, none, none, none, none, none, none]) (by simp [ca, f0, hn])).trans ?_
  refine (seq_nx (e1 := [some (.val (.scr ns)), some (.val (.int z)), some (.val (.lst T)), none, none, none, none, none, none, none, none, none, none, none, none]) (by simp [ca, f1, hm, hC])).trans ?_
  refine (seq_nx (e1 := [some (.val (.scr ns)), some (.val (.int z)), some (.val (.lst T)), x3, x4, x5, x6, x7, x8, x9, x10, x11, x12, x13, x14]) (by simp [r5', hfor])).trans ?_
  refine (seq_nx (e1 := [some (.val (.scr ns)), some (.val (.int z)), some (.val (.lst T)), x3, x4, x5, x6, x7, x8, x9, x10, some (.val (.lst R8)), x12, x13, x14]) (by simp [x_comp, r8', hr, l8L])).trans ?_
  refine (seq_nx (e1 := [some (.val (.scr ns)), some (.val (.int z)), some (.val (.lst T)), x3, x4, x5, x6, x7, x8, x9, x10, some (.val (.lst R8)), x12, x13, x14]) (by simp [l8, q7])).trans ?_
  refine (seq_nx (e1 := [some (.val (.scr ns)), some (.val (.int z)), some (.val (.lst T)), x3, x4, x5, x6, x7, x8, x9, x10, some (.val (.lst R8)), x12', x13, x14]) (by simp [hfor2])).trans ?_
  simp [x_comp, ht]
end K05
set_option Elab.async false
set_option linter.all false
set_option maxRecDepth 100000
set_option maxHeartbeats 4000000
namespace K05
open PySem PySem.Spec PyProof.Rows L2 PL
def topS (i : Nat) : Stmt := PySem.Challenge.pw_cutlands_k05_no_cuttings.main.body.getD i (.Pass ⟨0, 0, 0, 0⟩)
def clsS (i j : Nat) : Stmt := match topS i with
  | .ClassDef _ _ _ body _ _ _ _ _ _ _ => body.getD j (.Pass ⟨0, 0, 0, 0⟩)
  | s => s
abbrev st_NoCutting___init__ : Stmt := clsS 3 0
theorem sc_NoCutting___init__ : FnScope ["self", "at"] ["self", "at"] (defScope st_NoCutting___init__) := ⟨rfl, rfl, rfl, by decide +kernel, rfl, by decide +kernel, by decide +kernel⟩
abbrev st_is_whole : Stmt := topS 9
theorem sc_is_whole : FnScope ["thing"] ["thing"] (defScope st_is_whole) := ⟨rfl, rfl, rfl, by decide +kernel, rfl, by decide +kernel, by decide +kernel⟩
abbrev st_is_cut : Stmt := topS 13
theorem sc_is_cut : FnScope ["thing", "dims", "number"] ["thing", "dims"] (defScope st_is_cut) := ⟨rfl, rfl, rfl, by decide +kernel, rfl, by decide +kernel, by decide +kernel⟩
abbrev st_same_spots : Stmt := topS 14
theorem sc_same_spots : FnScope ["one", "other", "k", "j"] ["one", "other"] (defScope st_same_spots) := ⟨rfl, rfl, rfl, by decide +kernel, rfl, by decide +kernel, by decide +kernel⟩
abbrev st_check_cuts : Stmt := topS 15
theorem sc_check_cuts : FnScope ["dims", "thing", "at", "other"] ["dims", "thing"] (defScope st_check_cuts) := ⟨rfl, rfl, rfl, by decide +kernel, rfl, by decide +kernel, by decide +kernel⟩
abbrev st_Cutting___init__ : Stmt := clsS 16 0
theorem sc_Cutting___init__ : FnScope ["self", "dims", "cuts"] ["self", "dims", "cuts"] (defScope st_Cutting___init__) := ⟨rfl, rfl, rfl, by decide +kernel, rfl, by decide +kernel, by decide +kernel⟩
abbrev st_Cutting_cuts : Stmt := clsS 16 2
theorem sc_Cutting_cuts : FnScope ["self"] ["self"] (defScope st_Cutting_cuts) := ⟨rfl, rfl, rfl, by decide +kernel, rfl, by decide +kernel, by decide +kernel⟩
abbrev st_Cutting_with_one : Stmt := clsS 16 8
theorem sc_Cutting_with_one : FnScope ["self", "cut"] ["self", "cut"] (defScope st_Cutting_with_one) := ⟨rfl, rfl, rfl, by decide +kernel, rfl, by decide +kernel, by decide +kernel⟩
abbrev st__law_cell_at : Stmt := topS 18
theorem sc__law_cell_at : FnScope ["_law_script", "_law_k"] ["_law_script", "_law_k"] (defScope st__law_cell_at) := ⟨rfl, rfl, rfl, by decide +kernel, rfl, by decide +kernel, by decide +kernel⟩
abbrev st__law_draw : Stmt := topS 19
theorem sc__law_draw : FnScope ["_law_cell", "_law_k", "_law_bound", "_law_left", "_law_j", "_law_stir"] ["_law_cell", "_law_k", "_law_bound"] (defScope st__law_draw) := ⟨rfl, rfl, rfl, by decide +kernel, rfl, by decide +kernel, by decide +kernel⟩
abbrev st__law_whole : Stmt := topS 20
theorem sc__law_whole : FnScope ["_law_found"] ["_law_found"] (defScope st__law_whole) := ⟨rfl, rfl, rfl, by decide +kernel, rfl, by decide +kernel, by decide +kernel⟩
abbrev st__law_same : Stmt := topS 21
theorem sc__law_same : FnScope ["_law_one", "_law_other", "_law_k", "_law_j"] ["_law_one", "_law_other"] (defScope st__law_same) := ⟨rfl, rfl, rfl, by decide +kernel, rfl, by decide +kernel, by decide +kernel⟩
abbrev st__law_cut : Stmt := topS 22
theorem sc__law_cut : FnScope ["_law_cell", "_law_dims", "_law_ahead", "_law_numbers", "_law_c", "_law_way", "_law_far", "_law_j", "_law_number", "_law_part"] ["_law_cell", "_law_dims", "_law_ahead"] (defScope st__law_cut) := ⟨rfl, rfl, rfl, by decide +kernel, rfl, by decide +kernel, by decide +kernel⟩
abbrev st__law_cuts : Stmt := topS 23
theorem sc__law_cuts : FnScope ["_law_script", "_law_at", "_law_dims", "_law_many", "_law_found", "_law_k", "_law_cut_here", "_law_other"] ["_law_script", "_law_at", "_law_dims", "_law_many"] (defScope st__law_cuts) := ⟨rfl, rfl, rfl, by decide +kernel, rfl, by decide +kernel, by decide +kernel⟩
abbrev st__law_odd : Stmt := topS 24
theorem sc__law_odd : FnScope ["_law_cell", "_law_dims", "_law_good", "_law_some"] ["_law_cell", "_law_dims"] (defScope st__law_odd) := ⟨rfl, rfl, rfl, by decide +kernel, rfl, by decide +kernel, by decide +kernel⟩
abbrev st__law_refused : Stmt := topS 25
theorem sc__law_refused : FnScope ["_law_dims", "_law_thing", "_law_cutting", "_law_found", "e", "_law_odd_here"] ["_law_dims", "_law_thing", "_law_cutting"] (defScope st__law_refused) := ⟨rfl, rfl, rfl, by decide +kernel, rfl, by decide +kernel, by decide +kernel⟩
abbrev st_law : Stmt := topS 26
theorem sc_law : FnScope ["_law_script", "_law_dims", "_law_cuts_here", "_law_k", "_law_cell", "_law_at", "_law_odd_here", "_law_often", "_law_place", "_law_twin", "_law_cutting", "_law_rest", "_law_wide", "_law_thing", "_law_number"] ["_law_script"] (defScope st_law) := ⟨rfl, rfl, rfl, by decide +kernel, rfl, by decide +kernel, by decide +kernel⟩
structure Txt (g : G) : Prop where
  cut : CutC g
  mC : g.mg "Cutting" = some (.ref g.cC)
  z_ValueError : g.mg "ValueError" = none
  z_all : g.mg "all" = none
  z_bool : g.mg "bool" = none
  z_int : g.mg "int" = none
  z_isinstance : g.mg "isinstance" = none
  z_len : g.mg "len" = none
  z_list : g.mg "list" = none
  z_range : g.mg "range" = none
  z_sum : g.mg "sum" = none
  z_tuple : g.mg "tuple" = none
  z_zip : g.mg "zip" = none
  c_MOST_CUTS : ∃ u, g.mg "MOST_CUTS" = some u ∧ RelV (.int 7) u
  c_MOST_DIMS : ∃ u, g.mg "MOST_DIMS" = some u ∧ RelV (.int 3) u
  no : ∀ a H, ¬ g.xp a H
  o_CutError : ∃ C, g.mg "CutError" = some (.ref C)
  o_NoCutting : ∃ C, g.mg "NoCutting" = some (.ref C)
  o_NoLand : ∃ C, g.mg "NoLand" = some (.ref C)
  o_NoNumber : ∃ C, g.mg "NoNumber" = some (.ref C)
  o_NoSigns : ∃ C, g.mg "NoSigns" = some (.ref C)
  o_NoSpot : ∃ C, g.mg "NoSpot" = some (.ref C)
  d_NoCutting : ∀ C, g.mg "NoCutting" = some (.ref C) → ExcD g.K C
  k_NoCutting_CutError : ∀ C D, g.mg "NoCutting" = some (.ref C) → g.mg "CutError" = some (.ref D) → PySem.W.kitOne g.K (.ref C) (.ref D) = some true
  k_NoCutting_NoCutting : ∀ C D, g.mg "NoCutting" = some (.ref C) → g.mg "NoCutting" = some (.ref D) → PySem.W.kitOne g.K (.ref C) (.ref D) = some true
  k_NoCutting_NoLand : ∀ C D, g.mg "NoCutting" = some (.ref C) → g.mg "NoLand" = some (.ref D) → PySem.W.kitOne g.K (.ref C) (.ref D) = some false
  k_NoCutting_NoNumber : ∀ C D, g.mg "NoCutting" = some (.ref C) → g.mg "NoNumber" = some (.ref D) → PySem.W.kitOne g.K (.ref C) (.ref D) = some false
  k_NoCutting_NoSigns : ∀ C D, g.mg "NoCutting" = some (.ref C) → g.mg "NoSigns" = some (.ref D) → PySem.W.kitOne g.K (.ref C) (.ref D) = some false
  k_NoCutting_NoSpot : ∀ C D, g.mg "NoCutting" = some (.ref C) → g.mg "NoSpot" = some (.ref D) → PySem.W.kitOne g.K (.ref C) (.ref D) = some false
  k_NoCutting_ValueError : ∀ C, g.mg "NoCutting" = some (.ref C) → PySem.W.kitOne g.K (.ref C) (.type "ValueError") = some true
  x_NoCutting_CutError : ∀ C D, g.mg "NoCutting" = some (.ref C) → g.mg "CutError" = some (.ref D) → PySem.W.exmOne g.K (.ref C) (.ref D) = some true
theorem Txt.n_CutError {g : G} (T : Txt g) {C : Addr} (h : g.mg "CutError" = some (.ref C)) : g.mg "CutError" = some (.ref C) := h
theorem Txt.n_NoCutting {g : G} (T : Txt g) {C : Addr} (h : g.mg "NoCutting" = some (.ref C)) : g.mg "NoCutting" = some (.ref C) := h
theorem Txt.n_NoLand {g : G} (T : Txt g) {C : Addr} (h : g.mg "NoLand" = some (.ref C)) : g.mg "NoLand" = some (.ref C) := h
theorem Txt.n_NoNumber {g : G} (T : Txt g) {C : Addr} (h : g.mg "NoNumber" = some (.ref C)) : g.mg "NoNumber" = some (.ref C) := h
theorem Txt.n_NoSigns {g : G} (T : Txt g) {C : Addr} (h : g.mg "NoSigns" = some (.ref C)) : g.mg "NoSigns" = some (.ref C) := h
theorem Txt.n_NoSpot {g : G} (T : Txt g) {C : Addr} (h : g.mg "NoSpot" = some (.ref C)) : g.mg "NoSpot" = some (.ref C) := h
theorem Txt.xd {g : G} (T : Txt g) (k : String) (hk : k ∈ (["NoCutting"] : List String)) (C : Addr) (hm : g.mg (Str.ofString k) = some (.ref C)) : ExcD g.K C := by
  simp only [List.mem_cons, List.not_mem_nil, or_false] at hk
  rcases hk with rfl
  · exact T.d_NoCutting C hm
theorem kk_CutError {g : G} (T : Txt g) {k : String} (hk : k ∈ (["NoCutting"] : List String)) {C D : Addr} (hm : g.mg (Str.ofString k) = some (.ref C)) (hD : g.mg "CutError" = some (.ref D)) : PySem.W.kitOne g.K (.ref C) (.ref D) = some (isK k "CutError") := by
  simp only [List.mem_cons, List.not_mem_nil, or_false] at hk
  rcases hk with rfl
  · exact T.k_NoCutting_CutError C D hm hD
theorem kk_NoCutting {g : G} (T : Txt g) {k : String} (hk : k ∈ (["NoCutting"] : List String)) {C D : Addr} (hm : g.mg (Str.ofString k) = some (.ref C)) (hD : g.mg "NoCutting" = some (.ref D)) : PySem.W.kitOne g.K (.ref C) (.ref D) = some (isK k "NoCutting") := by
  simp only [List.mem_cons, List.not_mem_nil, or_false] at hk
  rcases hk with rfl
  · exact T.k_NoCutting_NoCutting C D hm hD
theorem kk_NoLand {g : G} (T : Txt g) {k : String} (hk : k ∈ (["NoCutting"] : List String)) {C D : Addr} (hm : g.mg (Str.ofString k) = some (.ref C)) (hD : g.mg "NoLand" = some (.ref D)) : PySem.W.kitOne g.K (.ref C) (.ref D) = some (isK k "NoLand") := by
  simp only [List.mem_cons, List.not_mem_nil, or_false] at hk
  rcases hk with rfl
  · exact T.k_NoCutting_NoLand C D hm hD
theorem kk_NoNumber {g : G} (T : Txt g) {k : String} (hk : k ∈ (["NoCutting"] : List String)) {C D : Addr} (hm : g.mg (Str.ofString k) = some (.ref C)) (hD : g.mg "NoNumber" = some (.ref D)) : PySem.W.kitOne g.K (.ref C) (.ref D) = some (isK k "NoNumber") := by
  simp only [List.mem_cons, List.not_mem_nil, or_false] at hk
  rcases hk with rfl
  · exact T.k_NoCutting_NoNumber C D hm hD
theorem kk_NoSigns {g : G} (T : Txt g) {k : String} (hk : k ∈ (["NoCutting"] : List String)) {C D : Addr} (hm : g.mg (Str.ofString k) = some (.ref C)) (hD : g.mg "NoSigns" = some (.ref D)) : PySem.W.kitOne g.K (.ref C) (.ref D) = some (isK k "NoSigns") := by
  simp only [List.mem_cons, List.not_mem_nil, or_false] at hk
  rcases hk with rfl
  · exact T.k_NoCutting_NoSigns C D hm hD
theorem kk_NoSpot {g : G} (T : Txt g) {k : String} (hk : k ∈ (["NoCutting"] : List String)) {C D : Addr} (hm : g.mg (Str.ofString k) = some (.ref C)) (hD : g.mg "NoSpot" = some (.ref D)) : PySem.W.kitOne g.K (.ref C) (.ref D) = some (isK k "NoSpot") := by
  simp only [List.mem_cons, List.not_mem_nil, or_false] at hk
  rcases hk with rfl
  · exact T.k_NoCutting_NoSpot C D hm hD
theorem kk_ValueError {g : G} (T : Txt g) {k : String} (hk : k ∈ (["NoCutting"] : List String)) {C : Addr} (hm : g.mg (Str.ofString k) = some (.ref C)) : PySem.W.kitOne g.K (.ref C) (.type "ValueError") = some (isK k "ValueError") := by
  simp only [List.mem_cons, List.not_mem_nil, or_false] at hk
  rcases hk with rfl
  · exact T.k_NoCutting_ValueError C hm
theorem kx_CutError {g : G} (T : Txt g) {k : String} (hk : k ∈ (["NoCutting"] : List String)) {C D : Addr} (hm : g.mg (Str.ofString k) = some (.ref C)) (hD : g.mg "CutError" = some (.ref D)) : PySem.W.exmOne g.K (.ref C) (.ref D) = some true := by
  simp only [List.mem_cons, List.not_mem_nil, or_false] at hk
  rcases hk with rfl
  · exact T.x_NoCutting_CutError C D hm hD
theorem ok_NoCutting {P : Program} {w : World} {base : Heap} {g : G} (T : Txt g) {f : Addr} {fd : FuncData} {C D : Addr} (F : Fun g.K "__init__" "NoCutting.__init__" st_NoCutting___init__ f fd) (hm : g.mg "NoCutting" = some (.ref C)) (o : OexC g.K C) (hno : PySem.W.findIn g.K (.ref C) "at" = some none) (ce : CeF g D) (iC : PySem.W.findIn g.K (.ref C) "__init__" = some (some (.ref f))) (tI : PySem.W.typeIn g.K (.ref f) = some (.type "function")) (hb : Binds g.K fd ["self", "at"] []) : AtC P w base g "NoCutting" C := ⟨hm, o, f, fd, _, iC, tI, hb, at_fn (m := "no cutting") F sc_NoCutting___init__ o hno fun cdv A outer sh H E => pss_cons (ps_expr (pe_ceinit ce rfl rfl (by rfl) (pa_cons (pv 0) (pa_cons pe_str pa_nil)))) (pss_one (ps_ost (pv 0) (pv 1)))⟩
theorem ok_is_whole {P : Program} {w : World} {base : Heap} {g : G} (T : Txt g) {f : Addr} {fd : FuncData} (F : Fun g.K "is_whole" "is_whole" st_is_whole f fd) (hm : g.mg "is_whole" = some (.ref f)) (hb : Binds g.K fd ["thing"] []) : Fn P w base g "is_whole" 1 1 d_is_whole := by
  rw [d_is_whole_eq]; unfold s_is_whole; exact def_ok F sc_is_whole hm hb fun cdv A outer sh H E B Hs0 hr =>
  (ss_one (ss_ret (se_and (se_isi kit_int rfl (by rfl) T.z_isinstance (by rfl) T.z_int (by decide +kernel) (se_var 0 (pv 0))) (se_one (se_not (se_isi kit_bool rfl (by rfl) T.z_isinstance (by rfl) T.z_bool (by decide +kernel) (se_var 0 (pv 0))))))))
theorem ok_is_cut {P : Program} {w : World} {base : Heap} {g : G} (T : Txt g) {f : Addr} {fd : FuncData} (F : Fun g.K "is_cut" "is_cut" st_is_cut f fd) (hm : g.mg "is_cut" = some (.ref f)) (hb : Binds g.K fd ["thing", "dims"] []) (F_is_whole : Fn P w base g "is_whole" 1 1 d_is_whole) : Fn P w base g "is_cut" 2 2 d_is_cut := by
  rw [d_is_cut_eq]; unfold s_is_cut; simp only [c_is_cut_1_eq]; exact def_ok F sc_is_cut hm hb fun cdv A outer sh H E B Hs0 hr =>
  (ss_cons (ss_if (st_of (sw_or (st_not (st_val (se_isi kit_tuple rfl (by rfl) T.z_isinstance (by rfl) T.z_tuple (by decide +kernel) (se_var 0 (pv 0))))) (sw_or1 (st_cmp (op_neD hr.units) od_ne (se_callB' call_len cd_len (by rfl) T.z_len (by decide +kernel) (sa_cons (se_var 0 (pv 0)) sa_nil)) (se_op or_add od_add (se_var 1 (pv 1)) se_int) (nomark _))))) (ss_one (ss_ret se_bl)) ss_nil)
    (ss_one (ss_ret (se_and (se_callB' (cr_all rfl) cd_bls (by rfl) T.z_all (by decide +kernel) (sa_cons (eo_er (eo_lc rfl sc_is_cut.nd (si_seq rfl (se_var 0 (pv 0))) (blkOk_by (own := [("number", 2)]) (by refine (?_ : blkC ["thing", "dims", "number"] (defScope st_is_cut) _ [("number", 2)] = true); decide +kernel)) (patIn_name (by decide)) (fun _ _ _ _ _ => (sg_name (i := 2) sc_is_cut.nd rfl (by first | exact Or.inl rfl | exact Or.inr rfl))) (fun _ _ _ _ _ => sts_nil) (fun _ _ _ _ _ => (se_call F_is_whole rfl rfl (hr.mono (by decide)) passL (by rfl) (sa_cons (se_var 2 (pv 2)) sa_nil))))) sa_nil)) (se_one (se_cmp (op_neD hr.units) od_ne (se_sl rfl (se_var 0 (pv 0)) so_none (so_some (se_var 1 (pv 1)))) (se_op or_mulX od_mulX (se_tup (sa_cons se_int sa_nil)) (se_var 1 (pv 1))) (nomark _)))))))
theorem ok_same_spots {P : Program} {w : World} {base : Heap} {g : G} (T : Txt g) {f : Addr} {fd : FuncData} (F : Fun g.K "same_spots" "same_spots" st_same_spots f fd) (hm : g.mg "same_spots" = some (.ref f)) (hb : Binds g.K fd ["one", "other"] []) : Fn P w base g "same_spots" 2 1 d_same_spots := by
  rw [d_same_spots_eq]; unfold s_same_spots; simp only [b_same_spots_1_eq, b_same_spots_2_eq]; exact def_ok F sc_same_spots hm hb fun cdv A outer sh H E B Hs0 hr =>
  (ss_cons (ss_forR (passes_of rfl) rfl (si_range1 (by rfl) T.z_range (sa_cons (se_callB' call_len cd_len (by rfl) T.z_len (by decide +kernel) (sa_cons (se_var 0 (pv 0)) sa_nil)) sa_nil)) (sg_name (i := 2) sc_same_spots.nd rfl (by first | exact Or.inl rfl | exact Or.inr rfl)) (ss_one (ss_forR (passes_of rfl) rfl (si_range1 (by rfl) T.z_range (sa_cons (se_var 2 (pv 2)) sa_nil)) (sg_name (i := 3) sc_same_spots.nd rfl (by first | exact Or.inl rfl | exact Or.inr rfl)) (ss_one (ss_if (st_cmp (op_neD hr.units) od_ne (se_op or_mulX od_mulX (se_ix rfl (se_var 0 (pv 0)) (se_var 2 (pv 2)) (fun _ _ => rfl)) (se_ix rfl (se_var 1 (pv 1)) (se_var 3 (pv 3)) (fun _ _ => rfl))) (se_op or_mulX od_mulX (se_ix rfl (se_var 0 (pv 0)) (se_var 3 (pv 3)) (fun _ _ => rfl)) (se_ix rfl (se_var 1 (pv 1)) (se_var 2 (pv 2)) (fun _ _ => rfl))) (nomark _)) (ss_one (ss_ret se_bl)) ss_nil)))))
    (ss_one (ss_ret se_bl)))
theorem ok_check_cuts {P : Program} {w : World} {base : Heap} {g : G} (T : Txt g) {f : Addr} {fd : FuncData} (F : Fun g.K "check_cuts" "check_cuts" st_check_cuts f fd) (hm : g.mg "check_cuts" = some (.ref f)) (hb : Binds g.K fd ["dims", "thing"] []) {C_NoCutting : Addr} (A_NoCutting : AtC P w base g "NoCutting" C_NoCutting) (F_is_cut : Fn P w base g "is_cut" 2 2 d_is_cut) (F_is_whole : Fn P w base g "is_whole" 1 1 d_is_whole) (F_same_spots : Fn P w base g "same_spots" 2 1 d_same_spots) : Fn P w base g "check_cuts" 2 4 d_check_cuts := by
  rw [d_check_cuts_eq]; unfold s_check_cuts; simp only [b_check_cuts_1_eq, b_check_cuts_2_eq]; exact def_ok F sc_check_cuts hm hb fun cdv A outer sh H E B Hs0 hr =>
  (ss_cons (ss_if (st_of (sw_or (st_not (st_val (se_call F_is_whole rfl rfl (hr.mono (by decide)) (passes_call (takes_of rfl rfl rfl rfl) (fun _ _ _ _ h => h)) (by rfl) (sa_cons (se_var 0 (pv 0)) sa_nil)))) (sw_or (st_not (st_chain od_le od_le se_int (se_var 0 (pv 0)) (se_gi T.c_MOST_DIMS rfl (by rfl)) (pt_chain op_le op_le))) (sw_or1 (st_not (st_val (se_isi kit_list rfl (by rfl) T.z_isinstance (by rfl) T.z_list (by decide +kernel) (se_var 1 (pv 1))))))))) (ss_one (ss_raiseA A_NoCutting rfl rfl rfl (hr.mono (by decide)) (takes_of rfl rfl rfl rfl) (by rfl) (se_un un_neg ud_neg se_int))) ss_nil)
    (ss_one (ss_forR (passes_of rfl) rfl (si_range1 (by rfl) T.z_range (sa_cons (se_callB' call_len cd_len (by rfl) T.z_len (by decide +kernel) (sa_cons (se_var 1 (pv 1)) sa_nil)) sa_nil)) (sg_name (i := 2) sc_check_cuts.nd rfl (by first | exact Or.inl rfl | exact Or.inr rfl)) (ss_cons (ss_if (st_of (sw_or (st_cmp op_ge od_ge (se_var 2 (pv 2)) (se_gi T.c_MOST_CUTS rfl (by rfl)) (nomark _)) (sw_or1 (st_not (st_val (se_call F_is_cut rfl rfl (hr.mono (by decide)) (passes_call (takes_of rfl rfl rfl rfl) (fun _ _ _ _ h => h)) (by rfl) (sa_cons (se_ix rfl (se_var 1 (pv 1)) (se_var 2 (pv 2)) (fun _ _ => rfl)) (sa_cons (se_var 0 (pv 0)) sa_nil)))))))) (ss_one (ss_raiseA A_NoCutting rfl rfl rfl (hr.mono (by decide)) (takes_of rfl rfl rfl rfl) (by rfl) (se_var 2 (pv 2)))) ss_nil)
    (ss_one (ss_for (passes_of rfl) rfl (si_seq rfl (se_sl rfl (se_var 1 (pv 1)) so_none (so_some (se_var 2 (pv 2))))) (sg_name (i := 3) sc_check_cuts.nd rfl (by first | exact Or.inl rfl | exact Or.inr rfl)) (ss_one (ss_if (st_val (se_call F_same_spots rfl rfl (hr.mono (by decide)) (passes_call (takes_of rfl rfl rfl rfl) (fun _ _ _ _ h => h)) (by rfl) (sa_cons (se_ix rfl (se_var 1 (pv 1)) (se_var 2 (pv 2)) (fun _ _ => rfl)) (sa_cons (se_var 3 (pv 3)) sa_nil)))) (ss_one (ss_raiseA A_NoCutting rfl rfl rfl (hr.mono (by decide)) (takes_of rfl rfl rfl rfl) (by rfl) (se_var 2 (pv 2)))) ss_nil))))))))
theorem ok_Cutting {P : Program} {w : World} {base : Heap} {g : G} (T : Txt g) {f : Addr} {fd : FuncData} (F : Fun g.K "__init__" "Cutting.__init__" st_Cutting___init__ f fd) (M : Mk g.K g.cC f) (hb : Binds g.K fd ["self", "dims", "cuts"] []) (F_check_cuts : Fn P w base g "check_cuts" 2 4 d_check_cuts) : MkF P w base g 5 (initD d_check_cuts) := ⟨T.mC, T.cut, f, fd, _, M, hb, init_fn F sc_Cutting___init__ T.cut fun cdv A outer sh H E hr =>
  (pss_cons (ps_expr (se_call F_check_cuts rfl rfl (hr.mono (by decide)) (passes_call (takes_of rfl rfl rfl rfl) (fun _ _ _ _ h => h)) (by rfl) (sa_cons (se_var 1 (pv 1)) (sa_cons (se_var 2 (pv 2)) sa_nil)))) (pss_cons (ps_fld (pv 0) (pv 1) rfl) (pss_one (ps_fld (pv 0) (se_callTy call_tuple_of cd_tuple (by rfl) T.z_tuple (by decide +kernel) (sa_cons (se_var 2 (pv 2)) sa_nil)) rfl))))⟩
theorem ok_Cutting_cuts {P : Program} {w : World} {base : Heap} {g : G} (T : Txt g) {f : Addr} {fd : FuncData} (F : Fun g.K "cuts" "Cutting.cuts" st_Cutting_cuts f fd) (hm : Meth g.K g.cC "cuts" f) (hb : Binds g.K fd ["self"] []) : FnM P w base g "cuts" 1 1 d_Cutting_cuts := by
  rw [d_Cutting_cuts_eq]; unfold s_Cutting_cuts; exact defM_ok F sc_Cutting_cuts hm (by decide) hb fun cdv A outer sh H E B Hs0 hr =>
  (ss_one (ss_retO (eo_list rfl (by rfl) T.z_list (sa_cons (se_rows T.cut rfl (se_var 0 (pv 0))) sa_nil))))
theorem ok_Cutting_with_one {P : Program} {w : World} {base : Heap} {g : G} (T : Txt g) {f : Addr} {fd : FuncData} (F : Fun g.K "with_one" "Cutting.with_one" st_Cutting_with_one f fd) (hm : Meth g.K g.cC "with_one" f) (hb : Binds g.K fd ["self", "cut"] []) (M_Cutting : MkF P w base g 5 (initD d_check_cuts)) : FnM P w base g "with_one" 2 7 d_Cutting_with_one := by
  rw [d_Cutting_with_one_eq]; unfold s_Cutting_with_one; exact defM_ok F sc_Cutting_with_one hm (by decide) hb fun cdv A outer sh H E B Hs0 hr =>
  (ss_one (ss_ret (se_make M_Cutting rfl rfl (hr.mono (by decide)) (passes_call (takes_of rfl rfl rfl rfl) (fun _ _ _ _ h => h)) (by rfl) (sa_cons (se_wide T.cut rfl (se_var 0 (pv 0))) (sa_cons (se_op or_add od_add (eo_er (eo_list rfl (by rfl) T.z_list (sa_cons (se_rows T.cut rfl (se_var 0 (pv 0))) sa_nil))) (eo_er (eo_lst (sa_cons (se_var 1 (pv 1)) sa_nil)))) sa_nil)))))
theorem ok__law_cell_at {P : Program} {w : World} {base : Heap} {g : G} (T : Txt g) {f : Addr} {fd : FuncData} (F : Fun g.K "_law_cell_at" "_law_cell_at" st__law_cell_at f fd) (hm : g.mg "_law_cell_at" = some (.ref f)) (hb : Binds g.K fd ["_law_script", "_law_k"] []) : Fn P w base g "_law_cell_at" 2 1 d__law_cell_at := by
  rw [d__law_cell_at_eq]; unfold s__law_cell_at; exact def_ok F sc__law_cell_at hm hb fun cdv A outer sh H E B Hs0 hr =>
  (ss_cons (ss_if (st_cmp op_lt od_lt (se_var 1 (pv 1)) (se_callB' call_len cd_len (by rfl) T.z_len (by decide +kernel) (sa_cons (se_var 0 (pv 0)) sa_nil)) (nomark _)) (ss_one (ss_ret (se_ix rfl (se_var 0 (pv 0)) (se_var 1 (pv 1)) (fun _ _ => rfl)))) ss_nil)
    (ss_one (ss_ret se_int)))
theorem ok__law_draw {P : Program} {w : World} {base : Heap} {g : G} (T : Txt g) {f : Addr} {fd : FuncData} (F : Fun g.K "_law_draw" "_law_draw" st__law_draw f fd) (hm : g.mg "_law_draw" = some (.ref f)) (hb : Binds g.K fd ["_law_cell", "_law_k", "_law_bound"] []) : Fn P w base g "_law_draw" 3 1 d__law_draw := by
  rw [d__law_draw_eq]; unfold s__law_draw; simp only [b__law_draw_1_eq]; exact def_ok F sc__law_draw hm hb fun cdv A outer sh H E B Hs0 hr =>
  (ss_cons (ss_if (st_cmp op_ge od_ge (se_var 0 (pv 0)) (se_op op_pow od_pow se_int se_int) (nomark _)) (ss_cons (ss_set (i := 3) sc__law_draw.nd rfl (by first | exact Or.inl rfl | exact Or.inr rfl) (se_var 0 (pv 0)))
    (ss_cons (ss_forR (passes_of rfl) rfl (si_range1 (by rfl) T.z_range (sa_cons (se_var 1 (pv 1)) sa_nil)) (sg_name (i := 4) sc__law_draw.nd rfl (by first | exact Or.inl rfl | exact Or.inr rfl)) (ss_one (ss_set (i := 3) sc__law_draw.nd rfl (by first | exact Or.inl rfl | exact Or.inr rfl) (se_op op_fdivB od_fdiv (se_var 3 (pv 3)) (se_var 2 (pv 2))))))
    (ss_one (ss_ret (se_op op_modN od_mod (se_var 3 (pv 3)) (se_var 2 (pv 2))))))) ss_nil)
    (ss_cons (ss_set (i := 5) sc__law_draw.nd rfl (by first | exact Or.inl rfl | exact Or.inr rfl) (se_op op_modN od_mod (se_op or_mulX od_mulX (se_op or_add od_add (se_op or_add od_add (se_op op_modN od_mod (se_var 0 (pv 0)) se_int) (se_op or_mulX od_mulX se_int (se_var 1 (pv 1)))) se_int) se_int) se_int))
    (ss_cons (ss_set (i := 5) sc__law_draw.nd rfl (by first | exact Or.inl rfl | exact Or.inr rfl) (se_op op_modN od_mod (se_op or_add od_add (se_op or_add od_add (se_op or_mulX od_mulX (se_var 5 (pv 5)) (se_var 5 (pv 5))) (se_op or_mulX od_mulX se_int (se_var 1 (pv 1)))) se_int) se_int))
    (ss_one (ss_ret (se_op op_modN od_mod (se_op op_fdivB od_fdiv (se_op op_modN od_mod (se_op or_mulX od_mulX (se_var 5 (pv 5)) se_int) se_int) se_int) (se_var 2 (pv 2))))))))
theorem ok__law_whole {P : Program} {w : World} {base : Heap} {g : G} (T : Txt g) {f : Addr} {fd : FuncData} (F : Fun g.K "_law_whole" "_law_whole" st__law_whole f fd) (hm : g.mg "_law_whole" = some (.ref f)) (hb : Binds g.K fd ["_law_found"] []) : Fn P w base g "_law_whole" 1 1 d__law_whole := by
  rw [d__law_whole_eq]; unfold s__law_whole; exact def_ok F sc__law_whole hm hb fun cdv A outer sh H E B Hs0 hr =>
  (ss_one (ss_ret (se_and (se_isi kit_int rfl (by rfl) T.z_isinstance (by rfl) T.z_int (by decide +kernel) (se_var 0 (pv 0))) (se_one (se_not (se_isi kit_bool rfl (by rfl) T.z_isinstance (by rfl) T.z_bool (by decide +kernel) (se_var 0 (pv 0))))))))
theorem ok__law_same {P : Program} {w : World} {base : Heap} {g : G} (T : Txt g) {f : Addr} {fd : FuncData} (F : Fun g.K "_law_same" "_law_same" st__law_same f fd) (hm : g.mg "_law_same" = some (.ref f)) (hb : Binds g.K fd ["_law_one", "_law_other"] []) : Fn P w base g "_law_same" 2 1 d__law_same := by
  rw [d__law_same_eq]; unfold s__law_same; simp only [b__law_same_1_eq, b__law_same_2_eq]; exact def_ok F sc__law_same hm hb fun cdv A outer sh H E B Hs0 hr =>
  (ss_cons (ss_forR (passes_of rfl) rfl (si_range1 (by rfl) T.z_range (sa_cons (se_callB' call_len cd_len (by rfl) T.z_len (by decide +kernel) (sa_cons (se_var 0 (pv 0)) sa_nil)) sa_nil)) (sg_name (i := 2) sc__law_same.nd rfl (by first | exact Or.inl rfl | exact Or.inr rfl)) (ss_one (ss_forR (passes_of rfl) rfl (si_range1 (by rfl) T.z_range (sa_cons (se_var 2 (pv 2)) sa_nil)) (sg_name (i := 3) sc__law_same.nd rfl (by first | exact Or.inl rfl | exact Or.inr rfl)) (ss_one (ss_if (st_cmp (op_neD hr.units) od_ne (se_op or_mulX od_mulX (se_ix rfl (se_var 0 (pv 0)) (se_var 2 (pv 2)) (fun _ _ => rfl)) (se_ix rfl (se_var 1 (pv 1)) (se_var 3 (pv 3)) (fun _ _ => rfl))) (se_op or_mulX od_mulX (se_ix rfl (se_var 0 (pv 0)) (se_var 3 (pv 3)) (fun _ _ => rfl)) (se_ix rfl (se_var 1 (pv 1)) (se_var 2 (pv 2)) (fun _ _ => rfl))) (nomark _)) (ss_one (ss_ret se_bl)) ss_nil)))))
    (ss_one (ss_ret se_bl)))
theorem ok__law_cut {P : Program} {w : World} {base : Heap} {g : G} (T : Txt g) {f : Addr} {fd : FuncData} (F : Fun g.K "_law_cut" "_law_cut" st__law_cut f fd) (hm : g.mg "_law_cut" = some (.ref f)) (hb : Binds g.K fd ["_law_cell", "_law_dims", "_law_ahead"] []) (F__law_draw : Fn P w base g "_law_draw" 3 1 d__law_draw) : Fn P w base g "_law_cut" 3 2 d__law_cut := by
  rw [d__law_cut_eq]; unfold s__law_cut; simp only [c__law_cut_1_eq, c__law_cut_2_eq, c__law_cut_3_eq]; exact def_ok F sc__law_cut hm hb fun cdv A outer sh H E B Hs0 hr =>
  (ss_cons (ss_ownLc (i := 3) rfl sc__law_cut.nd rfl rfl (sw_true rfl rfl rfl (by decide +kernel)) (ir_of_r (si_range1 (by rfl) T.z_range (sa_cons (se_var 1 (pv 1)) sa_nil))) (blkOk_by (own := [("_law_j", 7)]) (by refine (?_ : blkC ["_law_cell", "_law_dims", "_law_ahead", "_law_numbers", "_law_c", "_law_way", "_law_far", "_law_j", "_law_number", "_law_part"] (defScope st__law_cut) _ [("_law_j", 7)] = true); decide +kernel)) (patIn_name (by decide)) (fun _ _ _ _ _ => (sg_name (i := 7) sc__law_cut.nd rfl (by first | exact Or.inl rfl | exact Or.inr rfl))) (fun _ _ _ _ _ => sts_nil) (fun _ _ _ _ _ => (se_op op_sub od_sub (se_call F__law_draw rfl rfl (hr.mono (by decide)) passL (by rfl) (sa_cons (se_var 0 (pv 0)) (sa_cons (se_var 7 (pv 7)) (sa_cons se_int sa_nil)))) se_int)))
    (ss_cons (ss_if (st_cmp (op_eqD hr.units) od_eq (se_var 3 (pv 3)) (se_op or_mulX od_mulX (eo_er (eo_lst (sa_cons se_int sa_nil))) (se_var 1 (pv 1))) (nomark _)) (ss_one (ss_ix (tpos := ⟨0, 0, 0, 0⟩) (pv 3) (se_call F__law_draw rfl rfl (hr.mono (by decide)) (passes_call (takes_of rfl rfl rfl rfl) (fun _ _ _ _ h => h)) (by rfl) (sa_cons (se_var 0 (pv 0)) (sa_cons se_int (sa_cons (se_var 1 (pv 1)) sa_nil)))) (se_op or_add od_add se_int (se_call F__law_draw rfl rfl (hr.mono (by decide)) (passes_call (takes_of rfl rfl rfl rfl) (fun _ _ _ _ h => h)) (by rfl) (sa_cons (se_var 0 (pv 0)) (sa_cons se_int (sa_cons se_int sa_nil))))) (fun he ho hi => ps_asg he (pg_sub ho hi set_list)))) ss_nil)
    (ss_cons (ss_set (i := 4) sc__law_cut.nd rfl (by first | exact Or.inl rfl | exact Or.inr rfl) (se_op op_sub od_sub (se_call F__law_draw rfl rfl (hr.mono (by decide)) (passes_call (takes_of rfl rfl rfl rfl) (fun _ _ _ _ h => h)) (by rfl) (sa_cons (se_var 0 (pv 0)) (sa_cons se_int (sa_cons se_int sa_nil)))) se_int))
    (ss_cons (ss_set (i := 5) sc__law_cut.nd rfl (by first | exact Or.inl rfl | exact Or.inr rfl) (se_call F__law_draw rfl rfl (hr.mono (by decide)) (passes_call (takes_of rfl rfl rfl rfl) (fun _ _ _ _ h => h)) (by rfl) (sa_cons (se_var 0 (pv 0)) (sa_cons se_int (sa_cons se_int sa_nil)))))
    (ss_cons (ss_if (st_of (sw_and (st_cmp (op_eqD hr.units) od_eq (se_var 5 (pv 5)) se_int (nomark _)) (sw_and1 (st_cmp (op_neD hr.units) od_ne (se_var 2 (pv 2)) (eo_er (eo_lst sa_nil)) (nomark _))))) (ss_one (ss_own (i := 3) sc__law_cut.nd rfl (by first | exact Or.inl rfl | exact Or.inr rfl) (eo_list rfl (by rfl) T.z_list (sa_cons (se_sl rfl (se_ix rfl (se_var 2 (pv 2)) (se_call F__law_draw rfl rfl (hr.mono (by decide)) (passes_call (takes_of rfl rfl rfl rfl) (fun _ _ _ _ h => h)) (by rfl) (sa_cons (se_var 0 (pv 0)) (sa_cons se_int (sa_cons (se_callB' call_len cd_len (by rfl) T.z_len (by decide +kernel) (sa_cons (se_var 2 (pv 2)) sa_nil)) sa_nil)))) (fun _ _ => rfl)) so_none (so_some (se_var 1 (pv 1)))) sa_nil)))) ss_nil)
    (ss_cons (ss_if (st_of (sw_or (st_cmp (op_eqD hr.units) od_eq (se_var 5 (pv 5)) se_int (nomark _)) (sw_or1 (st_cmp (op_eqD hr.units) od_eq (se_var 5 (pv 5)) se_int (nomark _))))) (ss_one (ss_setB (i := 4) sc__law_cut.nd rfl (by first | exact Or.inl rfl | exact Or.inr rfl) (se_callB' (cr_sum rfl) cd_sum (by rfl) T.z_sum (by decide +kernel) (sa_cons (eo_er (eo_lc rfl sc__law_cut.nd (si_zip2 rfl (by rfl) T.z_zip (sa_cons (se_var 3 (pv 3)) (sa_cons (eo_er (eo_lst (sa_cons se_int (sa_cons se_int (sa_cons (se_un un_neg ud_neg se_int) sa_nil))))) sa_nil))) (blkOk_by (own := [("_law_number", 8), ("_law_part", 9)]) (by refine (?_ : blkC ["_law_cell", "_law_dims", "_law_ahead", "_law_numbers", "_law_c", "_law_way", "_law_far", "_law_j", "_law_number", "_law_part"] (defScope st__law_cut) _ [("_law_number", 8), ("_law_part", 9)] = true); decide +kernel)) (patIn_tup (patIn_cons (patIn_name (by decide)) (patIn_cons (patIn_name (by decide)) patIn_nil))) (fun _ _ _ _ _ => (sg_tup rfl rfl (sgs_cons (sg_name (i := 8) sc__law_cut.nd rfl (by first | exact Or.inl rfl | exact Or.inr rfl)) (sgs_cons (sg_name (i := 9) sc__law_cut.nd rfl (by first | exact Or.inl rfl | exact Or.inr rfl)) sgs_nil)))) (fun _ _ _ _ _ => sts_nil) (fun _ _ _ _ _ => (se_op or_mulX od_mulX (se_var 8 (pv 8)) (se_var 9 (pv 9)))))) sa_nil)))) ss_nil)
    (ss_cons (ss_if (st_cmp (op_eqD hr.units) od_eq (se_var 5 (pv 5)) se_int (nomark _)) (ss_cons (ss_set (i := 6) sc__law_cut.nd rfl (by first | exact Or.inl rfl | exact Or.inr rfl) (se_op or_mulX od_mulX (se_op or_add od_add se_int (se_call F__law_draw rfl rfl (hr.mono (by decide)) (passes_call (takes_of rfl rfl rfl rfl) (fun _ _ _ _ h => h)) (by rfl) (sa_cons (se_var 0 (pv 0)) (sa_cons se_int (sa_cons (se_op op_pow od_pow se_int se_int) sa_nil))))) (se_ix rfl (eo_er (eo_lst (sa_cons se_int (sa_cons se_int (sa_cons (se_op op_pow od_pow se_int se_int) sa_nil))))) (se_call F__law_draw rfl rfl (hr.mono (by decide)) (passes_call (takes_of rfl rfl rfl rfl) (fun _ _ _ _ h => h)) (by rfl) (sa_cons (se_var 0 (pv 0)) (sa_cons se_int (sa_cons se_int sa_nil)))) (fun _ _ => rfl))))
    (ss_cons (ss_ownLcB (i := 3) rfl sc__law_cut.nd rfl rfl (sw_true rfl rfl rfl (by decide +kernel)) (si_seq rfl (se_var 3 (pv 3))) (blkOk_by (own := [("_law_number", 8)]) (by refine (?_ : blkC ["_law_cell", "_law_dims", "_law_ahead", "_law_numbers", "_law_c", "_law_way", "_law_far", "_law_j", "_law_number", "_law_part"] (defScope st__law_cut) _ [("_law_number", 8)] = true); decide +kernel)) (patIn_name (by decide)) (fun _ _ _ _ _ => (sg_name (i := 8) sc__law_cut.nd rfl (by first | exact Or.inl rfl | exact Or.inr rfl))) (fun _ _ _ _ _ => sts_nil) (fun _ _ _ _ _ => (se_op or_mulX od_mulX (se_var 8 (pv 8)) (se_var 6 (pv 6)))))
    (ss_one (ss_set (i := 4) sc__law_cut.nd rfl (by first | exact Or.inl rfl | exact Or.inr rfl) (se_op or_add od_add (se_op or_mulX od_mulX (se_var 4 (pv 4)) (se_var 6 (pv 6))) (se_call F__law_draw rfl rfl (hr.mono (by decide)) (passes_call (takes_of rfl rfl rfl rfl) (fun _ _ _ _ h => h)) (by rfl) (sa_cons (se_var 0 (pv 0)) (sa_cons se_int (sa_cons se_int sa_nil))))))))) ss_nil)
    (ss_one (ss_ret (se_callTy call_tuple_of cd_tuple (by rfl) T.z_tuple (by decide +kernel) (sa_cons (se_op or_add od_add (se_var 3 (pv 3)) (eo_er (eo_lst (sa_cons (se_var 4 (pv 4)) sa_nil)))) sa_nil)))))))))))
theorem ok__law_cuts {P : Program} {w : World} {base : Heap} {g : G} (T : Txt g) {f : Addr} {fd : FuncData} (F : Fun g.K "_law_cuts" "_law_cuts" st__law_cuts f fd) (hm : g.mg "_law_cuts" = some (.ref f)) (hb : Binds g.K fd ["_law_script", "_law_at", "_law_dims", "_law_many"] []) (F__law_cell_at : Fn P w base g "_law_cell_at" 2 1 d__law_cell_at) (F__law_cut : Fn P w base g "_law_cut" 3 2 d__law_cut) (F__law_same : Fn P w base g "_law_same" 2 1 d__law_same) : Fn P w base g "_law_cuts" 4 3 d__law_cuts := by
  rw [d__law_cuts_eq]; unfold s__law_cuts; simp only [c__law_cuts_1_eq, i__law_cuts_1_eq, b__law_cuts_1_eq]; exact def_ok F sc__law_cuts hm hb fun cdv A outer sh H E B Hs0 hr =>
  (ss_cons (ss_own (i := 4) sc__law_cuts.nd rfl (by first | exact Or.inl rfl | exact Or.inr rfl) (eo_lst sa_nil))
    (ss_cons (ss_forR (passes_of rfl) rfl (si_range1 (by rfl) T.z_range (sa_cons (se_var 3 (pv 3)) sa_nil)) (sg_name (i := 5) sc__law_cuts.nd rfl (by first | exact Or.inl rfl | exact Or.inr rfl)) (ss_cons (ss_setB (i := 6) sc__law_cuts.nd rfl (by first | exact Or.inl rfl | exact Or.inr rfl) (se_call F__law_cut rfl rfl (hr.mono (by decide)) (passes_call (takes_of rfl rfl rfl rfl) (fun _ _ _ _ h => h)) (by rfl) (sa_cons (se_call F__law_cell_at rfl rfl (hr.mono (by decide)) (passes_call (takes_of rfl rfl rfl rfl) (fun _ _ _ _ h => h)) (by rfl) (sa_cons (se_var 0 (pv 0)) (sa_cons (se_op or_add od_add (se_var 1 (pv 1)) (se_var 5 (pv 5))) sa_nil))) (sa_cons (se_var 2 (pv 2)) (sa_cons (se_var 4 (pv 4)) sa_nil)))))
    (ss_one (ss_if (st_cmp (op_eqD hr.units) od_eq (eo_er (eo_lc rfl sc__law_cuts.nd (si_seq rfl (se_var 4 (pv 4))) (blkOk_by (own := [("_law_other", 7)]) (by refine (?_ : blkC ["_law_script", "_law_at", "_law_dims", "_law_many", "_law_found", "_law_k", "_law_cut_here", "_law_other"] (defScope st__law_cuts) _ [("_law_other", 7)] = true); decide +kernel)) (patIn_name (by decide)) (fun _ _ _ _ _ => (sg_name (i := 7) sc__law_cuts.nd rfl (by first | exact Or.inl rfl | exact Or.inr rfl))) (fun _ _ _ _ _ => (sts_one (st_val (se_call F__law_same rfl rfl (hr.mono (by decide)) passL (by rfl) (sa_cons (se_var 6 (pv 6)) (sa_cons (se_var 7 (pv 7)) sa_nil)))))) (fun _ _ _ _ _ => (se_var 7 (pv 7))))) (eo_er (eo_lst sa_nil)) (nomark _)) (ss_one (ss_app (pv 4) (se_var 6 (pv 6)) (fun ho ha => pe_bm PySem.F.plainAttrs_list PySem.F.slot_list_append PySem.F.type_list_append mt_append ho ha))) ss_nil))))
    (ss_one (ss_retV (pv 4)))))
theorem ok__law_odd {P : Program} {w : World} {base : Heap} {g : G} (T : Txt g) {f : Addr} {fd : FuncData} (F : Fun g.K "_law_odd" "_law_odd" st__law_odd f fd) (hm : g.mg "_law_odd" = some (.ref f)) (hb : Binds g.K fd ["_law_cell", "_law_dims"] []) (F__law_draw : Fn P w base g "_law_draw" 3 1 d__law_draw) : Fn P w base g "_law_odd" 2 2 d__law_odd := by
  rw [d__law_odd_eq]; unfold s__law_odd; exact def_ok F sc__law_odd hm hb fun cdv A outer sh H E B Hs0 hr =>
  (ss_cons (ss_set (i := 2) sc__law_odd.nd rfl (by first | exact Or.inl rfl | exact Or.inr rfl) (se_op or_mulX od_mulX (se_tup (sa_cons se_int sa_nil)) (se_op or_add od_add (se_var 1 (pv 1)) se_int)))
    (ss_cons (ss_set (i := 3) sc__law_odd.nd rfl (by first | exact Or.inl rfl | exact Or.inr rfl) (eo_er (eo_lst (sa_cons (se_op or_add od_add (se_op or_mulX od_mulX (se_tup (sa_cons se_int sa_nil)) (se_var 1 (pv 1))) (se_tup (sa_cons se_int sa_nil))) (sa_cons (se_sl rfl (se_var 2 (pv 2)) (so_some se_int) so_none) (sa_cons (se_op or_add od_add (se_var 2 (pv 2)) (se_tup (sa_cons se_int sa_nil))) (sa_cons (eo_er (eo_list rfl (by rfl) T.z_list (sa_cons (se_var 2 (pv 2)) sa_nil))) (sa_cons se_non (sa_cons se_int (sa_cons se_str (sa_cons (se_tup sa_nil) (sa_cons (se_op or_add od_add (se_sl rfl (se_var 2 (pv 2)) so_none (so_some (se_un un_neg ud_neg se_int))) (se_tup (sa_cons se_bl sa_nil))) sa_nil))))))))))))
    (ss_cons (ss_set (i := 3) sc__law_odd.nd rfl (by first | exact Or.inl rfl | exact Or.inr rfl) (se_op or_add od_add (se_var 3 (pv 3)) (eo_er (eo_lst (sa_cons (se_op or_add od_add (se_tup (sa_cons se_bl sa_nil)) (se_sl rfl (se_var 2 (pv 2)) (so_some se_int) so_none)) (sa_cons (se_op or_add od_add (se_sl rfl (se_var 2 (pv 2)) so_none (so_some (se_un un_neg ud_neg se_int))) (se_tup (sa_cons se_non sa_nil))) (sa_cons (se_op or_add od_add (se_sl rfl (se_var 2 (pv 2)) so_none (so_some (se_un un_neg ud_neg se_int))) (se_tup (sa_cons se_str sa_nil))) (sa_cons (se_op or_add od_add (se_tup (sa_cons se_non sa_nil)) (se_sl rfl (se_var 2 (pv 2)) (so_some se_int) so_none)) (sa_cons se_dic sa_nil)))))))))
    (ss_one (ss_ret (se_ix rfl (se_var 3 (pv 3)) (se_call F__law_draw rfl rfl (hr.mono (by decide)) (passes_call (takes_of rfl rfl rfl rfl) (fun _ _ _ _ h => h)) (by rfl) (sa_cons (se_var 0 (pv 0)) (sa_cons se_int (sa_cons se_int sa_nil)))) (fun _ _ => rfl)))))))
theorem ok__law_refused {P : Program} {w : World} {base : Heap} {g : G} (T : Txt g) {f : Addr} {fd : FuncData} (F : Fun g.K "_law_refused" "_law_refused" st__law_refused f fd) (hm : g.mg "_law_refused" = some (.ref f)) (hb : Binds g.K fd ["_law_dims", "_law_thing", "_law_cutting"] []) (Q__law_whole : FnQ P w base g "_law_whole" 1 1 d__law_whole) (M_Cutting : MkF P w base g 5 (initD d_check_cuts)) (F_Cutting_with_one : FnM P w base g "with_one" 2 7 d_Cutting_with_one) : Fn P w base g "_law_refused" 3 8 d__law_refused := by
  rw [d__law_refused_eq]; unfold s__law_refused; exact def_ok F sc__law_refused hm hb fun cdv A outer sh H E B Hs0 hr =>
  (ss_cons (ss_set (i := 3) sc__law_refused.nd rfl (by first | exact Or.inl rfl | exact Or.inr rfl) se_non)
    (ss_cons (by
    obtain ⟨cE, hmE⟩ := T.o_CutError
    obtain ⟨cT_NoCutting, hmT_NoCutting⟩ := T.o_NoCutting; obtain ⟨cT_NoLand, hmT_NoLand⟩ := T.o_NoLand; obtain ⟨cT_NoNumber, hmT_NoNumber⟩ := T.o_NoNumber; obtain ⟨cT_NoSigns, hmT_NoSigns⟩ := T.o_NoSigns; obtain ⟨cT_NoSpot, hmT_NoSpot⟩ := T.o_NoSpot; 
    exact ss_try (i := 4) ["NoCutting"] T.no rfl rfl rfl sc__law_refused.nd rfl rfl ⟨by rfl, by decide, .inl hmE⟩ (takes_of rfl rfl rfl rfl) (fun k hk C hm => kx_CutError T hk hm hmE) (fun W pn xe tk => (bw_one (bw_if (st_cmp or_is od_is (se_var 2 (pv 2)) se_non (nomark _)) (bw_one (bw_expr (bw_make M_Cutting rfl rfl (hr.mono (by decide)) tk (by rfl) (sa_cons (se_var 0 (pv 0)) (sa_cons (se_var 1 (pv 1)) sa_nil))))) (bw_one (bw_expr (bw_meth F_Cutting_with_one T.cut rfl rfl (hr.mono (by decide)) tk (se_var 2 (pv 2)) (sa_cons (se_var 1 (pv 1)) sa_nil))))))) (fun k hk a oe C d y pn hm hz hv => have xd := T.xd k hk C hm; (us_cons (us_set (i := 5) sc__law_refused.nd rfl (by first | exact Or.inl rfl | exact Or.inr rfl) (se_isxT xd hz hv (by rfl) T.z_isinstance (nm_cons (pe_glob (v := .ref _) (by rfl) (T.n_NoLand hmT_NoLand) rfl) (.own _) (kk_NoLand T hk hm hmT_NoLand) (nm_cons (pe_glob (v := .ref _) (by rfl) (T.n_NoNumber hmT_NoNumber) rfl) (.own _) (kk_NoNumber T hk hm hmT_NoNumber) (nm_cons (pe_glob (v := .ref _) (by rfl) (T.n_NoSigns hmT_NoSigns) rfl) (.own _) (kk_NoSigns T hk hm hmT_NoSigns) (nm_cons (pe_glob (v := .ref _) (by rfl) (T.n_NoSpot hmT_NoSpot) rfl) (.own _) (kk_NoSpot T hk hm hmT_NoSpot) nm_nil)))) (by decide) (se_var 4 (pv 4)))) (us_one (us_if (st_of (sw_and (st_val (se_isx xd hz hv (by rfl) T.z_isinstance (pe_glob (v := .ref _) (by rfl) (T.n_NoCutting hmT_NoCutting) rfl) (.own _) (kk_NoCutting T hk hm hmT_NoCutting) (se_var 4 (pv 4)))) (sw_and (st_val (se_isx xd hz hv (by rfl) T.z_isinstance (pe_bltn (v := .ty "ValueError") (by rfl) T.z_ValueError (by decide +kernel) rfl) (.ty "ValueError") (kk_ValueError T hk hm) (se_var 4 (pv 4)))) (sw_and (st_not (st_val (se_var 5 (pv 5)))) (sw_and1 (st_val (se_callQ T.no Q__law_whole rfl rfl (L2H.roomH_of (hr.mono (by decide))) (by rfl) (sa_cons (se_xat xd hz hv (se_var 4 (pv 4))) sa_nil)))))))) (us_one (us_set (i := 3) sc__law_refused.nd rfl (by first | exact Or.inl rfl | exact Or.inr rfl) (se_xat xd hz hv (se_var 4 (pv 4))))) us_nil)))))
    (ss_one (ss_ret (se_var 3 (pv 3))))))
theorem okF_law {P : Program} {w : World} {base : Heap} {g : G} (T : Txt g) {f : Addr} {fd : FuncData} (F : Fun g.K "law" "law" st_law f fd) (M_Cutting : MkF P w base g 5 (initD d_check_cuts)) (F_Cutting_cuts : FnM P w base g "cuts" 1 1 d_Cutting_cuts) (F__law_cell_at : Fn P w base g "_law_cell_at" 2 1 d__law_cell_at) (F__law_cuts : Fn P w base g "_law_cuts" 4 3 d__law_cuts) (F__law_draw : Fn P w base g "_law_draw" 3 1 d__law_draw) (F__law_odd : Fn P w base g "_law_odd" 2 2 d__law_odd) (F__law_refused : Fn P w base g "_law_refused" 3 8 d__law_refused) : FnOk P w g.K g.mg base (L2.CX P w) 9 f fd ["_law_script"] (spD g 1 d_law) := by
  rw [d_law_eq]; unfold s_law; simp only [c_law_1_eq, b_law_1_eq, c_law_2_eq, b_law_2_eq, c_law_3_eq]; exact def_fn F sc_law fun cdv A outer sh H E B Hs0 hr =>
  (ss_cons (ss_set (i := 1) sc_law.nd rfl (by first | exact Or.inl rfl | exact Or.inr rfl) (se_op or_add od_add se_int (se_call F__law_draw rfl rfl (hr.mono (by decide)) (passes_call (takes_of rfl rfl rfl rfl) (fun _ _ _ _ h => h)) (by rfl) (sa_cons (se_call F__law_cell_at rfl rfl (hr.mono (by decide)) (passes_call (takes_of rfl rfl rfl rfl) (fun _ _ _ _ h => h)) (by rfl) (sa_cons (se_var 0 (pv 0)) (sa_cons se_int sa_nil))) (sa_cons se_int (sa_cons se_int sa_nil))))))
    (ss_cons (ss_set (i := 2) sc_law.nd rfl (by first | exact Or.inl rfl | exact Or.inr rfl) (se_call F__law_cuts rfl rfl (hr.mono (by decide)) (passes_call (takes_of rfl rfl rfl rfl) (fun _ _ _ _ h => h)) (by rfl) (sa_cons (se_var 0 (pv 0)) (sa_cons se_int (sa_cons (se_var 1 (pv 1)) (sa_cons (se_op or_add od_add se_int (se_call F__law_draw rfl rfl (hr.mono (by decide)) (passes_call (takes_of rfl rfl rfl rfl) (fun _ _ _ _ h => h)) (by rfl) (sa_cons (se_call F__law_cell_at rfl rfl (hr.mono (by decide)) (passes_call (takes_of rfl rfl rfl rfl) (fun _ _ _ _ h => h)) (by rfl) (sa_cons (se_var 0 (pv 0)) (sa_cons se_int sa_nil))) (sa_cons se_int (sa_cons se_int sa_nil))))) sa_nil))))))
    (ss_cons (ss_forR (passes_of rfl) rfl (si_range1 (by rfl) T.z_range (sa_cons se_int sa_nil)) (sg_name (i := 3) sc_law.nd rfl (by first | exact Or.inl rfl | exact Or.inr rfl)) (ss_cons (ss_set (i := 4) sc_law.nd rfl (by first | exact Or.inl rfl | exact Or.inr rfl) (se_call F__law_cell_at rfl rfl (hr.mono (by decide)) (passes_call (takes_of rfl rfl rfl rfl) (fun _ _ _ _ h => h)) (by rfl) (sa_cons (se_var 0 (pv 0)) (sa_cons (se_op or_add od_add se_int (se_var 3 (pv 3))) sa_nil))))
    (ss_cons (ss_set (i := 5) sc_law.nd rfl (by first | exact Or.inl rfl | exact Or.inr rfl) (se_call F__law_draw rfl rfl (hr.mono (by decide)) (passes_call (takes_of rfl rfl rfl rfl) (fun _ _ _ _ h => h)) (by rfl) (sa_cons (se_var 4 (pv 4)) (sa_cons se_int (sa_cons (se_op or_add od_add (se_callB' call_len cd_len (by rfl) T.z_len (by decide +kernel) (sa_cons (se_var 2 (pv 2)) sa_nil)) se_int) sa_nil)))))
    (ss_cons (ss_set (i := 6) sc_law.nd rfl (by first | exact Or.inl rfl | exact Or.inr rfl) (se_call F__law_odd rfl rfl (hr.mono (by decide)) (passes_call (takes_of rfl rfl rfl rfl) (fun _ _ _ _ h => h)) (by rfl) (sa_cons (se_var 4 (pv 4)) (sa_cons (se_var 1 (pv 1)) sa_nil))))
    (ss_cons (ss_if (st_cmp (op_neD hr.units) od_ne (se_call F__law_refused rfl rfl (hr.mono (by decide)) (passes_call (takes_of rfl rfl rfl rfl) (fun _ _ _ _ h => h)) (by rfl) (sa_cons (se_var 1 (pv 1)) (sa_cons (se_op or_add od_add (se_op or_add od_add (se_sl rfl (se_var 2 (pv 2)) so_none (so_some (se_var 5 (pv 5)))) (eo_er (eo_lst (sa_cons (se_var 6 (pv 6)) sa_nil)))) (se_sl rfl (se_var 2 (pv 2)) (so_some (se_var 5 (pv 5))) so_none)) (sa_cons se_non sa_nil)))) (se_var 5 (pv 5)) (nomark _)) (ss_one (ss_ret se_bl)) ss_nil)
    (ss_cons (ss_set (i := 7) sc_law.nd rfl (by first | exact Or.inl rfl | exact Or.inr rfl) (se_ix rfl (eo_er (eo_lst (sa_cons (se_un un_neg ud_neg se_int) (sa_cons se_int (sa_cons se_int (sa_cons (se_un un_neg ud_neg se_int) (sa_cons (se_op op_pow od_pow se_int se_int) sa_nil))))))) (se_call F__law_draw rfl rfl (hr.mono (by decide)) (passes_call (takes_of rfl rfl rfl rfl) (fun _ _ _ _ h => h)) (by rfl) (sa_cons (se_var 4 (pv 4)) (sa_cons se_int (sa_cons se_int sa_nil)))) (fun _ _ => rfl)))
    (ss_cons (ss_set (i := 8) sc_law.nd rfl (by first | exact Or.inl rfl | exact Or.inr rfl) (se_call F__law_draw rfl rfl (hr.mono (by decide)) (passes_call (takes_of rfl rfl rfl rfl) (fun _ _ _ _ h => h)) (by rfl) (sa_cons (se_var 4 (pv 4)) (sa_cons se_int (sa_cons (se_callB' call_len cd_len (by rfl) T.z_len (by decide +kernel) (sa_cons (se_var 2 (pv 2)) sa_nil)) sa_nil)))))
    (ss_cons (ss_set (i := 9) sc_law.nd rfl (by first | exact Or.inl rfl | exact Or.inr rfl) (se_callTy call_tuple_of cd_tuple (by rfl) T.z_tuple (by decide +kernel) (sa_cons (eo_er (eo_lc rfl sc_law.nd (si_seq rfl (se_ix rfl (se_var 2 (pv 2)) (se_var 8 (pv 8)) (fun _ _ => rfl))) (blkOk_by (own := [("_law_number", 14)]) (by refine (?_ : blkC ["_law_script", "_law_dims", "_law_cuts_here", "_law_k", "_law_cell", "_law_at", "_law_odd_here", "_law_often", "_law_place", "_law_twin", "_law_cutting", "_law_rest", "_law_wide", "_law_thing", "_law_number"] (defScope st_law) _ [("_law_number", 14)] = true); decide +kernel)) (patIn_name (by decide)) (fun _ _ _ _ _ => (sg_name (i := 14) sc_law.nd rfl (by first | exact Or.inl rfl | exact Or.inr rfl))) (fun _ _ _ _ _ => sts_nil) (fun _ _ _ _ _ => (se_op or_mulX od_mulX (se_var 7 (pv 7)) (se_var 14 (pv 14)))))) sa_nil)))
    (ss_cons (ss_if (st_cmp (op_neD hr.units) od_ne (se_call F__law_refused rfl rfl (hr.mono (by decide)) (passes_call (takes_of rfl rfl rfl rfl) (fun _ _ _ _ h => h)) (by rfl) (sa_cons (se_var 1 (pv 1)) (sa_cons (se_op or_add od_add (se_var 2 (pv 2)) (eo_er (eo_lst (sa_cons (se_var 9 (pv 9)) sa_nil)))) (sa_cons se_non sa_nil)))) (se_callB' call_len cd_len (by rfl) T.z_len (by decide +kernel) (sa_cons (se_var 2 (pv 2)) sa_nil)) (nomark _)) (ss_one (ss_ret se_bl)) ss_nil)
    (ss_cons (ss_set (i := 10) sc_law.nd rfl (by first | exact Or.inl rfl | exact Or.inr rfl) (se_make M_Cutting rfl rfl (hr.mono (by decide)) (passes_call (takes_of rfl rfl rfl rfl) (fun _ _ _ _ h => h)) (by rfl) (sa_cons (se_var 1 (pv 1)) (sa_cons (se_var 2 (pv 2)) sa_nil))))
    (ss_cons (ss_if (st_of (sw_or (st_cmp (op_neD hr.units) od_ne (se_call F__law_refused rfl rfl (hr.mono (by decide)) (passes_call (takes_of rfl rfl rfl rfl) (fun _ _ _ _ h => h)) (by rfl) (sa_cons (se_var 1 (pv 1)) (sa_cons (se_var 9 (pv 9)) (sa_cons (se_var 10 (pv 10)) sa_nil)))) (se_callB' call_len cd_len (by rfl) T.z_len (by decide +kernel) (sa_cons (se_var 2 (pv 2)) sa_nil)) (nomark _)) (sw_or1 (st_cmp (op_neD hr.units) od_ne (se_call F__law_refused rfl rfl (hr.mono (by decide)) (passes_call (takes_of rfl rfl rfl rfl) (fun _ _ _ _ h => h)) (by rfl) (sa_cons (se_var 1 (pv 1)) (sa_cons (se_var 6 (pv 6)) (sa_cons (se_var 10 (pv 10)) sa_nil)))) (se_callB' call_len cd_len (by rfl) T.z_len (by decide +kernel) (sa_cons (se_var 2 (pv 2)) sa_nil)) (nomark _))))) (ss_one (ss_ret se_bl)) ss_nil)
    (ss_one (ss_if (st_cmp (op_neD hr.units) od_ne (eo_er (eo_meth0 F_Cutting_cuts T.cut rfl rfl (hr.mono (by decide)) (passes_call (takes_of rfl rfl rfl rfl) (fun _ _ _ _ h => h)) (se_var 10 (pv 10)))) (se_var 2 (pv 2)) (nomark _)) (ss_one (ss_ret se_bl)) ss_nil)))))))))))))
    (ss_cons (ss_setL (ss_ownLc (i := 11) rfl sc_law.nd rfl rfl (sw_true rfl rfl rfl (by decide +kernel)) (ir_of_r (si_range1 (by rfl) T.z_range (sa_cons se_int sa_nil))) (blkOk_by (own := [("_law_k", 3)]) (by refine (?_ : blkC ["_law_script", "_law_dims", "_law_cuts_here", "_law_k", "_law_cell", "_law_at", "_law_odd_here", "_law_often", "_law_place", "_law_twin", "_law_cutting", "_law_rest", "_law_wide", "_law_thing", "_law_number"] (defScope st_law) _ [("_law_k", 3)] = true); decide +kernel)) (patIn_name (by decide)) (fun _ _ _ _ _ => (sg_name (i := 3) sc_law.nd rfl (by first | exact Or.inl rfl | exact Or.inr rfl))) (fun _ _ _ _ _ => sts_nil) (fun _ _ _ _ _ => (se_callTy call_tuple_of cd_tuple (by rfl) T.z_tuple (by decide +kernel) (sa_cons (se_op or_add od_add (se_op or_add od_add (eo_er (eo_lst (sa_cons se_int sa_nil))) (se_op or_mulX od_mulX (eo_er (eo_lst (sa_cons se_int sa_nil))) (se_op op_sub od_sub (se_var 1 (pv 1)) se_int))) (eo_er (eo_lst (sa_cons (se_op or_add od_add se_int (se_var 3 (pv 3))) sa_nil)))) sa_nil)))))
    (ss_cons (ss_if (st_cmp (op_neD hr.units) od_ne (se_call F__law_refused rfl rfl (hr.mono (by decide)) (passes_call (takes_of rfl rfl rfl rfl) (fun _ _ _ _ h => h)) (by rfl) (sa_cons (se_var 1 (pv 1)) (sa_cons (se_op or_add od_add (se_var 11 (pv 11)) (eo_er (eo_lst (sa_cons se_non sa_nil)))) (sa_cons se_non sa_nil)))) se_int (nomark _)) (ss_one (ss_ret se_bl)) ss_nil)
    (ss_cons (ss_for (passes_of rfl) rfl (si_seq rfl (eo_er (eo_lst (sa_cons se_int (sa_cons se_int (sa_cons (se_un un_neg ud_neg se_int) (sa_cons (se_op op_pow od_pow se_int se_int) (sa_cons se_bl (sa_cons se_non (sa_cons se_str (sa_cons (eo_er (eo_lst (sa_cons se_int sa_nil))) (sa_cons (se_tup (sa_cons se_int sa_nil)) sa_nil)))))))))))) (sg_name (i := 12) sc_law.nd rfl (by first | exact Or.inl rfl | exact Or.inr rfl)) (ss_one (ss_if (st_of (sw_or (st_cmp (op_neD hr.units) od_ne (se_call F__law_refused rfl rfl (hr.mono (by decide)) (passes_call (takes_of rfl rfl rfl rfl) (fun _ _ _ _ h => h)) (by rfl) (sa_cons (se_var 12 (pv 12)) (sa_cons (eo_er (eo_lst sa_nil)) (sa_cons se_non sa_nil)))) (se_un un_neg ud_neg se_int) (nomark _)) (sw_or1 (st_cmp (op_neD hr.units) od_ne (se_call F__law_refused rfl rfl (hr.mono (by decide)) (passes_call (takes_of rfl rfl rfl rfl) (fun _ _ _ _ h => h)) (by rfl) (sa_cons (se_var 12 (pv 12)) (sa_cons (se_var 2 (pv 2)) (sa_cons se_non sa_nil)))) (se_un un_neg ud_neg se_int) (nomark _))))) (ss_one (ss_ret se_bl)) ss_nil)))
    (ss_one (ss_ret (se_cmp (op_eqD hr.units) od_eq (eo_er (eo_lc rfl sc_law.nd (si_seq rfl (eo_er (eo_lst (sa_cons se_non (sa_cons (se_tup sa_nil) (sa_cons (se_callTy call_tuple_of cd_tuple (by rfl) T.z_tuple (by decide +kernel) (sa_cons (se_var 2 (pv 2)) sa_nil)) (sa_cons se_str (sa_cons se_int (sa_cons se_dic sa_nil))))))))) (blkOk_by (own := [("_law_thing", 13)]) (by refine (?_ : blkC ["_law_script", "_law_dims", "_law_cuts_here", "_law_k", "_law_cell", "_law_at", "_law_odd_here", "_law_often", "_law_place", "_law_twin", "_law_cutting", "_law_rest", "_law_wide", "_law_thing", "_law_number"] (defScope st_law) _ [("_law_thing", 13)] = true); decide +kernel)) (patIn_name (by decide)) (fun _ _ _ _ _ => (sg_name (i := 13) sc_law.nd rfl (by first | exact Or.inl rfl | exact Or.inr rfl))) (fun _ _ _ _ _ => sts_nil) (fun _ _ _ _ _ => (se_call F__law_refused rfl rfl (hr.mono (by decide)) passL (by rfl) (sa_cons (se_var 1 (pv 1)) (sa_cons (se_var 13 (pv 13)) (sa_cons se_non sa_nil))))))) (se_op or_mulX od_mulX (eo_er (eo_lst (sa_cons (se_un un_neg ud_neg se_int) sa_nil))) se_int) (nomark _))))))))))
theorem okQ__law_whole {P : Program} {w : World} {base : Heap} {g : G} (T : Txt g) {f : Addr} {dV kV doc pm cdv ct oc : Value} {an od : Option Addr} {osl : Array (Option Value)} (lk : g.K.lookup f = some ⟨oc, od, .func (PySem.W.fnOf "_law_whole" "_law_whole" (defArgs st__law_whole) (defBody st__law_whole) (defScope st__law_whole) dV kV doc pm an cdv ct), osl⟩) (hcd : PySem.W.codeIn g.K cdv "_law_whole" = true) (hm : g.mg "_law_whole" = some (.ref f)) (kp : PySem.W.keepIn g.K (.ref f) = true) (hb : Binds g.K (PySem.W.fnOf "_law_whole" "_law_whole" (defArgs st__law_whole) (defBody st__law_whole) (defScope st__law_whole) dV kV doc pm an cdv ct) ["_law_found"] []) : FnQ P w base g "_law_whole" 1 1 d__law_whole := by
  rw [d__law_whole_eq]; unfold s__law_whole; exact defQ_ok lk hcd sc__law_whole hm kp hb fun A out sh H p B Hs0 =>
  (ss_one (ss_ret (se_and (se_isi kit_int rfl (by rfl) T.z_isinstance (by rfl) T.z_int (by decide +kernel) (se_var 0 (pv 0))) (se_one (se_not (se_isi kit_bool rfl (by rfl) T.z_isinstance (by rfl) T.z_bool (by decide +kernel) (se_var 0 (pv 0))))))))
theorem all_mk {P : Program} {w : World} {K : PySem.W.Frag} {h : Heap} {mg : Str → Option Value} {fa C_Cutting C_NoCutting f_0 f_1 f_2 f_3 f_4 f_5 f_6 f_7 f_8 f_9 f_10 f_11 f_12 f_13 f_14 f_15 f_16 : Addr} (X : K.In h) (G : h.Ns mainGlobals mg) (hfa : mg "law" = some (.ref fa))
    {od0 an0 od1 an1 od2 an2 od3 an3 od4 an4 od5 an5 od6 an6 od7 an7 od8 an8 od9 an9 od10 an10 od11 an11 od12 an12 od13 an13 od14 an14 od15 an15 od16 an16 : Option Addr} {sl0 sl1 sl2 sl3 sl4 sl5 sl6 sl7 sl8 sl9 sl10 sl11 sl12 sl13 sl14 sl15 sl16 : Array (Option Value)} {oc0 kV0 dc0 pm0 cd0 ct0 oc1 kV1 dc1 pm1 cd1 ct1 oc2 kV2 dc2 pm2 cd2 ct2 oc3 kV3 dc3 pm3 cd3 ct3 oc4 kV4 dc4 pm4 cd4 ct4 oc5 kV5 dc5 pm5 cd5 ct5 oc6 kV6 dc6 pm6 cd6 ct6 oc7 kV7 dc7 pm7 cd7 ct7 oc8 kV8 dc8 pm8 cd8 ct8 oc9 kV9 dc9 pm9 cd9 ct9 oc10 kV10 dc10 pm10 cd10 ct10 oc11 kV11 dc11 pm11 cd11 ct11 oc12 kV12 dc12 pm12 cd12 ct12 oc13 kV13 dc13 pm13 cd13 ct13 oc14 kV14 dc14 pm14 cd14 ct14 oc15 kV15 dc15 pm15 cd15 ct15 oc16 kV16 dc16 pm16 cd16 ct16 : Value}
    (a0 : PySem.W.findIn K (.ref C_NoCutting) "__init__" = some (some (.ref f_0))) (m0 : PySem.W.typeIn K (.ref f_0) = some (.type "function")) (l0 : K.lookup f_0 = some ⟨oc0, od0, .func (PySem.W.fnOf "__init__" "NoCutting.__init__" (defArgs st_NoCutting___init__) (defBody st_NoCutting___init__) (defScope st_NoCutting___init__) .none kV0 dc0 pm0 an0 cd0 ct0), sl0⟩) (c0 : PySem.W.codeIn K cd0 "NoCutting.__init__" = true) (k0 : PySem.W.keepIn K (.ref f_0) = true)
    (a1 : PySem.W.nsIn K mainGlobals "is_whole" = some (some (.ref f_1))) (l1 : K.lookup f_1 = some ⟨oc1, od1, .func (PySem.W.fnOf "is_whole" "is_whole" (defArgs st_is_whole) (defBody st_is_whole) (defScope st_is_whole) .none kV1 dc1 pm1 an1 cd1 ct1), sl1⟩) (c1 : PySem.W.codeIn K cd1 "is_whole" = true) (k1 : PySem.W.keepIn K (.ref f_1) = true)
    (a2 : PySem.W.nsIn K mainGlobals "is_cut" = some (some (.ref f_2))) (l2 : K.lookup f_2 = some ⟨oc2, od2, .func (PySem.W.fnOf "is_cut" "is_cut" (defArgs st_is_cut) (defBody st_is_cut) (defScope st_is_cut) .none kV2 dc2 pm2 an2 cd2 ct2), sl2⟩) (c2 : PySem.W.codeIn K cd2 "is_cut" = true) (k2 : PySem.W.keepIn K (.ref f_2) = true)
    (a3 : PySem.W.nsIn K mainGlobals "same_spots" = some (some (.ref f_3))) (l3 : K.lookup f_3 = some ⟨oc3, od3, .func (PySem.W.fnOf "same_spots" "same_spots" (defArgs st_same_spots) (defBody st_same_spots) (defScope st_same_spots) .none kV3 dc3 pm3 an3 cd3 ct3), sl3⟩) (c3 : PySem.W.codeIn K cd3 "same_spots" = true) (k3 : PySem.W.keepIn K (.ref f_3) = true)
    (a4 : PySem.W.nsIn K mainGlobals "check_cuts" = some (some (.ref f_4))) (l4 : K.lookup f_4 = some ⟨oc4, od4, .func (PySem.W.fnOf "check_cuts" "check_cuts" (defArgs st_check_cuts) (defBody st_check_cuts) (defScope st_check_cuts) .none kV4 dc4 pm4 an4 cd4 ct4), sl4⟩) (c4 : PySem.W.codeIn K cd4 "check_cuts" = true) (k4 : PySem.W.keepIn K (.ref f_4) = true)
    (a5 : PySem.W.findIn K (.ref C_Cutting) "__init__" = some (some (.ref f_5))) (m5 : PySem.W.isFn K (.ref f_5) = true) (l5 : K.lookup f_5 = some ⟨oc5, od5, .func (PySem.W.fnOf "__init__" "Cutting.__init__" (defArgs st_Cutting___init__) (defBody st_Cutting___init__) (defScope st_Cutting___init__) .none kV5 dc5 pm5 an5 cd5 ct5), sl5⟩) (c5 : PySem.W.codeIn K cd5 "Cutting.__init__" = true) (k5 : PySem.W.keepIn K (.ref f_5) = true)
    (a6 : PySem.W.findIn K (.ref C_Cutting) "cuts" = some (some (.ref f_6))) (m6 : PySem.W.isFn K (.ref f_6) = true) (l6 : K.lookup f_6 = some ⟨oc6, od6, .func (PySem.W.fnOf "cuts" "Cutting.cuts" (defArgs st_Cutting_cuts) (defBody st_Cutting_cuts) (defScope st_Cutting_cuts) .none kV6 dc6 pm6 an6 cd6 ct6), sl6⟩) (c6 : PySem.W.codeIn K cd6 "Cutting.cuts" = true) (k6 : PySem.W.keepIn K (.ref f_6) = true)
    (a7 : PySem.W.findIn K (.ref C_Cutting) "with_one" = some (some (.ref f_7))) (m7 : PySem.W.isFn K (.ref f_7) = true) (l7 : K.lookup f_7 = some ⟨oc7, od7, .func (PySem.W.fnOf "with_one" "Cutting.with_one" (defArgs st_Cutting_with_one) (defBody st_Cutting_with_one) (defScope st_Cutting_with_one) .none kV7 dc7 pm7 an7 cd7 ct7), sl7⟩) (c7 : PySem.W.codeIn K cd7 "Cutting.with_one" = true) (k7 : PySem.W.keepIn K (.ref f_7) = true)
    (a8 : PySem.W.nsIn K mainGlobals "_law_cell_at" = some (some (.ref f_8))) (l8 : K.lookup f_8 = some ⟨oc8, od8, .func (PySem.W.fnOf "_law_cell_at" "_law_cell_at" (defArgs st__law_cell_at) (defBody st__law_cell_at) (defScope st__law_cell_at) .none kV8 dc8 pm8 an8 cd8 ct8), sl8⟩) (c8 : PySem.W.codeIn K cd8 "_law_cell_at" = true) (k8 : PySem.W.keepIn K (.ref f_8) = true)
    (a9 : PySem.W.nsIn K mainGlobals "_law_draw" = some (some (.ref f_9))) (l9 : K.lookup f_9 = some ⟨oc9, od9, .func (PySem.W.fnOf "_law_draw" "_law_draw" (defArgs st__law_draw) (defBody st__law_draw) (defScope st__law_draw) .none kV9 dc9 pm9 an9 cd9 ct9), sl9⟩) (c9 : PySem.W.codeIn K cd9 "_law_draw" = true) (k9 : PySem.W.keepIn K (.ref f_9) = true)
    (a10 : PySem.W.nsIn K mainGlobals "_law_whole" = some (some (.ref f_10))) (l10 : K.lookup f_10 = some ⟨oc10, od10, .func (PySem.W.fnOf "_law_whole" "_law_whole" (defArgs st__law_whole) (defBody st__law_whole) (defScope st__law_whole) .none kV10 dc10 pm10 an10 cd10 ct10), sl10⟩) (c10 : PySem.W.codeIn K cd10 "_law_whole" = true) (k10 : PySem.W.keepIn K (.ref f_10) = true)
    (a11 : PySem.W.nsIn K mainGlobals "_law_same" = some (some (.ref f_11))) (l11 : K.lookup f_11 = some ⟨oc11, od11, .func (PySem.W.fnOf "_law_same" "_law_same" (defArgs st__law_same) (defBody st__law_same) (defScope st__law_same) .none kV11 dc11 pm11 an11 cd11 ct11), sl11⟩) (c11 : PySem.W.codeIn K cd11 "_law_same" = true) (k11 : PySem.W.keepIn K (.ref f_11) = true)
    (a12 : PySem.W.nsIn K mainGlobals "_law_cut" = some (some (.ref f_12))) (l12 : K.lookup f_12 = some ⟨oc12, od12, .func (PySem.W.fnOf "_law_cut" "_law_cut" (defArgs st__law_cut) (defBody st__law_cut) (defScope st__law_cut) .none kV12 dc12 pm12 an12 cd12 ct12), sl12⟩) (c12 : PySem.W.codeIn K cd12 "_law_cut" = true) (k12 : PySem.W.keepIn K (.ref f_12) = true)
    (a13 : PySem.W.nsIn K mainGlobals "_law_cuts" = some (some (.ref f_13))) (l13 : K.lookup f_13 = some ⟨oc13, od13, .func (PySem.W.fnOf "_law_cuts" "_law_cuts" (defArgs st__law_cuts) (defBody st__law_cuts) (defScope st__law_cuts) .none kV13 dc13 pm13 an13 cd13 ct13), sl13⟩) (c13 : PySem.W.codeIn K cd13 "_law_cuts" = true) (k13 : PySem.W.keepIn K (.ref f_13) = true)
    (a14 : PySem.W.nsIn K mainGlobals "_law_odd" = some (some (.ref f_14))) (l14 : K.lookup f_14 = some ⟨oc14, od14, .func (PySem.W.fnOf "_law_odd" "_law_odd" (defArgs st__law_odd) (defBody st__law_odd) (defScope st__law_odd) .none kV14 dc14 pm14 an14 cd14 ct14), sl14⟩) (c14 : PySem.W.codeIn K cd14 "_law_odd" = true) (k14 : PySem.W.keepIn K (.ref f_14) = true)
    (a15 : PySem.W.nsIn K mainGlobals "_law_refused" = some (some (.ref f_15))) (l15 : K.lookup f_15 = some ⟨oc15, od15, .func (PySem.W.fnOf "_law_refused" "_law_refused" (defArgs st__law_refused) (defBody st__law_refused) (defScope st__law_refused) .none kV15 dc15 pm15 an15 cd15 ct15), sl15⟩) (c15 : PySem.W.codeIn K cd15 "_law_refused" = true) (k15 : PySem.W.keepIn K (.ref f_15) = true)
    (a16 : PySem.W.nsIn K mainGlobals "law" = some (some (.ref f_16))) (l16 : K.lookup f_16 = some ⟨oc16, od16, .func (PySem.W.fnOf "law" "law" (defArgs st_law) (defBody st_law) (defScope st_law) .none kV16 dc16 pm16 an16 cd16 ct16), sl16⟩) (c16 : PySem.W.codeIn K cd16 "law" = true) (k16 : PySem.W.keepIn K (.ref f_16) = true)
    (e1_Cutting : PySem.W.nsIn K mainGlobals "Cutting" = some (some (.ref C_Cutting)))
    (u1 : PySem.W.plainGet K C_Cutting Str.empty = true)
    (u2 : PySem.W.hasDictIn K C_Cutting = true)
    (u3 : PySem.W.plainOver K C_Cutting = true)
    (u4 : PySem.W.findIn K (.ref C_Cutting) "__setattr__" = some (some (.builtin "object.__setattr__")))
    (u5 : PySem.W.findIn K (.ref C_Cutting) "wide" = some none)
    (u6 : PySem.W.findIn K (.ref C_Cutting) "rows" = some none)
    (u7 : PySem.W.makesIn K C_Cutting = true)
    (u8 : PySem.W.keepIn K (.ref C_Cutting) = true)
    (z_ValueError : PySem.W.nsIn K mainGlobals "ValueError" = some none)
    (z_all : PySem.W.nsIn K mainGlobals "all" = some none)
    (z_bool : PySem.W.nsIn K mainGlobals "bool" = some none)
    (z_int : PySem.W.nsIn K mainGlobals "int" = some none)
    (z_isinstance : PySem.W.nsIn K mainGlobals "isinstance" = some none)
    (z_len : PySem.W.nsIn K mainGlobals "len" = some none)
    (z_list : PySem.W.nsIn K mainGlobals "list" = some none)
    (z_range : PySem.W.nsIn K mainGlobals "range" = some none)
    (z_sum : PySem.W.nsIn K mainGlobals "sum" = some none)
    (z_tuple : PySem.W.nsIn K mainGlobals "tuple" = some none)
    (z_zip : PySem.W.nsIn K mainGlobals "zip" = some none)
    {C_CutError : Addr} (e1_CutError : PySem.W.nsIn K mainGlobals "CutError" = some (some (.ref C_CutError)))
    (e1_NoCutting : PySem.W.nsIn K mainGlobals "NoCutting" = some (some (.ref C_NoCutting)))
    {C_NoLand : Addr} (e1_NoLand : PySem.W.nsIn K mainGlobals "NoLand" = some (some (.ref C_NoLand)))
    {C_NoNumber : Addr} (e1_NoNumber : PySem.W.nsIn K mainGlobals "NoNumber" = some (some (.ref C_NoNumber)))
    {C_NoSigns : Addr} (e1_NoSigns : PySem.W.nsIn K mainGlobals "NoSigns" = some (some (.ref C_NoSigns)))
    {C_NoSpot : Addr} (e1_NoSpot : PySem.W.nsIn K mainGlobals "NoSpot" = some (some (.ref C_NoSpot)))
    {nm_NoCutting qn_NoCutting : Str} {N_NoCutting : Addr} {bs_NoCutting bm_NoCutting : List Value} {sn_NoCutting : List Str} {sub_NoCutting : List Value} {ab_NoCutting : Bool} {col_NoCutting : Option Bool} {dd_NoCutting : Option Addr} {k0_NoCutting k1_NoCutting k2_NoCutting k3_NoCutting k5_NoCutting : Option Value}
    (w1_NoCutting : K.lookup C_NoCutting = some (excClassObj nm_NoCutting qn_NoCutting C_NoCutting N_NoCutting bs_NoCutting bm_NoCutting true sn_NoCutting sub_NoCutting ab_NoCutting col_NoCutting dd_NoCutting k0_NoCutting k1_NoCutting k2_NoCutting k3_NoCutting k5_NoCutting "ValueError.__new__"))
    (w2_NoCutting : PySem.HandSPX.refsVE bm_NoCutting = true)
    (w3_NoCutting : PySem.W.findIn K (.ref C_NoCutting) "__setattr__" = some (some (.builtin "object.__setattr__")))
    (w4_NoCutting : PySem.W.subIn K (.ref C_NoCutting) (.type "BaseException") = some true)
    (w5_NoCutting : PySem.W.typeIn K (.ref C_NoCutting) = some (.type "type"))
    (w6_NoCutting : PySem.W.keepIn K (.ref C_NoCutting) = true)
    (w9_NoCutting : PySem.W.findIn K (.ref C_NoCutting) "at" = some none)
    (v1_ : PySem.W.specialIn K (.ref C_CutError) "__getattribute__" = some (some (.builtin "type.__getattribute__")))
    (v2_ : PySem.W.typeIn K (.ref C_CutError) = some (.type "type"))
    (v3_ : PySem.W.readsIn K C_CutError (.type "type") = true)
    (v4_ : PySem.W.findCls K (.ref C_CutError) (.type "type") "__init__" = some (.val (.builtin "ValueError.__init__")))
    {t_MOST_CUTS : Tok} (v_MOST_CUTS : PySem.W.nsIn K mainGlobals "MOST_CUTS" = some (some (.int 7 t_MOST_CUTS)))
    {t_MOST_DIMS : Tok} (v_MOST_DIMS : PySem.W.nsIn K mainGlobals "MOST_DIMS" = some (some (.int 3 t_MOST_DIMS)))
    (y1_NoCutting : PySem.W.findIn K (.ref C_NoCutting) "__getattribute__" = some (some (.builtin "BaseException.__getattribute__")))
    (y2_NoCutting : PySem.W.findIn K (.ref C_NoCutting) "__getattr__" = some none)
    (y3_NoCutting : PySem.W.subIn K (.ref C_NoCutting) (.type "BaseException") = some true)
    (y4_NoCutting : PySem.W.hasDictIn K C_NoCutting = true)
    (y5_NoCutting : PySem.W.findIn K (.ref C_NoCutting) "__class__" = some (some (.builtin "object.__class__")))
    (y6_NoCutting : PySem.W.specialIn K (.builtin "object.__class__") "__get__" = some (some (.builtin "getset_descriptor.__get__")))
    (y7_NoCutting : PySem.W.takesIn K (.builtin "object.__class__") = some true)
    (y8_NoCutting : PySem.W.mroIn K C_NoCutting (.type "object") = some true)
    (y9_NoCutting : PySem.W.findIn K (.ref C_NoCutting) "at" = some none)
    (kt_NoCutting_CutError : PySem.W.kitOne K (.ref C_NoCutting) (.ref C_CutError) = some true)
    (kt_NoCutting_NoCutting : PySem.W.kitOne K (.ref C_NoCutting) (.ref C_NoCutting) = some true)
    (kt_NoCutting_NoLand : PySem.W.kitOne K (.ref C_NoCutting) (.ref C_NoLand) = some false)
    (kt_NoCutting_NoNumber : PySem.W.kitOne K (.ref C_NoCutting) (.ref C_NoNumber) = some false)
    (kt_NoCutting_NoSigns : PySem.W.kitOne K (.ref C_NoCutting) (.ref C_NoSigns) = some false)
    (kt_NoCutting_NoSpot : PySem.W.kitOne K (.ref C_NoCutting) (.ref C_NoSpot) = some false)
    (kt_NoCutting_ValueError : PySem.W.kitOne K (.ref C_NoCutting) (.type "ValueError") = some true)
    (yx_NoCutting_CutError : PySem.W.subIn K (.ref C_NoCutting) (.ref C_CutError) = some true)
    (y11_CutError : PySem.W.subIn K (.ref C_CutError) (.type "BaseException") = some true)
    (y12_CutError : PySem.W.hasDictIn K C_CutError = true)
    (y13_CutError : PySem.W.typeIn K (.ref C_CutError) = some (.type "type"))
    (hlaw : ∀ ns : List Int, ns.length ≤ 63 → (∀ z ∈ ns, Builtin.Int.intBits z ≤ 1048576) → d_law [.scr ns] = .ok (.val (.bl true)))
    : ∃ fd : FuncData, (∀ (s : Shared) (v : Value), BindsTo s fd ⟨[v], []⟩ [("_law_script", v)]) ∧ ∀ base : Heap, K.In base → base.Ns mainGlobals mg → FnOk P w K mg base (L2.CX P w) 9 fa fd ["_law_script"] (spLaw K) := by
  have e := hfa.symm.trans (PySem.W.mg_of X G a16)
  cases e
  have T : Txt ⟨K, mg, C_Cutting, fun _ _ => False, fun _ _ _ _ h => h⟩ := ⟨⟨⟨u1, u2, u3, u4⟩, u5, u6⟩, PySem.W.mg_of X G e1_Cutting, PySem.W.mg_none_of X G z_ValueError, PySem.W.mg_none_of X G z_all, PySem.W.mg_none_of X G z_bool, PySem.W.mg_none_of X G z_int, PySem.W.mg_none_of X G z_isinstance, PySem.W.mg_none_of X G z_len, PySem.W.mg_none_of X G z_list, PySem.W.mg_none_of X G z_range, PySem.W.mg_none_of X G z_sum, PySem.W.mg_none_of X G z_tuple, PySem.W.mg_none_of X G z_zip, ⟨_, PySem.W.mg_of X G v_MOST_CUTS, ⟨_, rfl⟩⟩, ⟨_, PySem.W.mg_of X G v_MOST_DIMS, ⟨_, rfl⟩⟩, fun _ _ h => h, ⟨C_CutError, PySem.W.mg_of X G e1_CutError⟩, ⟨C_NoCutting, PySem.W.mg_of X G e1_NoCutting⟩, ⟨C_NoLand, PySem.W.mg_of X G e1_NoLand⟩, ⟨C_NoNumber, PySem.W.mg_of X G e1_NoNumber⟩, ⟨C_NoSigns, PySem.W.mg_of X G e1_NoSigns⟩, ⟨C_NoSpot, PySem.W.mg_of X G e1_NoSpot⟩, fun C h_NoCutting => by cases (PySem.W.mg_of X G e1_NoCutting).symm.trans h_NoCutting; exact ⟨hc_of y4_NoCutting, y1_NoCutting, y2_NoCutting, y3_NoCutting, y4_NoCutting, y5_NoCutting, y6_NoCutting, y7_NoCutting, y8_NoCutting, y9_NoCutting⟩, fun C D h_NoCutting h_CutError => by cases (PySem.W.mg_of X G e1_NoCutting).symm.trans h_NoCutting; cases (PySem.W.mg_of X G e1_CutError).symm.trans h_CutError; exact kt_NoCutting_CutError, fun C D h_NoCutting h2 => by cases (PySem.W.mg_of X G e1_NoCutting).symm.trans h2; cases (PySem.W.mg_of X G e1_NoCutting).symm.trans h_NoCutting; exact kt_NoCutting_NoCutting, fun C D h_NoCutting h_NoLand => by cases (PySem.W.mg_of X G e1_NoCutting).symm.trans h_NoCutting; cases (PySem.W.mg_of X G e1_NoLand).symm.trans h_NoLand; exact kt_NoCutting_NoLand, fun C D h_NoCutting h_NoNumber => by cases (PySem.W.mg_of X G e1_NoCutting).symm.trans h_NoCutting; cases (PySem.W.mg_of X G e1_NoNumber).symm.trans h_NoNumber; exact kt_NoCutting_NoNumber, fun C D h_NoCutting h_NoSigns => by cases (PySem.W.mg_of X G e1_NoCutting).symm.trans h_NoCutting; cases (PySem.W.mg_of X G e1_NoSigns).symm.trans h_NoSigns; exact kt_NoCutting_NoSigns, fun C D h_NoCutting h_NoSpot => by cases (PySem.W.mg_of X G e1_NoCutting).symm.trans h_NoCutting; cases (PySem.W.mg_of X G e1_NoSpot).symm.trans h_NoSpot; exact kt_NoCutting_NoSpot, fun C h_NoCutting => by cases (PySem.W.mg_of X G e1_NoCutting).symm.trans h_NoCutting; exact kt_NoCutting_ValueError, fun C D h_NoCutting h_CutError => by cases (PySem.W.mg_of X G e1_NoCutting).symm.trans h_NoCutting; cases (PySem.W.mg_of X G e1_CutError).symm.trans h_CutError; exact PySem.W.exm_ref y11_CutError y12_CutError y13_CutError yx_NoCutting_CutError⟩
  have F0 := fun_mk (st := st_NoCutting___init__) l0 c0 k0
  have b0 := F0.binds (ps := ["self", "at"]) fun _ _ _ _ _ _ us hl => match us, hl with | [_, _], _ => rfl
  have F1 := fun_mk (st := st_is_whole) l1 c1 k1
  have b1 := F1.binds (ps := ["thing"]) fun _ _ _ _ _ _ us hl => match us, hl with | [_], _ => rfl
  have F2 := fun_mk (st := st_is_cut) l2 c2 k2
  have b2 := F2.binds (ps := ["thing", "dims"]) fun _ _ _ _ _ _ us hl => match us, hl with | [_, _], _ => rfl
  have F3 := fun_mk (st := st_same_spots) l3 c3 k3
  have b3 := F3.binds (ps := ["one", "other"]) fun _ _ _ _ _ _ us hl => match us, hl with | [_, _], _ => rfl
  have F4 := fun_mk (st := st_check_cuts) l4 c4 k4
  have b4 := F4.binds (ps := ["dims", "thing"]) fun _ _ _ _ _ _ us hl => match us, hl with | [_, _], _ => rfl
  have F5 := fun_mk (st := st_Cutting___init__) l5 c5 k5
  have b5 := F5.binds (ps := ["self", "dims", "cuts"]) fun _ _ _ _ _ _ us hl => match us, hl with | [_, _, _], _ => rfl
  have F6 := fun_mk (st := st_Cutting_cuts) l6 c6 k6
  have b6 := F6.binds (ps := ["self"]) fun _ _ _ _ _ _ us hl => match us, hl with | [_], _ => rfl
  have F7 := fun_mk (st := st_Cutting_with_one) l7 c7 k7
  have b7 := F7.binds (ps := ["self", "cut"]) fun _ _ _ _ _ _ us hl => match us, hl with | [_, _], _ => rfl
  have F8 := fun_mk (st := st__law_cell_at) l8 c8 k8
  have b8 := F8.binds (ps := ["_law_script", "_law_k"]) fun _ _ _ _ _ _ us hl => match us, hl with | [_, _], _ => rfl
  have F9 := fun_mk (st := st__law_draw) l9 c9 k9
  have b9 := F9.binds (ps := ["_law_cell", "_law_k", "_law_bound"]) fun _ _ _ _ _ _ us hl => match us, hl with | [_, _, _], _ => rfl
  have F10 := fun_mk (st := st__law_whole) l10 c10 k10
  have b10 := F10.binds (ps := ["_law_found"]) fun _ _ _ _ _ _ us hl => match us, hl with | [_], _ => rfl
  have F11 := fun_mk (st := st__law_same) l11 c11 k11
  have b11 := F11.binds (ps := ["_law_one", "_law_other"]) fun _ _ _ _ _ _ us hl => match us, hl with | [_, _], _ => rfl
  have F12 := fun_mk (st := st__law_cut) l12 c12 k12
  have b12 := F12.binds (ps := ["_law_cell", "_law_dims", "_law_ahead"]) fun _ _ _ _ _ _ us hl => match us, hl with | [_, _, _], _ => rfl
  have F13 := fun_mk (st := st__law_cuts) l13 c13 k13
  have b13 := F13.binds (ps := ["_law_script", "_law_at", "_law_dims", "_law_many"]) fun _ _ _ _ _ _ us hl => match us, hl with | [_, _, _, _], _ => rfl
  have F14 := fun_mk (st := st__law_odd) l14 c14 k14
  have b14 := F14.binds (ps := ["_law_cell", "_law_dims"]) fun _ _ _ _ _ _ us hl => match us, hl with | [_, _], _ => rfl
  have F15 := fun_mk (st := st__law_refused) l15 c15 k15
  have b15 := F15.binds (ps := ["_law_dims", "_law_thing", "_law_cutting"]) fun _ _ _ _ _ _ us hl => match us, hl with | [_, _, _], _ => rfl
  have F16 := fun_mk (st := st_law) l16 c16 k16
  refine ⟨PySem.W.fnOf "law" "law" (defArgs st_law) (defBody st_law) (defScope st_law) .none kV16 dc16 pm16 an16 cd16 ct16, fun s v => .of_eq rfl, fun base _ _ => ?_⟩
  have q_NoCutting : AtC P w base ⟨K, mg, C_Cutting, fun _ _ => False, fun _ _ _ _ h => h⟩ "NoCutting" C_NoCutting := ok_NoCutting T F0 (PySem.W.mg_of X G e1_NoCutting) ⟨⟨_, _, _, _, _, _, _, _, _, _, _, _, _, _, _, w1_NoCutting, w2_NoCutting⟩, w3_NoCutting, w4_NoCutting, w5_NoCutting, w6_NoCutting⟩ w9_NoCutting ⟨PySem.W.mg_of X G e1_CutError, v1_, v2_, v3_, v4_⟩ a0 m0 b0
  have q_is_whole : Fn P w base ⟨K, mg, C_Cutting, fun _ _ => False, fun _ _ _ _ h => h⟩ "is_whole" 1 1 d_is_whole := ok_is_whole T F1 (PySem.W.mg_of X G a1) b1
  have q_is_cut : Fn P w base ⟨K, mg, C_Cutting, fun _ _ => False, fun _ _ _ _ h => h⟩ "is_cut" 2 2 d_is_cut := ok_is_cut T F2 (PySem.W.mg_of X G a2) b2 q_is_whole
  have q_same_spots : Fn P w base ⟨K, mg, C_Cutting, fun _ _ => False, fun _ _ _ _ h => h⟩ "same_spots" 2 1 d_same_spots := ok_same_spots T F3 (PySem.W.mg_of X G a3) b3
  have q_check_cuts : Fn P w base ⟨K, mg, C_Cutting, fun _ _ => False, fun _ _ _ _ h => h⟩ "check_cuts" 2 4 d_check_cuts := ok_check_cuts T F4 (PySem.W.mg_of X G a4) b4 q_NoCutting q_is_cut q_is_whole q_same_spots
  have q_Cutting : MkF P w base ⟨K, mg, C_Cutting, fun _ _ => False, fun _ _ _ _ h => h⟩ 5 (initD d_check_cuts) := ok_Cutting T F5 ⟨u7, a5, m5, u8⟩ b5 q_check_cuts
  have q_Cutting_cuts : FnM P w base ⟨K, mg, C_Cutting, fun _ _ => False, fun _ _ _ _ h => h⟩ "cuts" 1 1 d_Cutting_cuts := ok_Cutting_cuts T F6 ⟨a6, m6, k6⟩ b6
  have q_Cutting_with_one : FnM P w base ⟨K, mg, C_Cutting, fun _ _ => False, fun _ _ _ _ h => h⟩ "with_one" 2 7 d_Cutting_with_one := ok_Cutting_with_one T F7 ⟨a7, m7, k7⟩ b7 q_Cutting
  have q__law_cell_at : Fn P w base ⟨K, mg, C_Cutting, fun _ _ => False, fun _ _ _ _ h => h⟩ "_law_cell_at" 2 1 d__law_cell_at := ok__law_cell_at T F8 (PySem.W.mg_of X G a8) b8
  have q__law_draw : Fn P w base ⟨K, mg, C_Cutting, fun _ _ => False, fun _ _ _ _ h => h⟩ "_law_draw" 3 1 d__law_draw := ok__law_draw T F9 (PySem.W.mg_of X G a9) b9
  have q__law_whole : Fn P w base ⟨K, mg, C_Cutting, fun _ _ => False, fun _ _ _ _ h => h⟩ "_law_whole" 1 1 d__law_whole := ok__law_whole T F10 (PySem.W.mg_of X G a10) b10
  have qq__law_whole : FnQ P w base ⟨K, mg, C_Cutting, fun _ _ => False, fun _ _ _ _ h => h⟩ "_law_whole" 1 1 d__law_whole := okQ__law_whole T l10 c10 (PySem.W.mg_of X G a10) k10 b10
  have q__law_same : Fn P w base ⟨K, mg, C_Cutting, fun _ _ => False, fun _ _ _ _ h => h⟩ "_law_same" 2 1 d__law_same := ok__law_same T F11 (PySem.W.mg_of X G a11) b11
  have q__law_cut : Fn P w base ⟨K, mg, C_Cutting, fun _ _ => False, fun _ _ _ _ h => h⟩ "_law_cut" 3 2 d__law_cut := ok__law_cut T F12 (PySem.W.mg_of X G a12) b12 q__law_draw
  have q__law_cuts : Fn P w base ⟨K, mg, C_Cutting, fun _ _ => False, fun _ _ _ _ h => h⟩ "_law_cuts" 4 3 d__law_cuts := ok__law_cuts T F13 (PySem.W.mg_of X G a13) b13 q__law_cell_at q__law_cut q__law_same
  have q__law_odd : Fn P w base ⟨K, mg, C_Cutting, fun _ _ => False, fun _ _ _ _ h => h⟩ "_law_odd" 2 2 d__law_odd := ok__law_odd T F14 (PySem.W.mg_of X G a14) b14 q__law_draw
  have q__law_refused : Fn P w base ⟨K, mg, C_Cutting, fun _ _ => False, fun _ _ _ _ h => h⟩ "_law_refused" 3 8 d__law_refused := ok__law_refused T F15 (PySem.W.mg_of X G a15) b15 qq__law_whole q_Cutting q_Cutting_with_one
  exact law_ok (okF_law (g := ⟨K, mg, C_Cutting, fun _ _ => False, fun _ _ _ _ h => h⟩) T F16 q_Cutting q_Cutting_cuts q__law_cell_at q__law_cuts q__law_draw q__law_odd q__law_refused) hlaw
end K05
open PySem PySem.W PyProof.Rows in
set_option maxRecDepth 100000 in
set_option maxHeartbeats 0 in
theorem PySem.Challenge.cw_cutlands_k05_no_cuttings_holds : PySem.Challenge.rw_cutlands_k05_no_cuttings.Holds := by
  w_on; o_law; k_head; (case hw => w_witness2)
  k_fill
  refine L2.walk_ofB (l := PySem.Challenge.rw_cutlands_k05_no_cuttings) (n := 63) (k := 9) (x := "_law_script") (CX := fun w => L2.CX (PySem.Challenge.rw_cutlands_k05_no_cuttings).prog w) (sp := fun w => PL.spLaw _) rfl (by decide) rfl ⟨rfl, by decide, by decide⟩ (fun w h Y => PySem.W.kIn_of Y) ?F (fun _ _ a ns hl hb _ hS => ⟨a, ns, rfl, hS, hl, hb, fun _ => rfl⟩) (fun w H s e s' h => PL.cx_never H s e s' h)
  case F =>
    intro w mg fa h KX G hmg
    refine' K05.all_mk KX G hmg ?a0 ?m0 ?l0 ?c0 ?k0 ?a1 ?l1 ?c1 ?k1 ?a2 ?l2 ?c2 ?k2 ?a3 ?l3 ?c3 ?k3 ?a4 ?l4 ?c4 ?k4 ?a5 ?m5 ?l5 ?c5 ?k5 ?a6 ?m6 ?l6 ?c6 ?k6 ?a7 ?m7 ?l7 ?c7 ?k7 ?a8 ?l8 ?c8 ?k8 ?a9 ?l9 ?c9 ?k9 ?a10 ?l10 ?c10 ?k10 ?a11 ?l11 ?c11 ?k11 ?a12 ?l12 ?c12 ?k12 ?a13 ?l13 ?c13 ?k13 ?a14 ?l14 ?c14 ?k14 ?a15 ?l15 ?c15 ?k15 ?a16 ?l16 ?c16 ?k16 ?e1_Cutting ?u1 ?u2 ?u3 ?u4 ?u5 ?u6 ?u7 ?u8 ?z_ValueError ?z_all ?z_bool ?z_int ?z_isinstance ?z_len ?z_list ?z_range ?z_sum ?z_tuple ?z_zip ?e1_CutError ?e1_NoCutting ?e1_NoLand ?e1_NoNumber ?e1_NoSigns ?e1_NoSpot ?w1_NoCutting ?w2_NoCutting ?w3_NoCutting ?w4_NoCutting ?w5_NoCutting ?w6_NoCutting ?w9_NoCutting ?v1_ ?v2_ ?v3_ ?v4_ ?v_MOST_CUTS ?v_MOST_DIMS ?y1_NoCutting ?y2_NoCutting ?y3_NoCutting ?y4_NoCutting ?y5_NoCutting ?y6_NoCutting ?y7_NoCutting ?y8_NoCutting ?y9_NoCutting ?kt_NoCutting_CutError ?kt_NoCutting_NoCutting ?kt_NoCutting_NoLand ?kt_NoCutting_NoNumber ?kt_NoCutting_NoSigns ?kt_NoCutting_NoSpot ?kt_NoCutting_ValueError ?yx_NoCutting_CutError ?y11_CutError ?y12_CutError ?y13_CutError K05.law_true
    (case e1_Cutting => k_is)
    (case e1_CutError => k_is)
    (case e1_NoCutting => k_is)
    (case e1_NoLand => k_is)
    (case e1_NoNumber => k_is)
    (case e1_NoSigns => k_is)
    (case e1_NoSpot => k_is)
    (case a0 => k_is)
    (case m0 => k_is)
    (case l0 => k_is)
    (case c0 => k_is)
    (case k0 => k_is)
    (case a1 => k_is)
    (case l1 => k_is)
    (case c1 => k_is)
    (case k1 => k_is)
    (case a2 => k_is)
    (case l2 => k_is)
    (case c2 => k_is)
    (case k2 => k_is)
    (case a3 => k_is)
    (case l3 => k_is)
    (case c3 => k_is)
    (case k3 => k_is)
    (case a4 => k_is)
    (case l4 => k_is)
    (case c4 => k_is)
    (case k4 => k_is)
    (case a5 => k_is)
    (case m5 => k_is)
    (case l5 => k_is)
    (case c5 => k_is)
    (case k5 => k_is)
    (case a6 => k_is)
    (case m6 => k_is)
    (case l6 => k_is)
    (case c6 => k_is)
    (case k6 => k_is)
    (case a7 => k_is)
    (case m7 => k_is)
    (case l7 => k_is)
    (case c7 => k_is)
    (case k7 => k_is)
    (case a8 => k_is)
    (case l8 => k_is)
    (case c8 => k_is)
    (case k8 => k_is)
    (case a9 => k_is)
    (case l9 => k_is)
    (case c9 => k_is)
    (case k9 => k_is)
    (case a10 => k_is)
    (case l10 => k_is)
    (case c10 => k_is)
    (case k10 => k_is)
    (case a11 => k_is)
    (case l11 => k_is)
    (case c11 => k_is)
    (case k11 => k_is)
    (case a12 => k_is)
    (case l12 => k_is)
    (case c12 => k_is)
    (case k12 => k_is)
    (case a13 => k_is)
    (case l13 => k_is)
    (case c13 => k_is)
    (case k13 => k_is)
    (case a14 => k_is)
    (case l14 => k_is)
    (case c14 => k_is)
    (case k14 => k_is)
    (case a15 => k_is)
    (case l15 => k_is)
    (case c15 => k_is)
    (case k15 => k_is)
    (case a16 => k_is)
    (case l16 => k_is)
    (case c16 => k_is)
    (case k16 => k_is)
    (case u1 => k_is)
    (case u2 => k_is)
    (case u3 => k_is)
    (case u4 => k_is)
    (case u5 => k_is)
    (case u6 => k_is)
    (case u7 => k_is)
    (case u8 => k_is)
    (case z_ValueError => k_is)
    (case z_all => k_is)
    (case z_bool => k_is)
    (case z_int => k_is)
    (case z_isinstance => k_is)
    (case z_len => k_is)
    (case z_list => k_is)
    (case z_range => k_is)
    (case z_sum => k_is)
    (case z_tuple => k_is)
    (case z_zip => k_is)
    (case w1_NoCutting => k_is)
    (case w2_NoCutting => rfl)
    (case w3_NoCutting => k_is)
    (case w4_NoCutting => k_is)
    (case w5_NoCutting => k_is)
    (case w6_NoCutting => k_is)
    (case w9_NoCutting => k_is)
    (case v1_ => k_is)
    (case v2_ => k_is)
    (case v3_ => k_is)
    (case v4_ => k_is)
    (case v_MOST_CUTS => k_is)
    (case v_MOST_DIMS => k_is)
    (case y1_NoCutting => k_is)
    (case y2_NoCutting => k_is)
    (case y3_NoCutting => k_is)
    (case y4_NoCutting => k_is)
    (case y5_NoCutting => k_is)
    (case y6_NoCutting => k_is)
    (case y7_NoCutting => k_is)
    (case y8_NoCutting => k_is)
    (case y9_NoCutting => k_is)
    (case kt_NoCutting_CutError => kit_is)
    (case kt_NoCutting_NoCutting => kit_is)
    (case kt_NoCutting_NoLand => kit_is)
    (case kt_NoCutting_NoNumber => kit_is)
    (case kt_NoCutting_NoSigns => kit_is)
    (case kt_NoCutting_NoSpot => kit_is)
    (case kt_NoCutting_ValueError => kit_is)
    (case yx_NoCutting_CutError => k_is)
    (case y11_CutError => k_is)
    (case y12_CutError => k_is)
    (case y13_CutError => k_is)
