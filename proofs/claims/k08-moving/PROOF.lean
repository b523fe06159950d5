import PyProof.Rows.All
import Wide.All
import OpenK.AllK
import Wide.FinOn
import HandS.ForMost
import HandS.ForExc
import HandS.Wide
import HandS.TupAny
import HandS.IsInst
import HandS.TupMul
import HandS.Rev
import HandS.Style
import KE.GoesEnum
import HandS.ExcOwn
import HandS.ExcIs
import HandS.TryOnly
import HandS.ExcField
import KE.KExcIs
import HandS.Dict
import HandS.Deep
import PyProof.ListMulRoad
import PyProof.FactsAll.tuple_2
import HandS.HotCalls
import HandS.ExcInit
import HandS.Conv
import HandS.List
import HandS.TupSets
import KE.KSortTupG
import KE.KSortTupUse
import HandS.SortInts
import HandS.EndBits
import KE.RegKIsAll
import PySem.Challenge.RW_cutlands_k08_whole_meeting_and_moving
set_option Elab.async false
set_option linter.all false
set_option maxRecDepth 100000
namespace PL
open PySem PySem.Spec PyProof.Rows L2

/-! ### data -/
inductive D where
  | non | bl (b : Bool) | int (i : Int) | str (x : Str)
  | tup (l : List D) | lst (l : List D)
  | scr (ns : List Int)
  | cut (n : Int) (rows : List D)
  | dic | exn
  deriving Inhabited

/-- what stands fixed: the written part, the module's names, the class Cutting -/
structure G where
  K : PySem.W.Frag
  mg : Str → Option Value
  cC : Addr
  xp : Addr → Hp → Prop
  xk : ∀ (a : Addr) (H H' : Hp), (∀ b o, (∀ ys, o ≠ HO.lst ys) → H b = some o → H' b = some o) → xp a H → xp a H'

mutual
inductive R (g : G) (H : Hp) : V → D → Prop
  | non : R g H .non .non
  | bl (b : Bool) : R g H (.bl b) (.bl b)
  | int (i : Int) : R g H (.int i) (.int i)
  | str (x : Str) : R g H (.str x) (.str x)
  | tup {a : Addr} {vs : List V} {ds : List D} (h : SqT g.K H a vs) (r : Rs g H vs ds) : R g H (.ref a) (.tup ds)
  | lst {a : Addr} {vs : List V} {ds : List D} (h : H a = some (.lst vs)) (r : Rs g H vs ds) : R g H (.ref a) (.lst ds)
  | scr {a : Addr} {ns : List Int} (h : SqL g.K H a (ns.map V.int)) : R g H (.ref a) (.scr ns)
  | cut {a dx t : Addr} {n : Int} {vs : List V} {ds : List D} (h : H a = some (.ins g.cC dx [("wide", .int n), ("rows", .ref t)])) (k : SqT g.K H t vs) (r : Rs g H vs ds) : R g H (.ref a) (.cut n ds)
  | dic {a : Addr} (h : H a = some (.dK [])) : R g H (.ref a) .dic
  | exn {a : Addr} (h : g.xp a H) : R g H (.ref a) .exn
inductive Rs (g : G) (H : Hp) : List V → List D → Prop
  | nil : Rs g H [] []
  | cons {v : V} {d : D} {vs : List V} {ds : List D} (h : R g H v d) (r : Rs g H vs ds) : Rs g H (v :: vs) (d :: ds)
end

theorem SameT {K : PySem.W.Frag} {H H' : Hp} {a : Addr} {xs : List V} (e : Same H H') (h : SqT K H a xs) : SqT K H' a xs := by
  rcases h with (h | ⟨o, h⟩) | h
  · exact .inl (.inl (e _ _ h))
  · exact .inl (.inr ⟨o, e _ _ h⟩)
  · exact .inr h
mutual
theorem R.mono {g : G} {H H' : Hp} (e : Same H H') : ∀ {v : V} {d : D}, R g H v d → R g H' v d
  | _, _, .non => .non
  | _, _, .bl b => .bl b
  | _, _, .int i => .int i
  | _, _, .str x => .str x
  | _, _, .tup h r => .tup (SameT e h) (Rs.mono e r)
  | _, _, .lst h r => .lst (e _ _ h) (Rs.mono e r)
  | _, _, .scr h => .scr (e.seq h)
  | _, _, .cut h k r => .cut (e _ _ h) (SameT e k) (Rs.mono e r)
  | _, _, .dic h => .dic (e _ _ h)
  | _, _, .exn h => .exn (g.xk _ _ _ (fun b o _ q => e b o q) h)
theorem Rs.mono {g : G} {H H' : Hp} (e : Same H H') : ∀ {vs : List V} {ds : List D}, Rs g H vs ds → Rs g H' vs ds
  | _, _, .nil => .nil
  | _, _, .cons h r => .cons (R.mono e h) (Rs.mono e r)
end
section
variable {g : G} {H : Hp}
theorem Rs.length : ∀ {vs : List V} {ds : List D}, Rs g H vs ds → vs.length = ds.length
  | _, _, .nil => rfl
  | _, _, .cons _ r => by rw [List.length_cons, List.length_cons, r.length]
theorem Rs.get : ∀ {vs : List V} {ds : List D} {i : Nat} {d : D}, Rs g H vs ds → ds[i]? = some d → ∃ v, vs[i]? = some v ∧ R g H v d
  | _, _, _, _, .nil, e => by simp at e
  | _, _, 0, _, .cons h _, e => by simp at e; subst e; exact ⟨_, rfl, h⟩
  | _, _, i + 1, d, .cons _ r, e => by
    obtain ⟨v, h1, h2⟩ := Rs.get (i := i) (d := d) r (by simpa using e)
    exact ⟨v, by simpa using h1, h2⟩
theorem Rs.get' : ∀ {vs : List V} {ds : List D} {i : Nat} {v : V}, Rs g H vs ds → vs[i]? = some v → ∃ d, ds[i]? = some d ∧ R g H v d
  | _, _, _, _, .nil, e => by simp at e
  | _, _, 0, _, .cons h _, e => by simp at e; subst e; exact ⟨_, rfl, h⟩
  | _, _, i + 1, d, .cons _ r, e => by
    obtain ⟨v, h1, h2⟩ := Rs.get' (i := i) (v := d) r (by simpa using e)
    exact ⟨v, by simpa using h1, h2⟩
theorem Rs.append : ∀ {vs us : List V} {ds es : List D}, Rs g H vs ds → Rs g H us es → Rs g H (vs ++ us) (ds ++ es)
  | _, _, _, _, .nil, s => s
  | _, _, _, _, .cons h r, s => .cons h (r.append s)
theorem Rs.take : ∀ {vs : List V} {ds : List D} (n : Nat), Rs g H vs ds → Rs g H (vs.take n) (ds.take n)
  | _, _, 0, _ => .nil
  | _, _, _ + 1, .nil => .nil
  | _, _, n + 1, .cons h r => .cons h (r.take n)
theorem Rs.drop : ∀ {vs : List V} {ds : List D} (n : Nat), Rs g H vs ds → Rs g H (vs.drop n) (ds.drop n)
  | _, _, 0, r => r
  | _, _, _ + 1, .nil => .nil
  | _, _, n + 1, .cons _ r => r.drop n
theorem Rs.set : ∀ {vs : List V} {ds : List D} {v : V} {d : D} (n : Nat), R g H v d → Rs g H vs ds → Rs g H (vs.set n v) (ds.set n d)
  | _, _, _, _, _, _, .nil => .nil
  | _, _, _, _, 0, q, .cons _ r => .cons q r
  | _, _, _, _, n + 1, q, .cons h r => .cons h (r.set n q)
theorem Rs.rep : ∀ {vs : List V} {ds : List D} (n : Nat), Rs g H vs ds → Rs g H (List.replicate n vs).flatten (List.replicate n ds).flatten
  | _, _, 0, _ => .nil
  | _, _, n + 1, r => r.append (r.rep n)
theorem Rs.snoc {vs : List V} {ds : List D} {v : V} {d : D} (r : Rs g H vs ds) (h : R g H v d) : Rs g H (vs ++ [v]) (ds ++ [d]) := r.append (.cons h .nil)
theorem Rs.eraseIdx : ∀ {vs : List V} {ds : List D} (n : Nat), Rs g H vs ds → Rs g H (vs.eraseIdx n) (ds.eraseIdx n)
  | _, _, _, .nil => .nil
  | _, _, 0, .cons _ r => r
  | _, _, n + 1, .cons h r => .cons h (r.eraseIdx n)
theorem Rs.ints : ∀ (ns : List Int), Rs g H (ns.map V.int) (ns.map D.int)
  | [] => .nil
  | n :: ns => .cons (.int n) (Rs.ints ns)
end

/-! ### answers -/
inductive Res (α : Type) where
  | ok (a : α) | exc (c : String) (x : Option D) | bad
namespace Res
def bind {α β : Type} : Res α → (α → Res β) → Res β
  | .ok a, f => f a
  | .exc c x, _ => .exc c x
  | .bad, _ => .bad
instance : Monad Res where
  pure := Res.ok
  bind := Res.bind
@[simp] theorem bind_ok {α β : Type} (a : α) (f : α → Res β) : (Res.ok a >>= f) = f a := rfl
@[simp] theorem bind_exc {α β : Type} (c : String) (x : Option D) (f : α → Res β) : ((Res.exc c x : Res α) >>= f) = .exc c x := rfl
@[simp] theorem bind_bad {α β : Type} (f : α → Res β) : ((Res.bad : Res α) >>= f) = .bad := rfl
@[simp] theorem pure_eq {α : Type} (a : α) : (pure a : Res α) = .ok a := rfl
theorem bind_def {α β : Type} (r : Res α) (f : α → Res β) : (r >>= f) = r.bind f := rfl
end Res

/-! ### heaps: Hs is what stands still -/
structure Ext (Hs H Hs' H' : Hp) : Prop where
  same : Same H H'
  up : Same Hs Hs'
  sub : Same Hs' H'
  new : ∀ a o, Hs' a = some o → Hs a = some o ∨ H a = none
theorem Ext.refl {Hs H : Hp} (s : Same Hs H) : Ext Hs H Hs H := ⟨Same.refl _, Same.refl _, s, fun _ _ e => .inl e⟩
theorem Ext.trans {Hs H Hs1 H1 Hs2 H2 : Hp} (a : Ext Hs H Hs1 H1) (b : Ext Hs1 H1 Hs2 H2) : Ext Hs H Hs2 H2 :=
  ⟨a.same.trans b.same, a.up.trans b.up, b.sub, fun c o e => by
    rcases b.new c o e with q | q
    · exact a.new c o q
    · exact .inr (a.same.free q)⟩
theorem same_upd {H : Hp} {p : Addr} {o : HO} (h : H p = none) : Same H (upd H p o) := fun b x e => by
  rw [upd_ne (ne_of_none e h)]
  exact e
theorem sameUpd2 {Hs H : Hp} {p : Addr} {o : HO} (s : Same Hs H) : Same (upd Hs p o) (upd H p o) := fun b x e => by
  by_cases hb : b = p
  · subst hb; rw [upd_same] at e ⊢; exact e
  · rw [upd_ne hb] at e ⊢; exact s b x e
theorem Ext.new1 {Hs H : Hp} {p : Addr} {o : HO} (s : Same Hs H) (h : H p = none) : Ext Hs H (upd Hs p o) (upd H p o) :=
  ⟨same_upd h, same_upd (s.free h), (sameUpd2 s), fun a x e => by
    by_cases ha : a = p
    · subst ha; exact .inr h
    · rw [upd_ne ha] at e; exact .inl e⟩

/-- an exception of the program's own: its class, its field at -/
def ExcAt (g : G) (c : String) (x : Option D) (C : Value) (o : Option Addr) (H : Hp) : Prop :=
  ∃ a, g.mg (Str.ofString c) = some (.ref a) ∧ C = .ref a ∧ match x with
    | none => o = none
    | some d => ∃ dd w, o = some dd ∧ H dd = some (.xd [("at", w)]) ∧ R g H w d

/-- what a reckoning must lead to -/
structure Wk {α : Type} (g : G) (E : XK) (H : Hp) (r : Res α) (P : α → Prop) : Prop where
  ok : ∀ a, r = .ok a → P a
  exc : ∀ c x, r = .exc c x → ∀ C o H', Same H H' → ExcAt g c x C o H' → E C o H'
  bad : r ≠ .bad
section
variable {α β : Type} {g : G} {E : XK} {H H' : Hp} {r : Res α} {P P' : α → Prop}
theorem Wk.mono (w : Wk g E H r P) (e : Same H H') (h : ∀ a, P a → P' a) : Wk g E H' r P' :=
  ⟨fun a q => h a (w.ok a q), fun c x q C o H2 s k => w.exc c x q C o H2 (e.trans s) k, w.bad⟩
theorem Wk.bind {k : α → Res β} {Q : β → Prop} (w : Wk g E H (r >>= k) Q) : Wk g E H r (fun a => Wk g E H (k a) Q) := by
  cases r with
  | ok a => exact ⟨fun b e => by cases e; exact w, fun c x e => (nomatch e), fun e => (nomatch e)⟩
  | exc c x => exact ⟨fun b e => (nomatch e), fun c x e => by cases e; exact w.exc _ _ rfl, fun e => (nomatch e)⟩
  | bad => exact absurd rfl w.bad
theorem Wk.is_ok {a : α} (w : Wk g E H (.ok a) P) : P a := w.ok a rfl
theorem Wk.of_ok {a : α} (h : P a) : Wk g E H (.ok a) P := ⟨fun b e => by cases e; exact h, fun c x e => (nomatch e), fun e => (nomatch e)⟩
end

/-! ### expressions -/
abbrev BEnv := List (Option D)
structure EnvR (g : G) (Hs : Hp) (σ : L2.St) (env : BEnv) : Prop where
  len : σ.length = env.length
  get : ∀ (i : Nat) d, env[i]? = some (some d) → ∃ v, σ[i]? = some (some v) ∧ R g Hs v d
theorem EnvR.mono {g : G} {Hs Hs' : Hp} {σ : L2.St} {env : BEnv} (e : EnvR g Hs σ env) (s : Same Hs Hs') : EnvR g Hs' σ env := ⟨e.len, fun i d h =>
  let ⟨v, a, b⟩ := e.get i d h
  ⟨v, a, b.mono s⟩⟩
def Lands (g : G) (Hs H : Hp) (Q : VK) (d : D) : Prop := ∀ v H' Hs', Ext Hs H Hs' H' → R g Hs' v d → Q v H'
def LandsB (g : G) (Hs H : Hp) (Q : Bool → Hp → Prop) (b : Bool) : Prop := ∀ H' Hs', Ext Hs H Hs' H' → Q b H'
def LandsA (g : G) (Hs H : Hp) (Q : List V → Hp → Prop) (ds : List D) : Prop := ∀ vs H' Hs', Ext Hs H Hs' H' → Rs g Hs' vs ds → Q vs H'
/-- reads: the value of f -/
def ER (g : G) (E : XK) (f : BEnv → Res D) : TE := fun σ H Q => ∃ Hs env, Same Hs H ∧ EnvR g Hs σ env ∧ Wk g E H (f env) (Lands g Hs H Q)
def TR (g : G) (E : XK) (f : BEnv → Res Bool) : TT := fun σ H Q => ∃ Hs env, Same Hs H ∧ EnvR g Hs σ env ∧ Wk g E H (f env) (LandsB g Hs H Q)
def AR (g : G) (E : XK) (f : BEnv → Res (List D)) : TA := fun σ H Q => ∃ Hs env, Same Hs H ∧ EnvR g Hs σ env ∧ Wk g E H (f env) (LandsA g Hs H Q)

section
variable {X : Cx} {g : G} {E : XK} {e a b : Expr} {pos : Pos} {f h : BEnv → Res D}
theorem PE_mono {t t' : TE} (p : PE X e t) (k : ∀ σ H Q, t' σ H Q → t σ H Q) : PE X e t' := ⟨fun pins s σ H Q I w => p.run pins s σ H Q I (k σ H Q w)⟩
theorem PT_mono {t t' : TT} (p : PT X e t) (k : ∀ σ H Q, t' σ H Q → t σ H Q) : PT X e t' := ⟨fun pins s σ H Q I w => p.run pins s σ H Q I (k σ H Q w)⟩
theorem PW_mono {t t' : TT} (p : PW X e t) (k : ∀ σ H Q, t' σ H Q → t σ H Q) : PW X e t' := ⟨fun wh pins s σ H Q I w => p.run wh pins s σ H Q I (k σ H Q w)⟩
theorem PA_mono {es : List Expr} {t t' : TA} (p : PA X es t) (k : ∀ σ H Q, t' σ H Q → t σ H Q) : PA X es t' := ⟨fun pos pins s σ H Q I w => p.run pos pins s σ H Q I (k σ H Q w)⟩

/-- a name -/
def eVar (i : Nat) : BEnv → Res D := fun env => match env[i]? with
  | some (some d) => .ok d
  | _ => .bad
def eC (d : D) : BEnv → Res D := fun _ => .ok d
theorem se_var (i : Nat) (p : PE X e (tVar i)) : PE X e (ER g E (eVar i)) := PE_mono p fun σ H Q ⟨Hs, env, s, r, w⟩ => by
  unfold eVar at w
  split at w
  · rename_i d hd
    obtain ⟨v, h1, h2⟩ := r.get i d hd
    exact ⟨v, h1, w.is_ok v H Hs (Ext.refl s) h2⟩
  · exact absurd rfl w.bad
theorem se_c {v : V} {d : D} (p : PE X e (tC v)) (r : ∀ H, R g H v d) : PE X e (ER g E (eC d)) := PE_mono p fun σ H Q ⟨Hs, env, s, _, w⟩ => w.is_ok v H Hs (Ext.refl s) (r _)
theorem se_int {i j} : PE X (.Constant (.int i) j pos) (ER g E (eC (.int i))) := se_c pe_int fun _ => .int i
theorem se_bl {i j} : PE X (.Constant (.bool i) j pos) (ER g E (eC (.bl i))) := se_c pe_bl fun _ => .bl i
theorem se_str {i j} : PE X (.Constant (.str i) j pos) (ER g E (eC (.str i))) := se_c pe_str fun _ => .str i
theorem se_non {j} : PE X (.Constant .none j pos) (ER g E (eC .non)) := se_c pe_non fun _ => .non

/-- an operation by values -/
def OpD (g : G) (r : R2) (fn : D → D → Res D) : Prop := ∀ (Hs H : Hp) (v u : V) (a b : D) (Q : VK), Same Hs H → R g Hs v a → R g Hs u b → ∀ E : XK, Wk g E H (fn a b) (Lands g Hs H Q) → r v u H Q
def e2 (fn : D → D → Res D) (f h : BEnv → Res D) : BEnv → Res D := fun env => f env >>= fun x => h env >>= fun y => fn x y
def e1 (fn : D → Res D) (f : BEnv → Res D) : BEnv → Res D := fun env => f env >>= fun x => fn x
theorem two {r : R2} {fn : D → D → Res D} (o : OpD g r fn) {σ : L2.St} {H : Hp} {Q : VK} (w : ER g E (e2 fn f h) σ H Q) :
    ER g E f σ H fun x H1 => ER g E h σ H1 fun y H2 => r x y H2 Q := by
  obtain ⟨Hs, env, s, rr, w⟩ := w
  refine ⟨Hs, env, s, rr, w.bind.mono (Same.refl _) fun a wa v H1 Hs1 x1 r1 => ?_⟩
  refine ⟨Hs1, env, x1.sub, rr.mono x1.up, wa.bind.mono x1.same fun b wb u H2 Hs2 x2 r2 => ?_⟩
  exact o Hs2 H2 v u a b Q x2.sub (r1.mono x2.up) r2 E (wb.mono (x1.same.trans x2.same) fun d l v' H' Hs' x' r' => l v' H' Hs' (x1.trans (x2.trans x')) r')
theorem se_op {op : Operator} {r : R2} {fn : D → D → Res D} (ho : OpR X (binaryOp op) r) (o : OpD g r fn) (ha : PE X a (ER g E f)) (hb : PE X b (ER g E h)) : PE X (.BinOp a op b pos) (ER g E (e2 fn f h)) :=
  PE_mono (pe_op ho ha hb) fun _ _ _ w => two o w
theorem se_cmp {op : CmpOp} {r : R2} {fn : D → D → Res D} (ho : OpR X (compareOp op) r) (o : OpD g r fn) (ha : PE X a (ER g E f)) (hb : PE X b (ER g E h)) (hm : behindInMarks op b = false) : PE X (.Compare a [op] [b] pos) (ER g E (e2 fn f h)) :=
  PE_mono (pe_cmpR ho ha hb hm) fun _ _ _ w => two o w
def isB : D → Res Bool
  | .bl b => .ok b
  | _ => .bad
def tst (f : BEnv → Res D) : BEnv → Res Bool := fun env => f env >>= isB
theorem tst_ER {σ : L2.St} {H : Hp} {Q : Bool → Hp → Prop} (w : TR g E (tst f) σ H Q) : ER g E f σ H fun x H' => ∃ k, x = .bl k ∧ Q k H' := by
  obtain ⟨Hs, env, s, rr, w⟩ := w
  refine ⟨Hs, env, s, rr, w.bind.mono (Same.refl _) fun d wd v H1 Hs1 x1 r1 => ?_⟩
  cases r1 with
  | bl k => exact ⟨k, rfl, wd.is_ok _ _ x1⟩
  | _ => exact absurd rfl wd.bad
theorem st_cmp {op : CmpOp} {r : R2} {fn : D → D → Res D} (ho : OpR X (compareOp op) r) (o : OpD g r fn) (ha : PE X a (ER g E f)) (hb : PE X b (ER g E h)) (hm : behindInMarks op b = false) : PT X (.Compare a [op] [b] pos) (TR g E (tst (e2 fn f h))) :=
  PT_mono (pt_cmpR ho ha hb hm) fun σ H Q w => two o (tst_ER w)
/-- an expression whose value is a bool, as a test -/
theorem st_val (ha : PE X e (ER g E f)) (he : ∀ whole, isTrue e X.env whole = (do let v ← whole; standAt e.pos; holding [v] (truthy v)) := by intro _; rfl) : PT X e (TR g E (tst f)) :=
  PT_mono (pt_val ha he) fun σ H Q w => tst_ER w
def tNotD (f : BEnv → Res Bool) : BEnv → Res Bool := fun env => f env >>= fun b => .ok (!b)
variable {p q : BEnv → Res Bool}
theorem st_not (ha : PT X a (TR g E p)) : PT X (.UnaryOp .Not a pos) (TR g E (tNotD p)) := PT_mono (pt_not ha) fun σ H Q w => by
  obtain ⟨Hs, env, s, rr, w⟩ := w
  exact ⟨Hs, env, s, rr, w.bind.mono (Same.refl _) fun b wb H' Hs' x => wb.is_ok H' Hs' x⟩
def tAndD (p q : BEnv → Res Bool) : BEnv → Res Bool := fun env => p env >>= fun b => if b = true then q env else .ok false
def tOrD (p q : BEnv → Res Bool) : BEnv → Res Bool := fun env => p env >>= fun b => if b = true then .ok true else q env
theorem tr_next {σ : L2.St} {Hs H H' Hs' : Hp} {env : BEnv} {Q : Bool → Hp → Prop} (rr : EnvR g Hs σ env) (x : Ext Hs H Hs' H') (w : Wk g E H (p env) (LandsB g Hs H Q)) : TR g E p σ H' Q :=
  ⟨Hs', env, x.sub, rr.mono x.up, w.mono x.same fun b l H2 Hs2 x2 => l H2 Hs2 (x.trans x2)⟩
theorem er_next {σ : L2.St} {Hs H H' Hs' : Hp} {env : BEnv} {Q : VK} (rr : EnvR g Hs σ env) (x : Ext Hs H Hs' H') (w : Wk g E H (f env) (Lands g Hs H Q)) : ER g E f σ H' Q :=
  ⟨Hs', env, x.sub, rr.mono x.up, w.mono x.same fun b l v H2 Hs2 x2 r2 => l v H2 Hs2 (x.trans x2) r2⟩
variable {rest : List Expr}
theorem sw_and1 (ha : PT X a (TR g E p)) : PW X (.BoolOp .And [a] pos) (TR g E p) := pw_and1 ha
theorem sw_or1 (ha : PT X a (TR g E p)) : PW X (.BoolOp .Or [a] pos) (TR g E p) := pw_or1 ha
theorem sw_and (ha : PT X a (TR g E p)) (hb : PW X (.BoolOp .And (b :: rest) pos) (TR g E q)) : PW X (.BoolOp .And (a :: b :: rest) pos) (TR g E (tAndD p q)) :=
  PW_mono (pw_and ha hb) fun σ H Q w => by
    obtain ⟨Hs, env, s, rr, w⟩ := w
    refine ⟨Hs, env, s, rr, w.bind.mono (Same.refl _) fun b wb H' Hs' x => ?_⟩
    cases b with
    | true => exact iteT (tr_next rr x (by simpa using wb))
    | false => exact iteF ((by simpa using wb : Wk g E H (.ok false) (LandsB g Hs H Q)).is_ok H' Hs' x)
theorem sw_or (ha : PT X a (TR g E p)) (hb : PW X (.BoolOp .Or (b :: rest) pos) (TR g E q)) : PW X (.BoolOp .Or (a :: b :: rest) pos) (TR g E (tOrD p q)) :=
  PW_mono (pw_or ha hb) fun σ H Q w => by
    obtain ⟨Hs, env, s, rr, w⟩ := w
    refine ⟨Hs, env, s, rr, w.bind.mono (Same.refl _) fun b wb H' Hs' x => ?_⟩
    cases b with
    | false => exact iteF (tr_next rr x (by simpa using wb))
    | true => exact iteT ((by simpa using wb : Wk g E H (.ok true) (LandsB g Hs H Q)).is_ok H' Hs' x)
theorem st_of {e : Expr} (h : PW X e (TR g E p)) : PT X e (TR g E p) := h.pt
/-- and, or, not as values -/
def eAnd (f h : BEnv → Res D) : BEnv → Res D := fun env => f env >>= fun x => isB x >>= fun b => if b = true then h env else .ok (.bl false)
def eOr (f h : BEnv → Res D) : BEnv → Res D := fun env => f env >>= fun x => isB x >>= fun b => if b = true then .ok (.bl true) else h env
theorem se_and (ha : PE X a (ER g E f)) (hb : PE X (.BoolOp .And (b :: rest) pos) (ER g E h)) : PE X (.BoolOp .And (a :: b :: rest) pos) (ER g E (eAnd f h)) :=
  PE_mono (pe_and ha hb) fun σ H Q w => by
    obtain ⟨Hs, env, s, rr, w⟩ := w
    refine ⟨Hs, env, s, rr, w.bind.mono (Same.refl _) fun d wd v H' Hs' x r' => ?_⟩
    cases r' with
    | bl k =>
      refine ⟨k, rfl, ?_⟩
      cases k with
      | true => exact iteT (er_next rr x (by simpa [isB] using wd))
      | false => exact iteF ((by simpa [isB] using wd : Wk g E H (.ok (.bl false)) (Lands g Hs H Q)).is_ok _ H' Hs' x (.bl _))
    | _ => exact absurd rfl wd.bad
theorem se_or (ha : PE X a (ER g E f)) (hb : PE X (.BoolOp .Or (b :: rest) pos) (ER g E h)) : PE X (.BoolOp .Or (a :: b :: rest) pos) (ER g E (eOr f h)) :=
  PE_mono (pe_or ha hb) fun σ H Q w => by
    obtain ⟨Hs, env, s, rr, w⟩ := w
    refine ⟨Hs, env, s, rr, w.bind.mono (Same.refl _) fun d wd v H' Hs' x r' => ?_⟩
    cases r' with
    | bl k =>
      refine ⟨k, rfl, ?_⟩
      cases k with
      | false => exact iteF (er_next rr x (by simpa [isB] using wd))
      | true => exact iteT ((by simpa [isB] using wd : Wk g E H (.ok (.bl true)) (Lands g Hs H Q)).is_ok _ H' Hs' x (.bl _))
    | _ => exact absurd rfl wd.bad
theorem se_one {op} (ha : PE X a (ER g E f)) : PE X (.BoolOp op [a] pos) (ER g E f) := pe_one ha
def eNot (f : BEnv → Res D) : BEnv → Res D := fun env => f env >>= fun x => isB x >>= fun b => .ok (.bl (!b))
theorem se_not (ha : PE X a (ER g E f)) : PE X (.UnaryOp .Not a pos) (ER g E (eNot f)) :=
  PE_mono (pe_not ha) fun σ H Q w => by
    obtain ⟨Hs, env, s, rr, w⟩ := w
    refine ⟨Hs, env, s, rr, w.bind.mono (Same.refl _) fun d wd v H' Hs' x r' => ?_⟩
    cases r' with
    | bl k => exact ⟨k, rfl, (by simpa [isB] using wd : Wk g E H (.ok (.bl (!k))) (Lands g Hs H Q)).is_ok _ H' Hs' x (.bl _)⟩
    | _ => exact absurd rfl wd.bad
def eIf (p : BEnv → Res Bool) (f h : BEnv → Res D) : BEnv → Res D := fun env => p env >>= fun b => if b = true then f env else h env
theorem se_if {c : Expr} (hc : PT X c (TR g E p)) (ha : PE X a (ER g E f)) (hb : PE X b (ER g E h)) : PE X (.IfExp c a b pos) (ER g E (eIf p f h)) :=
  PE_mono (pe_ifExp hc ha hb) fun σ H Q w => by
    obtain ⟨Hs, env, s, rr, w⟩ := w
    refine ⟨Hs, env, s, rr, w.bind.mono (Same.refl _) fun b wb H' Hs' x => ?_⟩
    cases b with
    | true => exact iteT (er_next rr x (by simpa using wb))
    | false => exact iteF (er_next rr x (by simpa using wb))
/-- a < b < c -/
def eChain (fn fn' : D → D → Res D) (f h k : BEnv → Res D) : BEnv → Res D := fun env => f env >>= fun x => h env >>= fun y => fn x y >>= fun z => isB z >>= fun b => if b = true then k env >>= fun w => fn' y w else .ok (.bl false)
theorem chain_ER {r r' : R2} {fn fn' : D → D → Res D} {k : BEnv → Res D} (o : OpD g r fn) (o' : OpD g r' fn') {σ : L2.St} {H : Hp} {Q : VK} (w : ER g E (eChain fn fn' f h k) σ H Q) :
    tChain r r' (ER g E f) (ER g E h) (ER g E k) σ H Q := by
  obtain ⟨Hs, env, s, rr, w⟩ := w
  refine ⟨Hs, env, s, rr, w.bind.mono (Same.refl _) fun a wa v H1 Hs1 x1 r1 => ?_⟩
  refine ⟨Hs1, env, x1.sub, rr.mono x1.up, wa.bind.mono x1.same fun b wb u H2 Hs2 x2 r2 => ?_⟩
  refine o Hs2 H2 v u a b _ x2.sub (r1.mono x2.up) r2 E (wb.bind.mono (x1.same.trans x2.same) fun d wd v' H3 Hs3 x3 r3 => ?_)
  have xx := x1.trans (x2.trans x3)
  cases r3 with
  | bl kk =>
    refine ⟨kk, rfl, ?_⟩
    cases kk with
    | false => exact iteF ((by simpa [isB] using wd : Wk g E H (.ok (.bl false)) (Lands g Hs H Q)).is_ok _ _ _ xx (.bl _))
    | true =>
      have wd' : Wk g E H (k env >>= fun w => fn' b w) (Lands g Hs H Q) := by simpa [isB] using wd
      refine iteT ⟨Hs3, env, x3.sub, rr.mono xx.up, wd'.bind.mono xx.same fun c wc w' H4 Hs4 x4 r4 => ?_⟩
      exact o' Hs4 H4 u w' b c Q x4.sub (r2.mono (x3.trans x4).up) r4 E (wc.mono (xx.trans x4).same fun d l v' H' Hs' x' r' => l v' H' Hs' ((xx.trans x4).trans x') r')
  | _ => exact absurd rfl wd.bad
theorem se_chain {op op' : CmpOp} {r r' : R2} {fn fn' : D → D → Res D} {c : Expr} {k : BEnv → Res D} (ho : OpR X (compareOp op) r) (ho' : OpR X (compareOp op') r') (o : OpD g r fn) (o' : OpD g r' fn') (ha : PE X a (ER g E f)) (hb : PE X b (ER g E h)) (hc : PE X c (ER g E k))
    (w : ∀ {ta tb tc : TE}, PE X a ta → PE X b tb → PE X c tc → PE X e (tChain r r' ta tb tc)) : PE X e (ER g E (eChain fn fn' f h k)) :=
  PE_mono (w ha hb hc) fun _ _ _ w => chain_ER o o' w
theorem st_chain {r r' : R2} {fn fn' : D → D → Res D} {c : Expr} {k : BEnv → Res D} (o : OpD g r fn) (o' : OpD g r' fn') (ha : PE X a (ER g E f)) (hb : PE X b (ER g E h)) (hc : PE X c (ER g E k))
    (w : ∀ {ta tb tc : TE}, PE X a ta → PE X b tb → PE X c tc → PT X e (tTest (tChain r r' ta tb tc))) : PT X e (TR g E (tst (eChain fn fn' f h k))) :=
  PT_mono (w ha hb hc) fun σ H Q w => chain_ER o o' (tst_ER w)
/-- one operand -/
def UnD (g : G) (r : V → Hp → VK → Prop) (fn : D → Res D) : Prop := ∀ (Hs H : Hp) (v : V) (a : D) (Q : VK), Same Hs H → R g Hs v a → ∀ E : XK, Wk g E H (fn a) (Lands g Hs H Q) → r v H Q
theorem one {r : V → Hp → VK → Prop} {fn : D → Res D} (o : UnD g r fn) {σ : L2.St} {H : Hp} {Q : VK} (w : ER g E (e1 fn f) σ H Q) : ER g E f σ H fun x H1 => r x H1 Q := by
  obtain ⟨Hs, env, s, rr, w⟩ := w
  refine ⟨Hs, env, s, rr, w.bind.mono (Same.refl _) fun a wa v H1 Hs1 x1 r1 => ?_⟩
  exact o Hs1 H1 v a Q x1.sub r1 E (wa.mono x1.same fun d l v' H' Hs' x' r' => l v' H' Hs' (x1.trans x') r')
theorem se_un {op : UnaryOp} {r : V → Hp → VK → Prop} {fn : D → Res D} (ho : UnR X (unaryOp op) r) (o : UnD g r fn) (ha : PE X a (ER g E f)) : PE X (.UnaryOp op a pos) (ER g E (e1 fn f)) :=
  PE_mono (pe_un ho ha) fun _ _ _ w => one o w

/-! ### argument lists -/
def aNil : BEnv → Res (List D) := fun _ => .ok []
def aCons (f : BEnv → Res D) (h : BEnv → Res (List D)) : BEnv → Res (List D) := fun env => f env >>= fun x => h env >>= fun xs => .ok (x :: xs)
variable {es : List Expr} {fs : BEnv → Res (List D)}
theorem sa_nil : PA X [] (AR g E aNil) := PA_mono pa_nil fun σ H Q ⟨Hs, env, s, _, w⟩ => w.is_ok [] H Hs (Ext.refl s) .nil
theorem sa_cons (ha : PE X e (ER g E f)) (hr : PA X es (AR g E fs)) (hs : starEach (e :: es) X.env = (false, eval e X.env) :: starEach es X.env := by rfl) : PA X (e :: es) (AR g E (aCons f fs)) :=
  PA_mono (pa_cons ha hr hs) fun σ H Q ⟨Hs, env, s, rr, w⟩ => by
    refine ⟨Hs, env, s, rr, w.bind.mono (Same.refl _) fun a wa v H1 Hs1 x1 r1 => ?_⟩
    refine ⟨Hs1, env, x1.sub, rr.mono x1.up, wa.bind.mono x1.same fun b wb us H2 Hs2 x2 r2 => ?_⟩
    exact wb.is_ok (v :: us) H2 Hs2 (x1.trans x2) (.cons (r1.mono x2.up) r2)
/-- what is reckoned of an argument list's values -/
theorem ar_then {fn : List D → Res D} {r : List V → Hp → VK → Prop} {σ : L2.St} {H : Hp} {Q : VK}
    (o : ∀ (Hs H : Hp) (vs : List V) (ds : List D) (Q : VK), Same Hs H → Rs g Hs vs ds → Wk g E H (fn ds) (Lands g Hs H Q) → r vs H Q)
    (w : ER g E (fun env => fs env >>= fn) σ H Q) : AR g E fs σ H fun vs H1 => r vs H1 Q := by
  obtain ⟨Hs, env, s, rr, w⟩ := w
  refine ⟨Hs, env, s, rr, w.bind.mono (Same.refl _) fun ds wd vs H1 Hs1 x1 r1 => ?_⟩
  exact o Hs1 H1 vs ds Q x1.sub r1 (wd.mono x1.same fun d l v' H' Hs' x' r' => l v' H' Hs' (x1.trans x') r')
/-- displays -/
def eTup (fs : BEnv → Res (List D)) : BEnv → Res D := fun env => fs env >>= fun ds => if ds.length ≤ 1000 then .ok (.tup ds) else .bad
theorem line1000 {n : Nat} (h : n ≤ 1000) : n ≤ sizeLine := Nat.le_of_lt (small1000 h)
theorem se_tup {x1} (h : PA X es (AR g E fs)) : PE X (.Tuple es x1 pos) (ER g E (eTup fs)) :=
  PE_mono (pe_tup h) fun σ H Q w => ar_then (r := fun xs H1 Q => xs.length ≤ sizeLine ∧ ∀ p, H1 p = none → Q (.ref p) (upd H1 p (.tup xs))) (fun Hs H vs ds Q s r w => by
    have w := w
    split at w
    · rename_i hl
      refine ⟨by rw [r.length]; exact line1000 hl, fun p np => w.is_ok _ _ (upd Hs p (.tup vs)) (Ext.new1 s np) (.tup (.inl (.inl upd_same)) (r.mono (same_upd (s.free np))))⟩
    · exact absurd rfl w.bad) w
/-- a builtin's call, an own type's -/
def CallD (g : G) (r : List V → Hp → VK → Prop) (fn : List D → Res D) : Prop := ∀ (Hs H : Hp) (vs : List V) (ds : List D) (Q : VK), Same Hs H → Rs g Hs vs ds → ∀ E : XK, Wk g E H (fn ds) (Lands g Hs H Q) → r vs H Q
def eCall (fn : List D → Res D) (fs : BEnv → Res (List D)) : BEnv → Res D := fun env => fs env >>= fn
theorem se_callB {id : String} {x : Str} {p : Pos} {r : List V → Hp → VK → Prop} {fn : List D → Res D} (hc : CallR X (.builtin id) r) (o : CallD g r fn) (hg : Gl X x) (hm : X.mg x = none) (hv : bootBuiltins x = some (.builtin id)) (ha : PA X (e :: es) (AR g E fs))
    (w : ∀ {t : TA}, PA X (e :: es) t → PE X (.Call (.Name x p) (e :: es) [] pos) (tCB r t)) : PE X (.Call (.Name x p) (e :: es) [] pos) (ER g E (eCall fn fs)) :=
  PE_mono (w ha) fun σ H Q w => ar_then (fun Hs H vs ds Q s r w => o Hs H vs ds Q s r E w) w
end
end PL

set_option Elab.async false
set_option linter.all false
set_option maxRecDepth 100000
set_option maxHeartbeats 1000000
namespace PL
open PySem PySem.Spec PyProof.Rows L2

theorem OpR.any {X : Cx} {f : Value → Value → Sem Value} {r r' : R2} (h : OpR X f r) (h' : OpR X f r') : OpR X f (fun x y H Q => r x y H Q ∨ r' x y H Q) := h.or h'

/-! ### data for == -/
mutual
def toPy : D → PyData
  | .non => .none
  | .bl b => .bool b
  | .int i => .int i
  | .str x => .str x
  | .tup l => .tuple (toPys l)
  | .lst l => .list (toPys l)
  | .scr ns => .list (ns.map PyData.int)
  | .cut _ _ => .none
  | .dic => .none
  | .exn => .none
def toPys : List D → List PyData
  | [] => []
  | d :: ds => toPy d :: toPys ds
end
mutual
/-- data that == takes: of at most so many levels -/
def eqOk : Nat → D → Bool
  | _, .non => true
  | _, .bl _ => true
  | _, .int _ => true
  | _, .str x => PyData.strOk x
  | n, .tup l => decide (0 < n) && eqOks (n - 1) l
  | n, .lst l => decide (0 < n) && eqOks (n - 1) l
  | _, .scr _ => false
  | _, .cut _ _ => false
  | _, .dic => false
  | _, .exn => false
def eqOks : Nat → List D → Bool
  | _, [] => true
  | n, d :: ds => eqOk n d && eqOks n ds
end
mutual
theorem eqOk_dp {g : G} {H : Hp} : ∀ {v : V} {d : D} {n : Nat}, R g H v d → eqOk n d = true → Dp g.K H v (toPy d) ∧ (toPy d).canLay0 = true ∧ (toPy d).depth ≤ n
  | _, _, n, .non, _ => ⟨.non, rfl, Nat.zero_le _⟩
  | _, _, n, .bl b, _ => ⟨.bl b, rfl, Nat.zero_le _⟩
  | _, _, n, .int i, _ => ⟨.int i, rfl, Nat.zero_le _⟩
  | _, _, n, .str x, h => ⟨.str x, by simpa [toPy, PyData.canLay0] using (by simpa [eqOk] using h : PyData.strOk x = true), Nat.zero_le _⟩
  | _, .tup l, n, .tup h r, e => by
    have e' : 0 < n ∧ eqOks (n - 1) l = true := by simpa [eqOk] using e
    obtain ⟨a, b, c⟩ := eqOks_dp r e'.2
    refine ⟨.tup h a, by simpa [toPy, PyData.canLay0] using b, ?_⟩
    show PyData.depth (.tuple (toPys l)) ≤ n
    have : PyData.depth (.tuple (toPys l)) = PyData.depthAll (toPys l) + 1 := by simp only [PyData.depth]
    omega
  | _, .lst l, n, .lst h r, e => by
    have e' : 0 < n ∧ eqOks (n - 1) l = true := by simpa [eqOk] using e
    obtain ⟨a, b, c⟩ := eqOks_dp r e'.2
    refine ⟨.lst (SqL.of h) a, by simpa [toPy, PyData.canLay0] using b, ?_⟩
    show PyData.depth (.list (toPys l)) ≤ n
    have : PyData.depth (.list (toPys l)) = PyData.depthAll (toPys l) + 1 := by simp only [PyData.depth]
    omega
  | _, _, _, .scr _, e => by simp [eqOk] at e
  | _, _, _, .cut _ _ _, e => by simp [eqOk] at e
  | _, _, _, .dic _, e => by simp [eqOk] at e
  | _, _, _, .exn _, e => by simp [eqOk] at e
theorem eqOks_dp {g : G} {H : Hp} : ∀ {vs : List V} {ds : List D} {n : Nat}, Rs g H vs ds → eqOks n ds = true → DpAll g.K H vs (toPys ds) ∧ PyData.canLayAll0 (toPys ds) = true ∧ PyData.depthAll (toPys ds) ≤ n
  | _, _, n, .nil, _ => ⟨.nil, rfl, Nat.zero_le _⟩
  | _, d :: ds, n, .cons h r, e => by
    have e' : eqOk n d = true ∧ eqOks n ds = true := by simpa [eqOks] using e
    obtain ⟨a, b, c⟩ := eqOk_dp h e'.1
    obtain ⟨a2, b2, c2⟩ := eqOks_dp r e'.2
    refine ⟨.cons a a2, by simp [toPys, PyData.canLayAll0, b, b2], ?_⟩
    show PyData.depthAll (toPy d :: toPys ds) ≤ n
    have : PyData.depthAll (toPy d :: toPys ds) = max (PyData.depth (toPy d)) (PyData.depthAll (toPys ds)) := by simp only [PyData.depthAll]
    omega
end
theorem shaped_of {g : G} {H : Hp} {v : V} {d : D} (r : R g H v d) (h : eqOk 60 d = true) : Dp g.K H v (toPy d) ∧ SeqAt.shaped (toPy d) = true := by
  obtain ⟨a, b, c⟩ := eqOk_dp r h
  refine ⟨a, ?_⟩
  unfold SeqAt.shaped
  rw [b, Bool.true_and]
  exact decide_eq_true (by omega)
def deq (a b : D) : Bool := PyData.eqv (toPy a) (toPy b)
def deqs (a b : List D) : Bool := PyData.eqvAll (toPys a) (toPys b)
def eqD (a b : D) : Res D := if eqOk 60 a = true ∧ eqOk 60 b = true then .ok (.bl (deq a b)) else .bad
def neD (a b : D) : Res D := if eqOk 60 a = true ∧ eqOk 60 b = true then .ok (.bl (!deq a b)) else .bad

/-! ### operations by values -/
section
variable {g : G}
theorem wk_if {E : XK} {H : Hp} {c : Prop} [Decidable c] {α : Type} {a : α} {P : α → Prop} (w : Wk g E H (if c then .ok a else .bad) P) : c ∧ P a := by
  by_cases h : c
  · rw [if_pos h] at w; exact ⟨h, w.is_ok⟩
  · rw [if_neg h] at w; exact absurd rfl w.bad
theorem lands_new {Hs H : Hp} {Q : VK} {d : D} {o : HO} {p : Addr} (l : Lands g Hs H Q d) (s : Same Hs H) (np : H p = none) (r : R g (upd Hs p o) (.ref p) d) : Q (.ref p) (upd H p o) := l _ _ _ (Ext.new1 s np) r

def addD : D → D → Res D
  | .int i, .int j => .ok (.int (i + j))
  | .tup a, .tup b => if a.length + b.length ≤ 1000000 then .ok (.tup (a ++ b)) else .bad
  | .lst a, .lst b => if a.length + b.length ≤ 1000000 then .ok (.lst (a ++ b)) else .bad
  | .str x, .str y => if x.length + y.length ≤ 1000000 then .ok (.str (x ++ y)) else .bad
  | _, _ => .bad
theorem line6 {n : Nat} (h : n ≤ 1000000) : n ≤ sizeLine := Nat.le_trans h (by decide)
abbrev rAddD (K : PySem.W.Frag) : R2 := fun x y H Q => (rI0 (fun i j => .int (i + j)) x y H Q ∨ rCatA K x y H Q) ∨ (rCat x y H Q ∨ (∃ i j, x = .str i ∧ y = .str j ∧ i.length + j.length ≤ sizeLine ∧ Q (.str (i ++ j)) H))
theorem or_add {X : Cx} : OpR X (binaryOp .Add) (rAddD X.K) := (op_add.or op_catA).or (op_cat.or op_add_str)
theorem od_add : OpD g (rAddD g.K) addD := by
  intro Hs H v u a b Q s r1 r2 E w
  cases r1 with
  | int i =>
    cases r2 with
    | int j => exact .inl (.inl ⟨i, j, rfl, rfl, w.is_ok _ _ _ (Ext.refl s) (.int _)⟩)
    | _ => exact absurd rfl w.bad
  | tup h1 q1 =>
    cases r2 with
    | tup h2 q2 =>
      obtain ⟨hl, l⟩ := wk_if w
      refine .inl (.inr ⟨_, _, _, _, rfl, rfl, SameT s h1, SameT s h2, by rw [q1.length, q2.length]; exact line6 hl, fun e => ?_, fun _ e => ?_, fun _ _ p np => ?_⟩)
      · refine l _ _ _ (Ext.refl s) (.tup h2 ?_)
        have := q1.append q2
        rw [e] at this
        exact this
      · refine l _ _ _ (Ext.refl s) (.tup h1 ?_)
        have := q1.append q2
        rw [e, List.append_nil] at this
        exact this
      · exact lands_new l s np (.tup (.inl (.inl upd_same)) ((q1.append q2).mono (same_upd (s.free np))))
    | _ => exact absurd rfl w.bad
  | lst h1 q1 =>
    cases r2 with
    | lst h2 q2 =>
      obtain ⟨hl, l⟩ := wk_if w
      refine .inr (.inl ⟨_, _, _, _, rfl, rfl, s _ _ h1, s _ _ h2, by rw [q1.length, q2.length]; exact line6 hl, fun p np => ?_⟩)
      exact lands_new l s np (.lst upd_same ((q1.append q2).mono (same_upd (s.free np))))
    | _ => exact absurd rfl w.bad
  | str x =>
    cases r2 with
    | str y =>
      obtain ⟨hl, l⟩ := wk_if w
      exact .inr (.inr ⟨_, _, rfl, rfl, line6 hl, l _ _ _ (Ext.refl s) (.str _)⟩)
    | _ => exact absurd rfl w.bad
  | _ => exact absurd rfl w.bad

/-- two ints -/
def iiD (c : Int → Int → Bool) (f : Int → Int → D) : D → D → Res D
  | .int i, .int j => if c i j = true then .ok (f i j) else .bad
  | _, _ => .bad
theorem od_ii {C : Int → Int → Prop} {h : Int → Int → V} {c : Int → Int → Bool} {f : Int → Int → D} (hc : ∀ i j, c i j = true → C i j) (hf : ∀ H i j, R g H (h i j) (f i j)) : OpD g (rI C h) (iiD c f) := by
  intro Hs H v u a b Q s r1 r2 E w
  cases r1 with
  | int i =>
    cases r2 with
    | int j =>
      obtain ⟨e, l⟩ := wk_if w
      exact ⟨i, j, rfl, rfl, hc i j e, l _ _ _ (Ext.refl s) (hf _ i j)⟩
    | _ => exact absurd rfl w.bad
  | _ => exact absurd rfl w.bad
def iiD0 (f : Int → Int → D) : D → D → Res D
  | .int i, .int j => .ok (f i j)
  | _, _ => .bad
theorem od_ii0 {h : Int → Int → V} {f : Int → Int → D} (hf : ∀ H i j, R g H (h i j) (f i j)) : OpD g (rI0 h) (iiD0 f) := by
  intro Hs H v u a b Q s r1 r2 E w
  cases r1 with
  | int i =>
    cases r2 with
    | int j => exact ⟨i, j, rfl, rfl, w.is_ok _ _ _ (Ext.refl s) (hf _ i j)⟩
    | _ => exact absurd rfl w.bad
  | _ => exact absurd rfl w.bad
def subD : D → D → Res D := iiD0 fun i j => .int (i - j)
theorem od_sub : OpD g (rI0 fun i j => V.int (i - j)) subD := od_ii0 fun _ _ _ => .int _
def ltD : D → D → Res D := iiD0 fun i j => .bl (decide (i < j))
def leD : D → D → Res D := iiD0 fun i j => .bl (decide (i ≤ j))
def gtD : D → D → Res D := iiD0 fun i j => .bl (decide (j < i))
def geD : D → D → Res D := iiD0 fun i j => .bl (decide (j ≤ i))
theorem od_lt : OpD g (rI0 fun i j => V.bl (decide (i < j))) ltD := od_ii0 fun _ _ _ => .bl _
theorem od_le : OpD g (rI0 fun i j => V.bl (decide (i ≤ j))) leD := od_ii0 fun _ _ _ => .bl _
theorem od_gt : OpD g (rI0 fun i j => V.bl (decide (j < i))) gtD := od_ii0 fun _ _ _ => .bl _
theorem od_ge : OpD g (rI0 fun i j => V.bl (decide (j ≤ i))) geD := od_ii0 fun _ _ _ => .bl _

/-! great ints -/
def mulOk (i j : Int) : Bool := decide (i.natAbs.log2 + j.natAbs.log2 < 100000000)
theorem mulOk_ok {i j : Int} (h : mulOk i j = true) : IntMulOk i j := by
  have b : ∀ x : Int, Builtin.Int.intBits x ≤ x.natAbs.log2 + 1 := fun x => by
    unfold Builtin.Int.intBits
    split <;> omega
  have h1 := b i
  have h2 := b j
  have h3 : i.natAbs.log2 + j.natAbs.log2 < 100000000 := of_decide_eq_true h
  have e : bitsLine = 134217728 := by decide
  unfold IntMulOk
  intro z
  rw [Bool.and_eq_true] at z
  have z2 := z.2
  unfold Builtin.Int.intTooBig at z2
  have z3 := of_decide_eq_true z2
  rw [e] at z3
  omega
theorem op_mulB {X : Cx} : OpR X (binaryOp .Mult) (rI (fun i j => IntMulOk i j) fun i j => .int (i * j)) := opI fun _ _ _ _ _ _ _ hc q => mul_int q hc
/-- a division that the machine's own way does -/
def divOk (i j : Int) : Bool := decide (j ≠ 0) && !Builtin.divisionGoesByPylong i j
theorem op_fdivB {X : Cx} : OpR X (binaryOp .FloorDiv) (rI (fun i j => j ≠ 0 ∧ Builtin.divisionGoesByPylong i j = false) fun i j => .int (i.fdiv j)) := opI fun i j _ _ _ _ _ hc q => floordiv_int hc.1 q (.inl hc.2)
def fdivD : D → D → Res D := iiD divOk fun i j => .int (i.fdiv j)
theorem od_fdiv : OpD g (rI (fun i j => j ≠ 0 ∧ Builtin.divisionGoesByPylong i j = false) fun i j => V.int (i.fdiv j)) fdivD := od_ii (fun i j h => by
  unfold divOk at h
  rw [Bool.and_eq_true] at h
  exact ⟨of_decide_eq_true h.1, by simpa using h.2⟩) fun _ _ _ => .int _
def modD : D → D → Res D := iiD (fun _ j => decide (j ≠ 0)) fun i j => .int (i.fmod j)
theorem od_mod : OpD g (rI (fun _ j => j ≠ 0) fun i j => V.int (i.fmod j)) modD := od_ii (fun i j h => by simpa using h) fun _ _ _ => .int _
def powD : D → D → Res D := iiD (fun i j => decide (0 ≤ j ∧ j ≤ 1000000 ∧ i.natAbs < 2 ^ 64)) fun i j => .int (i ^ j.toNat)
theorem od_pow : OpD g (rI CPow fun i j => V.int (i ^ j.toNat)) powD := od_ii (fun i j h => (of_decide_eq_true h : 0 ≤ j ∧ j ≤ 1000000 ∧ i.natAbs < 2 ^ 64)) fun _ _ _ => .int _
def negD : D → Res D
  | .int i => .ok (.int (-i))
  | _ => .bad
theorem ud_neg : UnD g (rU fun i => V.int (-i)) negD := by
  intro Hs H v a Q s r E w
  cases r with
  | int i => exact ⟨i, rfl, w.is_ok _ _ _ (Ext.refl s) (.int _)⟩
  | _ => exact absurd rfl w.bad
/-- * -/
def mulD : D → D → Res D
  | .int i, .int j => if mulOk i j = true then .ok (.int (i * j)) else .bad
  | .lst a, .int k => if 0 ≤ k ∧ k ≤ 1000 ∧ a.length ≤ 1000 then .ok (.lst (List.replicate k.toNat a).flatten) else .bad
  | .tup a, .int k => if 2 ≤ k ∧ k ≤ 1000 ∧ a.length ≤ 1000 ∧ a ≠ [] then .ok (.tup (List.replicate k.toNat a).flatten) else .bad
  | _, _ => .bad
abbrev rMulD (K : PySem.W.Frag) : R2 := fun x y H Q => rI (fun i j => IntMulOk i j) (fun i j => .int (i * j)) x y H Q ∨ (rRep x y H Q ∨ rRepT K x y H Q)
theorem or_mul {X : Cx} : OpR X (binaryOp .Mult) (rMulD X.K) := op_mulB.or (op_rep.or op_repT)
theorem od_mul : OpD g (rMulD g.K) mulD := by
  intro Hs H v u a b Q s r1 r2 E w
  cases r1 with
  | int i =>
    cases r2 with
    | int j =>
      obtain ⟨e, l⟩ := wk_if w
      exact .inl ⟨i, j, rfl, rfl, mulOk_ok e, l _ _ _ (Ext.refl s) (.int _)⟩
    | _ => exact absurd rfl w.bad
  | lst h q =>
    cases r2 with
    | int k =>
      obtain ⟨⟨k0, k1, k2⟩, l⟩ := wk_if w
      refine .inr (.inl ⟨_, k, _, rfl, rfl, s _ _ h, by omega, by omega, ?_, fun p np => ?_⟩)
      · rw [q.length]
        have : k.toNat ≤ 1000 := by omega
        exact line6 (Nat.mul_le_mul k2 this)
      · exact lands_new l s np (.lst upd_same ((q.rep _).mono (same_upd (s.free np))))
    | _ => exact absurd rfl w.bad
  | tup h q =>
    cases r2 with
    | int k =>
      obtain ⟨⟨k0, k1, k2, k3⟩, l⟩ := wk_if w
      refine .inr (.inr ⟨_, k, _, rfl, rfl, SameT s h, fun e => k3 ?_, k0, k1, by rw [q.length]; exact k2, fun p np => ?_⟩)
      · rw [e] at q
        cases q
        rfl
      · exact lands_new l s np (.tup (.inl (.inl upd_same)) ((q.rep _).mono (same_upd (s.free np))))
    | _ => exact absurd rfl w.bad
  | _ => exact absurd rfl w.bad
/-! == -/
theorem od_eq : OpD g (rEqD g.K) eqD := by
  intro Hs H v u a b Q s r1 r2 E w
  obtain ⟨⟨h1, h2⟩, l⟩ := wk_if w
  obtain ⟨d1, s1⟩ := shaped_of (r1.mono s) h1
  obtain ⟨d2, s2⟩ := shaped_of (r2.mono s) h2
  exact ⟨_, _, d1, d2, s1, s2, l _ _ _ (Ext.refl s) (.bl _)⟩
theorem od_ne : OpD g (rNeD g.K) neD := by
  intro Hs H v u a b Q s r1 r2 E w
  obtain ⟨⟨h1, h2⟩, l⟩ := wk_if w
  obtain ⟨d1, s1⟩ := shaped_of (r1.mono s) h1
  obtain ⟨d2, s2⟩ := shaped_of (r2.mono s) h2
  exact ⟨_, _, d1, d2, s1, s2, l _ _ _ (Ext.refl s) (.bl _)⟩
/-! is None -/
def isND : D → D → Res D := fun a b => match b with
  | .non => match a with
    | .non => .ok (.bl true)
    | _ => .ok (.bl false)
  | _ => .bad
def notND : D → D → Res D := fun a b => match b with
  | .non => match a with
    | .non => .ok (.bl false)
    | _ => .ok (.bl true)
  | _ => .bad
theorem od_isN : OpD g (fun x y H Q => y = .non ∧ Q (.bl (decide (x = .non))) H) isND := by
  intro Hs H v u a b Q s r1 r2 E w
  cases r2 with
  | non => cases r1 <;> exact ⟨rfl, w.is_ok _ _ _ (Ext.refl s) (.bl _)⟩
  | _ => exact absurd rfl w.bad
theorem od_notN : OpD g (fun x y H Q => y = .non ∧ Q (.bl (!decide (x = .non))) H) notND := by
  intro Hs H v u a b Q s r1 r2 E w
  cases r2 with
  | non => cases r1 <;> exact ⟨rfl, w.is_ok _ _ _ (Ext.refl s) (.bl _)⟩
  | _ => exact absurd rfl w.bad
/-! builtins -/
def lenD : List D → Res D
  | [.tup l] => .ok (.int l.length)
  | [.lst l] => .ok (.int l.length)
  | [.scr l] => .ok (.int l.length)
  | [.str x] => if x.length ≤ 1000000 then .ok (.int x.length) else .bad
  | _ => .bad
theorem cd_len : CallD g (fun xs H Q => ∃ x n, xs = [x] ∧ LenV g.K x H n ∧ Q (.int n) H) lenD := by
  intro Hs H vs ds Q s r E w
  unfold lenD at w
  split at w
  · obtain ⟨⟩ | ⟨r, r0⟩ := r
    cases r0
    cases r with
    | tup h q => exact ⟨_, _, rfl, .inr ⟨_, SameT s h, rfl⟩, by rw [q.length]; exact w.is_ok _ _ _ (Ext.refl s) (.int _)⟩
  · obtain ⟨⟩ | ⟨r, r0⟩ := r
    cases r0
    cases r with
    | lst h q => exact ⟨_, _, rfl, .inl ⟨_, SqL.of (s _ _ h), rfl⟩, by rw [q.length]; exact w.is_ok _ _ _ (Ext.refl s) (.int _)⟩
  · obtain ⟨⟩ | ⟨r, r0⟩ := r
    cases r0
    cases r with
    | scr h => exact ⟨_, _, rfl, .inl ⟨_, s.seq h, rfl⟩, by rw [List.length_map]; exact w.is_ok _ _ _ (Ext.refl s) (.int _)⟩
  · obtain ⟨⟩ | ⟨r, r0⟩ := r
    cases r0
    cases r with
    | str x =>
      obtain ⟨e, l⟩ := wk_if w
      exact ⟨_, _, rfl, ⟨line6 e, rfl⟩, l _ _ _ (Ext.refl s) (.int _)⟩
  · exact absurd rfl w.bad
def absD : List D → Res D
  | [.int i] => .ok (.int (if i < 0 then -i else i))
  | _ => .bad
theorem cd_abs : CallD g (fun xs H Q => ∃ i, xs = [.int i] ∧ Q (.int (if i < 0 then -i else i)) H) absD := by
  intro Hs H vs ds Q s r E w
  unfold absD at w
  split at w
  · obtain ⟨⟩ | ⟨r, r0⟩ := r
    cases r0
    cases r with
    | int i => exact ⟨_, rfl, w.is_ok _ _ _ (Ext.refl s) (.int _)⟩
  · exact absurd rfl w.bad
def max2D : List D → Res D
  | [.int i, .int j] => .ok (.int (if j > i then j else i))
  | _ => .bad
def min2D : List D → Res D
  | [.int i, .int j] => .ok (.int (if j < i then j else i))
  | _ => .bad
theorem cd_max2 : CallD g (fun xs H Q => ∃ i j, xs = [.int i, .int j] ∧ Q (.int (if j > i then j else i)) H) max2D := by
  intro Hs H vs ds Q s r E w
  unfold max2D at w
  split at w
  · obtain ⟨⟩ | ⟨r, r0⟩ := r
    obtain ⟨⟩ | ⟨r1, r0⟩ := r0
    cases r0
    cases r
    cases r1
    exact ⟨_, _, rfl, w.is_ok _ _ _ (Ext.refl s) (.int _)⟩
  · exact absurd rfl w.bad
theorem cd_min2 : CallD g (fun xs H Q => ∃ i j, xs = [.int i, .int j] ∧ Q (.int (if j < i then j else i)) H) min2D := by
  intro Hs H vs ds Q s r E w
  unfold min2D at w
  split at w
  · obtain ⟨⟩ | ⟨r, r0⟩ := r
    obtain ⟨⟩ | ⟨r1, r0⟩ := r0
    cases r0
    cases r
    cases r1
    exact ⟨_, _, rfl, w.is_ok _ _ _ (Ext.refl s) (.int _)⟩
  · exact absurd rfl w.bad
def intD : List D → Res D
  | [.int i] => .ok (.int i)
  | [.bl b] => .ok (.int (if b = true then 1 else 0))
  | _ => .bad
theorem cd_int : CallD g (fun xs H Q => (∃ i, xs = [.int i] ∧ Q (.int i) H) ∨ ∃ k, xs = [.bl k] ∧ Q (.int (if k then 1 else 0)) H) intD := by
  intro Hs H vs ds Q s r E w
  unfold intD at w
  split at w
  · obtain ⟨⟩ | ⟨r, r0⟩ := r
    cases r0
    cases r
    exact .inl ⟨_, rfl, w.is_ok _ _ _ (Ext.refl s) (.int _)⟩
  · obtain ⟨⟩ | ⟨r, r0⟩ := r
    cases r0
    cases r
    exact .inr ⟨_, rfl, w.is_ok _ _ _ (Ext.refl s) (.int _)⟩
  · exact absurd rfl w.bad
end
/-! subscripts -/
section
variable {X : Cx} {g : G} {E : XK} {a b : Expr} {pos : Pos} {f h : BEnv → Res D}
def atD (l : List D) (i : Int) : Res D := match ixN l.length i with
  | some j => match l[j]? with
    | some d => .ok d
    | none => .bad
  | none => .bad
def ixD : D → D → Res D
  | .tup l, .int i => atD l i
  | .lst l, .int i => atD l i
  | .scr l, .int i => match atI l i with
    | some z => .ok (.int z)
    | none => .bad
  | .str x, .int i => if x.length ≤ 1000000 then match atI x.cps.toList i with
    | some c => .ok (.str ⟨#[c]⟩)
    | none => .bad
    else .bad
  | _, _ => .bad
theorem atD_ok {H : Hp} {vs : List V} {l : List D} {i : Int} {P : D → Prop} {E : XK} {H' : Hp} (r : Rs g H vs l) (w : Wk g E H' (atD l i) P) : ∃ v d, atI vs i = some v ∧ R g H v d ∧ P d := by
  unfold atD at w
  split at w
  · rename_i j hj
    split at w
    · rename_i d hd
      obtain ⟨v, h1, h2⟩ := r.get hd
      refine ⟨v, d, ?_, h2, w.is_ok⟩
      unfold atI
      rw [r.length, hj]
      exact h1
    · exact absurd rfl w.bad
  · exact absurd rfl w.bad
theorem atI_map {α β : Type} (k : α → β) (l : List α) (i : Int) : atI (l.map k) i = (atI l i).map k := by
  unfold atI
  rw [List.length_map]
  cases ixN l.length i with
  | none => rfl
  | some j => simp
theorem od_ix : OpD g (rIx g.K) ixD := by
  intro Hs H v u a b Q s r1 r2 E w
  cases r1 with
  | tup h q =>
    cases r2 with
    | int i =>
      obtain ⟨v, d, e1, e2, l⟩ := atD_ok q w
      exact .inr (.inl ⟨_, _, i, v, rfl, rfl, SameT s h, e1, l _ _ _ (Ext.refl s) e2⟩)
    | _ => exact absurd rfl w.bad
  | lst h q =>
    cases r2 with
    | int i =>
      obtain ⟨v, d, e1, e2, l⟩ := atD_ok q w
      exact .inl ⟨_, _, i, v, rfl, rfl, SqL.of (s _ _ h), e1, l _ _ _ (Ext.refl s) e2⟩
    | _ => exact absurd rfl w.bad
  | scr h =>
    rename_i a ns
    cases r2 with
    | int i =>
      have w : Wk g E H (match atI ns i with | some z => Res.ok (D.int z) | none => .bad) (Lands g Hs H Q) := w
      split at w
      · rename_i z hz
        exact .inl ⟨_, _, i, .int z, rfl, rfl, s.seq h, by rw [atI_map, hz]; rfl, w.is_ok _ _ _ (Ext.refl s) (.int _)⟩
      · exact absurd rfl w.bad
    | _ => exact absurd rfl w.bad
  | str x =>
    cases r2 with
    | int i =>
      have w : Wk g E H (if x.length ≤ 1000000 then match atI x.cps.toList i with | some c => Res.ok (D.str ⟨#[c]⟩) | none => .bad else .bad) (Lands g Hs H Q) := w
      split at w
      · rename_i hl
        split at w
        · rename_i c hc
          exact .inr (.inr ⟨x, i, c, rfl, rfl, line6 hl, hc, w.is_ok _ _ _ (Ext.refl s) (.str _)⟩)
        · exact absurd rfl w.bad
      · exact absurd rfl w.bad
    | _ => exact absurd rfl w.bad
  | _ => exact absurd rfl w.bad
theorem se_ix (hg : X.K = g.K) (ha : PE X a (ER g E f)) (hb : PE X b (ER g E h)) (hs : PlainIx b) : PE X (.Subscript a b pos) (ER g E (e2 ixD f h)) :=
  PE_mono (pe_ix (hg ▸ ix_seq) ha hb hs) fun _ _ _ w => two od_ix w
end
end PL

set_option Elab.async false
set_option linter.all false
set_option maxRecDepth 100000
set_option maxHeartbeats 1000000
namespace PL
open PySem PySem.Spec PyProof.Rows L2

/-! ### states: a slot holds a value, or a list of the def's own -/
inductive Cell where
  | val (d : D) | own (l : List D)
def Cell.toD : Cell → D
  | .val d => d
  | .own l => .lst l
abbrev Env := List (Option Cell)
def Env.borrow (env : Env) : BEnv := env.map (Option.map Cell.toD)
def cleanC : Option Cell → Option D
  | some (.val d) => some d
  | _ => none
def Env.clean (env : Env) : BEnv := env.map cleanC

structure StR (g : G) (B Hs0 Hs H : Hp) (σ : L2.St) (env : Env) : Prop where
  keep : Same B H
  sub0 : Same Hs0 Hs
  sub : Same Hs H
  new : ∀ a o, Hs a = some o → Hs0 a = some o ∨ B a = none
  len : σ.length = env.length
  val : ∀ (i : Nat) d, env[i]? = some (some (.val d)) → ∃ v, σ[i]? = some (some v) ∧ R g Hs v d
  own : ∀ (i : Nat) l, env[i]? = some (some (.own l)) → ∃ a vs, σ[i]? = some (some (.ref a)) ∧ Hs a = none ∧ B a = none ∧ H a = some (.lst vs) ∧ Rs g Hs vs l
  dis : ∀ (i j : Nat) l m a, i ≠ j → env[i]? = some (some (.own l)) → env[j]? = some (some (.own m)) → σ[i]? = some (some (.ref a)) → σ[j]? ≠ some (some (.ref a))

section
variable {g : G} {B Hs0 Hs H Hs' H' : Hp} {σ : L2.St} {env : Env}
theorem StR.clean (r : StR g B Hs0 Hs H σ env) : EnvR g Hs σ env.clean := ⟨by unfold Env.clean; rw [List.length_map, r.len], fun i d h => by
  unfold Env.clean at h
  rw [List.getElem?_map] at h
  cases e : env[i]? with
  | none => rw [e] at h; simp at h
  | some c =>
    rw [e] at h
    cases c with
    | none => simp [cleanC] at h
    | some c =>
      cases c with
      | val x =>
        have : x = d := by simpa [cleanC] using h
        subst this
        exact r.val i x e
      | own l => simp [cleanC] at h⟩
def isRoot (σ : L2.St) (env : Env) (a : Addr) : Prop := ∃ (i : Nat) (l : List D), env[i]? = some (some (.own l)) ∧ σ[i]? = some (some (.ref a))
open Classical in
noncomputable def Hbor (Hs H : Hp) (σ : L2.St) (env : Env) : Hp := fun a => if isRoot σ env a then H a else Hs a
open Classical in
noncomputable def Hcut (Hb : Hp) (σ : L2.St) (env : Env) : Hp := fun a => if isRoot σ env a then none else Hb a
theorem hb_root {a : Addr} (h : isRoot σ env a) : Hbor Hs H σ env a = H a := if_pos h
theorem hb_not {a : Addr} (h : ¬ isRoot σ env a) : Hbor Hs H σ env a = Hs a := if_neg h
theorem hc_root {Hb : Hp} {a : Addr} (h : isRoot σ env a) : Hcut Hb σ env a = none := if_pos h
theorem hc_not {Hb : Hp} {a : Addr} (h : ¬ isRoot σ env a) : Hcut Hb σ env a = Hb a := if_neg h
theorem StR.root (r : StR g B Hs0 Hs H σ env) {a : Addr} (h : isRoot σ env a) : Hs a = none ∧ B a = none ∧ ∃ vs, H a = some (.lst vs) := by
  obtain ⟨i, l, e, q⟩ := h
  obtain ⟨a', vs, q', h1, h2, h3, _⟩ := r.own i l e
  rw [q] at q'
  have : a = a' := by simpa using q'
  subst this
  exact ⟨h1, h2, vs, h3⟩
theorem StR.hb_up (r : StR g B Hs0 Hs H σ env) : Same Hs (Hbor Hs H σ env) := fun a o e => by
  by_cases h : isRoot σ env a
  · have := (r.root h).1; rw [e] at this; cases this
  · rw [hb_not h]; exact e
theorem StR.hb_sub (r : StR g B Hs0 Hs H σ env) : Same (Hbor Hs H σ env) H := fun a o e => by
  by_cases h : isRoot σ env a
  · rw [hb_root h] at e; exact e
  · rw [hb_not h] at e; exact r.sub a o e
theorem StR.borrow (r : StR g B Hs0 Hs H σ env) : EnvR g (Hbor Hs H σ env) σ env.borrow := ⟨by unfold Env.borrow; rw [List.length_map, r.len], fun i d h => by
  unfold Env.borrow at h
  rw [List.getElem?_map] at h
  cases e : env[i]? with
  | none => rw [e] at h; simp at h
  | some c =>
    rw [e] at h
    cases c with
    | none => simp at h
    | some c =>
      have hd : c.toD = d := by simpa using h
      subst hd
      cases c with
      | val x =>
        obtain ⟨v, h1, h2⟩ := r.val i x e
        exact ⟨v, h1, h2.mono r.hb_up⟩
      | own l =>
        obtain ⟨a, vs, h1, h2, h3, h4, h5⟩ := r.own i l e
        exact ⟨_, h1, .lst (by rw [hb_root ⟨i, l, e, h1⟩]; exact h4) (h5.mono r.hb_up)⟩⟩
/-- behind an expression whose value stands still -/
theorem StR.ext (r : StR g B Hs0 Hs H σ env) (x : Ext Hs H Hs' H') : StR g B Hs0 Hs' H' σ env where
  keep := r.keep.trans x.same
  sub0 := r.sub0.trans x.up
  sub := x.sub
  new := fun a o e => by
    rcases x.new a o e with q | q
    · exact r.new a o q
    · exact .inr (r.keep.free q)
  len := r.len
  val := fun i d e => let ⟨v, a, b⟩ := r.val i d e; ⟨v, a, b.mono x.up⟩
  own := fun i l e => by
    obtain ⟨a, vs, h1, h2, h3, h4, h5⟩ := r.own i l e
    refine ⟨a, vs, h1, ?_, h3, x.same _ _ h4, h5.mono x.up⟩
    cases q : Hs' a with
    | none => rfl
    | some o =>
      rcases x.new a o q with z | z
      · rw [h2] at z; cases z
      · rw [h4] at z; cases z
  dis := r.dis
/-- behind an expression whose value is dropped -/
theorem StR.same (r : StR g B Hs0 Hs H σ env) (x : Same H H') : StR g B Hs0 Hs H' σ env where
  keep := r.keep.trans x
  sub0 := r.sub0
  sub := r.sub.trans x
  new := r.new
  len := r.len
  val := r.val
  own := fun i l e => let ⟨a, vs, h1, h2, h3, h4, h5⟩ := r.own i l e; ⟨a, vs, h1, h2, h3, x _ _ h4, h5⟩
  dis := r.dis
end

mutual
/-- no list within -/
def noLst : D → Bool
  | .non => true
  | .bl _ => true
  | .int _ => true
  | .str _ => true
  | .tup l => noLsts l
  | .lst _ => false
  | .scr _ => false
  | .cut _ l => noLsts l
  | .dic => true
  | .exn => true
def noLsts : List D → Bool
  | [] => true
  | d :: ds => noLst d && noLsts ds
end
section
variable {g : G} {Hb Hc : Hp}
theorem SqT_cut {K : PySem.W.Frag} {a : Addr} {xs : List V} (k : ∀ a o, (∀ ys, o ≠ .lst ys) → Hb a = some o → Hc a = some o) (h : SqT K Hb a xs) : SqT K Hc a xs := by
  rcases h with (h | ⟨o, h⟩) | h
  · exact .inl (.inl (k _ _ (fun ys z => nomatch z) h))
  · exact .inl (.inr ⟨o, k _ _ (fun ys z => nomatch z) h⟩)
  · exact .inr h
mutual
theorem R.cutL (k : ∀ a o, (∀ ys, o ≠ .lst ys) → Hb a = some o → Hc a = some o) : ∀ {v : V} {d : D}, R g Hb v d → noLst d = true → R g Hc v d
  | _, _, .non, _ => .non
  | _, _, .bl b, _ => .bl b
  | _, _, .int i, _ => .int i
  | _, _, .str x, _ => .str x
  | _, .tup l, .tup h r, e =>
    have e' : noLsts l = true := by simpa [noLst] using e
    .tup (SqT_cut k h) (Rs.cutL k r e')
  | _, .lst l, .lst h r, e => absurd e (by simp [noLst])
  | _, .scr l, .scr h, e => absurd e (by simp [noLst])
  | _, .cut n l, .cut h q r, e =>
    have e' : noLsts l = true := by simpa [noLst] using e
    .cut (k _ _ (fun ys z => nomatch z) h) (SqT_cut k q) (Rs.cutL k r e')
  | _, _, .dic h, e => .dic (k _ _ (fun ys z => nomatch z) h)
  | _, _, .exn h, _ => .exn (g.xk _ _ _ k h)
theorem Rs.cutL (k : ∀ a o, (∀ ys, o ≠ .lst ys) → Hb a = some o → Hc a = some o) : ∀ {vs : List V} {ds : List D}, Rs g Hb vs ds → noLsts ds = true → Rs g Hc vs ds
  | _, _, .nil, _ => .nil
  | _, d :: ds, .cons h r, e =>
    have e' : noLst d = true ∧ noLsts ds = true := by simpa [noLsts] using e
    .cons (R.cutL k h e'.1) (Rs.cutL k r e'.2)
end
end
section
variable {g : G} {B Hs0 Hs H Hb' H' : Hp} {σ : L2.St} {env : Env}
/-- behind an expression that borrowed: what holds no list may be kept -/
theorem StR.bor (r : StR g B Hs0 Hs H σ env) (x : Ext (Hbor Hs H σ env) H Hb' H') :
    StR g B Hs0 (Hcut Hb' σ env) H' σ env ∧ Same Hs (Hcut Hb' σ env) ∧ (∀ a o, (∀ ys, o ≠ .lst ys) → Hb' a = some o → Hcut Hb' σ env a = some o) ∧ (∀ a, Hb' a = none → Hcut Hb' σ env a = none) ∧ (∀ a, H a = none → ¬ isRoot σ env a) := by
  have k : ∀ a o, (∀ ys, o ≠ HO.lst ys) → Hb' a = some o → Hcut Hb' σ env a = some o := fun a o n e => by
    by_cases h : isRoot σ env a
    · obtain ⟨_, _, vs, q⟩ := r.root h
      have q' := x.same _ _ q
      rw [x.sub _ _ e] at q'
      exact absurd (Option.some.inj q') (n vs)
    · rw [hc_not h]; exact e
  have up : Same Hs (Hcut Hb' σ env) := fun a o e => by
    by_cases h : isRoot σ env a
    · have := (r.root h).1; rw [e] at this; cases this
    · rw [hc_not h]; exact x.up _ _ (by rw [hb_not h]; exact e)
  refine ⟨⟨r.keep.trans x.same, r.sub0.trans up, fun a o e => ?_, fun a o e => ?_, r.len, fun i d e => ?_, fun i l e => ?_, r.dis⟩, up, k, fun a e => ?_, fun a e h => ?_⟩
  · by_cases h : isRoot σ env a
    · rw [hc_root h] at e; cases e
    · rw [hc_not h] at e; exact x.sub _ _ e
  · by_cases h : isRoot σ env a
    · rw [hc_root h] at e; cases e
    · rw [hc_not h] at e
      rcases x.new a o e with q | q
      · rw [hb_not h] at q; exact r.new a o q
      · exact .inr (r.keep.free q)
  · obtain ⟨v, h1, h2⟩ := r.val i d e
    exact ⟨v, h1, h2.mono up⟩
  · obtain ⟨a, vs, h1, h2, h3, h4, h5⟩ := r.own i l e
    exact ⟨a, vs, h1, hc_root ⟨i, l, e, h1⟩, h3, x.same _ _ h4, h5.mono up⟩
  · by_cases h : isRoot σ env a
    · exact hc_root h
    · rw [hc_not h]; exact e
  · obtain ⟨_, _, vs, q⟩ := r.root h
    rw [e] at q; cases q
theorem set_get {α : Type} {l : List (Option α)} {i j : Nat} {x y : α} (h : (l.set i (some x))[j]? = some (some y)) : (j = i ∧ x = y) ∨ (j ≠ i ∧ l[j]? = some (some y)) := by
  by_cases e : j = i
  · subst e
    left
    refine ⟨rfl, ?_⟩
    by_cases hl : j < l.length
    · rw [List.getElem?_set_self hl] at h
      simpa using h
    · rw [List.getElem?_eq_none (by simpa using Nat.not_lt.mp hl)] at h
      cases h
  · right
    rw [List.getElem?_set_ne (Ne.symm e)] at h
    exact ⟨e, h⟩
theorem set_len {α β : Type} {l : List (Option α)} {m : List (Option β)} {i j : Nat} {x y : α} {z : β} (hl : m.length = l.length) (h : (l.set i (some x))[i]? = some (some y)) : (m.set i (some z))[i]? = some (some z) := by
  have : i < l.length := by
    have := (List.getElem?_eq_some_iff.mp h).1
    simpa using this
  exact List.getElem?_set_self (by omega)
/-- a value is stored -/
theorem StR.setVal (r : StR g B Hs0 Hs H σ env) {i : Nat} {v : V} {d : D} (q : R g Hs v d) : StR g B Hs0 Hs H (σ.set i (some v)) (env.set i (some (.val d))) where
  keep := r.keep
  sub0 := r.sub0
  sub := r.sub
  new := r.new
  len := by rw [List.length_set, List.length_set, r.len]
  val := fun j d' e => by
    rcases set_get e with ⟨rfl, q'⟩ | ⟨n, e'⟩
    · cases q'
      exact ⟨v, set_len (j := j) r.len e, q⟩
    · obtain ⟨u, h1, h2⟩ := r.val j d' e'
      exact ⟨u, by rw [List.getElem?_set_ne (Ne.symm n)]; exact h1, h2⟩
  own := fun j l e => by
    rcases set_get e with ⟨rfl, q'⟩ | ⟨n, e'⟩
    · cases q'
    · obtain ⟨a, vs, h1, h2⟩ := r.own j l e'
      exact ⟨a, vs, by rw [List.getElem?_set_ne (Ne.symm n)]; exact h1, h2⟩
  dis := fun j k l m a n e1 e2 h1 h2 => by
    rcases set_get e1 with ⟨rfl, q'⟩ | ⟨n1, e1'⟩
    · cases q'
    · rcases set_get e2 with ⟨rfl, q'⟩ | ⟨n2, e2'⟩
      · cases q'
      · rw [List.getElem?_set_ne (Ne.symm n1)] at h1
        rw [List.getElem?_set_ne (Ne.symm n2)] at h2
        exact r.dis j k l m a n e1' e2' h1 h2
/-- a list of its own is stored -/
theorem StR.setOwn (r : StR g B Hs0 Hs H σ env) {i : Nat} {a : Addr} {vs : List V} {l : List D} (h1 : Hs a = none) (h2 : B a = none) (h3 : H a = some (.lst vs)) (h4 : Rs g Hs vs l) (nr : ¬ isRoot σ env a) : StR g B Hs0 Hs H (σ.set i (some (.ref a))) (env.set i (some (.own l))) where
  keep := r.keep
  sub0 := r.sub0
  sub := r.sub
  new := r.new
  len := by rw [List.length_set, List.length_set, r.len]
  val := fun j d' e => by
    rcases set_get e with ⟨rfl, q'⟩ | ⟨n, e'⟩
    · cases q'
    · obtain ⟨u, h1, h2⟩ := r.val j d' e'
      exact ⟨u, by rw [List.getElem?_set_ne (Ne.symm n)]; exact h1, h2⟩
  own := fun j l' e => by
    rcases set_get e with ⟨rfl, q'⟩ | ⟨n, e'⟩
    · cases q'
      exact ⟨a, vs, set_len (j := j) r.len e, h1, h2, h3, h4⟩
    · obtain ⟨a, vs, h1, h2⟩ := r.own j l' e'
      exact ⟨a, vs, by rw [List.getElem?_set_ne (Ne.symm n)]; exact h1, h2⟩
  dis := fun j k l1 m b n e1 e2 p1 p2 => by
    rcases set_get e1 with ⟨rfl, q'⟩ | ⟨n1, e1'⟩
    · rcases set_get e2 with ⟨rfl, q'⟩ | ⟨n2, e2'⟩
      · exact n rfl
      · rw [set_len (j := j) r.len e1] at p1
        rw [List.getElem?_set_ne (Ne.symm n2)] at p2
        have : a = b := by simpa using p1
        subst this
        exact nr ⟨k, m, e2', p2⟩
    · rw [List.getElem?_set_ne (Ne.symm n1)] at p1
      rcases set_get e2 with ⟨rfl, q'⟩ | ⟨n2, e2'⟩
      · rw [set_len (j := k) r.len e2] at p2
        have : a = b := by simpa using p2
        subst this
        exact nr ⟨j, l1, e1', p1⟩
      · rw [List.getElem?_set_ne (Ne.symm n2)] at p2
        exact r.dis j k l1 m b n e1' e2' p1 p2
/-- a list of its own is changed -/
theorem StR.chg (r : StR g B Hs0 Hs H σ env) {i : Nat} {a : Addr} {vs : List V} {l l' : List D} (e : env[i]? = some (some (.own l))) (ea : σ[i]? = some (some (.ref a))) (h4 : Rs g Hs vs l') : StR g B Hs0 Hs (upd H a (.lst vs)) σ (env.set i (some (.own l'))) where
  keep := fun b o q => by
    have hb : B a = none := (r.root ⟨i, l, e, ea⟩).2.1
    rw [upd_ne (ne_of_none q hb)]
    exact r.keep b o q
  sub0 := r.sub0
  sub := fun b o q => by
    have hb : Hs a = none := (r.root ⟨i, l, e, ea⟩).1
    rw [upd_ne (ne_of_none q hb)]
    exact r.sub b o q
  new := r.new
  len := by rw [List.length_set, r.len]
  val := fun j d' e' => by
    rcases set_get e' with ⟨rfl, q'⟩ | ⟨n, e'⟩
    · cases q'
    · exact r.val j d' e'
  own := fun j m e' => by
    rcases set_get e' with ⟨rfl, q'⟩ | ⟨n, e'⟩
    · cases q'
      have ⟨h1, h2, _⟩ := r.root ⟨j, l, e, ea⟩
      exact ⟨a, vs, ea, h1, h2, upd_same, h4⟩
    · obtain ⟨b, us, q1, q2, q3, q4, q5⟩ := r.own j m e'
      refine ⟨b, us, q1, q2, q3, ?_, q5⟩
      rw [upd_ne]
      · exact q4
      · rintro rfl
        exact r.dis i j l m b (Ne.symm n) e e' ea q1
  dis := fun j k l1 m b n e1 e2 p1 p2 => by
    have back : ∀ {j : Nat} {m : List D}, (env.set i (some (Cell.own l')))[j]? = some (some (.own m)) → ∃ m', env[j]? = some (some (.own m')) := fun {j m} q => by
      rcases set_get q with ⟨rfl, _⟩ | ⟨n, q⟩
      · exact ⟨l, e⟩
      · exact ⟨m, q⟩
    obtain ⟨m1, q1⟩ := back e1
    obtain ⟨m2, q2⟩ := back e2
    exact r.dis j k m1 m2 b n q1 q2 p1 p2
/-- a list of its own is given up: from here on it stands still -/
theorem StR.frz (r : StR g B Hs0 Hs H σ env) {i : Nat} {l : List D} (e : env[i]? = some (some (.own l))) : ∃ Hs', Same Hs Hs' ∧ StR g B Hs0 Hs' H σ (env.set i (some (.val (.lst l)))) := by
  obtain ⟨a, vs, h1, h2, h3, h4, h5⟩ := r.own i l e
  have up : Same Hs (upd Hs a (.lst vs)) := same_upd h2
  refine ⟨upd Hs a (.lst vs), up, r.keep, r.sub0.trans up, fun b o q => ?_, fun b o q => ?_, by rw [List.length_set, r.len], fun j d q => ?_, fun j m q => ?_, fun j k l1 m b n e1 e2 p1 p2 => ?_⟩
  · by_cases hb : b = a
    · subst hb; rw [upd_same] at q; cases q; exact h4
    · rw [upd_ne hb] at q; exact r.sub b o q
  · by_cases hb : b = a
    · subst hb; exact .inr h3
    · rw [upd_ne hb] at q; exact r.new b o q
  · rcases set_get q with ⟨rfl, q'⟩ | ⟨n, q'⟩
    · cases q'
      exact ⟨_, h1, .lst upd_same (h5.mono up)⟩
    · obtain ⟨v, p1, p2⟩ := r.val j d q'
      exact ⟨v, p1, p2.mono up⟩
  · rcases set_get q with ⟨rfl, q'⟩ | ⟨n, q'⟩
    · cases q'
    · obtain ⟨b, us, q1, q2, q3, q4, q5⟩ := r.own j m q'
      refine ⟨b, us, q1, ?_, q3, q4, q5.mono up⟩
      rw [upd_ne]
      · exact q2
      · rintro rfl
        exact r.dis i j l m b (Ne.symm n) e q' h1 q1
  · rcases set_get e1 with ⟨rfl, q'⟩ | ⟨n1, e1'⟩
    · cases q'
    · rcases set_get e2 with ⟨rfl, q'⟩ | ⟨n2, e2'⟩
      · cases q'
      · exact r.dis j k l1 m b n e1' e2' p1 p2
end

/-! ### what a def hands back -/
def RetR (g : G) (B Hs0 H' : Hp) (v : V) : Cell → Prop
  | .val d => ∃ Hs', Ext Hs0 B Hs' H' ∧ R g Hs' v d
  | .own l => ∃ a vs Hs', v = .ref a ∧ Ext Hs0 B Hs' H' ∧ Hs' a = none ∧ B a = none ∧ H' a = some (.lst vs) ∧ Rs g Hs' vs l
theorem RetR.toD {g : G} {B Hs0 H' : Hp} {v : V} {c : Cell} (r : RetR g B Hs0 H' v c) : ∃ Hs', Ext Hs0 B Hs' H' ∧ R g Hs' v c.toD := by
  cases c with
  | val d => exact r
  | own l =>
    obtain ⟨a, vs, Hs', rfl, x, h1, h2, h3, h4⟩ := r
    refine ⟨upd Hs' a (.lst vs), ⟨x.same, x.up.trans (same_upd h1), fun b o q => ?_, fun b o q => ?_⟩, .lst upd_same (h4.mono (same_upd h1))⟩
    · by_cases hb : b = a
      · subst hb; rw [upd_same] at q; cases q; exact h3
      · rw [upd_ne hb] at q; exact x.sub b o q
    · by_cases hb : b = a
      · subst hb; exact .inr h2
      · rw [upd_ne hb] at q; exact x.new b o q
/-- a def's promise: the value of den -/
def spD (g : G) (n : Nat) (den : List D → Res Cell) : Sp := fun vs H Q E => ∃ Hs ds, Same Hs H ∧ Rs g Hs vs ds ∧ ds.length = n ∧ Wk g E H (den ds) (fun c => ∀ v H', RetR g H Hs H' v c → Q v H')
theorem spD.len {g : G} {n : Nat} {den : List D → Res Cell} : ∀ vs H Q E, spD g n den vs H Q E → vs.length = n := fun vs H Q E ⟨_, _, _, r, e, _⟩ => r.length.trans e
/-- a def of the text, by its name -/
structure Fn (P : Program) (w : World) (base : Heap) (g : G) (x : Str) (n k : Nat) (den : List D → Res Cell) : Prop where
  ar : ∀ ds, den ds ≠ .bad → ds.length = n
  ex : ∃ f fd ps, ps.length = n ∧ g.mg x = some (.ref f) ∧ PySem.W.keepIn g.K (.ref f) = true ∧ Binds g.K fd ps [] ∧ FnOk P w g.K g.mg base (L2.CX P w) k f fd ps (spD g n den)
theorem Fn.imp {P : Program} {w : World} {base : Heap} {g : G} {x : Str} {n k : Nat} {den den' : List D → Res Cell} (F : Fn P w base g x n k den) (h : ∀ ds, den' ds ≠ .bad → den ds = den' ds) : Fn P w base g x n k den' := by
  obtain ⟨f, fd, ps, hn, a, b, c, d⟩ := F.ex
  refine ⟨fun ds nb => F.ar ds (by rw [h ds nb]; exact nb), f, fd, ps, hn, a, b, c, d.imp fun vs H Q E ⟨Hs, ds, s, r, e, wk⟩ => ⟨Hs, ds, s, r, e, ?_⟩⟩
  rw [h ds wk.bad]
  exact wk
theorem Fn.mono {P : Program} {w : World} {base : Heap} {g : G} {x : Str} {n k k' : Nat} {den : List D → Res Cell} (F : Fn P w base g x n k den) (h : k ≤ k') : Fn P w base g x n k' den := by
  obtain ⟨f, fd, ps, hn, a, b, c, d⟩ := F.ex
  exact ⟨F.ar, f, fd, ps, hn, a, b, c, d.mono h⟩

/-! ### lists that are new -/
def LandsO (g : G) (Hs H : Hp) (Q : VK) (l : List D) : Prop := ∀ a vs H' Hs', Ext Hs H Hs' H' → H a = none → Hs' a = none → H' a = some (.lst vs) → Rs g Hs' vs l → Q (.ref a) H'
def EO (g : G) (E : XK) (f : BEnv → Res (List D)) : TE := fun σ H Q => ∃ Hs env, Same Hs H ∧ EnvR g Hs σ env ∧ Wk g E H (f env) (LandsO g Hs H Q)
def lstD (f : BEnv → Res (List D)) : BEnv → Res D := fun env => f env >>= fun l => .ok (.lst l)
section
variable {X : Cx} {g : G} {E : XK} {e a b : Expr} {pos : Pos} {f h : BEnv → Res D} {fl : BEnv → Res (List D)}
theorem eo_er (p : PE X e (EO g E fl)) : PE X e (ER g E (lstD fl)) := PE_mono p fun σ H Q w => by
  obtain ⟨Hs, env, s, rr, w⟩ := w
  refine ⟨Hs, env, s, rr, w.bind.mono (Same.refl _) fun l wl a vs H' Hs' x h1 h2 h3 h4 => ?_⟩
  refine wl.is_ok (.ref a) H' (upd Hs' a (.lst vs)) ⟨x.same, x.up.trans (same_upd h2), fun b o q => ?_, fun b o q => ?_⟩ (.lst upd_same (h4.mono (same_upd h2)))
  · by_cases hb : b = a
    · subst hb; rw [upd_same] at q; cases q; exact h3
    · rw [upd_ne hb] at q; exact x.sub b o q
  · by_cases hb : b = a
    · subst hb; exact .inr h1
    · rw [upd_ne hb] at q; exact x.new b o q
theorem lands_own {Hs H : Hp} {Q : VK} {l : List D} {vs : List V} {p : Addr} (w : LandsO g Hs H Q l) (s : Same Hs H) (np : H p = none) (r : Rs g Hs vs l) : Q (.ref p) (upd H p (.lst vs)) :=
  w p vs _ Hs ⟨same_upd np, Same.refl _, s.trans (same_upd np), fun _ _ q => .inl q⟩ np (s.free np) upd_same r
/-- a display of a list -/
def oLst (fs : BEnv → Res (List D)) : BEnv → Res (List D) := fun env => fs env >>= fun ds => if ds.length ≤ 1000 then .ok ds else .bad
variable {es : List Expr} {fs : BEnv → Res (List D)}
theorem eo_lst (h : PA X es (AR g E fs)) : PE X (.List es pos) (EO g E (oLst fs)) :=
  PE_mono (pe_lst h) fun σ H Q w => by
    obtain ⟨Hs, env, s, rr, w⟩ := w
    refine ⟨Hs, env, s, rr, w.bind.mono (Same.refl _) fun ds wd vs H1 Hs1 x1 r1 => ?_⟩
    obtain ⟨hl, l⟩ := wk_if wd
    refine ⟨by rw [r1.length]; exact line1000 hl, fun p np => ?_⟩
    have hp : H p = none := x1.same.free np
    exact l p vs _ Hs1 ⟨x1.same.trans (same_upd np), x1.up, x1.sub.trans (same_upd np), x1.new⟩ hp (x1.sub.free np) upd_same r1
/-- two operands, a new list -/
def OpO (g : G) (r : R2) (fn : D → D → Res (List D)) : Prop := ∀ (Hs H : Hp) (v u : V) (a b : D) (Q : VK), Same Hs H → R g Hs v a → R g Hs u b → ∀ E : XK, Wk g E H (fn a b) (LandsO g Hs H Q) → r v u H Q
def o2 (fn : D → D → Res (List D)) (f h : BEnv → Res D) : BEnv → Res (List D) := fun env => f env >>= fun x => h env >>= fun y => fn x y
theorem LandsO.ext {Hs H Hs1 H1 : Hp} {Q : VK} {l : List D} (x : Ext Hs H Hs1 H1) (w : LandsO g Hs H Q l) : LandsO g Hs1 H1 Q l := fun a vs H' Hs' x' h1 h2 h3 h4 => w a vs H' Hs' (x.trans x') (x.same.free h1) h2 h3 h4
theorem twoO {r : R2} {fn : D → D → Res (List D)} (o : OpO g r fn) {σ : L2.St} {H : Hp} {Q : VK} (w : EO g E (o2 fn f h) σ H Q) :
    ER g E f σ H fun x H1 => ER g E h σ H1 fun y H2 => r x y H2 Q := by
  obtain ⟨Hs, env, s, rr, w⟩ := w
  refine ⟨Hs, env, s, rr, w.bind.mono (Same.refl _) fun a wa v H1 Hs1 x1 r1 => ?_⟩
  refine ⟨Hs1, env, x1.sub, rr.mono x1.up, wa.bind.mono x1.same fun b wb u H2 Hs2 x2 r2 => ?_⟩
  exact o Hs2 H2 v u a b Q x2.sub (r1.mono x2.up) r2 E (wb.mono (x1.same.trans x2.same) fun d l => l.ext (x1.trans x2))
def catO : D → D → Res (List D)
  | .lst a, .lst b => if a.length + b.length ≤ 1000000 then .ok (a ++ b) else .bad
  | _, _ => .bad
def repO : D → D → Res (List D)
  | .lst a, .int k => if 0 ≤ k ∧ k ≤ 1000 ∧ a.length ≤ 1000 then .ok (List.replicate k.toNat a).flatten else .bad
  | _, _ => .bad
theorem oo_cat : OpO g rCat catO := by
  intro Hs H v u a b Q s r1 r2 E w
  cases r1 with
  | lst h1 q1 =>
    cases r2 with
    | lst h2 q2 =>
      obtain ⟨hl, l⟩ := wk_if w
      exact ⟨_, _, _, _, rfl, rfl, s _ _ h1, s _ _ h2, by rw [q1.length, q2.length]; exact line6 hl, fun p np => lands_own l s np (q1.append q2)⟩
    | _ => exact absurd rfl w.bad
  | _ => exact absurd rfl w.bad
theorem oo_rep : OpO g rRep repO := by
  intro Hs H v u a b Q s r1 r2 E w
  cases r1 with
  | lst h1 q1 =>
    cases r2 with
    | int k =>
      obtain ⟨⟨k0, k1, k2⟩, l⟩ := wk_if w
      refine ⟨_, k, _, rfl, rfl, s _ _ h1, by omega, by omega, ?_, fun p np => lands_own l s np (q1.rep _)⟩
      rw [q1.length]
      have : k.toNat ≤ 1000 := by omega
      exact line6 (Nat.mul_le_mul k2 this)
    | _ => exact absurd rfl w.bad
  | _ => exact absurd rfl w.bad
theorem eo_cat (ha : PE X a (ER g E f)) (hb : PE X b (ER g E h)) : PE X (.BinOp a .Add b pos) (EO g E (o2 catO f h)) := PE_mono (pe_op op_cat ha hb) fun _ _ _ w => twoO oo_cat w
theorem eo_rep (ha : PE X a (ER g E f)) (hb : PE X b (ER g E h)) : PE X (.BinOp a .Mult b pos) (EO g E (o2 repO f h)) := PE_mono (pe_op op_rep ha hb) fun _ _ _ w => twoO oo_rep w
/-- list(e) -/
def itemsD : D → Res (List D)
  | .lst l => .ok l
  | .tup l => .ok l
  | .scr ns => .ok (ns.map D.int)
  | _ => .bad
def listO : List D → Res (List D)
  | [d] => itemsD d
  | _ => .bad
theorem R.items {H : Hp} {v : V} {d : D} {l : List D} (r : R g H v d) (e : itemsD d = .ok l) : ∃ p vs, v = .ref p ∧ (SqL g.K H p vs ∨ SqT g.K H p vs) ∧ Rs g H vs l := by
  cases r with
  | tup h q => cases e; exact ⟨_, _, rfl, .inr h, q⟩
  | lst h q => cases e; exact ⟨_, _, rfl, .inl (SqL.of h), q⟩
  | scr h => cases e; exact ⟨_, _, rfl, .inl h, Rs.ints _⟩
  | _ => cases e
def eCallO (fn : List D → Res (List D)) (fs : BEnv → Res (List D)) : BEnv → Res (List D) := fun env => fs env >>= fn
theorem ar_thenO {fn : List D → Res (List D)} {r : List V → Hp → VK → Prop} {σ : L2.St} {H : Hp} {Q : VK}
    (o : ∀ (Hs H : Hp) (vs : List V) (ds : List D) (Q : VK), Same Hs H → Rs g Hs vs ds → Wk g E H (fn ds) (LandsO g Hs H Q) → r vs H Q)
    (w : EO g E (eCallO fn fs) σ H Q) : AR g E fs σ H fun vs H1 => r vs H1 Q := by
  obtain ⟨Hs, env, s, rr, w⟩ := w
  refine ⟨Hs, env, s, rr, w.bind.mono (Same.refl _) fun ds wd vs H1 Hs1 x1 r1 => ?_⟩
  exact o Hs1 H1 vs ds Q x1.sub r1 (wd.mono x1.same fun d l => l.ext x1)
theorem eo_list {p : Pos} (hK : X.K = g.K) (hg : Gl X "list") (hm : X.mg "list" = none) (ha : PA X (e :: es) (AR g E fs))
    (he : starEach (e :: es) X.env = (false, eval e X.env) :: starEach es X.env := by rfl) (hpl : (backTo pos (starEach es X.env)).any (·.1) = false := by rfl) : PE X (.Call (.Name "list" p) (e :: es) [] pos) (EO g E (eCallO listO fs)) :=
  PE_mono (pe_callTy call_list_of hg hm (by decide +kernel) ha (by decide) (by decide) he hpl) fun σ H Q w => ar_thenO (r := fun xs H Q => ∃ p ys, xs = [.ref p] ∧ (SqL X.K H p ys ∨ SqT X.K H p ys) ∧ ∀ l, H l = none → Q (.ref l) (upd H l (.lst ys))) (fun Hs H vs ds Q s r w => by
    unfold listO at w
    split at w
    · rename_i d
      obtain ⟨⟩ | ⟨r, r0⟩ := r
      cases r0
      cases e : itemsD d with
      | ok l =>
        rw [e] at w
        obtain ⟨p, us, rfl, hq, rr⟩ := r.items e
        refine ⟨p, us, rfl, ?_, fun a na => lands_own w.is_ok s na rr⟩
        rcases hq with q | q
        · exact .inl (hK ▸ s.seq q)
        · exact .inr (hK ▸ SameT s q)
      | exc c x => cases d <;> cases e
      | bad => rw [e] at w; exact absurd rfl w.bad
    · exact absurd rfl w.bad) w

/-! ### calls of the text's own defs -/
variable {P : Program} {w : World} {base : Heap} {x : Str} {n k : Nat} {den : List D → Res Cell} {p : Pos}
def eFn (den : List D → Res Cell) (fs : BEnv → Res (List D)) : BEnv → Res D := fun env => fs env >>= den >>= fun c => .ok c.toD
def ownOnly : Cell → Res (List D)
  | .own l => .ok l
  | .val _ => .bad
def oFn (den : List D → Res Cell) (fs : BEnv → Res (List D)) : BEnv → Res (List D) := fun env => fs env >>= den >>= ownOnly
theorem res_assoc {α β γ : Type} (r : Res α) (f : α → Res β) (h : β → Res γ) : (r >>= f >>= h) = (r >>= fun x => f x >>= h) := by cases r <;> rfl
theorem se_call (F : Fn X.prog X.w X.base g x n k den) (hK : X.K = g.K) (hM : X.mg = g.mg) (hr : Room k X.A) (hx : Passes (L2.CX X.prog X.w) X E) (hg : Gl X x) (ha : PA X (e :: es) (AR g E fs)) (hdb : (x == ("__debug__" : Str)) = false := by decide)
    (he : starEach (e :: es) X.env = (false, eval e X.env) :: starEach es X.env := by rfl) (hpl : (backTo pos (starEach es X.env)).any (·.1) = false := by rfl) : PE X (.Call (.Name x p) (e :: es) [] pos) (ER g E (eFn den fs)) := by
  obtain ⟨f, fd, ps, hn, h1, h2, h3, h4⟩ := F.ex
  rw [← hM] at h1
  rw [← hK] at h2 h3 h4
  rw [← hM] at h4
  refine PE_mono (pe_call h4 hr hg h1 h2 h3 .nil hx ha hdb he hpl) fun σ H Q w => ?_
  obtain ⟨Hs, env, s, rr, w⟩ := w
  unfold eFn at w
  rw [res_assoc] at w
  refine ⟨Hs, env, s, rr, w.bind.mono (Same.refl _) fun ds wd vs H1 Hs1 x1 r1 => ?_⟩
  show spD g n den (vs ++ []) H1 Q E
  rw [List.append_nil]
  refine ⟨Hs1, ds, x1.sub, r1, ?_, wd.bind.mono x1.same fun c wc v H' rt => ?_⟩
  · refine F.ar ds fun z => wd.bad ?_
    rw [z]; rfl
  · obtain ⟨Hs', x', r'⟩ := rt.toD
    exact wc.is_ok v H' Hs' (x1.trans x') r'
end
end PL

set_option Elab.async false
set_option linter.all false
set_option maxRecDepth 100000
set_option maxHeartbeats 1000000
namespace PL
open PySem PySem.Spec PyProof.Rows L2

inductive Fl where
  | nx (e : Env) | rt (c : Cell) | bk (e : Env) | ct (e : Env)
def SLand (g : G) (B Hs0 Hs : Hp) (D : Ends) : Fl → Prop
  | .nx e => ∀ σ' H' Hs', Same Hs Hs' → StR g B Hs0 Hs' H' σ' e → D.nx σ' H'
  | .bk e => ∀ σ' H' Hs', Same Hs Hs' → StR g B Hs0 Hs' H' σ' e → D.bk σ' H'
  | .ct e => ∀ σ' H' Hs', Same Hs Hs' → StR g B Hs0 Hs' H' σ' e → D.ct σ' H'
  | .rt c => ∀ v H', RetR g B Hs0 H' v c → D.rt v H'
def SR (g : G) (E : XK) (B Hs0 : Hp) (s : Env → Res Fl) : TS := fun D σ H => ∃ Hs env, StR g B Hs0 Hs H σ env ∧ Wk g E B (s env) (SLand g B Hs0 Hs D)
theorem SLand.mono {g : G} {B Hs0 Hs Hs' : Hp} {D : Ends} (e : Same Hs Hs') {f : Fl} (h : SLand g B Hs0 Hs D f) : SLand g B Hs0 Hs' D f := by
  cases f with
  | nx _ => exact fun σ' H' Hs2 s => h σ' H' Hs2 (e.trans s)
  | bk _ => exact fun σ' H' Hs2 s => h σ' H' Hs2 (e.trans s)
  | ct _ => exact fun σ' H' Hs2 s => h σ' H' Hs2 (e.trans s)
  | rt _ => exact h
section
variable {X : Cx} {g : G} {E : XK} {B Hs0 : Hp} {st : Stmt} {rest : List Stmt} {s t : Env → Res Fl} {e : Expr} {pos : Pos} {f : BEnv → Res D} {fo : BEnv → Res (List D)} {p : BEnv → Res Bool}
theorem PS_mono {t t' : TS} (p : PS X st t) (k : ∀ D σ H, t' D σ H → t D σ H) : PS X st t' := ⟨fun pins s σ H D I w => p.run pins s σ H D I (k D σ H w)⟩
theorem PSs_mono {t t' : TS} (p : PSs X rest t) (k : ∀ D σ H, t' D σ H → t D σ H) : PSs X rest t' := ⟨fun pins s σ H D I w => p.run pins s σ H D I (k D σ H w)⟩

/-! ### evaluating within a statement -/
section
variable {σ : L2.St} {H : Hp} {D : Ends} {Q : VK} {kl : List PL.D → Env → Res Fl} {kb : Bool → Env → Res Fl} {Qb : Bool → Hp → Prop} {kd : PL.D → Env → Res Fl}
theorem clean_then (w : SR g E B Hs0 (fun env => f env.clean >>= fun d => kd d env) D σ H)
    (o : ∀ Hs env d v H, StR g B Hs0 Hs H σ env → R g Hs v d → Wk g E B (kd d env) (SLand g B Hs0 Hs D) → Q v H) : ER g E f σ H Q := by
  obtain ⟨Hs, env, r, w⟩ := w
  refine ⟨Hs, env.clean, r.sub, r.clean, w.bind.mono r.keep fun d wd v H' Hs' x r' => ?_⟩
  exact o Hs' env d v H' (r.ext x) r' (wd.mono (Same.refl _) fun _ l => l.mono x.up)
theorem bor_then (w : SR g E B Hs0 (fun env => f env.borrow >>= fun d => if noLst d = true then kd d env else .bad) D σ H)
    (o : ∀ Hs env d v H, StR g B Hs0 Hs H σ env → R g Hs v d → Wk g E B (kd d env) (SLand g B Hs0 Hs D) → Q v H) : ER g E f σ H Q := by
  obtain ⟨Hs, env, r, w⟩ := w
  refine ⟨Hbor Hs H σ env, env.borrow, r.hb_sub, r.borrow, w.bind.mono r.keep fun d wd v H' Hs' x r' => ?_⟩
  by_cases hn : noLst d = true
  · rw [if_pos hn] at wd
    obtain ⟨r2, up, k, _⟩ := r.bor x
    exact o _ env d v H' r2 (R.cutL k r' hn) (wd.mono (Same.refl _) fun _ l => l.mono up)
  · rw [if_neg hn] at wd; exact absurd rfl wd.bad
theorem drop_then (w : SR g E B Hs0 (fun env => f env.borrow >>= fun _ => s env) D σ H)
    (o : ∀ Hs env v H, StR g B Hs0 Hs H σ env → Wk g E B (s env) (SLand g B Hs0 Hs D) → Q v H) : ER g E f σ H Q := by
  obtain ⟨Hs, env, r, w⟩ := w
  refine ⟨Hbor Hs H σ env, env.borrow, r.hb_sub, r.borrow, w.bind.mono r.keep fun d wd v H' Hs' x r' => ?_⟩
  exact o Hs env v H' (r.same x.same) wd
theorem test_then (w : SR g E B Hs0 (fun env => p env.borrow >>= fun b => kb b env) D σ H)
    (o : ∀ Hs env b H, StR g B Hs0 Hs H σ env → Wk g E B (kb b env) (SLand g B Hs0 Hs D) → Qb b H) : TR g E p σ H Qb := by
  obtain ⟨Hs, env, r, w⟩ := w
  refine ⟨Hbor Hs H σ env, env.borrow, r.hb_sub, r.borrow, w.bind.mono r.keep fun b wb H' Hs' x => ?_⟩
  exact o Hs env b H' (r.same x.same) wb
theorem own_then (w : SR g E B Hs0 (fun env => fo env.clean >>= fun l => kl l env) D σ H)
    (o : ∀ Hs env l a vs H, StR g B Hs0 Hs H σ env → Hs a = none → B a = none → ¬ isRoot σ env a → H a = some (.lst vs) → Rs g Hs vs l → Wk g E B (kl l env) (SLand g B Hs0 Hs D) → Q (.ref a) H) : EO g E fo σ H Q := by
  obtain ⟨Hs, env, r, w⟩ := w
  refine ⟨Hs, env.clean, r.sub, r.clean, w.bind.mono r.keep fun l wl a vs H' Hs' x h1 h2 h3 h4 => ?_⟩
  refine o Hs' env l a vs H' (r.ext x) h2 (r.keep.free h1) (fun h => ?_) h3 h4 (wl.mono (Same.refl _) fun _ l => l.mono x.up)
  obtain ⟨_, _, vs, q⟩ := r.root h
  rw [h1] at q; cases q
theorem ownB_then (w : SR g E B Hs0 (fun env => fo env.borrow >>= fun l => if noLsts l = true then kl l env else .bad) D σ H)
    (o : ∀ Hs env l a vs H, StR g B Hs0 Hs H σ env → Hs a = none → B a = none → ¬ isRoot σ env a → H a = some (.lst vs) → Rs g Hs vs l → Wk g E B (kl l env) (SLand g B Hs0 Hs D) → Q (.ref a) H) : EO g E fo σ H Q := by
  obtain ⟨Hs, env, r, w⟩ := w
  refine ⟨Hbor Hs H σ env, env.borrow, r.hb_sub, r.borrow, w.bind.mono r.keep fun l wl a vs H' Hs' x h1 h2 h3 h4 => ?_⟩
  by_cases hn : noLsts l = true
  · rw [if_pos hn] at wl
    obtain ⟨r2, up, k, z1, z2⟩ := r.bor x
    exact o _ env l a vs H' r2 (z1 a h2) (r.keep.free h1) (z2 a h1) h3 (Rs.cutL k h4 hn) (wl.mono (Same.refl _) fun _ l => l.mono up)
  · rw [if_neg hn] at wl; exact absurd rfl wl.bad
theorem nx_end {Hs : Hp} {env : Env} {H : Hp} (w : Wk g E B (.ok (.nx env)) (SLand g B Hs0 Hs D)) (r : StR g B Hs0 Hs H σ env) : D.nx σ H := w.is_ok σ H Hs (Same.refl _) r
end

/-! ### blocks -/
def sNil : Env → Res Fl := fun env => .ok (.nx env)
def seqK (t : Env → Res Fl) : Fl → Res Fl
  | .nx e => t e
  | f => .ok f
def sSeq (s t : Env → Res Fl) : Env → Res Fl := fun env => s env >>= seqK t
theorem ss_nil : PSs X [] (SR g E B Hs0 sNil) := PSs_mono pss_nil fun D σ H ⟨Hs, env, r, w⟩ => nx_end w r
theorem ss_cons (h1 : PS X st (SR g E B Hs0 s)) (h2 : PSs X rest (SR g E B Hs0 t)) : PSs X (st :: rest) (SR g E B Hs0 (sSeq s t)) :=
  PSs_mono (pss_cons h1 h2) fun D σ H ⟨Hs, env, r, w⟩ => by
    refine ⟨Hs, env, r, w.bind.mono (Same.refl _) fun fl wf => ?_⟩
    cases fl with
    | nx e' => exact fun σ' H' Hs' s r' => ⟨Hs', e', r', wf.mono (Same.refl _) fun _ l => l.mono s⟩
    | bk e' => exact wf.is_ok
    | ct e' => exact wf.is_ok
    | rt c => exact wf.is_ok
theorem ss_one (h1 : PS X st (SR g E B Hs0 s)) : PSs X [st] (SR g E B Hs0 s) := pss_one h1
def sBreak : Env → Res Fl := fun env => .ok (.bk env)
def sCont : Env → Res Fl := fun env => .ok (.ct env)
theorem ss_pass : PS X (.Pass pos) (SR g E B Hs0 sNil) := PS_mono ps_pass fun D σ H ⟨Hs, env, r, w⟩ => nx_end w r
theorem ss_break : PS X (.Break pos) (SR g E B Hs0 sBreak) := PS_mono ps_break fun D σ H ⟨Hs, env, r, w⟩ => w.is_ok σ H Hs (Same.refl _) r
theorem ss_continue : PS X (.Continue pos) (SR g E B Hs0 sCont) := PS_mono ps_continue fun D σ H ⟨Hs, env, r, w⟩ => w.is_ok σ H Hs (Same.refl _) r
/-- a list of the def's own is given up ahead of a statement -/
def frz1 (i : Nat) (env : Env) : Env := match env[i]? with
  | some (some (.own l)) => env.set i (some (.val (.lst l)))
  | _ => env
def sFrz (i : Nat) (s : Env → Res Fl) : Env → Res Fl := fun env => s (frz1 i env)
theorem frz_SR {i : Nat} {D : Ends} {σ : L2.St} {H : Hp} (w : SR g E B Hs0 (sFrz i s) D σ H) : SR g E B Hs0 s D σ H := by
  obtain ⟨Hs, env, r, w⟩ := w
  unfold sFrz frz1 at w
  split at w
  · rename_i l hl
    obtain ⟨Hs', up, r'⟩ := r.frz hl
    exact ⟨Hs', _, r', w.mono (Same.refl _) fun _ l => l.mono up⟩
  · exact ⟨Hs, env, r, w⟩
theorem ss_frz (i : Nat) (h : PS X st (SR g E B Hs0 s)) : PS X st (SR g E B Hs0 (sFrz i s)) := PS_mono h fun _ _ _ w => frz_SR w

/-! ### stores -/
def sSet (i : Nat) (f : BEnv → Res D) : Env → Res Fl := fun env => f env.clean >>= fun d => .ok (.nx (env.set i (some (.val d))))
def sSetB (i : Nat) (f : BEnv → Res D) : Env → Res Fl := fun env => f env.borrow >>= fun d => if noLst d = true then .ok (.nx (env.set i (some (.val d)))) else .bad
def sOwn (i : Nat) (f : BEnv → Res (List D)) : Env → Res Fl := fun env => f env.clean >>= fun l => .ok (.nx (env.set i (some (.own l))))
def sOwnB (i : Nat) (f : BEnv → Res (List D)) : Env → Res Fl := fun env => f env.borrow >>= fun l => if noLsts l = true then .ok (.nx (env.set i (some (.own l)))) else .bad
section
variable {i : Nat} {D : Ends} {σ : L2.St} {H : Hp}
theorem rd_set (w : SR g E B Hs0 (sSet i f) D σ H) : ER g E f σ H fun x H1 => gName i x σ H1 D.nx :=
  clean_then (kd := fun d env => .ok (.nx (env.set i (some (.val d))))) w fun Hs env d v H r q w => nx_end w (r.setVal q)
theorem rd_setB (w : SR g E B Hs0 (sSetB i f) D σ H) : ER g E f σ H fun x H1 => gName i x σ H1 D.nx :=
  bor_then (kd := fun d env => .ok (.nx (env.set i (some (.val d))))) w fun Hs env d v H r q w => nx_end w (r.setVal q)
theorem rd_own (w : SR g E B Hs0 (sOwn i fo) D σ H) : EO g E fo σ H fun x H1 => gName i x σ H1 D.nx :=
  own_then (kl := fun l env => .ok (.nx (env.set i (some (.own l))))) w fun Hs env l a vs H r h1 h2 h3 h4 h5 w => nx_end w (r.setOwn h1 h2 h4 h5 h3)
theorem rd_ownB (w : SR g E B Hs0 (sOwnB i fo) D σ H) : EO g E fo σ H fun x H1 => gName i x σ H1 D.nx :=
  ownB_then (kl := fun l env => .ok (.nx (env.set i (some (.own l))))) w fun Hs env l a vs H r h1 h2 h3 h4 h5 w => nx_end w (r.setOwn h1 h2 h4 h5 h3)
end
section
variable {i : Nat} {x : Str} {pos' : Pos}
theorem ss_set (hN : X.N.Nodup) (hi : X.N[i]? = some x) (hx : Loc X.env.scope x) (he : PE X e (ER g E f)) (hs : swapsWith e (some (.Name x pos')) pos.line X.env = pure false := by rfl) (hf : X.fn x = true ∨ X.env.scope.names.lookup x = some .local := by first | exact .inl rfl | exact .inr rfl | assumption) : PS X (.Assign [.Name x pos'] e pos) (SR g E B Hs0 (sSet i f)) :=
  PS_mono (ps_set hN hi hx he hs hf) fun _ _ _ w => rd_set w
theorem ss_setB (hN : X.N.Nodup) (hi : X.N[i]? = some x) (hx : Loc X.env.scope x) (he : PE X e (ER g E f)) (hs : swapsWith e (some (.Name x pos')) pos.line X.env = pure false := by rfl) (hf : X.fn x = true ∨ X.env.scope.names.lookup x = some .local := by first | exact .inl rfl | exact .inr rfl | assumption) : PS X (.Assign [.Name x pos'] e pos) (SR g E B Hs0 (sSetB i f)) :=
  PS_mono (ps_set hN hi hx he hs hf) fun _ _ _ w => rd_setB w
theorem ss_own (hN : X.N.Nodup) (hi : X.N[i]? = some x) (hx : Loc X.env.scope x) (he : PE X e (EO g E fo)) (hs : swapsWith e (some (.Name x pos')) pos.line X.env = pure false := by rfl) (hf : X.fn x = true ∨ X.env.scope.names.lookup x = some .local := by first | exact .inl rfl | exact .inr rfl | assumption) : PS X (.Assign [.Name x pos'] e pos) (SR g E B Hs0 (sOwn i fo)) :=
  PS_mono (ps_set hN hi hx he hs hf) fun _ _ _ w => rd_own w
theorem ss_ownB (hN : X.N.Nodup) (hi : X.N[i]? = some x) (hx : Loc X.env.scope x) (he : PE X e (EO g E fo)) (hs : swapsWith e (some (.Name x pos')) pos.line X.env = pure false := by rfl) (hf : X.fn x = true ∨ X.env.scope.names.lookup x = some .local := by first | exact .inl rfl | exact .inr rfl | assumption) : PS X (.Assign [.Name x pos'] e pos) (SR g E B Hs0 (sOwnB i fo)) :=
  PS_mono (ps_set hN hi hx he hs hf) fun _ _ _ w => rd_ownB w
end
/-- a, b = x, y -/
def sPar (i j : Nat) (f h : BEnv → Res D) : Env → Res Fl := fun env => f env.clean >>= fun d => h env.clean >>= fun d' => .ok (.nx ((env.set i (some (.val d))).set j (some (.val d'))))
theorem ss_par {i j : Nat} {x y : Str} {a b : Expr} {f h : BEnv → Res D} {px py pt : Pos} {kt k2 pt2} (hc : X.calm = true) (hN : X.N.Nodup) (hi : X.N[i]? = some x) (hj : X.N[j]? = some y) (hij : i ≠ j)
    (hx : X.env.scope.names.lookup x = some .local) (hy : X.env.scope.names.lookup y = some .local) (ha : PE X a (ER g E f)) (hb : PE X b (ER g E h))
    (hw : swappedStores [.Tuple [.Name x px, .Name y py] kt pt] (.Tuple [a, b] k2 pt2) X.env = pure (some [x, y]))
    (hs : swapsWithSole [.Tuple [.Name x px, .Name y py] kt pt] (.Tuple [a, b] k2 pt2) pos.line X.env = pure false := by rfl)
    (h1 : starEach [a, b] X.env = (false, eval a X.env) :: starEach [b] X.env := by rfl) (h2 : starEach [b] X.env = (false, eval b X.env) :: starEach [] X.env := by rfl) :
    PS X (.Assign [.Tuple [.Name x px, .Name y py] kt pt] (.Tuple [a, b] k2 pt2) pos) (SR g E B Hs0 (sPar i j f h)) :=
  PS_mono (ps_par hc hN hi hj hij hx hy (sa_cons ha (sa_cons hb sa_nil h2) h1) hw hs) fun D σ H ⟨Hs, env, r, w⟩ => by
    refine ⟨Hs, env.clean, r.sub, r.clean, ?_⟩
    have w' : Wk g E B (aCons f (aCons h aNil) env.clean >>= fun ds => match ds with
      | [d, d'] => Res.ok (Fl.nx ((env.set i (some (.val d))).set j (some (.val d'))))
      | _ => .bad) (SLand g B Hs0 Hs D) := by
      have : (aCons f (aCons h aNil) env.clean >>= fun ds => match ds with
        | [d, d'] => Res.ok (Fl.nx ((env.set i (some (.val d))).set j (some (.val d'))))
        | _ => .bad) = sPar i j f h env := by
        unfold aCons aNil sPar
        cases f env.clean with
        | ok d =>
          cases h env.clean with
          | ok d' => rfl
          | _ => rfl
        | _ => rfl
      rw [this]; exact w
    refine w'.bind.mono r.keep fun ds wd vs H' Hs' x rr => ?_
    split at wd
    · obtain ⟨⟩ | ⟨r1, rr⟩ := rr
      obtain ⟨⟩ | ⟨r2, rr⟩ := rr
      cases rr
      refine ⟨_, _, rfl, ?_⟩
      exact wd.is_ok _ _ Hs' x.up (((r.ext x).setVal r1).setVal r2)
    · exact absurd rfl wd.bad

/-! ### return, expression statements, if -/
def sRet (f : BEnv → Res D) : Env → Res Fl := fun env => f env.borrow >>= fun d => .ok (.rt (.val d))
theorem ss_ret (he : PE X e (ER g E f)) : PS X (.Return (some e) pos) (SR g E B Hs0 (sRet f)) :=
  PS_mono (ps_ret he) fun D σ H ⟨Hs, env, r, w⟩ => by
    refine ⟨Hbor Hs H σ env, env.borrow, r.hb_sub, r.borrow, w.bind.mono r.keep fun d wd v H' Hs' x r' => ?_⟩
    refine wd.is_ok v H' ⟨Hs', ⟨r.keep.trans x.same, r.sub0.trans (r.hb_up.trans x.up), x.sub, fun a o e => ?_⟩, r'⟩
    rcases x.new a o e with q | q
    · by_cases h : isRoot σ env a
      · exact .inr (r.root h).2.1
      · rw [hb_not h] at q; exact r.new a o q
    · exact .inr (r.keep.free q)
def sRetO (f : BEnv → Res (List D)) : Env → Res Fl := fun env => f env.borrow >>= fun l => .ok (.rt (.own l))
theorem ss_retO (he : PE X e (EO g E fo)) : PS X (.Return (some e) pos) (SR g E B Hs0 (sRetO fo)) :=
  PS_mono (ps_ret he) fun D σ H ⟨Hs, env, r, w⟩ => by
    refine ⟨Hbor Hs H σ env, env.borrow, r.hb_sub, r.borrow, w.bind.mono r.keep fun d wd a vs H' Hs' x h1 h2 h3 h4 => ?_⟩
    refine wd.is_ok (.ref a) H' ⟨a, vs, Hs', rfl, ⟨r.keep.trans x.same, r.sub0.trans (r.hb_up.trans x.up), x.sub, fun a o e => ?_⟩, h2, r.keep.free h1, h3, h4⟩
    rcases x.new a o e with q | q
    · by_cases h : isRoot σ env a
      · exact .inr (r.root h).2.1
      · rw [hb_not h] at q; exact r.new a o q
    · exact .inr (r.keep.free q)
def sRetV (i : Nat) : Env → Res Fl := fun env => match env[i]? with
  | some (some (.own l)) => .ok (.rt (.own l))
  | _ => .bad
theorem ss_retV {i : Nat} (he : PE X e (tVar i)) : PS X (.Return (some e) pos) (SR g E B Hs0 (sRetV i)) :=
  PS_mono (ps_ret he) fun D σ H ⟨Hs, env, r, w⟩ => by
    unfold sRetV at w
    split at w
    · rename_i l hl
      obtain ⟨a, vs, h1, h2, h3, h4, h5⟩ := r.own i l hl
      exact ⟨.ref a, h1, w.is_ok _ _ ⟨a, vs, Hs, rfl, ⟨r.keep, r.sub0, r.sub, r.new⟩, h2, h3, h4, h5⟩⟩
    · exact absurd rfl w.bad
def sExpr (f : BEnv → Res D) : Env → Res Fl := fun env => f env.borrow >>= fun _ => .ok (.nx env)
theorem ss_expr (he : PE X e (ER g E f)) (hs : swapsWith e none pos.line X.env = pure false := by rfl) : PS X (.Expr e pos) (SR g E B Hs0 (sExpr f)) :=
  PS_mono (ps_expr he hs) fun D σ H w => drop_then w fun Hs env v H r w => nx_end w r
def sIf (p : BEnv → Res Bool) (s t : Env → Res Fl) : Env → Res Fl := fun env => p env.borrow >>= fun b => if b = true then s env else t env
theorem ss_if {c : Expr} {a b : List Stmt} (hc : PT X c (TR g E p)) (ha : PSs X a (SR g E B Hs0 s)) (hb : PSs X b (SR g E B Hs0 t)) : PS X (.If c a b pos) (SR g E B Hs0 (sIf p s t)) :=
  PS_mono (ps_if hc ha hb) fun D σ H w => test_then (kb := fun b env => if b = true then s env else t env) w fun Hs env b H r w => by
    cases b with
    | true => exact iteT ⟨Hs, env, r, by simpa using w⟩
    | false => exact iteF ⟨Hs, env, r, by simpa using w⟩

/-! ### lists of the def's own, changed -/
def ownAt (env : Env) (i : Nat) (k : List D → Res Fl) : Res Fl := match env[i]? with
  | some (some (.own l)) => k l
  | _ => .bad
theorem ownAt_wk {env : Env} {i : Nat} {k : List D → Res Fl} {P : Fl → Prop} (w : Wk g E B (ownAt env i k) P) : ∃ l, env[i]? = some (some (.own l)) ∧ Wk g E B (k l) P := by
  unfold ownAt at w
  split at w
  · rename_i l hl
    exact ⟨l, hl, w⟩
  · exact absurd rfl w.bad
def sApp (i : Nat) (f : BEnv → Res D) : Env → Res Fl := fun env => ownAt env i fun l => f env.clean >>= fun d => if l.length < 1000000 then .ok (.nx (env.set i (some (.own (l ++ [d]))))) else .bad
def sAppB (i : Nat) (f : BEnv → Res D) : Env → Res Fl := fun env => ownAt env i fun l => f env.borrow >>= fun d => if noLst d = true then (if l.length < 1000000 then .ok (.nx (env.set i (some (.own (l ++ [d]))))) else .bad) else .bad
/-- a new list is appended -/
def sAppO (i : Nat) (f : BEnv → Res (List D)) : Env → Res Fl := fun env => ownAt env i fun l => f env.borrow >>= fun d => if noLsts d = true then (if l.length < 1000000 then .ok (.nx (env.set i (some (.own (l ++ [.lst d]))))) else .bad) else .bad
section
variable {i : Nat} {x name : Str} {px apos cpos : Pos} {o : Expr}
theorem app_end {Hs : Hp} {env : Env} {d : D} {v : V} {H : Hp} {σ : L2.St} {Z : Ends} {a : Addr} {l : List D} (hl : env[i]? = some (some (.own l))) (ha : σ[i]? = some (some (.ref a))) (r : StR g B Hs0 Hs H σ env) (q : R g Hs v d)
    (w : Wk g E B (if l.length < 1000000 then Res.ok (.nx (env.set i (some (.own (l ++ [d]))))) else .bad) (SLand g B Hs0 Hs Z)) : rAppend (.ref a) [v] H (fun _ H1 => Z.nx σ H1) := by
  obtain ⟨hz, l'⟩ := wk_if w
  obtain ⟨b, vs, h1, h2, h3, h4, h5⟩ := r.own i l hl
  rw [ha] at h1
  have : a = b := by simpa using h1
  subst this
  refine ⟨a, vs, v, rfl, rfl, h4, by rw [h5.length]; exact Nat.lt_of_lt_of_le hz (by decide), ?_⟩
  exact l' _ _ Hs (Same.refl _) (r.chg hl ha (h5.snoc q))
/-- the way of e.append(..) -/
abbrev AppWay (X : Cx) (o e : Expr) (name : Str) (apos cpos : Pos) : Prop := ∀ {to : TE} {t : TA}, PE X o to → PA X [e] t → PE X (.Call (.Attribute o name apos) [e] [] cpos) (tBM X.K "list" rAppend to t)
theorem ss_app (ho : PE X o (tVar i)) (he : PE X e (ER g E f)) (p : AppWay X o e name apos cpos)
    (hs : swapsWith (.Call (.Attribute o name apos) [e] [] cpos) none pos.line X.env = pure false := by rfl) (hst : starEach [e] X.env = (false, eval e X.env) :: starEach [] X.env := by rfl) :
    PS X (.Expr (.Call (.Attribute o name apos) [e] [] cpos) pos) (SR g E B Hs0 (sApp i f)) :=
  PS_mono (ps_expr (p ho (pa_cons he pa_nil hst)) hs) fun Z σ H w => by
    obtain ⟨Hs, env, r, w⟩ := w
    obtain ⟨l, hl, w⟩ := ownAt_wk w
    obtain ⟨a, vs, h1, h2, h3, h4, h5⟩ := r.own i l hl
    refine ⟨.ref a, h1, .inl ⟨rfl, vs, SqL.of h4⟩, ?_⟩
    refine ⟨Hs, env.clean, r.sub, r.clean, w.bind.mono r.keep fun d wd v H' Hs' x r' => ?_⟩
    exact app_end hl h1 (r.ext x) r' (wd.mono (Same.refl _) fun _ l => l.mono x.up)
theorem ss_appB (ho : PE X o (tVar i)) (he : PE X e (ER g E f)) (p : AppWay X o e name apos cpos)
    (hs : swapsWith (.Call (.Attribute o name apos) [e] [] cpos) none pos.line X.env = pure false := by rfl) (hst : starEach [e] X.env = (false, eval e X.env) :: starEach [] X.env := by rfl) :
    PS X (.Expr (.Call (.Attribute o name apos) [e] [] cpos) pos) (SR g E B Hs0 (sAppB i f)) :=
  PS_mono (ps_expr (p ho (pa_cons he pa_nil hst)) hs) fun Z σ H w => by
    obtain ⟨Hs, env, r, w⟩ := w
    obtain ⟨l, hl, w⟩ := ownAt_wk w
    obtain ⟨a, vs, h1, h2, h3, h4, h5⟩ := r.own i l hl
    refine ⟨.ref a, h1, .inl ⟨rfl, vs, SqL.of h4⟩, ?_⟩
    refine ⟨Hbor Hs H σ env, env.borrow, r.hb_sub, r.borrow, w.bind.mono r.keep fun d wd v H' Hs' x r' => ?_⟩
    by_cases hn : noLst d = true
    · rw [if_pos hn] at wd
      obtain ⟨r2, up, k, _⟩ := r.bor x
      exact app_end hl h1 r2 (R.cutL k r' hn) (wd.mono (Same.refl _) fun _ l => l.mono up)
    · rw [if_neg hn] at wd; exact absurd rfl wd.bad
theorem ss_appO (ho : PE X o (tVar i)) (he : PE X e (EO g E fo)) (p : AppWay X o e name apos cpos)
    (hs : swapsWith (.Call (.Attribute o name apos) [e] [] cpos) none pos.line X.env = pure false := by rfl) (hst : starEach [e] X.env = (false, eval e X.env) :: starEach [] X.env := by rfl) :
    PS X (.Expr (.Call (.Attribute o name apos) [e] [] cpos) pos) (SR g E B Hs0 (sAppO i fo)) :=
  PS_mono (ps_expr (p ho (pa_cons he pa_nil hst)) hs) fun Z σ H w => by
    obtain ⟨Hs, env, r, w⟩ := w
    obtain ⟨l, hl, w⟩ := ownAt_wk w
    obtain ⟨a, vs, h1, h2, h3, h4, h5⟩ := r.own i l hl
    refine ⟨.ref a, h1, .inl ⟨rfl, vs, SqL.of h4⟩, ?_⟩
    refine ⟨Hbor Hs H σ env, env.borrow, r.hb_sub, r.borrow, w.bind.mono r.keep fun d wd b us H' Hs' x q1 q2 q3 q4 => ?_⟩
    by_cases hn : noLsts d = true
    · rw [if_pos hn] at wd
      obtain ⟨r2, up, k, z1, z2⟩ := r.bor x
      have hb := z1 b q2
      -- the new list joins what stands still
      have r3 : StR g B Hs0 (upd (Hcut Hs' σ env) b (.lst us)) H' σ env := by
        have r4 := r2.setOwn (i := σ.length) hb (r.keep.free q1) q3 (Rs.cutL k q4 hn) (z2 b q1)
        have x5 : Ext (Hcut Hs' σ env) H (upd (Hcut Hs' σ env) b (.lst us)) H' := ⟨x.same, same_upd hb, fun c o q => ?_, fun c o q => ?_⟩
        · refine ⟨r2.keep, r2.sub0.trans (same_upd hb), x5.sub, fun c o q => ?_, r2.len, fun j d q => ?_, fun j m q => ?_, r2.dis⟩
          · by_cases hc : c = b
            · subst hc; exact .inr (r.keep.free q1)
            · rw [upd_ne hc] at q; exact r2.new c o q
          · obtain ⟨v, p1, p2⟩ := r2.val j d q
            exact ⟨v, p1, p2.mono (same_upd hb)⟩
          · obtain ⟨c, ws, p1, p2, p3, p4, p5⟩ := r2.own j m q
            refine ⟨c, ws, p1, ?_, p3, p4, p5.mono (same_upd hb)⟩
            rw [upd_ne]
            · exact p2
            · rintro rfl
              exact z2 c q1 ⟨j, m, q, p1⟩
        · by_cases hc : c = b
          · subst hc; rw [upd_same] at q; cases q; exact q3
          · rw [upd_ne hc] at q; exact r2.sub c o q
        · by_cases hc : c = b
          · subst hc; exact .inr q1
          · rw [upd_ne hc] at q; exact .inl q
      have up2 : Same Hs (upd (Hcut Hs' σ env) b (.lst us)) := up.trans (same_upd hb)
      exact app_end hl h1 r3 (.lst upd_same ((Rs.cutL k q4 hn).mono (same_upd hb))) (wd.mono (Same.refl _) fun _ l => l.mono up2)
    · rw [if_neg hn] at wd; exact absurd rfl wd.bad
/-- x[i] = e -/
def sIx (i : Nat) (fi : BEnv → Res D) (f : BEnv → Res D) : Env → Res Fl := fun env => f env.clean >>= fun d => ownAt env i fun l => fi env.borrow >>= fun z => match z with
  | .int k => match ixN l.length k with
    | some j => .ok (.nx (env.set i (some (.own (l.set j d)))))
    | none => .bad
  | _ => .bad
def sIxB (i : Nat) (fi : BEnv → Res D) (f : BEnv → Res D) : Env → Res Fl := fun env => f env.borrow >>= fun d => if noLst d = true then (ownAt env i fun l => fi env.borrow >>= fun z => match z with
  | .int k => match ixN l.length k with
    | some j => .ok (.nx (env.set i (some (.own (l.set j d)))))
    | none => .bad
  | _ => .bad) else .bad
theorem ix_end {Hs : Hp} {env : Env} {d : D} {v : V} {H : Hp} {σ : L2.St} {Z : Ends} {fi : BEnv → Res D} {ei : Expr} (r : StR g B Hs0 Hs H σ env) (q : R g Hs v d)
    (w : Wk g E B (ownAt env i fun l => fi env.borrow >>= fun z => match z with
      | .int k => match ixN l.length k with
        | some j => Res.ok (.nx (env.set i (some (.own (l.set j d)))))
        | none => .bad
      | _ => .bad) (SLand g B Hs0 Hs Z)) : gSub (tVar i) (ER g E fi) rSetL v σ H Z.nx := by
  obtain ⟨l, hl, w⟩ := ownAt_wk w
  obtain ⟨a, vs, h1, h2, h3, h4, h5⟩ := r.own i l hl
  refine ⟨.ref a, h1, Hbor Hs H σ env, env.borrow, r.hb_sub, r.borrow, w.bind.mono r.keep fun z wz u H' Hs' x ru => ?_⟩
  have r1 := r.same x.same
  cases ru with
  | int k =>
    have wz : Wk g E B (match ixN l.length k with
        | some j => Res.ok (Fl.nx (env.set i (some (.own (l.set j d)))))
        | none => .bad) (SLand g B Hs0 Hs Z) := wz
    split at wz
    · rename_i j hj
      refine ⟨a, vs, k, j, rfl, rfl, x.same _ _ h4, by rw [h5.length]; exact hj, ?_⟩
      exact wz.is_ok _ _ Hs (Same.refl _) (r1.chg hl h1 (h5.set j q))
    · exact absurd rfl wz.bad
  | _ => exact absurd rfl wz.bad
theorem ss_ix {fi : BEnv → Res D} {ei : Expr} {tpos : Pos} (ho : PE X o (tVar i)) (hi : PE X ei (ER g E fi)) (he : PE X e (ER g E f))
    (p : ∀ {te to ti : TE}, PE X e te → PE X o to → PE X ei ti → PS X st (tAsg te (gSub to ti rSetL))) : PS X st (SR g E B Hs0 (sIx i fi f)) :=
  PS_mono (p he ho hi) fun Z σ H w => clean_then (kd := fun d env => ownAt env i fun l => fi env.borrow >>= fun z => match z with
      | .int k => match ixN l.length k with
        | some j => Res.ok (.nx (env.set i (some (.own (l.set j d)))))
        | none => .bad
      | _ => .bad) w fun Hs env d v H r q w => ix_end (ei := ei) r q w
theorem ss_ixB {fi : BEnv → Res D} {ei : Expr} {tpos : Pos} (ho : PE X o (tVar i)) (hi : PE X ei (ER g E fi)) (he : PE X e (ER g E f))
    (p : ∀ {te to ti : TE}, PE X e te → PE X o to → PE X ei ti → PS X st (tAsg te (gSub to ti rSetL))) : PS X st (SR g E B Hs0 (sIxB i fi f)) :=
  PS_mono (p he ho hi) fun Z σ H w => bor_then (kd := fun d env => ownAt env i fun l => fi env.borrow >>= fun z => match z with
      | .int k => match ixN l.length k with
        | some j => Res.ok (.nx (env.set i (some (.own (l.set j d)))))
        | none => .bad
      | _ => .bad) w fun Hs env d v H r q w => ix_end (ei := ei) r q w
end
/-! ### while -/
def whileD : Nat → (BEnv → Res Bool) → (Env → Res Fl) → Env → Res Fl
  | 0, _, _, _ => .bad
  | n + 1, p, s, env => p env.borrow >>= fun b => if b = true then s env >>= fun fl => match fl with
    | .nx e => whileD n p s e
    | .ct e => whileD n p s e
    | .bk e => .ok (.nx e)
    | .rt c => .ok (.rt c)
    else .ok (.nx env)
def sWhile (fuel : Env → Nat) (p : BEnv → Res Bool) (s : Env → Res Fl) : Env → Res Fl := fun env => whileD (fuel env) p s env
theorem ss_while {c : Expr} {body : List Stmt} (fuel : Env → Nat) (hp : PassesOwn (model X.prog X.w) X.A X.env X.xe) (hc : PT X c (TR g E p)) (hb : PSs X body (SR g E B Hs0 s)) : PS X (.While c body [] pos) (SR g E B Hs0 (sWhile fuel p s)) :=
  PS_mono (ps_while hp hc hb) fun Z σ H ⟨Hs, env, r, w⟩ => by
    refine ⟨fun m σ H => ∃ Hs env, StR g B Hs0 Hs H σ env ∧ Wk g E B (whileD m p s env) (SLand g B Hs0 Hs Z), ⟨_, Hs, env, r, w⟩, ?_⟩
    rintro m σ H ⟨Hs, env, r, w⟩
    cases m with
    | zero => exact absurd rfl w.bad
    | succ m =>
      refine test_then (kb := fun b env => if b = true then s env >>= fun fl => match fl with
        | .nx e => whileD m p s e
        | .ct e => whileD m p s e
        | .bk e => .ok (.nx e)
        | .rt c => .ok (.rt c)
        else .ok (.nx env)) (D := Z) ⟨Hs, env, r, w⟩ fun Hs env b H r w => ?_
      cases b with
      | false => exact iteF (nx_end (by simpa using w) r)
      | true =>
        have w' : Wk g E B (s env >>= fun fl => match fl with
          | .nx e => whileD m p s e
          | .ct e => whileD m p s e
          | .bk e => .ok (.nx e)
          | .rt c => .ok (.rt c)) (SLand g B Hs0 Hs Z) := by simpa using w
        refine iteT ⟨fun σ' H' => ∃ Hs env, StR g B Hs0 Hs H' σ' env ∧ Wk g E B (whileD m p s env) (SLand g B Hs0 Hs Z), fun σ' H' h => ⟨m, Nat.lt_succ_self m, h⟩, Hs, env, r, w'.bind.mono (Same.refl _) fun fl wf => ?_⟩
        cases fl with
        | nx e => exact fun σ' H' Hs' s r' => ⟨Hs', e, r', wf.mono (Same.refl _) fun _ l => l.mono s⟩
        | ct e => exact fun σ' H' Hs' s r' => ⟨Hs', e, r', wf.mono (Same.refl _) fun _ l => l.mono s⟩
        | bk e => exact wf.is_ok
        | rt c => exact wf.is_ok

/-! ### a def -/
def startE (n : Nat) (ds : List D) : Env := ds.map (fun d => some (.val d)) ++ List.replicate (n - ds.length) none
def endFl : Fl → Res Cell
  | .rt c => .ok c
  | .nx _ => .ok (.val .non)
  | _ => .bad
/-- the value of a def's body: N slots, n parameters -/
def runB (N n : Nat) (s : Env → Res Fl) (ds : List D) : Res Cell := if ds.length = n then s (startE N ds) >>= endFl else .bad
theorem start_StR {g : G} {Hs H : Hp} {N : List Str} {vs : List V} {ds : List D} (s : Same Hs H) (r : Rs g Hs vs ds) : StR g H Hs Hs H (L2.start N vs) (startE N.length ds) where
  keep := Same.refl _
  sub0 := Same.refl _
  sub := s
  new := fun _ _ e => .inl e
  len := by unfold L2.start startE; simp [r.length]
  val := fun i d e => by
    unfold startE at e
    by_cases hi : i < ds.length
    · rw [List.getElem?_append_left (by simpa using hi), List.getElem?_map] at e
      cases q : ds[i]? with
      | none => rw [q] at e; simp at e
      | some d' =>
        rw [q] at e
        have : d' = d := by simpa using e
        subst this
        obtain ⟨v, h1, h2⟩ := r.get q
        refine ⟨v, ?_, h2⟩
        unfold L2.start
        rw [List.getElem?_append_left (by rw [List.length_map, r.length]; exact hi), List.getElem?_map, h1]
        rfl
    · rw [List.getElem?_append_right (by simpa using hi)] at e
      simp [List.getElem?_replicate] at e
  own := fun i l e => by
    unfold startE at e
    by_cases hi : i < ds.length
    · rw [List.getElem?_append_left (by simpa using hi), List.getElem?_map] at e
      cases q : ds[i]? with
      | none => rw [q] at e; simp at e
      | some d' => rw [q] at e; simp at e
    · rw [List.getElem?_append_right (by simpa using hi)] at e
      simp [List.getElem?_replicate] at e
  dis := fun i j l m a n e => by
    unfold startE at e
    by_cases hi : i < ds.length
    · rw [List.getElem?_append_left (by simpa using hi), List.getElem?_map] at e
      cases q : ds[i]? with
      | none => rw [q] at e; simp at e
      | some d' => rw [q] at e; simp at e
    · rw [List.getElem?_append_right (by simpa using hi)] at e
      simp [List.getElem?_replicate] at e
theorem body_read {n : Nat} {N : List Str} {H : Hp} {vs : List V} {Q : VK} (h : spD g n (runB N.length n s) vs H Q E) :
    ∃ B Hs0, SR g E B Hs0 s { nx := fun _ H' => Q .non H', rt := Q } (L2.start N vs) H := by
  obtain ⟨Hs, ds, sm, r, e, w⟩ := h
  refine ⟨H, Hs, Hs, _, start_StR sm r, ?_⟩
  unfold runB at w
  rw [if_pos e] at w
  refine w.bind.mono (Same.refl _) fun fl wf => ?_
  cases fl with
  | nx e' => exact fun σ' H' Hs' s' r' => wf.is_ok .non H' ⟨Hs', ⟨r'.keep, r'.sub0, r'.sub, r'.new⟩, .non⟩
  | rt c => exact wf.is_ok
  | bk e' => exact absurd rfl wf.bad
  | ct e' => exact absurd rfl wf.bad
end
theorem def_fn {P : Program} {w : World} {base : Heap} {g : G} {x qual : Str} {st : Stmt} {f : Addr} {fd : FuncData} {N ps : List Str} {k : Nat} {s : Env → Res Fl} (F : Fun g.K x qual st f fd) (S : FnScope N ps (defScope st))
    (hbody : ∀ (cdv : Value) (A : Around) (outer : List PySem.Env) (sh : Shared) (H : Hp) (E : XK) (B Hs0 : Hp), Room k (A.deeper (envOfC qual (defScope st) sh.heap.objs.size f cdv)) →
      PSs (cxOf (L2.CX P w) P w g.K g.mg base N qual (defScope st) f cdv A outer sh H E) (defBody st) (SR g E B Hs0 s)) : FnOk P w g.K g.mg base (L2.CX P w) (k + 1) f fd ps (spD g ps.length (runB N.length ps.length s)) :=
  F.okX S (fun vs H Q E h => spD.len vs H Q E h) fun cdv A outer sh H vs Q E hr h => by
    obtain ⟨B, Hs0, q⟩ := body_read h
    exact ⟨_, hbody cdv A outer sh H E B Hs0 hr, q⟩
theorem def_ok {P : Program} {w : World} {base : Heap} {g : G} {x qual : Str} {st : Stmt} {f : Addr} {fd : FuncData} {N ps : List Str} {k : Nat} {s : Env → Res Fl} (F : Fun g.K x qual st f fd) (S : FnScope N ps (defScope st))
    (hm : g.mg x = some (.ref f)) (hb : Binds g.K fd ps [])
    (hbody : ∀ (cdv : Value) (A : Around) (outer : List PySem.Env) (sh : Shared) (H : Hp) (E : XK) (B Hs0 : Hp), Room k (A.deeper (envOfC qual (defScope st) sh.heap.objs.size f cdv)) →
      PSs (cxOf (L2.CX P w) P w g.K g.mg base N qual (defScope st) f cdv A outer sh H E) (defBody st) (SR g E B Hs0 s)) : Fn P w base g x ps.length (k + 1) (runB N.length ps.length s) := by
  refine ⟨fun ds nb => ?_, f, fd, ps, rfl, hm, F.kp, hb, def_fn F S hbody⟩
  by_cases e : ds.length = ps.length
  · exact e
  · unfold runB at nb; rw [if_neg e] at nb; exact absurd rfl nb

/-! ### a law's own promise -/
def spLaw (K : PySem.W.Frag) : Sp := fun vs H Q _ => ∃ (a : Addr) (ns : List Int), vs = [.ref a] ∧ SqL K H a (ns.map V.int) ∧ ns.length ≤ 63 ∧ (∀ z ∈ ns, Builtin.Int.intBits z ≤ 1048576) ∧ ∀ H', Q (.bl true) H'
theorem law_ok {P : Program} {w : World} {base : Heap} {K : PySem.W.Frag} {mg : Str → Option Value} {cC : Addr} {f : Addr} {fd : FuncData} {ps : List Str} {k : Nat} {den : List D → Res Cell} (F : FnOk P w K mg base (L2.CX P w) k f fd ps (spD ⟨K, mg, cC, fun _ _ => False, fun _ _ _ _ h => h⟩ 1 den))
    (h : ∀ ns : List Int, ns.length ≤ 63 → (∀ z ∈ ns, Builtin.Int.intBits z ≤ 1048576) → den [.scr ns] = .ok (.val (.bl true))) : FnOk P w K mg base (L2.CX P w) k f fd ps (spLaw K) :=
  F.imp fun vs H Q E ⟨a, ns, e, hS, hl, hb, q⟩ => by
    subst e
    refine ⟨H, [.scr ns], Same.refl _, .cons (.scr hS) .nil, rfl, ?_⟩
    rw [h ns hl hb]
    refine .of_ok fun v H' r => ?_
    obtain ⟨Hs', x, r⟩ := r
    cases r
    exact q H'
theorem cx_never {P : Program} {w : World} (H : Hp) (s : Shared) (e : Value) (s' : Shared) (h : L2.CX P w [] H s (fun _ _ _ => False) e s') : False := by
  obtain ⟨_, _, _, _, _, _, _, _, _, _, _, _, z⟩ := h
  exact z.elim
end PL

set_option Elab.async false
set_option linter.all false
set_option maxRecDepth 100000
set_option maxHeartbeats 1000000
namespace PL
open PySem PySem.Spec PyProof.Rows L2

/-! ### targets -/
abbrev Pat := D → Res (List (Nat × D))
inductive As (g : G) (Hs : Hp) : List (Nat × V) → List (Nat × D) → Prop
  | nil : As g Hs [] []
  | cons {i : Nat} {v : V} {d : D} {vs : List (Nat × V)} {ds : List (Nat × D)} (h : R g Hs v d) (r : As g Hs vs ds) : As g Hs ((i, v) :: vs) ((i, d) :: ds)
def setAll (σ : L2.St) : List (Nat × V) → L2.St
  | [] => σ
  | (i, v) :: r => setAll (σ.set i (some v)) r
def setAllE (env : Env) : List (Nat × D) → Env
  | [] => env
  | (i, d) :: r => setAllE (env.set i (some (.val d))) r
def setAllB (env : BEnv) : List (Nat × D) → BEnv
  | [] => env
  | (i, d) :: r => setAllB (env.set i (some d)) r
theorem setAll_append (σ : L2.St) : ∀ (a b : List (Nat × V)), setAll σ (a ++ b) = setAll (setAll σ a) b := fun a => by
  induction a generalizing σ with
  | nil => intro b; rfl
  | cons p a ih => intro b; exact ih _ b
theorem As.append {g : G} {Hs : Hp} : ∀ {a b : List (Nat × V)} {c d : List (Nat × D)}, As g Hs a c → As g Hs b d → As g Hs (a ++ b) (c ++ d)
  | _, _, _, _, .nil, s => s
  | _, _, _, _, .cons h r, s => .cons h (r.append s)
theorem As.split {g : G} {Hs : Hp} : ∀ {c d : List (Nat × D)} {v : List (Nat × V)}, As g Hs v (c ++ d) → ∃ a b, v = a ++ b ∧ As g Hs a c ∧ As g Hs b d
  | [], d, v, r => ⟨[], v, rfl, .nil, r⟩
  | (i, x) :: c, d, _, .cons h r => by
    obtain ⟨a, b, rfl, ra, rb⟩ := As.split (c := c) r
    exact ⟨_ :: a, b, rfl, .cons h ra, rb⟩
theorem StR.setAll {g : G} {B Hs0 Hs H : Hp} {vs : List (Nat × V)} {ds : List (Nat × D)} (q : As g Hs vs ds) : ∀ {σ : L2.St} {env : Env}, StR g B Hs0 Hs H σ env → StR g B Hs0 Hs H (PL.setAll σ vs) (setAllE env ds) := by
  induction q with
  | nil => exact fun r => r
  | cons h _ ih => exact fun r => ih (r.setVal h)
theorem EnvR.set1 {g : G} {Hs : Hp} {σ : L2.St} {env : BEnv} {i : Nat} {v : V} {d : D} (r : EnvR g Hs σ env) (q : R g Hs v d) : EnvR g Hs (σ.set i (some v)) (env.set i (some d)) := ⟨by rw [List.length_set, List.length_set, r.len], fun j d' e => by
  rcases set_get e with ⟨rfl, q'⟩ | ⟨n, e'⟩
  · subst q'
    exact ⟨v, set_len (j := j) r.len e, q⟩
  · obtain ⟨u, h1, h2⟩ := r.get j d' e'
    exact ⟨u, by rw [List.getElem?_set_ne (Ne.symm n)]; exact h1, h2⟩⟩
theorem EnvR.setAll {g : G} {Hs : Hp} {vs : List (Nat × V)} {ds : List (Nat × D)} (q : As g Hs vs ds) : ∀ {σ : L2.St} {env : BEnv}, EnvR g Hs σ env → EnvR g Hs (PL.setAll σ vs) (setAllB env ds) := by
  induction q with
  | nil => exact fun r => r
  | cons h _ ih => exact fun r => ih (r.set1 h)
def GA (g : G) (p : Pat) : TG := fun v σ H Q => ∃ Hs d as, Same Hs H ∧ R g Hs v d ∧ p d = .ok as ∧ ∀ vas, As g Hs vas as → Q (setAll σ vas) H
abbrev PatL := List D → Res (List (Nat × D))
def GAs (g : G) (q : PatL) : TGs := fun vs σ H Q => ∃ Hs ds as, Same Hs H ∧ Rs g Hs vs ds ∧ q ds = .ok as ∧ ∀ vas, As g Hs vas as → Q (setAll σ vas) H
def pName (i : Nat) : Pat := fun d => .ok [(i, d)]
def pNil : PatL
  | [] => .ok []
  | _ => .bad
def pCons (p : Pat) (q : PatL) : PatL
  | d :: ds => p d >>= fun a => q ds >>= fun b => .ok (a ++ b)
  | [] => .bad
def pTup (q : PatL) : Pat
  | .tup ds => q ds
  | _ => .bad
section
variable {X : Cx} {g : G} {e : Expr} {es : List Expr} {pos : Pos} {p : Pat} {q : PatL} {n : Nat}
theorem PG_mono {t t' : TG} (p : PG X e t) (k : ∀ v σ H Q, t' v σ H Q → t v σ H Q) : PG X e t' := ⟨fun pins s σ H v u Q I r w => p.run pins s σ H v u Q I r (k v σ H Q w)⟩
theorem PGs_mono {t t' : TGs} (p : PGs X es t) (k : ∀ v σ H Q, t' v σ H Q → t v σ H Q) : PGs X es t' := ⟨fun pins s σ H v u Q I r w => p.run pins s σ H v u Q I r (k v σ H Q w)⟩
theorem sg_name {i : Nat} {x : Str} (hN : X.N.Nodup) (hi : X.N[i]? = some x) (hx : Loc X.env.scope x) (hf : X.fn x = true ∨ X.env.scope.names.lookup x = some .local := by first | exact .inl rfl | exact .inr rfl | assumption) : PG X (.Name x pos) (GA g (pName i)) :=
  PG_mono (pg_name hN hi hx hf) fun v σ H Q ⟨Hs, d, as, s, r, e, k⟩ => by
    cases e
    exact k [(i, v)] (.cons r .nil)
structure PGL (X : Cx) (g : G) (es : List Expr) (n : Nat) (q : PatL) : Prop where
  p : PGs X es (GAs g q)
  len : ∀ ds as, q ds = .ok as → ds.length = n
theorem sgs_nil : PGL X g [] 0 pNil where
  p := PGs_mono pgs_nil fun vs σ H Q ⟨Hs, ds, as, s, r, e, k⟩ => by
    cases r with
    | nil => cases e; exact ⟨rfl, k [] .nil⟩
    | cons _ _ => cases e
  len := fun ds as e => by
    cases ds with
    | nil => rfl
    | cons _ _ => cases e
theorem bind_ok {α β : Type} {r : Res α} {f : α → Res β} {b : β} (h : (r >>= f) = .ok b) : ∃ a, r = .ok a ∧ f a = .ok b := by
  cases r with
  | ok a => exact ⟨a, rfl, h⟩
  | exc c x => cases h
  | bad => cases h
theorem sgs_cons (h1 : PG X e (GA g p)) (h2 : PGL X g es n q) (hs : (assignEach (e :: es) X.env).map (·.2) = assign e X.env :: (assignEach es X.env).map (·.2) := by rfl) : PGL X g (e :: es) (n + 1) (pCons p q) :=
  { p := PGs_mono (pgs_cons h1 h2.p hs) fun vs σ H Q ⟨Hs, ds, as, s, r, e, k⟩ => by
      cases r with
      | nil => cases e
      | cons r1 rr =>
        obtain ⟨a, e1, e⟩ := bind_ok e
        obtain ⟨b, e2, e⟩ := bind_ok e
        cases e
        refine ⟨_, _, rfl, Hs, _, a, s, r1, e1, fun va ra => ⟨Hs, _, b, s, rr, e2, fun vb rb => ?_⟩⟩
        rw [← setAll_append]
        exact k _ (ra.append rb)
    len := fun ds as e => by
      cases ds with
      | nil => cases e
      | cons d ds =>
        obtain ⟨a, e1, e⟩ := bind_ok e
        obtain ⟨b, e2, e⟩ := bind_ok e
        rw [List.length_cons, h2.len ds b e2] }
theorem sg_tup {k : Nat} (hK : X.K = g.K) (hc : X.calm = true) (h : PGL X g es n q) (hn : (assignEach es X.env).length = n := by rfl) (hst : (assignEach es X.env).findIdx? (·.1) = none := by rfl) : PG X (.Tuple es k pos) (GA g (pTup q)) :=
  PG_mono (pg_tup hc h.p hn hst) fun v σ H Q ⟨Hs, d, as, s, r, e, k⟩ => by
    cases r with
    | tup h' r => exact ⟨_, _, rfl, hK ▸ SameT s h', by rw [r.length]; exact h.len _ _ e, Hs, _, as, s, r, e, k⟩
    | _ => cases e
end

/-! ### what is walked -/
def WalksL (g : G) (J : It) (Hs : Hp) (l : List D) : Prop := ∀ Hs2 H2, Same Hs Hs2 → Same Hs2 H2 → ∀ i, (i < l.length → J.go i H2 ∧ ∀ x H3, J.yld i H2 x H3 → ∃ d Hs3, l[i]? = some d ∧ Ext Hs2 H2 Hs3 H3 ∧ R g Hs3 x d) ∧ (l.length ≤ i → J.stop i H2)
def IR (g : G) (E : XK) (f : BEnv → Res (List D)) : TI := fun σ H RR => ∃ Hs env, Same Hs H ∧ EnvR g Hs σ env ∧ Wk g E H (f env) (fun l => ∀ J H' Hs', Ext Hs H Hs' H' → WalksL g J Hs' l → RR J H')
/-- a walk that hangs on no list (a range's) -/
def IRr (g : G) (E : XK) (f : BEnv → Res (List D)) : TI := fun σ H RR => ∃ Hs env, Same Hs H ∧ EnvR g Hs σ env ∧ Wk g E H (f env) (fun l => ∀ J H' Hs', Ext Hs H Hs' H' → (∀ Hs2, WalksL g J Hs2 l) → RR J H')
section
variable {X : Cx} {g : G} {E : XK} {e tg : Expr} {es : List Expr} {pos : Pos} {f h : BEnv → Res D} {fi : BEnv → Res (List D)} {fs : BEnv → Res (List D)}
theorem PI_mono {t t' : TI} (p : PI X tg e t) (k : ∀ σ H Q, t' σ H Q → t σ H Q) : PI X tg e t' := ⟨fun pins s σ H Q I w => p.run pins s σ H Q I (k σ H Q w)⟩
theorem ir_of_r (p : PI X tg e (IRr g E fi)) : PI X tg e (IR g E fi) := PI_mono p fun σ H RR ⟨Hs, env, s, r, w⟩ => ⟨Hs, env, s, r, w.mono (Same.refl _) fun l k J H' Hs' x wl => k J H' Hs' x (wl Hs')⟩
/-- a list -/
def iLst (f : BEnv → Res D) : BEnv → Res (List D) := fun env => f env >>= fun d => match d with
  | .lst l => .ok l
  | .scr ns => .ok (ns.map D.int)
  | _ => .bad
theorem walks_list' {Hs : Hp} {a : Addr} {vs : List V} {l : List D} (h : SqL g.K Hs a vs) (r : Rs g Hs vs l) : WalksL g (Itl g.K a) Hs l := fun Hs2 H2 s1 s2 i => by
  have hq : SqL g.K H2 a vs := s2.seq (s1.seq h)
  refine ⟨fun hi => ?_, fun hi => ⟨vs, hq, by rw [r.length]; exact hi⟩⟩
  obtain ⟨v, h1, h2⟩ := r.get (List.getElem?_eq_getElem hi)
  refine ⟨⟨vs, v, hq, h1⟩, fun x H3 ⟨e1, e2⟩ => ?_⟩
  subst e1
  have := e2 vs hq
  rw [h1] at this
  cases this
  exact ⟨_, Hs2, List.getElem?_eq_getElem hi, Ext.refl s2, h2.mono s1⟩
theorem walks_tup {Hs : Hp} {a : Addr} {vs : List V} {l : List D} (h : SqT g.K Hs a vs) (r : Rs g Hs vs l) : WalksL g (Itt g.K a) Hs l := fun Hs2 H2 s1 s2 i => by
  have hq : SqT g.K H2 a vs := SameT s2 (SameT s1 h)
  refine ⟨fun hi => ?_, fun hi => ⟨vs, hq, by rw [r.length]; exact hi⟩⟩
  obtain ⟨v, h1, h2⟩ := r.get (List.getElem?_eq_getElem hi)
  refine ⟨⟨vs, v, hq, h1⟩, fun x H3 ⟨e1, e2⟩ => ?_⟩
  subst e1
  have := e2 vs hq
  rw [h1] at this
  cases this
  exact ⟨_, Hs2, List.getElem?_eq_getElem hi, Ext.refl s2, h2.mono s1⟩
theorem si_list (hK : X.K = g.K) (he : PE X e (ER g E f)) : PI X tg e (IR g E (iLst f)) := PI_mono (pi_list he) fun σ H RR ⟨Hs, env, s, rr, w⟩ => by
  refine ⟨Hs, env, s, rr, w.bind.mono (Same.refl _) fun d wd v H' Hs' x r => ?_⟩
  cases r with
  | lst h q => exact ⟨_, rfl, ⟨_, SqL.of (x.sub _ _ h)⟩, hK ▸ wd.is_ok _ H' Hs' x (walks_list' (SqL.of h) q)⟩
  | scr h => exact ⟨_, rfl, ⟨_, hK ▸ x.sub.seq h⟩, hK ▸ wd.is_ok _ H' Hs' x (walks_list' h (Rs.ints _))⟩
  | _ => exact absurd rfl wd.bad
def iTupD (f : BEnv → Res D) : BEnv → Res (List D) := fun env => f env >>= fun d => match d with
  | .tup l => .ok l
  | _ => .bad
theorem si_tup (hK : X.K = g.K) (he : PE X e (ER g E f)) : PI X tg e (IR g E (iTupD f)) := PI_mono (pi_tup he) fun σ H RR ⟨Hs, env, s, rr, w⟩ => by
  refine ⟨Hs, env, s, rr, w.bind.mono (Same.refl _) fun d wd v H' Hs' x r => ?_⟩
  cases r with
  | tup h q => exact ⟨_, rfl, ⟨_, hK ▸ SameT x.sub h⟩, hK ▸ wd.is_ok _ H' Hs' x (walks_tup h q)⟩
  | _ => exact absurd rfl wd.bad
/-- ranges -/
def rngD (lo : Int) (n : Nat) : List D := (List.range n).map fun (i : Nat) => D.int (lo + (i : Int))
def iRng1 (fs : BEnv → Res (List D)) : BEnv → Res (List D) := fun env => fs env >>= fun ds => match ds with
  | [.int j] => if -(2 ^ 62) ≤ j ∧ j < 2 ^ 62 then .ok (rngD 0 j.toNat) else .bad
  | _ => .bad
def iRng2 (fs : BEnv → Res (List D)) : BEnv → Res (List D) := fun env => fs env >>= fun ds => match ds with
  | [.int i, .int j] => if -(2 ^ 62) ≤ i ∧ i < 2 ^ 62 ∧ -(2 ^ 62) ≤ j ∧ j < 2 ^ 62 then .ok (rngD i (j - i).toNat) else .bad
  | _ => .bad
theorem walks_rng {Hs : Hp} (lo : Int) (n : Nat) : WalksL g (Itr lo n) Hs (rngD lo n) := fun Hs2 H2 s1 s2 i => by
  have hl : (rngD lo n).length = n := by unfold rngD; rw [List.length_map, List.length_range]
  rw [hl]
  refine ⟨fun hi => ⟨hi, fun x H3 ⟨e1, e2⟩ => ?_⟩, fun hi => hi⟩
  subst e1 e2
  refine ⟨_, Hs2, ?_, Ext.refl s2, .int _⟩
  unfold rngD
  rw [List.getElem?_map, List.getElem?_range hi]
  rfl
theorem si_range1 {a : Expr} {p : Pos} (hg : Gl X "range") (hm : X.mg "range" = none) (ha : PA X [a] (AR g E fs)) (hs : starEach [a] X.env = [(false, eval a X.env)] := by rfl) : PI X tg (.Call (.Name "range" p) [a] [] pos) (IRr g E (iRng1 fs)) :=
  PI_mono (pi_range1 hg hm ha hs) fun σ H RR ⟨Hs, env, s, rr, w⟩ => by
    refine ⟨Hs, env, s, rr, w.bind.mono (Same.refl _) fun ds wd vs H' Hs' x r => ?_⟩
    split at wd
    · obtain ⟨⟩ | ⟨r1, rr⟩ := r
      cases rr
      cases r1
      obtain ⟨⟨h1, h2⟩, k⟩ := wk_if wd
      exact ⟨_, rfl, h1, h2, k _ H' Hs' x fun _ => walks_rng _ _⟩
    · exact absurd rfl wd.bad
theorem si_range2 {a b : Expr} {p : Pos} (hg : Gl X "range") (hm : X.mg "range" = none) (ha : PA X [a, b] (AR g E fs)) (hs : starEach [a, b] X.env = [(false, eval a X.env), (false, eval b X.env)] := by rfl) (hs2 : starEach [b] X.env = [(false, eval b X.env)] := by rfl) : PI X tg (.Call (.Name "range" p) [a, b] [] pos) (IRr g E (iRng2 fs)) :=
  PI_mono (pi_range2 hg hm ha hs hs2) fun σ H RR ⟨Hs, env, s, rr, w⟩ => by
    refine ⟨Hs, env, s, rr, w.bind.mono (Same.refl _) fun ds wd vs H' Hs' x r => ?_⟩
    split at wd
    · obtain ⟨⟩ | ⟨r1, rr⟩ := r
      obtain ⟨⟩ | ⟨r2, rr⟩ := rr
      cases rr
      cases r1
      cases r2
      obtain ⟨⟨h1, h2, h3, h4⟩, k⟩ := wk_if wd
      exact ⟨_, _, rfl, ⟨h1, h2, h3, h4⟩, k _ H' Hs' x fun _ => walks_rng _ _⟩
    · exact absurd rfl wd.bad
end
end PL

set_option Elab.async false
set_option linter.all false
set_option maxRecDepth 100000
set_option maxHeartbeats 1000000
namespace PL
open PySem PySem.Spec PyProof.Rows L2

/-- where nothing may be raised -/
def must {α β : Type} (r : Res α) (k : α → Res β) : Res β := match r with
  | .ok a => k a
  | _ => .bad
theorem must_wk {α β : Type} {g : G} {E : XK} {H : Hp} {r : Res α} {k : α → Res β} {P : β → Prop} (w : Wk g E H (must r k) P) : ∃ a, r = .ok a ∧ Wk g E H (k a) P := by
  cases r with
  | ok a => exact ⟨a, rfl, w⟩
  | _ => exact absurd rfl w.bad
@[simp] theorem must_ok {α β : Type} {a : α} {k : α → Res β} : must (.ok a) k = k a := rfl

/-! ### for -/
def forD (p : Pat) (s : Env → Res Fl) : List D → Env → Res Fl
  | [], env => .ok (.nx env)
  | d :: ds, env => must (p d) fun as => s (setAllE env as) >>= fun fl => match fl with
    | .nx e => forD p s ds e
    | .ct e => forD p s ds e
    | .bk e => .ok (.nx e)
    | .rt c => .ok (.rt c)
def sFor (f : BEnv → Res (List D)) (p : Pat) (s : Env → Res Fl) : Env → Res Fl := fun env => f env.clean >>= fun l => forD p s l env
/-- over a range, whose ends may borrow -/
def sForR (f : BEnv → Res (List D)) (p : Pat) (s : Env → Res Fl) : Env → Res Fl := fun env => f env.borrow >>= fun l => forD p s l env
section
variable {X : Cx} {g : G} {E : XK} {B Hs0 : Hp} {tg iter : Expr} {body : List Stmt} {pos : Pos} {f : BEnv → Res (List D)} {p : Pat} {s : Env → Res Fl}
theorem for_turns {J : It} {l : List D} {Hs1 : Hp} {Z : Ends} {σ : L2.St} {H : Hp} {env : Env} (wl : WalksL g J Hs1 l) (r : StR g B Hs0 Hs1 H σ env) (w : Wk g E B (forD p s l env) (SLand g B Hs0 Hs1 Z)) :
    ∃ W : Nat → Nat → L2.St → Hp → Prop, (∃ m, W 0 m σ H) ∧ ∀ i m σ H, W i m σ H →
      (J.stop i H ∧ Z.nx σ H) ∨ (J.go i H ∧ ∃ N : L2.St → Hp → Prop, (∀ σ' H', N σ' H' → ∃ m', m' < m ∧ W (i + 1) m' σ' H') ∧ ∀ x H', J.yld i H x H' → GA g p x σ H' fun σ2 H2 => SR g E B Hs0 s { Z with nx := N, ct := N, bk := Z.nx } σ2 H2) := by
  refine ⟨fun i m σ H => ∃ Hs env, Same Hs1 Hs ∧ m = l.length - i ∧ StR g B Hs0 Hs H σ env ∧ Wk g E B (forD p s (l.drop i) env) (SLand g B Hs0 Hs Z), ⟨_, Hs1, env, Same.refl _, rfl, r, w⟩, ?_⟩
  rintro i m σ H ⟨Hs, env, sm, rfl, r, w⟩
  obtain ⟨go, stop⟩ := wl Hs H sm r.sub i
  by_cases hi : i < l.length
  · right
    obtain ⟨g1, step⟩ := go hi
    refine ⟨g1, fun σ' H' => ∃ Hs env, Same Hs1 Hs ∧ StR g B Hs0 Hs H' σ' env ∧ Wk g E B (forD p s (l.drop (i + 1)) env) (SLand g B Hs0 Hs Z), fun σ' H' ⟨Hs, env, a, b, c⟩ => ⟨l.length - (i + 1), by omega, Hs, env, a, rfl, b, c⟩, fun x H' y => ?_⟩
    obtain ⟨d, Hs3, e, x3, rd⟩ := step x H' y
    have hd : l.drop i = d :: l.drop (i + 1) := by
      have : d = l[i] := by
        rw [List.getElem?_eq_getElem hi] at e
        exact (Option.some.inj e).symm
      rw [this]
      exact List.drop_eq_getElem_cons hi
    rw [hd] at w
    have r3 := r.ext x3
    obtain ⟨as, hp, w⟩ := must_wk w
    refine ⟨Hs3, d, as, x3.sub, rd, hp, fun vas ra => ⟨Hs3, _, r3.setAll ra, w.bind.mono (Same.refl _) fun fl wf => ?_⟩⟩
    cases fl with
    | nx e => exact fun σ' H' Hs' s' r' => ⟨Hs', e, sm.trans (x3.up.trans s'), r', wf.mono (Same.refl _) fun _ l => l.mono (x3.up.trans s')⟩
    | ct e => exact fun σ' H' Hs' s' r' => ⟨Hs', e, sm.trans (x3.up.trans s'), r', wf.mono (Same.refl _) fun _ l => l.mono (x3.up.trans s')⟩
    | bk e => exact SLand.mono (D := Z) (f := .nx e) x3.up wf.is_ok
    | rt c => exact wf.is_ok
  · left
    have hd : l.drop i = [] := List.drop_of_length_le (Nat.not_lt.mp hi)
    rw [hd] at w
    exact ⟨stop (Nat.not_lt.mp hi), w.is_ok σ H Hs (Same.refl _) r⟩
theorem ss_for (hp : PassesOwn (model X.prog X.w) X.A X.env X.xe) (hc : X.calm = true) (hi : PI X tg iter (IR g E f)) (hg : PG X tg (GA g p)) (hb : PSs X body (SR g E B Hs0 s))
    (hs : ∀ x, foldedSetIterable iter X.env x = pure x := by intro _; rfl) : PS X (.For tg iter body [] pos) (SR g E B Hs0 (sFor f p s)) :=
  PS_mono (ps_for hp hc hi hg hb hs) fun Z σ H ⟨Hs, env, r, w⟩ => by
    refine ⟨Hs, env.clean, r.sub, r.clean, w.bind.mono r.keep fun l wl J H' Hs' x wk => ?_⟩
    exact for_turns wk (r.ext x) (wl.mono (Same.refl _) fun _ l => l.mono x.up)
theorem ss_forR (hp : PassesOwn (model X.prog X.w) X.A X.env X.xe) (hc : X.calm = true) (hi : PI X tg iter (IRr g E f)) (hg : PG X tg (GA g p)) (hb : PSs X body (SR g E B Hs0 s))
    (hs : ∀ x, foldedSetIterable iter X.env x = pure x := by intro _; rfl) : PS X (.For tg iter body [] pos) (SR g E B Hs0 (sForR f p s)) :=
  PS_mono (ps_for hp hc hi hg hb hs) fun Z σ H ⟨Hs, env, r, w⟩ => by
    refine ⟨Hbor Hs H σ env, env.borrow, r.hb_sub, r.borrow, w.bind.mono r.keep fun l wl J H' Hs' x wk => ?_⟩
    exact for_turns (wk Hs) (r.same x.same) wl
end

/-! ### comprehensions -/
def wipeB (env : BEnv) : List Nat → BEnv
  | [] => env
  | i :: r => (wipeB env r).set i none
def compD (p : Pat) (c : BEnv → Res Bool) (f : BEnv → Res D) (env : BEnv) : List D → Res (List D)
  | [] => .ok []
  | d :: ds => must (p d) fun as => must (c (setAllB env as)) fun b => if b = true then must (f (setAllB env as)) fun y => must (compD p c f env ds) fun r => .ok (y :: r) else compD p c f env ds
def oComp (vs : List Nat) (it : BEnv → Res (List D)) (p : Pat) (c : BEnv → Res Bool) (f : BEnv → Res D) : BEnv → Res (List D) := fun env => it env >>= fun l => if l.length ≤ 1000000 then compD p c f (wipeB env vs) l else .bad
def cTrue : BEnv → Res Bool := fun _ => .ok true
/-- a pattern's slots are those of the comprehension's own -/
def PatIn (p : Pat) (vs : List Nat) : Prop := ∀ d as, p d = .ok as → ∀ q ∈ as, q.1 ∈ vs
def PatLIn (p : PatL) (vs : List Nat) : Prop := ∀ d as, p d = .ok as → ∀ q ∈ as, q.1 ∈ vs
theorem patIn_name {i : Nat} {vs : List Nat} (h : i ∈ vs) : PatIn (pName i) vs := fun d as e q hq => by
  cases e
  have : q = (i, d) := by simpa using hq
  rw [this]; exact h
theorem patIn_nil {vs : List Nat} : PatLIn pNil vs := fun d as e q hq => by
  cases d with
  | nil => cases e; cases hq
  | cons _ _ => cases e
theorem patIn_cons {p : Pat} {q : PatL} {vs : List Nat} (h1 : PatIn p vs) (h2 : PatLIn q vs) : PatLIn (pCons p q) vs := fun d as e x hx => by
  cases d with
  | nil => cases e
  | cons d ds =>
    obtain ⟨a, e1, e⟩ := bind_ok e
    obtain ⟨b, e2, e⟩ := bind_ok e
    cases e
    rcases List.mem_append.mp hx with hx | hx
    · exact h1 d a e1 x hx
    · exact h2 ds b e2 x hx
theorem patIn_tup {q : PatL} {vs : List Nat} (h : PatLIn q vs) : PatIn (pTup q) vs := fun d as e x hx => by
  cases d with
  | tup ds => exact h ds as e x hx
  | _ => cases e
theorem wipe_len (σ : L2.St) (vs : List Nat) : (wipe σ vs).length = σ.length := wipe_length σ vs
theorem wipeB_len (env : BEnv) : ∀ vs : List Nat, (wipeB env vs).length = env.length
  | [] => rfl
  | i :: r => by unfold wipeB; rw [List.length_set, wipeB_len env r]
theorem wipe_eq (σ : L2.St) : ∀ vs : List Nat, wipe σ vs = vs.foldr (fun i s => s.set i none) σ
  | [] => rfl
  | i :: r => by
    show (wipe σ r).set i none = _
    rw [wipe_eq σ r]
    rfl
theorem wipe_get (σ : L2.St) (j : Nat) : ∀ vs : List Nat, (wipe σ vs)[j]? = if j ∈ vs then (if j < σ.length then some none else none) else σ[j]?
  | [] => by simp [wipe]
  | i :: r => by
    show ((wipe σ r).set i none)[j]? = _
    by_cases h : j = i
    · subst h
      by_cases hl : j < σ.length
      · rw [List.getElem?_set_self (by rw [wipe_len]; exact hl)]; simp [hl]
      · rw [List.getElem?_eq_none (by rw [List.length_set, wipe_len]; exact Nat.not_lt.mp hl)]; simp [hl]
    · rw [List.getElem?_set_ne (Ne.symm h), wipe_get σ j r]
      simp [h]
theorem wipe_set {σ : L2.St} {i : Nat} {x : Option V} {vs : List Nat} (h : i ∈ vs) : wipe (σ.set i x) vs = wipe σ vs := by
  apply List.ext_getElem?
  intro j
  rw [wipe_get, wipe_get, List.length_set]
  by_cases hj : j ∈ vs
  · rw [if_pos hj, if_pos hj]
  · rw [if_neg hj, if_neg hj, List.getElem?_set_ne]
    rintro rfl
    exact hj h
theorem wipe_all {g : G} {Hs : Hp} {vs : List Nat} {va : List (Nat × V)} {as : List (Nat × D)} (q : As g Hs va as) : (∀ x ∈ as, x.1 ∈ vs) → ∀ σ : L2.St, wipe (setAll σ va) vs = wipe σ vs := by
  induction q with
  | nil => intro _ σ; rfl
  | @cons i v d va as h r ih =>
    intro hin σ
    have := ih (fun x hx => hin x (List.mem_cons_of_mem _ hx)) (σ.set i (some v))
    exact this.trans (wipe_set (hin (i, d) List.mem_cons_self))
theorem EnvR.wipe {g : G} {Hs : Hp} {σ : L2.St} {env : BEnv} (r : EnvR g Hs σ env) : ∀ vs : List Nat, EnvR g Hs (L2.wipe σ vs) (wipeB env vs)
  | [] => r
  | i :: vs => ⟨by rw [wipe_len, wipeB_len, r.len], fun j d e => by
    have ih := (EnvR.wipe r vs).get
    have e : ((wipeB env vs).set i none)[j]? = some (some d) := e
    show ∃ v, ((L2.wipe σ vs).set i none)[j]? = some (some v) ∧ R g Hs v d
    by_cases h : j = i
    · subst h
      by_cases hj : j < (wipeB env vs).length
      · rw [List.getElem?_set_self hj] at e; cases e
      · rw [List.getElem?_eq_none (by rw [List.length_set]; exact Nat.not_lt.mp hj)] at e; cases e
    · rw [List.getElem?_set_ne (Ne.symm h)] at e ⊢
      exact ih j d e⟩
theorem wipe_all_eq {g : G} {Hs : Hp} {p : Pat} {vs : List Nat} {d : D} {va : List (Nat × V)} {as : List (Nat × D)} {σ : L2.St} (hin : PatIn p vs) (hp : p d = .ok as) (q : As g Hs va as) : wipe (setAll (wipe σ vs) va) vs = wipe σ vs := by
  rw [wipe_all q (hin d as hp)]
  apply List.ext_getElem?
  intro j
  rw [wipe_get (wipe σ vs), wipe_len]
  by_cases hj : j ∈ vs
  · rw [if_pos hj, wipe_get, if_pos hj]
  · rw [if_neg hj]
/-- nothing is raised -/
abbrev EN : XK := fun _ _ _ => False
section
variable {g : G} {E : XK} {it : BEnv → Res (List D)} {p : Pat} {c : BEnv → Res Bool} {f : BEnv → Res D} {vs : List Nat}
theorem Wk.of_ne {α : Type} {H : Hp} {r : Res α} {a : α} {P : α → Prop} (e : r = .ok a) (h : P a) : Wk g E H r P := by rw [e]; exact .of_ok h
theorem lc_read {σ : L2.St} {H : Hp} {Q : VK} (hin : PatIn p vs) (w : EO g E (oComp vs it p c f) σ H Q) : tLc (IR g E it) (GA g p) (TR g EN c) (ER g EN f) vs σ H Q := by
  obtain ⟨Hs, env, s, rr, w⟩ := w
  refine ⟨Hs, env, s, rr, w.bind.mono (Same.refl _) fun l wl J H1 Hs1 x1 wk D nD => ?_⟩
  have hl : l.length ≤ 1000000 := by
    by_cases h : l.length ≤ 1000000
    · exact h
    · rw [if_neg h] at wl; exact absurd rfl wl.bad
  rw [if_pos hl] at wl
  have rw' := (rr.mono x1.up).wipe vs
  obtain ⟨tot, ht, lands⟩ : ∃ tot, compD p c f (wipeB env vs) l = .ok tot ∧ LandsO g Hs H Q tot := by
    cases q : compD p c f (wipeB env vs) l with
    | ok t => rw [q] at wl; exact ⟨t, rfl, wl.is_ok⟩
    | bad => rw [q] at wl; exact absurd rfl wl.bad
    | exc k x =>
      exfalso
      have no : ∀ l : List PL.D, compD p c f (wipeB env vs) l ≠ .exc k x := by
        intro l
        induction l with
        | nil => intro z; cases z
        | cons d ds ih =>
          intro z
          unfold compD at z
          cases h1 : p d with
          | ok as =>
            rw [h1, must_ok] at z
            cases h2 : c (setAllB (wipeB env vs) as) with
            | ok b =>
              rw [h2, must_ok] at z
              cases b with
              | false => exact ih (by simpa using z)
              | true =>
                have z : (must (f (setAllB (wipeB env vs) as)) fun y => must (compD p c f (wipeB env vs) ds) fun r => Res.ok (y :: r)) = .exc k x := by simpa using z
                cases h3 : f (setAllB (wipeB env vs) as) with
                | ok y =>
                  rw [h3, must_ok] at z
                  cases h4 : compD p c f (wipeB env vs) ds with
                  | ok r => rw [h4, must_ok] at z; cases z
                  | _ => rw [h4] at z; cases z
                | _ => rw [h3] at z; cases z
            | _ => rw [h2] at z; cases z
          | _ => rw [h1] at z; cases z
      exact no l q
  refine ⟨fun i m H2 => ∃ Hs2 acc accD rest, Same Hs1 Hs2 ∧ Same H1 H2 ∧ Same Hs2 H2 ∧ (∀ a o, Hs2 a = some o → Hs1 a = some o ∨ H1 a = none) ∧ Hs2 D = none ∧ H2 D = some (.lst acc) ∧ Rs g Hs2 acc accD ∧ accD.length ≤ i ∧ compD p c f (wipeB env vs) (l.drop i) = .ok rest ∧ accD ++ rest = tot ∧ m = l.length - i ∧ i ≤ l.length,
    ⟨l.length, Hs1, [], [], tot, Same.refl _, same_upd nD, x1.sub.trans (same_upd nD), fun _ _ e => .inl e, x1.sub.free nD, upd_same, .nil, Nat.le_refl _, ht, rfl, rfl, Nat.zero_le _⟩, ?_⟩
  rintro i m H2 ⟨Hs2, acc, accD, rest, s12, sH, s2, new, nD2, hD, racc, hlen, hrest, htot, rfl, hi⟩
  obtain ⟨go, stop⟩ := wk Hs2 H2 s12 s2 i
  by_cases hlt : i < l.length
  · right
    obtain ⟨g1, step⟩ := go hlt
    have hd : l.drop i = l[i] :: l.drop (i + 1) := List.drop_eq_getElem_cons hlt
    rw [hd] at hrest
    refine ⟨g1, fun H' => ∃ Hs2 acc accD rest, Same Hs1 Hs2 ∧ Same H1 H' ∧ Same Hs2 H' ∧ (∀ a o, Hs2 a = some o → Hs1 a = some o ∨ H1 a = none) ∧ Hs2 D = none ∧ H' D = some (.lst acc) ∧ Rs g Hs2 acc accD ∧ accD.length ≤ i + 1 ∧ compD p c f (wipeB env vs) (l.drop (i + 1)) = .ok rest ∧ accD ++ rest = tot,
      fun H' ⟨Hs2, acc, accD, rest, a1, a2, a3, a4, a5, a6, a7, a8, a9, a10⟩ => ⟨l.length - (i + 1), by omega, Hs2, acc, accD, rest, a1, a2, a3, a4, a5, a6, a7, a8, a9, a10, rfl, hlt⟩, fun x H3 y => ?_⟩
    obtain ⟨d, Hs3, e, x3, rd⟩ := step x H3 y
    have ed : d = l[i] := by
      rw [List.getElem?_eq_getElem hlt] at e
      exact (Option.some.inj e).symm
    subst ed
    unfold compD at hrest
    cases hp : p l[i] with
    | exc k q => rw [hp] at hrest; cases hrest
    | bad => rw [hp] at hrest; cases hrest
    | ok as =>
      rw [hp, must_ok] at hrest
      refine ⟨Hs3, _, as, x3.sub, rd, hp, fun vas ra => ⟨wipe_all_eq hin hp ra, ?_⟩⟩
      have r3 : EnvR g Hs3 (PL.setAll (L2.wipe σ vs) vas) (setAllB (wipeB env vs) as) := EnvR.setAll ra (rw'.mono (s12.trans x3.up))
      cases hc : c (setAllB (wipeB env vs) as) with
      | exc k q => rw [hc] at hrest; cases hrest
      | bad => rw [hc] at hrest; cases hrest
      | ok b =>
        rw [hc, must_ok] at hrest
        refine ⟨Hs3, _, x3.sub, r3, .of_ne hc fun H4 Hs4 x4 => ?_⟩
        have x34 := x3.trans x4
        have keepD : ∀ {Hs5 H5 : Hp}, Ext Hs2 H2 Hs5 H5 → Hs5 D = none := fun {Hs5 H5} x5 => by
          cases q : Hs5 D with
          | none => rfl
          | some o =>
            rcases x5.new D o q with z | z
            · rw [nD2] at z; cases z
            · rw [hD] at z; cases z
        have keepN : ∀ {Hs5 H5 : Hp}, Ext Hs2 H2 Hs5 H5 → ∀ a o, Hs5 a = some o → Hs1 a = some o ∨ H1 a = none := fun {Hs5 H5} x5 a o q => by
          rcases x5.new a o q with z | z
          · exact new a o z
          · exact .inr (sH.free z)
        cases b with
        | false =>
          have hrest : compD p c f (wipeB env vs) (l.drop (i + 1)) = .ok rest := by simpa using hrest
          exact iteF ⟨Hs4, acc, accD, rest, s12.trans x34.up, sH.trans x34.same, x34.sub, keepN x34, keepD x34, x34.same _ _ hD, racc.mono x34.up, by omega, hrest, htot⟩
        | true =>
          have hrest : (must (f (setAllB (wipeB env vs) as)) fun y => must (compD p c f (wipeB env vs) (l.drop (i + 1))) fun r => Res.ok (y :: r)) = .ok rest := by simpa using hrest
          cases hf : f (setAllB (wipeB env vs) as) with
          | exc k q => rw [hf] at hrest; cases hrest
          | bad => rw [hf] at hrest; cases hrest
          | ok yd =>
            rw [hf, must_ok] at hrest
            cases hr : compD p c f (wipeB env vs) (l.drop (i + 1)) with
            | exc k q => rw [hr] at hrest; cases hrest
            | bad => rw [hr] at hrest; cases hrest
            | ok r =>
              rw [hr, must_ok] at hrest
              cases hrest
              refine iteT ⟨Hs4, _, x4.sub, r3.mono x4.up, .of_ne hf fun yv H5 Hs5 x5 ry => ?_⟩
              have x35 := x34.trans x5
              have nD5 := keepD x35
              have s5 : Same Hs5 (upd H5 D (.lst (acc ++ [yv]))) := fun a o q => by
                rw [upd_ne (ne_of_none q nD5)]; exact x5.sub a o q
              refine ⟨acc, x35.same _ _ hD, ?_, Hs5, acc ++ [yv], accD ++ [yd], r, s12.trans x35.up, fun a o q => ?_, s5, keepN x35, nD5, upd_same, (racc.mono x35.up).snoc ry, by rw [List.length_append, List.length_singleton]; omega, rfl, by rw [List.append_assoc]; exact htot⟩
              · rw [racc.length]
                exact Nat.lt_of_le_of_lt (Nat.le_trans hlen (Nat.le_trans hi hl)) (by decide)
              · rw [upd_ne (ne_of_none q nD)]; exact x35.same _ _ (sH _ _ q)
  · left
    have ei : i = l.length := by omega
    subst ei
    rw [List.drop_length] at hrest
    have : rest = [] := by
      unfold compD at hrest
      cases hrest
      rfl
    subst this
    rw [List.append_nil] at htot
    subst htot
    refine ⟨stop (Nat.le_refl _), ?_⟩
    exact lands D acc H2 Hs2 ⟨x1.same.trans sH, x1.up.trans s12, s2, fun a o q => by
      rcases new a o q with z | z
      · exact x1.new a o z
      · exact .inr (x1.same.free z)⟩ (x1.same.free nD) nD2 hD racc
end
structure PTsR (X : Cx) (ifs : List Expr) (t : TT) : Prop where
  p : PTs X ifs t
section
variable {X : Cx} {g : G} {E : XK} {B Hs0 : Hp} {it : BEnv → Res (List D)} {p : Pat} {c : BEnv → Res Bool} {f : BEnv → Res D} {elt tg iter : Expr} {ifs : List Expr} {scope : Scope} {own : List (Str × Nat)} {pos : Pos}
theorem PTs_mono {t t' : TT} (p : PTs X ifs t) (k : ∀ σ H Q, t' σ H Q → t σ H Q) : PTs X ifs t' := ⟨fun pins s σ H Q I w => p.run pins s σ H Q I (k σ H Q w)⟩
theorem sts_nil : PTs X [] (TR g E cTrue) := PTs_mono pts_nil fun σ H Q ⟨Hs, env, s, r, w⟩ => w.is_ok H Hs (Ext.refl s)
theorem sts_one {e : Expr} (h : PT X e (TR g E c)) : PTs X [e] (TR g E c) := pts_one h
theorem eo_lc (hc : X.calm = true) (hN : X.N.Nodup) (hi : PI X tg iter (IR g E it)) (ok : BlkOk X.N X.env.scope scope own) (hin : PatIn p (own.map (·.2)))
    (hg : ∀ (s : Shared) (H : Hp) (C : Addr) (cl : List (Str × Addr)) (fp : List Addr), PG (X.blk s H scope (compEnvC scope cl C X.env) fp) tg (GA g p))
    (ht : ∀ (s : Shared) (H : Hp) (C : Addr) (cl : List (Str × Addr)) (fp : List Addr), PTs (X.blk s H scope (compEnvC scope cl C X.env) fp) ifs (TR g EN c))
    (he : ∀ (s : Shared) (H : Hp) (C : Addr) (cl : List (Str × Addr)) (fp : List Addr), PE (X.blk s H scope (compEnvC scope cl C X.env) fp) elt (ER g EN f)) (hs : ∀ x, foldedSetIterable iter X.env x = pure x := by intro _; rfl) :
    PE X (.ListComp elt [⟨tg, iter, ifs, 0⟩] scope pos) (EO g E (oComp (own.map (·.2)) it p c f)) :=
  PE_mono (pe_lc hc hN hi ok hg ht he hs) fun σ H Q w => lc_read hin w
section
variable {i : Nat} {y : Str} {py spos : Pos} (hc : X.calm = true) (hN : X.N.Nodup) (hy : X.N[i]? = some y) (hyl : X.env.scope.names.lookup y = some .local)
    (hsw : swapsWith (.ListComp elt [⟨tg, iter, ifs, 0⟩] scope pos) (some (.Name y py)) spos.line X.env = pure true) (hi : PI X tg iter (IR g E it)) (ok : BlkOk X.N X.env.scope scope own) (hin : PatIn p (own.map (·.2)))
    (hg : ∀ (s : Shared) (H : Hp) (C : Addr) (cl : List (Str × Addr)) (fp : List Addr), PG (X.blk s H scope (compEnvC scope cl C X.env) fp) tg (GA g p))
    (ht : ∀ (s : Shared) (H : Hp) (C : Addr) (cl : List (Str × Addr)) (fp : List Addr), PTs (X.blk s H scope (compEnvC scope cl C X.env) fp) ifs (TR g EN c))
    (he : ∀ (s : Shared) (H : Hp) (C : Addr) (cl : List (Str × Addr)) (fp : List Addr), PE (X.blk s H scope (compEnvC scope cl C X.env) fp) elt (ER g EN f)) (hs : ∀ x, foldedSetIterable iter X.env x = pure x := by intro _; rfl)
include hc hN hy hyl hsw hi ok hin hg ht he hs
theorem ss_ownLc : PS X (.Assign [.Name y py] (.ListComp elt [⟨tg, iter, ifs, 0⟩] scope pos) spos) (SR g E B Hs0 (sOwn i (oComp (own.map (·.2)) it p c f))) :=
  PS_mono (ps_setLc hc hN hy hyl hsw hi ok hg ht he hs) fun Z σ H w => lc_read hin (rd_own w)
theorem ss_ownLcB : PS X (.Assign [.Name y py] (.ListComp elt [⟨tg, iter, ifs, 0⟩] scope pos) spos) (SR g E B Hs0 (sOwnB i (oComp (own.map (·.2)) it p c f))) :=
  PS_mono (ps_setLc hc hN hy hyl hsw hi ok hg ht he hs) fun Z σ H w => lc_read hin (rd_ownB w)
end
end
end PL

set_option Elab.async false
set_option linter.all false
set_option maxRecDepth 100000
set_option maxHeartbeats 1000000
namespace PL
open PySem PySem.Spec PyProof.Rows L2

/-! ### isinstance of a built-in type -/
def isiB (T : String) : D → Res D
  | .non => .ok (.bl false)
  | .bl _ => .ok (.bl (T == "bool" || T == "int"))
  | .int _ => .ok (.bl (T == "int"))
  | .str _ => .ok (.bl (T == "str"))
  | .tup _ => .ok (.bl (T == "tuple"))
  | .lst _ => .ok (.bl (T == "list"))
  | .scr _ => .ok (.bl (T == "list"))
  | .cut _ _ => .bad
  | .dic => .ok (.bl (T == "dict"))
  | .exn => .bad
def kit5 (T : String) : Prop := kitB "NoneType" T = some false ∧ kitB "bool" T = some (T == "bool" || T == "int") ∧ kitB "int" T = some (T == "int") ∧ kitB "str" T = some (T == "str") ∧ kitB "tuple" T = some (T == "tuple") ∧ kitB "list" T = some (T == "list") ∧ kitB "dict" T = some (T == "dict")
theorem kit_int : kit5 "int" := by unfold kit5; decide +kernel
theorem kit_bool : kit5 "bool" := by unfold kit5; decide +kernel
theorem kit_str : kit5 "str" := by unfold kit5; decide +kernel
theorem kit_tuple : kit5 "tuple" := by unfold kit5; decide +kernel
theorem kit_list : kit5 "list" := by unfold kit5; decide +kernel
section
variable {X : Cx} {g : G} {E : XK} {a e : Expr} {es : List Expr} {pos : Pos} {f : BEnv → Res D} {fs : BEnv → Res (List D)}
theorem sqT_ty {K : PySem.W.Frag} {H : Hp} {a : Addr} {xs : List V} (h : SqT K H a xs) : TyX K H (.ref a) (.type "tuple") := by
  rcases h with (h | ⟨o, h⟩) | ⟨o, its, n, hk, hc, _⟩
  · exact .base (.tup h)
  · exact .fTuple h
  · exact .kTuple hk hc
theorem sqL_ty {K : PySem.W.Frag} {H : Hp} {a : Addr} {xs : List V} (h : SqL K H a xs) : TyX K H (.ref a) (.type "list") := by
  rcases h with (h | ⟨o, h⟩) | ⟨o, its, n, hk, hc, _⟩
  · exact .base (.lst h)
  · exact .base (.frz h)
  · exact .kList hk hc
theorem ud_isi {T : String} (k : kit5 T) : UnD g (fun x H Q => rIsi g.K [x, .ty T] H Q) (isiB T) := by
  obtain ⟨k1, k2, k3, k4, k5, k6, k7⟩ := k
  intro Hs H v a Q s r E w
  cases r with
  | non => exact ⟨_, _, _, _, _, rfl, .ty T, .base .non, kit_ty k1, w.is_ok _ _ _ (Ext.refl s) (.bl _)⟩
  | bl b => exact ⟨_, _, _, _, _, rfl, .ty T, .base (.bl b), kit_ty k2, w.is_ok _ _ _ (Ext.refl s) (.bl _)⟩
  | int i => exact ⟨_, _, _, _, _, rfl, .ty T, .base (.int i), kit_ty k3, w.is_ok _ _ _ (Ext.refl s) (.bl _)⟩
  | str x => exact ⟨_, _, _, _, _, rfl, .ty T, .base (.str x), kit_ty k4, w.is_ok _ _ _ (Ext.refl s) (.bl _)⟩
  | tup h q => exact ⟨_, _, _, _, _, rfl, .ty T, sqT_ty (SameT s h), kit_ty k5, w.is_ok _ _ _ (Ext.refl s) (.bl _)⟩
  | lst h q => exact ⟨_, _, _, _, _, rfl, .ty T, sqL_ty (SqL.of (s _ _ h)), kit_ty k6, w.is_ok _ _ _ (Ext.refl s) (.bl _)⟩
  | scr h => exact ⟨_, _, _, _, _, rfl, .ty T, sqL_ty (s.seq h), kit_ty k6, w.is_ok _ _ _ (Ext.refl s) (.bl _)⟩
  | cut h k q => exact absurd rfl w.bad
  | dic h => exact ⟨_, _, _, _, _, rfl, .ty T, .base (.dK (s _ _ h)), kit_ty k7, w.is_ok _ _ _ (Ext.refl s) (.bl _)⟩
  | exn h => exact absurd rfl w.bad
theorem se_isi {T : String} {xT : Str} {p p2 : Pos} (k : kit5 T) (hK : X.K = g.K) (hg : Gl X "isinstance") (hm : X.mg "isinstance" = none) (hgT : Gl X xT) (hmT : X.mg xT = none) (hvT : bootBuiltins xT = some (.type T)) (ha : PE X a (ER g E f))
    (hnT : xT ≠ "__name__" := by decide) (hdT : (xT == ("__debug__" : Str)) = false := by decide)
    (h1 : starEach [a, .Name xT p2] X.env = (false, eval a X.env) :: starEach [.Name xT p2] X.env := by rfl) (h2 : starEach [.Name xT p2] X.env = (false, eval (.Name xT p2) X.env) :: starEach [] X.env := by rfl)
    (hpl : (backTo pos (starEach [.Name xT p2] X.env)).any (·.1) = false := by rfl) : PE X (.Call (.Name "isinstance" p) [a, .Name xT p2] [] pos) (ER g E (e1 (isiB T) f)) :=
  PE_mono (pe_callB call_isi hg hm boot_isinstance (pa_cons ha (pa_cons (pe_bltn (v := .ty T) hgT hmT hvT rfl hnT hdT) pa_nil h2) h1) (by decide) (by decide) h1 hpl) fun σ H Q w => by
    have o := one (ud_isi (g := g) k) w
    rw [hK]
    exact o

/-! ### slices -/
def OR (g : G) (E : XK) (f : BEnv → Res (Option Int)) : TO := fun σ H Q => ∃ Hs env, Same Hs H ∧ EnvR g Hs σ env ∧ Wk g E H (f env) (fun o => ∀ H' Hs', Ext Hs H Hs' H' → Q o H')
def oNo : BEnv → Res (Option Int) := fun _ => .ok none
def oSome (f : BEnv → Res D) : BEnv → Res (Option Int) := fun env => f env >>= fun d => match d with
  | .int i => .ok (some i)
  | _ => .bad
theorem PO_mono {eo : Option Expr} {t t' : TO} (p : PO X eo t) (k : ∀ σ H Q, t' σ H Q → t σ H Q) : PO X eo t' := ⟨fun pins s σ H Q I w => p.run pins s σ H Q I (k σ H Q w)⟩
theorem so_none : PO X none (OR g E oNo) := PO_mono po_none fun σ H Q ⟨Hs, env, s, r, w⟩ => w.is_ok H Hs (Ext.refl s)
theorem so_some (he : PE X e (ER g E f)) : PO X (some e) (OR g E (oSome f)) := PO_mono (po_some he) fun σ H Q ⟨Hs, env, s, rr, w⟩ => by
  refine ⟨Hs, env, s, rr, w.bind.mono (Same.refl _) fun d wd v H' Hs' x r => ?_⟩
  cases r with
  | int i => exact ⟨i, rfl, wd.is_ok H' Hs' x⟩
  | _ => exact absurd rfl wd.bad
def cutL {α : Type} (xs : List α) (lo hi : Option Int) : List α := (xs.drop (HT.sIx xs.length 0 lo)).take (HT.sIx xs.length xs.length hi - HT.sIx xs.length 0 lo)
theorem Rs.slL {H : Hp} {vs : List V} {ds : List D} (r : Rs g H vs ds) (lo hi : Option Int) : Rs g H (cutV vs lo hi) (PL.cutL ds lo hi) := by
  unfold cutV PL.cutL
  rw [r.length]
  exact (r.drop _).take _
def slD : D → Option Int → Option Int → Res D
  | .lst l, lo, hi => .ok (.lst (cutL l lo hi))
  | .scr ns, lo, hi => .ok (.lst (cutL (ns.map D.int) lo hi))
  | .tup l, lo, hi => .ok (.tup (cutL l lo hi))
  | .str z, lo, hi => if z.length ≤ 1000000 then .ok (.str (cutS z lo hi)) else .bad
  | _, _, _ => .bad
def slO : D → Option Int → Option Int → Res (List D)
  | .lst l, lo, hi => .ok (cutL l lo hi)
  | .scr ns, lo, hi => .ok (cutL (ns.map D.int) lo hi)
  | _, _, _ => .bad
def eSl (f : BEnv → Res D) (lo hi : BEnv → Res (Option Int)) : BEnv → Res D := fun env => f env >>= fun d => lo env >>= fun l => hi env >>= fun u => slD d l u
def oSl (f : BEnv → Res D) (lo hi : BEnv → Res (Option Int)) : BEnv → Res (List D) := fun env => f env >>= fun d => lo env >>= fun l => hi env >>= fun u => slO d l u
abbrev rSlAll (K : PySem.W.Frag) : V → Option Int → Option Int → Hp → VK → Prop := fun x lo hi H Q => rSlL K x lo hi H Q ∨ (fun x lo hi H Q => rSlA K x lo hi H Q ∨ rSlS x lo hi H Q) x lo hi H Q
theorem sl_all : SlR X (rSlAll X.K) := sl_list.or (sl_tupA.or sl_str)
theorem cutL_whole {vs : List V} {lo hi : Option Int} (h : HT.sIx vs.length 0 lo = 0 ∧ HT.sIx vs.length vs.length hi = vs.length) : cutV vs lo hi = vs := by
  unfold cutV
  rw [h.1, h.2, Nat.sub_zero, List.drop_zero, List.take_length]
variable {elo ehi : Option Expr} {p2 : Pos} {lo hi : BEnv → Res (Option Int)}
theorem se_sl (hK : X.K = g.K) (he : PE X e (ER g E f)) (hl : PO X elo (OR g E lo)) (hu : PO X ehi (OR g E hi)) : PE X (.Subscript e (.Slice elo ehi none p2) pos) (ER g E (eSl f lo hi)) :=
  PE_mono (pe_slice sl_all he hl hu) fun σ H Q ⟨Hs, env, s, rr, w⟩ => by
    refine ⟨Hs, env, s, rr, w.bind.mono (Same.refl _) fun d wd v H1 Hs1 x1 r1 => ?_⟩
    refine ⟨Hs1, env, x1.sub, rr.mono x1.up, wd.bind.mono x1.same fun l wl H2 Hs2 x2 => ?_⟩
    have x12 := x1.trans x2
    refine ⟨Hs2, env, x2.sub, rr.mono x12.up, wl.bind.mono x12.same fun u wu H3 Hs3 x3 => ?_⟩
    have x := x12.trans x3
    have r := r1.mono (x2.trans x3).up
    rw [hK]
    cases r with
    | lst h q =>
      refine .inl ⟨_, _, rfl, SqL.of (x.sub _ _ h), fun p np => ?_⟩
      exact wu.is_ok _ _ _ (x.trans (Ext.new1 x.sub np)) (.lst upd_same ((q.slL l u).mono (same_upd (x.sub.free np))))
    | scr h =>
      refine .inl ⟨_, _, rfl, x.sub.seq h, fun p np => ?_⟩
      exact wu.is_ok _ _ _ (x.trans (Ext.new1 x.sub np)) (.lst upd_same (((Rs.ints _).slL l u).mono (same_upd (x.sub.free np))))
    | tup h q =>
      refine .inr (.inl ⟨_, _, rfl, SameT x.sub h, fun c => ?_, fun c p np => ?_⟩)
      · refine wu.is_ok _ _ _ x (.tup h ?_)
        have := q.slL l u
        rw [cutL_whole c] at this
        exact this
      · exact wu.is_ok _ _ _ (x.trans (Ext.new1 x.sub np)) (.tup (.inl (.inl upd_same)) ((q.slL l u).mono (same_upd (x.sub.free np))))
    | str z =>
      obtain ⟨hz, k⟩ := wk_if wu
      exact .inr (.inr ⟨z, rfl, line6 hz, k _ _ _ x (.str _)⟩)
    | _ => exact absurd rfl wu.bad
theorem eo_sl (hK : X.K = g.K) (he : PE X e (ER g E f)) (hl : PO X elo (OR g E lo)) (hu : PO X ehi (OR g E hi)) : PE X (.Subscript e (.Slice elo ehi none p2) pos) (EO g E (oSl f lo hi)) :=
  PE_mono (pe_slice sl_list he hl hu) fun σ H Q ⟨Hs, env, s, rr, w⟩ => by
    refine ⟨Hs, env, s, rr, w.bind.mono (Same.refl _) fun d wd v H1 Hs1 x1 r1 => ?_⟩
    refine ⟨Hs1, env, x1.sub, rr.mono x1.up, wd.bind.mono x1.same fun l wl H2 Hs2 x2 => ?_⟩
    have x12 := x1.trans x2
    refine ⟨Hs2, env, x2.sub, rr.mono x12.up, wl.bind.mono x12.same fun u wu H3 Hs3 x3 => ?_⟩
    have x := x12.trans x3
    have r := r1.mono (x2.trans x3).up
    rw [hK]
    cases r with
    | lst h q => exact ⟨_, _, rfl, SqL.of (x.sub _ _ h), fun p np => lands_own (LandsO.ext x wu.is_ok) x.sub np (q.slL l u)⟩
    | scr h => exact ⟨_, _, rfl, x.sub.seq h, fun p np => lands_own (LandsO.ext x wu.is_ok) x.sub np ((Rs.ints _).slL l u)⟩
    | _ => exact absurd rfl wu.bad

/-! ### tuple(..) -/
def tupleD : List D → Res D
  | [.lst l] => .ok (.tup l)
  | [.tup l] => .ok (.tup l)
  | _ => .bad
theorem cd_tuple : CallD g (fun xs H Q => ∃ p ys, xs = [.ref p] ∧ ((SqL g.K H p ys ∧ ∀ l, H l = none → Q (.ref l) (upd H l (.tup ys))) ∨ (SqT g.K H p ys ∧ Q (.ref p) H))) tupleD := by
  intro Hs H vs ds Q s r E w
  unfold tupleD at w
  split at w
  · obtain ⟨⟩ | ⟨r, r0⟩ := r
    cases r0
    cases r with
    | lst h q => exact ⟨_, _, rfl, .inl ⟨SqL.of (s _ _ h), fun p np => lands_new w.is_ok s np (.tup (.inl (.inl upd_same)) (q.mono (same_upd (s.free np))))⟩⟩
  · obtain ⟨⟩ | ⟨r, r0⟩ := r
    cases r0
    cases r with
    | tup h q => exact ⟨_, _, rfl, .inr ⟨SameT s h, w.is_ok _ _ _ (Ext.refl s) (.tup h q)⟩⟩
  · exact absurd rfl w.bad
/-! all, any, sum, min, max of lists -/
def blsD : List D → Option (List Bool)
  | [] => some []
  | .bl b :: r => (blsD r).map (b :: ·)
  | _ => none
def intsD : List D → Option (List Int)
  | [] => some []
  | .int b :: r => (intsD r).map (b :: ·)
  | _ => none
theorem bls_of {H : Hp} : ∀ {vs : List V} {l : List D} {bs : List Bool}, Rs g H vs l → blsD l = some bs → vs = bs.map V.bl
  | _, _, bs, .nil, e => by cases e; rfl
  | _, d :: ds, bs, .cons h r, e => by
    cases h with
    | bl b =>
      unfold blsD at e
      cases q : blsD ds with
      | none => rw [q] at e; cases e
      | some x =>
        rw [q] at e
        cases e
        rw [bls_of r q]
        rfl
    | _ => cases e
theorem ints_of {H : Hp} : ∀ {vs : List V} {l : List D} {bs : List Int}, Rs g H vs l → intsD l = some bs → vs = bs.map V.int
  | _, _, bs, .nil, e => by cases e; rfl
  | _, d :: ds, bs, .cons h r, e => by
    cases h with
    | int b =>
      unfold intsD at e
      cases q : intsD ds with
      | none => rw [q] at e; cases e
      | some x =>
        rw [q] at e
        cases e
        rw [ints_of r q]
        rfl
    | _ => cases e
def overBls (k : List Bool → Bool) : List D → Res D
  | [.lst l] => match blsD l with
    | some bs => .ok (.bl (k bs))
    | none => .bad
  | _ => .bad
def allD : List D → Res D := overBls fun bs => bs.all id
def anyD : List D → Res D := overBls fun bs => bs.any id
theorem cd_bls {k : List Bool → Bool} : CallD g (fun vs H Q => ∃ (a : Addr) (bs : List Bool), vs = [V.ref a] ∧ SqL g.K H a (bs.map V.bl) ∧ Q (.bl (k bs)) H) (overBls k) := by
  intro Hs H vs ds Q s r E w
  unfold overBls at w
  split at w
  · rename_i l
    obtain ⟨⟩ | ⟨r, r0⟩ := r
    cases r0
    cases r with
    | lst h q =>
      cases e : blsD l with
      | none => rw [e] at w; exact absurd rfl w.bad
      | some bs =>
        rw [e] at w
        have ev := bls_of q e
        subst ev
        exact ⟨_, bs, rfl, SqL.of (s _ _ h), w.is_ok _ _ _ (Ext.refl s) (.bl _)⟩
  · exact absurd rfl w.bad
def sumD : List D → Res D
  | [.lst l] => match intsD l with
    | some ns => .ok (.int ns.sum)
    | none => .bad
  | _ => .bad
theorem cd_sum : CallD g (rSum g.K) sumD := by
  intro Hs H vs ds Q s r E w
  unfold sumD at w
  split at w
  · rename_i l
    obtain ⟨⟩ | ⟨r, r0⟩ := r
    cases r0
    cases r with
    | lst h q =>
      cases e : intsD l with
      | none => rw [e] at w; exact absurd rfl w.bad
      | some ns =>
        rw [e] at w
        have ev := ints_of q e
        subst ev
        exact ⟨_, ns, rfl, SqL.of (s _ _ h), w.is_ok _ _ _ (Ext.refl s) (.int _)⟩
  · exact absurd rfl w.bad
/-! a built-in class called -/
theorem se_callTy {T : String} {x : Str} {p : Pos} {r : List V → Hp → VK → Prop} {fn : List D → Res D} (hc : CallR X (.type T) r) (o : CallD g r fn) (hg : Gl X x) (hm : X.mg x = none) (hv : bootBuiltins x = some (.type T)) (ha : PA X (e :: es) (AR g E fs))
    (hn : x ≠ "__name__" := by decide) (hdb : (x == ("__debug__" : Str)) = false := by decide) (he : starEach (e :: es) X.env = (false, eval e X.env) :: starEach es X.env := by rfl) (hpl : (backTo pos (starEach es X.env)).any (·.1) = false := by rfl) : PE X (.Call (.Name x p) (e :: es) [] pos) (ER g E (eCall fn fs)) :=
  PE_mono (pe_callTy hc hg hm hv ha hn hdb he hpl) fun σ H Q w => ar_then (r := r) (fun Hs H vs ds Q s r w => o Hs H vs ds Q s r E w) w
theorem se_callB' {id : String} {x : Str} {p : Pos} {r : List V → Hp → VK → Prop} {fn : List D → Res D} (hc : CallR X (.builtin id) r) (o : CallD g r fn) (hg : Gl X x) (hm : X.mg x = none) (hv : bootBuiltins x = some (.builtin id)) (ha : PA X (e :: es) (AR g E fs))
    (hn : x ≠ "__name__" := by decide) (hdb : (x == ("__debug__" : Str)) = false := by decide) (he : starEach (e :: es) X.env = (false, eval e X.env) :: starEach es X.env := by rfl) (hpl : (backTo pos (starEach es X.env)).any (·.1) = false := by rfl) : PE X (.Call (.Name x p) (e :: es) [] pos) (ER g E (eCall fn fs)) :=
  PE_mono (pe_callB hc hg hm hv ha hn hdb he hpl) fun σ H Q w => ar_then (r := r) (fun Hs H vs ds Q s r w => o Hs H vs ds Q s r E w) w
end
/-! ### raise of an own class -/
def sRaise (c : String) : Env → Res Fl := fun _ => .exc c none
theorem ss_raise {X : Cx} {g : G} {E : XK} {B Hs0 : Hp} {c : String} {C : Addr} {e : Expr} {pos : Pos} (hc : X.calm = true) (tk : Takes X (fun cls d _ H => E cls d H)) (he : PMk X e (fun _ H Q => Q (.ref C) none H)) (hC : g.mg (Str.ofString c) = some (.ref C)) : PS X (.Raise (some e) none pos) (SR g E B Hs0 (sRaise c)) :=
  PS_mono (ps_raise hc tk he) fun D σ H ⟨Hs, env, r, w⟩ => w.exc c none rfl (.ref C) none H r.keep ⟨C, hC, rfl, rfl⟩
end PL

set_option Elab.async false
set_option linter.all false
namespace PL
open PySem L2
section
variable {env : BEnv} {s : Env} {f h k : BEnv → Res D} {p q : BEnv → Res Bool} {fs : BEnv → Res (List D)}
@[simp] theorem x_var {i : Nat} : eVar i env = (match env[i]? with | some (some d) => .ok d | _ => .bad) := rfl
@[simp] theorem x_c {d : D} : eC d env = .ok d := rfl
@[simp] theorem x_e2 {fn : D → D → Res D} : e2 fn f h env = (f env >>= fun x => h env >>= fun y => fn x y) := rfl
@[simp] theorem x_e1 {fn : D → Res D} : e1 fn f env = (f env >>= fun x => fn x) := rfl
@[simp] theorem x_tst : tst f env = (f env >>= isB) := rfl
@[simp] theorem x_isB {b : Bool} : isB (.bl b) = .ok b := rfl
@[simp] theorem x_tNot : tNotD p env = (p env >>= fun b => .ok (!b)) := rfl
@[simp] theorem x_tAnd : tAndD p q env = (p env >>= fun b => if b = true then q env else .ok false) := rfl
@[simp] theorem x_tOr : tOrD p q env = (p env >>= fun b => if b = true then .ok true else q env) := rfl
@[simp] theorem x_eAnd : eAnd f h env = (f env >>= fun x => isB x >>= fun b => if b = true then h env else .ok (.bl false)) := rfl
@[simp] theorem x_eOr : eOr f h env = (f env >>= fun x => isB x >>= fun b => if b = true then .ok (.bl true) else h env) := rfl
@[simp] theorem x_eNot : eNot f env = (f env >>= fun x => isB x >>= fun b => .ok (.bl (!b))) := rfl
@[simp] theorem x_eIf : eIf p f h env = (p env >>= fun b => if b = true then f env else h env) := rfl
@[simp] theorem x_chain {fn fn' : D → D → Res D} : eChain fn fn' f h k env = (f env >>= fun x => h env >>= fun y => fn x y >>= fun z => isB z >>= fun b => if b = true then k env >>= fun w => fn' y w else .ok (.bl false)) := rfl
@[simp] theorem x_aNil : aNil env = .ok [] := rfl
@[simp] theorem x_aCons : aCons f fs env = (f env >>= fun x => fs env >>= fun xs => .ok (x :: xs)) := rfl
@[simp] theorem x_eTup : eTup fs env = (fs env >>= fun ds => if ds.length ≤ 1000 then .ok (.tup ds) else .bad) := rfl
@[simp] theorem x_eCall {fn : List D → Res D} : eCall fn fs env = (fs env >>= fn) := rfl
@[simp] theorem x_eFn {den : List D → Res Cell} : eFn den fs env = (fs env >>= den >>= fun c => .ok c.toD) := rfl
@[simp] theorem x_oFn {den : List D → Res Cell} : oFn den fs env = (fs env >>= den >>= ownOnly) := rfl
@[simp] theorem x_lstD {fl : BEnv → Res (List D)} : lstD fl env = (fl env >>= fun l => .ok (.lst l)) := rfl
@[simp] theorem x_oLst : oLst fs env = (fs env >>= fun ds => if ds.length ≤ 1000 then .ok ds else .bad) := rfl
@[simp] theorem x_o2 {fn : D → D → Res (List D)} : o2 fn f h env = (f env >>= fun x => h env >>= fun y => fn x y) := rfl
@[simp] theorem x_eCallO {fn : List D → Res (List D)} : eCallO fn fs env = (fs env >>= fn) := rfl
@[simp] theorem x_eSl {lo hi : BEnv → Res (Option Int)} : eSl f lo hi env = (f env >>= fun d => lo env >>= fun l => hi env >>= fun u => slD d l u) := rfl
@[simp] theorem x_oSl {lo hi : BEnv → Res (Option Int)} : oSl f lo hi env = (f env >>= fun d => lo env >>= fun l => hi env >>= fun u => slO d l u) := rfl
@[simp] theorem x_oNo : oNo env = .ok none := rfl
@[simp] theorem x_oSome : oSome f env = (f env >>= fun d => match d with | .int i => .ok (some i) | _ => .bad) := rfl
theorem x_iRng1 : iRng1 fs env = (fs env >>= fun ds => match ds with | [.int j] => if -(2 ^ 62) ≤ j ∧ j < 2 ^ 62 then .ok (rngD 0 j.toNat) else .bad | _ => .bad) := rfl
theorem x_iRng2 : iRng2 fs env = (fs env >>= fun ds => match ds with | [.int i, .int j] => if -(2 ^ 62) ≤ i ∧ i < 2 ^ 62 ∧ -(2 ^ 62) ≤ j ∧ j < 2 ^ 62 then .ok (rngD i (j - i).toNat) else .bad | _ => .bad) := rfl
@[simp] theorem x_iLst : iLst f env = (f env >>= fun d => match d with | .lst l => .ok l | .scr ns => .ok (ns.map D.int) | _ => .bad) := rfl
@[simp] theorem x_iTup : iTupD f env = (f env >>= fun d => match d with | .tup l => .ok l | _ => .bad) := rfl
/-! operations on data -/
variable {i j : Int} {a b : List D} {x y : Str} {c d : D} {t u : Bool}
@[simp] theorem y_add_i : addD (.int i) (.int j) = .ok (.int (i + j)) := rfl
@[simp] theorem y_add_t : addD (.tup a) (.tup b) = if a.length + b.length ≤ 1000000 then .ok (.tup (a ++ b)) else .bad := rfl
@[simp] theorem y_add_l : addD (.lst a) (.lst b) = if a.length + b.length ≤ 1000000 then .ok (.lst (a ++ b)) else .bad := rfl
@[simp] theorem y_add_s : addD (.str x) (.str y) = if x.length + y.length ≤ 1000000 then .ok (.str (x ++ y)) else .bad := rfl
@[simp] theorem y_sub : subD (.int i) (.int j) = .ok (.int (i - j)) := rfl
@[simp] theorem y_lt : ltD (.int i) (.int j) = .ok (.bl (decide (i < j))) := rfl
@[simp] theorem y_le : leD (.int i) (.int j) = .ok (.bl (decide (i ≤ j))) := rfl
@[simp] theorem y_gt : gtD (.int i) (.int j) = .ok (.bl (decide (j < i))) := rfl
@[simp] theorem y_ge : geD (.int i) (.int j) = .ok (.bl (decide (j ≤ i))) := rfl
@[simp] theorem y_neg : negD (.int i) = .ok (.int (-i)) := rfl
@[simp] theorem y_mul : mulD (.int i) (.int j) = if mulOk i j = true then .ok (.int (i * j)) else .bad := rfl
@[simp] theorem y_mul_l : mulD (.lst a) (.int i) = if 0 ≤ i ∧ i ≤ 1000 ∧ a.length ≤ 1000 then .ok (.lst (List.replicate i.toNat a).flatten) else .bad := rfl
@[simp] theorem y_mul_t : mulD (.tup a) (.int i) = if 2 ≤ i ∧ i ≤ 1000 ∧ a.length ≤ 1000 ∧ a ≠ [] then .ok (.tup (List.replicate i.toNat a).flatten) else .bad := rfl
@[simp] theorem y_fdiv : fdivD (.int i) (.int j) = if divOk i j = true then .ok (.int (i.fdiv j)) else .bad := rfl
@[simp] theorem y_mod : modD (.int i) (.int j) = if decide (j ≠ 0) = true then .ok (.int (i.fmod j)) else .bad := rfl
@[simp] theorem y_pow : powD (.int i) (.int j) = if decide (0 ≤ j ∧ j ≤ 1000000 ∧ i.natAbs < 2 ^ 64) = true then .ok (.int (i ^ j.toNat)) else .bad := rfl
@[simp] theorem y_abs : absD [.int i] = .ok (.int (if i < 0 then -i else i)) := rfl
@[simp] theorem y_max2 : max2D [.int i, .int j] = .ok (.int (if j > i then j else i)) := rfl
@[simp] theorem y_min2 : min2D [.int i, .int j] = .ok (.int (if j < i then j else i)) := rfl
@[simp] theorem y_int_i : intD [.int i] = .ok (.int i) := rfl
@[simp] theorem y_int_b : intD [.bl t] = .ok (.int (if t = true then 1 else 0)) := rfl
@[simp] theorem y_len_t : lenD [.tup a] = .ok (.int a.length) := rfl
@[simp] theorem y_len_l : lenD [.lst a] = .ok (.int a.length) := rfl
@[simp] theorem y_len_s {ns : List Int} : lenD [.scr ns] = .ok (.int ns.length) := rfl
@[simp] theorem y_ix_t : ixD (.tup a) (.int i) = atD a i := rfl
@[simp] theorem y_ix_l : ixD (.lst a) (.int i) = atD a i := rfl
@[simp] theorem y_ix_s {ns : List Int} : ixD (.scr ns) (.int i) = (match atI ns i with | some z => .ok (.int z) | none => .bad) := rfl
theorem y_atn {l : List D} {k : Nat} : atD l (k : Int) = (match l[k]? with | some d => .ok d | none => .bad) := by
  unfold atD ixN
  rw [if_pos (Int.natCast_nonneg k)]
  by_cases h : k < l.length
  · rw [if_pos (by omega)]
    show (match l[(k : Int).toNat]? with | some d => Res.ok d | none => .bad) = _
    rw [Int.toNat_natCast]
  · rw [if_neg (by omega), List.getElem?_eq_none (by omega)]
@[simp] theorem y_at0 {r : List D} : atD (c :: r) 0 = .ok c := y_atn (k := 0)
@[simp] theorem y_at1 {r : List D} : atD (c :: d :: r) 1 = .ok d := y_atn (k := 1)
@[simp] theorem y_at2 {e : D} {r : List D} : atD (c :: d :: e :: r) 2 = .ok e := y_atn (k := 2)
@[simp] theorem y_at3 {e f : D} {r : List D} : atD (c :: d :: e :: f :: r) 3 = .ok f := y_atn (k := 3)
@[simp] theorem y_isi_i {T : String} : isiB T (.int i) = .ok (.bl (T == "int")) := rfl
@[simp] theorem y_isi_b {T : String} : isiB T (.bl t) = .ok (.bl (T == "bool" || T == "int")) := rfl
@[simp] theorem y_isi_t {T : String} : isiB T (.tup a) = .ok (.bl (T == "tuple")) := rfl
@[simp] theorem y_isi_l {T : String} : isiB T (.lst a) = .ok (.bl (T == "list")) := rfl
@[simp] theorem y_isi_s {T : String} : isiB T (.str x) = .ok (.bl (T == "str")) := rfl
@[simp] theorem y_isi_n {T : String} : isiB T .non = .ok (.bl false) := rfl
@[simp] theorem y_eq_i : eqD (.int i) (.int j) = .ok (.bl (i == j)) := rfl
@[simp] theorem y_eq_b : eqD (.bl t) (.bl u) = .ok (.bl (t == u)) := rfl
@[simp] theorem y_ne_i : neD (.int i) (.int j) = .ok (.bl (!(i == j))) := rfl
@[simp] theorem y_ne_b : neD (.bl t) (.bl u) = .ok (.bl (!(t == u))) := rfl
@[simp] theorem y_is_n : isND .non .non = .ok (.bl true) := rfl
@[simp] theorem y_tuple_l : tupleD [.lst a] = .ok (.tup a) := rfl
@[simp] theorem y_tuple_t : tupleD [.tup a] = .ok (.tup a) := rfl
@[simp] theorem y_sl_l {lo hi : Option Int} : slD (.lst a) lo hi = .ok (.lst (cutL a lo hi)) := rfl
@[simp] theorem y_sl_t {lo hi : Option Int} : slD (.tup a) lo hi = .ok (.tup (cutL a lo hi)) := rfl
@[simp] theorem y_sl_s {lo hi : Option Int} {ns : List Int} : slD (.scr ns) lo hi = .ok (.lst (cutL (ns.map D.int) lo hi)) := rfl
@[simp] theorem y_slO_l {lo hi : Option Int} : slO (.lst a) lo hi = .ok (cutL a lo hi) := rfl
@[simp] theorem y_slO_s {lo hi : Option Int} {ns : List Int} : slO (.scr ns) lo hi = .ok (cutL (ns.map D.int) lo hi) := rfl
@[simp] theorem y_catO : catO (.lst a) (.lst b) = if a.length + b.length ≤ 1000000 then .ok (a ++ b) else .bad := rfl
@[simp] theorem y_repO : repO (.lst a) (.int i) = if 0 ≤ i ∧ i ≤ 1000 ∧ a.length ≤ 1000 then .ok (List.replicate i.toNat a).flatten else .bad := rfl
/-! statements -/
variable {g1 g2 : Env → Res Fl} {fo : BEnv → Res (List D)} {n : Nat}
@[simp] theorem x_clean_nil : Env.clean [] = [] := rfl
@[simp] theorem x_clean_cons {o : Option Cell} {r : Env} : Env.clean (o :: r) = cleanC o :: Env.clean r := rfl
@[simp] theorem x_cleanC_v : cleanC (some (.val d)) = some d := rfl
@[simp] theorem x_cleanC_o : cleanC (some (.own a)) = none := rfl
@[simp] theorem x_cleanC_n : cleanC none = none := rfl
@[simp] theorem x_bor_nil : Env.borrow [] = [] := rfl
@[simp] theorem x_bor_cons {o : Option Cell} {r : Env} : Env.borrow (o :: r) = o.map Cell.toD :: Env.borrow r := rfl
@[simp] theorem x_toD_v : Cell.toD (.val d) = d := rfl
@[simp] theorem x_toD_o : Cell.toD (.own a) = .lst a := rfl
@[simp] theorem x_sNil : sNil s = .ok (.nx s) := rfl
@[simp] theorem x_seq : sSeq g1 g2 s = (g1 s >>= seqK g2) := rfl
@[simp] theorem x_seqK_nx {e : Env} : seqK g2 (.nx e) = g2 e := rfl
@[simp] theorem x_seqK_rt {e : Cell} : seqK g2 (.rt e) = .ok (.rt e) := rfl
@[simp] theorem x_seqK_bk {e : Env} : seqK g2 (.bk e) = .ok (.bk e) := rfl
@[simp] theorem x_seqK_ct {e : Env} : seqK g2 (.ct e) = .ok (.ct e) := rfl
@[simp] theorem x_sSet : sSet n f s = (f s.clean >>= fun d => .ok (.nx (s.set n (some (.val d))))) := rfl
@[simp] theorem x_sSetB : sSetB n f s = (f s.borrow >>= fun d => if noLst d = true then .ok (.nx (s.set n (some (.val d)))) else .bad) := rfl
@[simp] theorem x_sOwn : sOwn n fo s = (fo s.clean >>= fun l => .ok (.nx (s.set n (some (.own l))))) := rfl
@[simp] theorem x_sOwnB : sOwnB n fo s = (fo s.borrow >>= fun l => if noLsts l = true then .ok (.nx (s.set n (some (.own l)))) else .bad) := rfl
@[simp] theorem x_sPar {m : Nat} : sPar n m f h s = (f s.clean >>= fun d => h s.clean >>= fun d' => .ok (.nx ((s.set n (some (.val d))).set m (some (.val d'))))) := rfl
@[simp] theorem x_sRet : sRet f s = (f s.borrow >>= fun d => .ok (.rt (.val d))) := rfl
@[simp] theorem x_sRetO : sRetO fo s = (fo s.borrow >>= fun l => .ok (.rt (.own l))) := rfl
@[simp] theorem x_sExpr : sExpr f s = (f s.borrow >>= fun _ => .ok (.nx s)) := rfl
@[simp] theorem x_sIf : sIf p g1 g2 s = (p s.borrow >>= fun b => if b = true then g1 s else g2 s) := rfl
@[simp] theorem x_sWhile {fu : Env → Nat} : sWhile fu p g1 s = whileD (fu s) p g1 s := rfl
@[simp] theorem x_sForR {pt : Pat} : sForR fo pt g1 s = (fo s.borrow >>= fun l => forD pt g1 l s) := rfl
@[simp] theorem x_sFor {pt : Pat} : sFor fo pt g1 s = (fo s.clean >>= fun l => forD pt g1 l s) := rfl
@[simp] theorem x_pName : pName n d = .ok [(n, d)] := rfl
@[simp] theorem x_setE : setAllE s [(n, d)] = s.set n (some (.val d)) := rfl
@[simp] theorem x_setE_nil : setAllE s [] = s := rfl
@[simp] theorem x_setE_cons {r : List (Nat × D)} : setAllE s ((n, d) :: r) = setAllE (s.set n (some (.val d))) r := rfl
@[simp] theorem x_endFl_rt {e : Cell} : endFl (.rt e) = .ok e := rfl
@[simp] theorem x_endFl_nx {e : Env} : endFl (.nx e) = .ok (.val .non) := rfl
@[simp] theorem x_for_nil {pt : Pat} : forD pt g1 [] s = .ok (.nx s) := rfl
theorem x_for_cons {pt : Pat} : forD pt g1 (d :: a) s = must (pt d) fun as => g1 (setAllE s as) >>= fun fl => match fl with
    | .nx e => forD pt g1 a e
    | .ct e => forD pt g1 a e
    | .bk e => .ok (.nx e)
    | .rt c => .ok (.rt c) := rfl
theorem x_while_succ {m : Nat} : whileD (m + 1) p g1 s = (p s.borrow >>= fun b => if b = true then g1 s >>= fun fl => match fl with
    | .nx e => whileD m p g1 e
    | .ct e => whileD m p g1 e
    | .bk e => .ok (.nx e)
    | .rt c => .ok (.rt c)
    else .ok (.nx s)) := rfl
@[simp] theorem run_eq {N n : Nat} {ds : List D} (h : ds.length = n) : runB N n g1 ds = (g1 (startE N ds) >>= endFl) := by unfold runB; rw [if_pos h]
theorem start_eq {N : Nat} {ds : List D} : startE N ds = ds.map (fun d => some (.val d)) ++ List.replicate (N - ds.length) none := rfl
end
/-- the int that a slot holds, as a bound -/
def natAt (env : Env) (i : Nat) : Nat := match env[i]? with
  | some (some (.val (.int j))) => j.toNat
  | _ => 0
end PL

set_option Elab.async false
set_option linter.all false
namespace PL
open PySem L2
/-! loops by an invariant; slices -/
theorem for_inv {p : Pat} {s : Env → Res Fl} (I : Nat → Env → Prop) : ∀ (l : List D) (env : Env) (k : Nat), I k env →
    (∀ (i : Nat) (hi : i < l.length) (env : Env), I (k + i) env → ∃ as env', p l[i] = .ok as ∧ (s (setAllE env as) = .ok (.nx env') ∨ s (setAllE env as) = .ok (.ct env')) ∧ I (k + i + 1) env') →
    ∃ env', forD p s l env = .ok (.nx env') ∧ I (k + l.length) env'
  | [], env, k, h0, _ => ⟨env, rfl, h0⟩
  | d :: ds, env, k, h0, hs => by
    obtain ⟨as, e1, hp, h1, h2⟩ := hs 0 (by simp) env h0
    have hp : p d = .ok as := hp
    obtain ⟨e2, h3, h4⟩ := for_inv (p := p) (s := s) I ds e1 (k + 1) h2 (fun i hi env hI => by
      obtain ⟨as, e', a, b, c⟩ := hs (i + 1) (by simpa using hi) env (by rwa [show k + (i + 1) = k + 1 + i by omega])
      exact ⟨as, e', by simpa using a, b, by rwa [show k + 1 + i + 1 = k + (i + 1) + 1 by omega]⟩)
    refine ⟨e2, ?_, by rwa [show k + (d :: ds).length = k + 1 + ds.length by simp; omega]⟩
    rw [x_for_cons, hp, must_ok]
    rcases h1 with h1 | h1 <;> (rw [h1]; exact h3)
theorem forR_inv {p : Pat} {s : Env → Res Fl} {lo : Int} {n : Nat} {env : Env} (I : Nat → Env → Prop) (h0 : I 0 env)
    (hs : ∀ (i : Nat) (hi : i < n) (env : Env), I i env → ∃ as env', p (.int (lo + i)) = .ok as ∧ (s (setAllE env as) = .ok (.nx env') ∨ s (setAllE env as) = .ok (.ct env')) ∧ I (i + 1) env') :
    ∃ env', forD p s (rngD lo n) env = .ok (.nx env') ∧ I n env' := by
  have hl : (rngD lo n).length = n := by unfold rngD; rw [List.length_map, List.length_range]
  obtain ⟨e, h1, h2⟩ := for_inv (p := p) (s := s) I (rngD lo n) env 0 h0 (fun i hi env hI => by
    rw [hl] at hi
    have e : (rngD lo n)[i]'(by rw [hl]; exact hi) = .int (lo + i) := by simp [rngD]
    rw [e]
    simpa using hs i hi env (by simpa using hI))
  rw [hl] at h2
  exact ⟨e, h1, by simpa using h2⟩
@[simp] theorem cutL_to {α : Type} {l : List α} {k : Nat} : cutL l none (some (k : Int)) = l.take k := by
  unfold cutL
  rw [HT.sIx_nat, HT.sIx_none, List.drop_zero, Nat.sub_zero, ← List.take_eq_take_min]
@[simp] theorem cutL_from {α : Type} {l : List α} {k : Nat} : cutL l (some (k : Int)) none = l.drop k := by
  unfold cutL
  rw [HT.sIx_nat, HT.sIx_none]
  by_cases h : k ≤ l.length
  · rw [Nat.min_eq_left h]
    exact List.take_of_length_le (by rw [List.length_drop]; omega)
  · have h : l.length ≤ k := by omega
    rw [Nat.min_eq_right h, List.drop_of_length_le (Nat.le_refl _), List.drop_of_length_le h]
    simp
end PL

set_option Elab.async false
set_option linter.all false
set_option maxRecDepth 100000
set_option maxHeartbeats 1000000
namespace PL
open PySem PySem.Spec PyProof.Rows L2

/-! ### is of None and of bools -/
def isD : D → D → Res D
  | .non, .non => .ok (.bl true)
  | _, .non => .ok (.bl false)
  | .bl a, .bl b => .ok (.bl (decide (a = b)))
  | _, _ => .bad
def isntD : D → D → Res D
  | .non, .non => .ok (.bl false)
  | _, .non => .ok (.bl true)
  | .bl a, .bl b => .ok (.bl (!decide (a = b)))
  | _, _ => .bad
abbrev rIsAny : R2 := fun x y H Q => (fun x y H Q => y = .non ∧ Q (.bl (decide (x = .non))) H) x y H Q ∨ rIsB x y H Q
abbrev rIsntAny : R2 := fun x y H Q => (fun x y H Q => y = .non ∧ Q (.bl (!decide (x = .non))) H) x y H Q ∨ rNotB x y H Q
theorem or_is {X : Cx} : OpR X (compareOp .Is) rIsAny := op_isN.or op_isBl
theorem or_isnt {X : Cx} : OpR X (compareOp .IsNot) rIsntAny := op_notN.or op_notBl
theorem od_is {g : G} : OpD g rIsAny isD := by
  intro Hs H v u a b Q s r1 r2 E w
  cases r2 with
  | non => cases r1 <;> exact .inl ⟨rfl, w.is_ok _ _ _ (Ext.refl s) (.bl _)⟩
  | bl b =>
    cases r1 with
    | bl a => exact .inr ⟨a, b, rfl, rfl, w.is_ok _ _ _ (Ext.refl s) (.bl _)⟩
    | _ => exact absurd rfl w.bad
  | _ => cases r1 <;> exact absurd rfl w.bad
theorem od_isnt {g : G} : OpD g rIsntAny isntD := by
  intro Hs H v u a b Q s r1 r2 E w
  cases r2 with
  | non => cases r1 <;> exact .inl ⟨rfl, w.is_ok _ _ _ (Ext.refl s) (.bl _)⟩
  | bl b =>
    cases r1 with
    | bl a => exact .inr ⟨a, b, rfl, rfl, w.is_ok _ _ _ (Ext.refl s) (.bl _)⟩
    | _ => exact absurd rfl w.bad
  | _ => cases r1 <;> exact absurd rfl w.bad
@[simp] theorem y_is_b {a b : Bool} : isD (.bl a) (.bl b) = .ok (.bl (decide (a = b))) := rfl
@[simp] theorem y_isnt_b {a b : Bool} : isntD (.bl a) (.bl b) = .ok (.bl (!decide (a = b))) := rfl
@[simp] theorem y_is_nn : isD .non .non = .ok (.bl true) := rfl
@[simp] theorem y_isnt_nn : isntD .non .non = .ok (.bl false) := rfl
@[simp] theorem y_is_bn {a : Bool} : isD (.bl a) .non = .ok (.bl false) := rfl
@[simp] theorem y_is_in {a : Int} : isD (.int a) .non = .ok (.bl false) := rfl
@[simp] theorem y_is_tn {a : List D} : isD (.tup a) .non = .ok (.bl false) := rfl
@[simp] theorem y_is_ln {a : List D} : isD (.lst a) .non = .ok (.bl false) := rfl
@[simp] theorem y_isnt_bn {a : Bool} : isntD (.bl a) .non = .ok (.bl true) := rfl
@[simp] theorem y_isnt_in {a : Int} : isntD (.int a) .non = .ok (.bl true) := rfl
@[simp] theorem y_isnt_tn {a : List D} : isntD (.tup a) .non = .ok (.bl true) := rfl
@[simp] theorem y_isnt_ln {a : List D} : isntD (.lst a) .non = .ok (.bl true) := rfl

/-! ### exceptions of the program's own -/
structure ExcF (g : G) (c : String) (C : Addr) : Prop where
  hm : g.mg (Str.ofString c) = some (.ref C)
  x : PySem.W.excIn g.K C [.type "ValueError", .type "Exception", .type "BaseException", .type "object"] "ValueError.__new__" = true
  k : PySem.W.keepIn g.K (.ref C) = true
  s : PySem.W.subIn g.K (.ref C) (.type "BaseException") = some true
  t : PySem.W.typeIn g.K (.ref C) = some (.type "type")
theorem ss_raiseN {X : Cx} {g : G} {E : XK} {B Hs0 : Hp} {c : String} {m : Str} {j : Nat} {p p2 pos pos' : Pos} (h : ∃ C, ExcF g c C) (hK : X.K = g.K) (hM : X.mg = g.mg) (hc : X.calm = true) (tk : Takes X (fun cls d _ H => E cls d H)) (hg : Gl X (Str.ofString c))
    (hdb : (Str.ofString c == ("__debug__" : Str)) = false := by decide) : PS X (.Raise (some (.Call (.Name (Str.ofString c) p) [.Constant (.str m) j p2] [] pos)) none pos') (SR g E B Hs0 (sRaise c)) := by
  obtain ⟨C, f⟩ := h
  exact ss_raise hc tk (pmk_own PySem.F.excBase_ValueError (hK ▸ f.x) (hM ▸ f.hm) (hK ▸ f.k) (raises_own (hK ▸ f.s) (hK ▸ f.t)) hg hdb) f.hm
@[simp] theorem x_raise {c : String} {env : Env} : sRaise c env = .exc c none := rfl
end PL

set_option Elab.async false
set_option linter.all false
set_option maxRecDepth 100000
set_option maxHeartbeats 2000000
/-! zip of two, of three, enumerate: over lists and tuples in any mix -/
namespace PySem
theorem pl_enum_newB {v : Value} {o : Obj} {H : Heap → Prop} (B : Begins v o H) :
    Meets (Builtin.«enumerate.__new__» ⟨[.type "enumerate", v], []⟩) (fun _ R s => H s.heap ∧
      R (.ok (.ret (.ref (s.heap.push o).objs.size))) { s with heap := (s.heap.push o).push { cls := .type "enumerate", data := .fields #[.none, .bool false, .ref s.heap.objs.size, rawInt 0, .none, .none] } }) :=
  .of_wp fun prog w A R s h => by
    obtain ⟨hp, g, d, tk, os⟩ := s
    obtain ⟨h1, h⟩ := h
    have hsub := sub_enumerate
    have q1 : ∀ {A' : Around} {E : Value → Shared → Prop} {Q : Value → Shared → Prop}, Q (.ref hp.objs.size) ⟨hp.push o, g, d, tk, os⟩ → wpAny (model prog w) A' (pyIter v) Q E ⟨hp, g, d, tk, os⟩ :=
      fun q => B.iter prog w _ _ ⟨hp, g, d, tk, os⟩ _ h1 q
    wp_walk using q1
    refine wpAny_stack_any fun st => wpAny_pure ?_
    split
    · rename_i c _ _ _ _ _
      cases (c == Value.type "enumerate")
      · wp_walk using q1
        exact ⟨_, rfl, h⟩
      · wp_walk using q1
        exact ⟨_, rfl, h⟩
    · wp_walk using q1
      exact ⟨_, rfl, h⟩
theorem pl_enum_begins {prog : Program} {w : World} {A : Around} {E : Value → Shared → Prop} {s : Shared} {v : Value} {o : Obj} {H : Heap → Prop} {Q : Value → Shared → Prop} (B : Begins v o H) (h1 : H s.heap)
    (h : ∀ h', IsEnum h' (s.heap.objs.size + 1) s.heap.objs.size 0 .none → h'.get? s.heap.objs.size = some o → h'.objs.size = s.heap.objs.size + 2 →
      (∀ b o, s.heap.get? b = some o → h'.get? b = some o) → Q (.ref (s.heap.objs.size + 1)) { s with heap := h' }) :
    wpAny (model prog w) A (call (.type "enumerate") [v]) Q E s := by
  refine callType_new F.called_enumerate (by decide) (F.typeCall_enumerate_1 _) (F.newCall_enumerate_1 _) (fun obj => F.args_object_init_2 obj _) F.entry_enumerate_new
    (pl_enum_newB B) ⟨h1, ?_⟩
  have hz : (s.heap.push o).objs.size = s.heap.objs.size + 1 := Heap.size_push ..
  show _ ∧ _
  rw [hz]
  have he : IsEnum ((s.heap.push o).push { cls := .type "enumerate", data := .fields #[.none, .bool false, .ref s.heap.objs.size, rawInt 0, .none, .none] }) (s.heap.objs.size + 1) s.heap.objs.size 0 .none := by
    have := Heap.get?_push_size (s.heap.push o) (o := { cls := .type "enumerate", data := .fields #[.none, .bool false, .ref s.heap.objs.size, rawInt 0, .none, .none] }) rfl
    rw [hz] at this
    exact this
  exact ⟨⟨_, he, rfl⟩, h _ he (Heap.get?_push_of_some _ (Heap.get?_push_size _ B.free)) (by rw [Heap.size_push, hz]) fun b o x => Heap.get?_push_of_some _ (Heap.get?_push_of_some _ x)⟩
end PySem
namespace PL
open PySem PySem.Spec PyProof.Rows L2

/-- what is drawn from: a list or a tuple -/
inductive Src where
  | l (a : Addr) | t (a : Addr)
namespace Src
def a : Src → Addr
  | .l a => a
  | .t a => a
def has (K : PySem.W.Frag) (H : Hp) (xs : List V) : Src → Prop
  | .l a => SqL K H a xs
  | .t a => SqT K H a xs
def isAt (h : Heap) (its : Array Value) : Src → Prop
  | .l a => h.IsList a its
  | .t a => h.IsTuple a its
def itr (h : Heap) (it : Addr) (i : Nat) : Src → Prop
  | .l a => h.IsListIter it a i
  | .t a => h.IsTupleIter it a i
def ob : Src → Obj
  | .l a => { cls := .type "list_iterator", data := .fields #[.ref a, .int 0 0] }
  | .t a => { cls := .type "tuple_iterator", data := .fields #[.ref a, .int 0 0] }
variable {S : Src}
theorem draws {P : Program} {w : World} {A : Around} (hh : A.handled = none) (S : Src) (it : Addr) (hne : S.a ≠ it) (its : Array Value) :
    Draws P w A it [it, S.a] its.size (fun i v => its[i]? = some v) (fun i h => S.itr h it i ∧ S.isAt h its) := by
  cases S with
  | l a => exact .list hh it a hne its
  | t a => exact .tuple hh it a hne its
theorem begins (S : Src) (its : Array Value) : Begins (.ref S.a) S.ob fun h => S.isAt h its := by
  cases S with
  | l a => exact begins_list a its
  | t a => exact begins_tuple a its
theorem itr_at {h h' : Heap} {it : Addr} {i : Nat} (st : S.itr h it i) (k : ∀ o, h.get? it = some o → h'.get? it = some o) : S.itr h' it i := by
  cases S with
  | l a =>
    have st : h.IsListIter it a i := st
    exact (st.at k : h'.IsListIter it a i)
  | t a =>
    have st : h.IsTupleIter it a i := st
    exact (st.at k : h'.IsTupleIter it a i)
theorem itr_ob {h : Heap} {it : Addr} {i : Nat} (st : S.itr h it i) : ∃ o, h.get? it = some o ∧ ∀ v, o.data ≠ .cell v := by
  cases S with
  | l a =>
    obtain ⟨o, e, _, d⟩ := st
    exact ⟨o, e, fun v z => by rw [d] at z; cases z⟩
  | t a =>
    obtain ⟨o, e, _, d⟩ := st
    exact ⟨o, e, fun v z => by rw [d] at z; cases z⟩
theorem itr0 {h : Heap} {it : Addr} (e : h.get? it = some S.ob) : S.itr h it 0 := by
  cases S with
  | l a => exact ⟨_, e, rfl, rfl⟩
  | t a => exact ⟨_, e, rfl, rfl⟩
theorem ofInv {X : Cx} {pins : List (Addr × Obj)} {σ : L2.St} {H : Hp} {s : Shared} {xs : List V} (I : Inv X pins σ H s) (h : S.has X.K H xs) : ∃ its : List Value, Vals xs its ∧ S.isAt s.heap its.toArray ∧ S.a < s.heap.objs.size := by
  cases S with
  | l a =>
    obtain ⟨its, r, p, _⟩ := I.list h
    exact ⟨its, r, p.isList, p.lt⟩
  | t a =>
    obtain ⟨its, r, p, _⟩ := I.tuple h
    have p' : s.heap.IsTuple a its.toArray := p
    obtain ⟨o, ho, _⟩ := id p'
    exact ⟨its, r, p', Heap.lt_size ho⟩
theorem inj {X : Cx} {pins : List (Addr × Obj)} {σ : L2.St} {H : Hp} {s : Shared} {xs ys : List V} (I : Inv X pins σ H s) (h : S.has X.K H xs) (h' : S.has X.K H ys) : xs = ys := by
  cases S with
  | l a => exact I.list_inj h h'
  | t a => exact I.tuple_inj h h'
end Src

/-- a turn of an iterator that gives a new tuple -/
theorem turn_w {P : Program} {w : World} {K : PySem.W.Frag} {elts : List Expr} {kk : Nat} {tpos : Pos} {J : It} {it : Addr} {fp : List Addr} {tn : Nat → Heap → Prop} (mem : it ∈ fp)
    (obj : ∀ i h, tn i h → ∀ b ∈ fp, ∃ o, h.get? b = some o ∧ ∀ v, o.data ≠ .cell v)
    (keep : ∀ i h h', tn i h → (∀ b ∈ fp, ∀ o, h.get? b = some o → h'.get? b = some o) → tn i h')
    (self : ∀ (A : Around) (i : Nat) (s : Shared) (Q : Value → Shared → Prop) (E : Value → Shared → Prop), tn i s.heap → Q (.ref it) s → wpAny (model P w) A (pyIter (.ref it)) Q E s)
    (step : ∀ (X : Cx), X.K = K → X.A.handled = none → ∀ (i : Nat) (pins : List (Addr × Obj)) (s : Shared) (σ : L2.St) (H : Hp), Inv X pins σ H s → tn i s.heap → J.go i H →
      ∃ fpw wr n Pt St Mid, WalksT P w X.A it fpw wr n Pt St Mid ∧ (∀ b ∈ wr, b ∈ fp) ∧ i < n ∧ St i s.heap ∧ (∀ h, St (i + 1) h → tn (i + 1) h) ∧
        ∀ vals, Pt i vals → ∃ xs : List V, xs.length ≤ sizeLine ∧ (∃ us : List Value, vals = us.toArray ∧ Vals xs us) ∧ ∀ T, H T = none → J.yld i H (.ref T) (upd H T (.tup xs)))
    (fin : ∀ (X : Cx), X.K = K → X.A.handled = none → ∀ (i : Nat) (pins : List (Addr × Obj)) (s : Shared) (σ : L2.St) (H : Hp), Inv X pins σ H s → tn i s.heap → J.stop i H →
      ∃ fpw wr n Pt St Mid, WalksT P w X.A it fpw wr n Pt St Mid ∧ (∀ b ∈ wr, b ∈ fp) ∧ St n s.heap) :
    Turn P w K (.Tuple elts kk tpos) J fp it tn where
  mem := mem
  obj := obj
  keep := keep
  self := self
  item := by
    intro X hP hw hK hc i pins s σ H E I hf st hg
    subst hP hw
    obtain ⟨fpw, wr, n, Pt, St, Mid, W, hwr, hi, hst, nxt, vs⟩ := step X hK (I.ok.hd hc) i pins s σ H I st hg
    refine W.item i s _ _ hi hst fun T vals h' tk hp hT isT mid k => ?_
    obtain ⟨xs, hz, ⟨us, eu, rv⟩, y⟩ := vs vals hp
    subst eu
    refine ⟨_, rfl, W.go elts kk tpos i T { s with heap := h', toks := tk } _ _ mid fun h'' st'' k2 => ?_⟩
    have hTw : T ∉ wr := W.apart i T h' mid
    have new : ObjOk X.prog X.w (upd H T (.tup xs)) h'' T (.tup xs) := ⟨hz, us, rv, show h''.IsTuple T us.toArray from isT.at fun o e => k2 T o hTw e⟩
    have I1 : Inv X pins σ (upd H T (.tup xs)) { s with heap := h'', toks := tk } := I.turnedNew (ch := wr) (fun c o hb q => k2 c o hb (k c o hb q)) (fun b hb => hf b (hwr b hb)) hT new
    refine ⟨.ref T, _, I1, rfl, y T (I.hok.fresh hT), nxt _ st'', fun b hb => ?_⟩
    obtain ⟨o, e, _⟩ := obj i _ st b hb
    rw [upd_ne (Nat.ne_of_lt (Nat.lt_of_lt_of_le (Heap.lt_size e) hT))]
    exact (hf b hb).1
  done := by
    intro X hP hw hK hc i pins s σ H E I hf st hg
    subst hP hw
    obtain ⟨fpw, wr, n, Pt, St, Mid, W, hwr, hst⟩ := fin X hK (I.ok.hd hc) i pins s σ H I st hg
    exact W.done s _ _ hst fun h' tk k => ⟨rfl, I.turnedL (ch := wr) k fun b hb => hf b (hwr b hb)⟩

/-! ### zip of two -/
def Itz2 (K : PySem.W.Frag) (A B : Src) (n : Nat) : It :=
  ⟨fun i H => i < n ∧ ∃ xs ys : List V, A.has K H xs ∧ B.has K H ys ∧ min xs.length ys.length = n,
    fun i H v H' => ∃ T x y, v = .ref T ∧ H T = none ∧ H' = upd H T (.tup [x, y]) ∧ (∀ xs, A.has K H xs → xs[i]? = some x) ∧ ∀ ys, B.has K H ys → ys[i]? = some y,
    fun i H => n ≤ i ∧ ∃ xs ys : List V, A.has K H xs ∧ B.has K H ys ∧ min xs.length ys.length = n⟩
theorem vals_get {xs : List V} {us : List Value} (r : Vals xs us) {i : Nat} {x : Value} (e : us[i]? = some x) : ∃ v, xs[i]? = some v ∧ RelV v x := by
  obtain ⟨hi, _⟩ := List.getElem?_eq_some_iff.mp e
  have hl := r.length
  obtain ⟨u, h1, h2⟩ := r.get (List.getElem?_eq_getElem (show i < xs.length by omega))
  rw [e] at h1
  cases h1
  exact ⟨_, List.getElem?_eq_getElem (show i < xs.length by omega), h2⟩
theorem turn_zip2 {P : Program} {w : World} {K : PySem.W.Frag} {elts : List Expr} {kk : Nat} {tpos : Pos} {A B : Src} {n : Nat} {z TI TO i1 i2 : Addr} (S : ZipSep2 z TI TO i1 i2 [i1, A.a] [i2, B.a]) (n1 : A.a ≠ i1) (n2 : B.a ≠ i2) :
    Turn P w K (.Tuple elts kk tpos) (Itz2 K A B n) [z, TI, TO, i1, i2] z (fun i h => i ≤ n ∧ IsZip h z TI TO .none ∧ IsTupOf2 h TI (.ref i1) (.ref i2) ∧ (∃ a1 a2, IsTupOf2 h TO a1 a2) ∧ A.itr h i1 i ∧ B.itr h i2 i) := by
  have mk : ∀ (X : Cx) (hh : X.A.handled = none) (a b : Array Value), _ := fun X hh a b => WalksT.zipD2 (prog := P) (w := w) (A := X.A) S (A.draws (A := X.A.in1) (show X.A.in1.handled = none from hh) i1 n1 a) (B.draws (A := X.A.in1) (show X.A.in1.handled = none from hh) i2 n2 b)
  have wr : ∀ b ∈ [z, TO, i1, i2], b ∈ [z, TI, TO, i1, i2] := by
    intro b hb
    simp only [List.mem_cons, List.not_mem_nil, or_false] at hb ⊢
    rcases hb with q | q | q | q <;> simp [q]
  refine turn_w (by simp) (fun i h st c hc => ?_) (fun i h h' st k => ?_) (fun A i s Q E st h => wpAny_pyIter_zip st.2.1 h) ?_ ?_
  · obtain ⟨_, hz, hTI, ⟨x, y, hTO⟩, h1, h2⟩ := st
    have e' : c = z ∨ c = TI ∨ c = TO ∨ c = i1 ∨ c = i2 := by simpa using hc
    rcases e' with q | q | q | q | q
    · rw [q]; exact ⟨_, hz, fun v q => nomatch q⟩
    · rw [q]; exact ⟨_, hTI, fun v q => nomatch q⟩
    · rw [q]; exact ⟨_, hTO, fun v q => nomatch q⟩
    · rw [q]; exact Src.itr_ob h1
    · rw [q]; exact Src.itr_ob h2
  · obtain ⟨hn, hz, hTI, ⟨x, y, hTO⟩, h1, h2⟩ := st
    exact ⟨hn, k z (by simp) _ hz, k TI (by simp) _ hTI, ⟨x, y, k TO (by simp) _ hTO⟩, Src.itr_at h1 fun o q => k i1 (by simp) o q, Src.itr_at h2 fun o q => k i2 (by simp) o q⟩
  · intro X hK hh i pins s σ H I ⟨hn, hz, hTI, hTO, h1, h2⟩ ⟨hi, xs, ys, hx, hy, hm⟩
    subst hK
    obtain ⟨us, rx, px, _⟩ := Src.ofInv I hx
    obtain ⟨vs, ry, py, _⟩ := Src.ofInv I hy
    have l1 := rx.length
    have l2 := ry.length
    refine ⟨_, _, _, _, _, _, mk X hh us.toArray vs.toArray, wr, by simp; omega, ⟨hz, hTI, hTO, ⟨h1, px⟩, ⟨h2, py⟩⟩, fun h st => ⟨by omega, st.1, st.2.1, st.2.2.1, st.2.2.2.1.1, st.2.2.2.2.1⟩, ?_⟩
    rintro vals ⟨x, y, ex, ey, rfl⟩
    obtain ⟨v, e1, r1⟩ := vals_get rx (by simpa using ex)
    obtain ⟨u, e2, r2⟩ := vals_get ry (by simpa using ey)
    refine ⟨[v, u], by show 2 ≤ sizeLine; decide, ⟨[x, y], rfl, .cons r1 (.cons r2 .nil)⟩, fun T hT => ⟨T, v, u, rfl, hT, rfl, fun l hl => ?_, fun l hl => ?_⟩⟩
    · rw [Src.inj I hl hx]; exact e1
    · rw [Src.inj I hl hy]; exact e2
  · intro X hK hh i pins s σ H I ⟨hn, hz, hTI, hTO, h1, h2⟩ ⟨hi, xs, ys, hx, hy, hm⟩
    subst hK
    obtain ⟨us, rx, px, _⟩ := Src.ofInv I hx
    obtain ⟨vs, ry, py, _⟩ := Src.ofInv I hy
    have l1 := rx.length
    have l2 := ry.length
    have e : min us.toArray.size vs.toArray.size = i := by simp; omega
    refine ⟨_, _, _, _, _, _, mk X hh us.toArray vs.toArray, wr, ?_⟩
    rw [e]
    exact ⟨hz, hTI, hTO, ⟨h1, px⟩, ⟨h2, py⟩⟩
def iZip2 (K : PySem.W.Frag) (ta : TA) : TI := fun σ H R => ta σ H fun vs H1 => ∃ (A B : Src) (xs ys : List V), vs = [.ref A.a, .ref B.a] ∧ A.has K H1 xs ∧ B.has K H1 ys ∧ R (Itz2 K A B (min xs.length ys.length)) H1
theorem pi_zip2 {X : Cx} {e e2 : Expr} {ta : TA} {p pos tpos : Pos} {elts : List Expr} {kk : Nat} (hg : Gl X "zip") (hm : X.mg "zip" = none) (ha : PA X [e, e2] ta)
    (hs : starEach [e, e2] X.env = (false, eval e X.env) :: starEach [e2] X.env := by rfl) (hpl : (backTo pos (starEach [e2] X.env)).any (·.1) = false := by rfl) :
    PI X (.Tuple elts kk tpos) (.Call (.Name "zip" p) [e, e2] [] pos) (iZip2 X.K ta) := by
  refine ⟨fun pins s σ H R I h => ?_⟩
  refine Call_ (ld_blt I hg hm PyProof.Rows.boot_zip (PyProof.Rows.callWith_type1 (thn (ha.run pos pins s σ H _ I h) fun us s1 ⟨vs, H1, I1, r1, q1⟩ => ?_) hs hpl))
  obtain ⟨A, B, xs, ys, ex, hx, hy, q⟩ := q1
  subst ex
  cases r1 with
  | cons r rr =>
    cases rr with
    | cons r' rr =>
      cases rr
      cases r
      cases r'
      obtain ⟨us, rx, px, lx⟩ := Src.ofInv I1 hx
      obtain ⟨vs, ry, py, ly⟩ := Src.ofInv I1 hy
      refine zip_begins2 (A.begins us.toArray) (B.begins vs.toArray) px py fun h' hz hTI hTO h1 h2 hsz hk => wpAny_pyIter_zip hz ?_
      have I2 : Inv X pins σ H1 { s1 with heap := h' } := I1.kept (t' := s1.toks) hk
      refine ⟨s1.heap.objs.size + 4, [s1.heap.objs.size + 4, s1.heap.objs.size + 2, s1.heap.objs.size + 3, s1.heap.objs.size, s1.heap.objs.size + 1], _, _, H1, rfl, I2,
        turn_zip2 (zip_sep2 (by simpa using lx) (by simpa using ly)) (Nat.ne_of_lt lx) (Nat.ne_of_lt (Nat.lt_succ_of_lt ly)), ⟨Nat.zero_le _, hz, hTI, ⟨_, _, hTO⟩, Src.itr0 h1, Src.itr0 h2⟩, fun c hcm => ?_, q⟩
      have e' : c = s1.heap.objs.size + 4 ∨ c = s1.heap.objs.size + 2 ∨ c = s1.heap.objs.size + 3 ∨ c = s1.heap.objs.size ∨ c = s1.heap.objs.size + 1 := by simpa using hcm
      have hle : s1.heap.objs.size ≤ c := by
        rcases e' with z | z | z | z | z
        · rw [z]; exact Nat.le_add_right _ _
        · rw [z]; exact Nat.le_add_right _ _
        · rw [z]; exact Nat.le_add_right _ _
        · rw [z]; exact Nat.le_refl _
        · rw [z]; exact Nat.le_add_right _ _
      exact I1.fpOk hle (I1.hok.fresh hle)

/-! ### zip of three -/
def Itz3 (K : PySem.W.Frag) (A B C : Src) (n : Nat) : It :=
  ⟨fun i H => i < n ∧ ∃ xs ys zs : List V, A.has K H xs ∧ B.has K H ys ∧ C.has K H zs ∧ min (min xs.length ys.length) zs.length = n,
    fun i H v H' => ∃ T x y u, v = .ref T ∧ H T = none ∧ H' = upd H T (.tup [x, y, u]) ∧ (∀ xs, A.has K H xs → xs[i]? = some x) ∧ (∀ ys, B.has K H ys → ys[i]? = some y) ∧ ∀ ys, C.has K H ys → ys[i]? = some u,
    fun i H => n ≤ i ∧ ∃ xs ys zs : List V, A.has K H xs ∧ B.has K H ys ∧ C.has K H zs ∧ min (min xs.length ys.length) zs.length = n⟩
theorem turn_zip3 {P : Program} {w : World} {K : PySem.W.Frag} {elts : List Expr} {kk : Nat} {tpos : Pos} {A B C : Src} {n : Nat} {z TI TO i1 i2 i3 : Addr} (S : ZipSep3 z TI TO i1 i2 i3 [i1, A.a] [i2, B.a] [i3, C.a]) (n1 : A.a ≠ i1) (n2 : B.a ≠ i2) (n3 : C.a ≠ i3) :
    Turn P w K (.Tuple elts kk tpos) (Itz3 K A B C n) [z, TI, TO, i1, i2, i3] z (fun i h => i ≤ n ∧ IsZip h z TI TO .none ∧ IsTupOf3 h TI (.ref i1) (.ref i2) (.ref i3) ∧ (∃ a1 a2 a3, IsTupOf3 h TO a1 a2 a3) ∧ A.itr h i1 i ∧ B.itr h i2 i ∧ C.itr h i3 i) := by
  have mk : ∀ (X : Cx) (hh : X.A.handled = none) (a b c : Array Value), _ := fun X hh a b c => WalksT.zipD3 (prog := P) (w := w) (A := X.A) S (A.draws (A := X.A.in1) (show X.A.in1.handled = none from hh) i1 n1 a) (B.draws (A := X.A.in1) (show X.A.in1.handled = none from hh) i2 n2 b) (C.draws (A := X.A.in1) (show X.A.in1.handled = none from hh) i3 n3 c)
  have wr : ∀ b ∈ [z, TO, i1, i2, i3], b ∈ [z, TI, TO, i1, i2, i3] := by
    intro b hb
    simp only [List.mem_cons, List.not_mem_nil, or_false] at hb ⊢
    rcases hb with q | q | q | q | q <;> simp [q]
  refine turn_w (by simp) (fun i h st c hc => ?_) (fun i h h' st k => ?_) (fun A i s Q E st h => wpAny_pyIter_zip st.2.1 h) ?_ ?_
  · obtain ⟨_, hz, hTI, ⟨x, y, u, hTO⟩, h1, h2, h3⟩ := st
    have e' : c = z ∨ c = TI ∨ c = TO ∨ c = i1 ∨ c = i2 ∨ c = i3 := by simpa using hc
    rcases e' with q | q | q | q | q | q
    · rw [q]; exact ⟨_, hz, fun v q => nomatch q⟩
    · rw [q]; exact ⟨_, hTI, fun v q => nomatch q⟩
    · rw [q]; exact ⟨_, hTO, fun v q => nomatch q⟩
    · rw [q]; exact Src.itr_ob h1
    · rw [q]; exact Src.itr_ob h2
    · rw [q]; exact Src.itr_ob h3
  · obtain ⟨hn, hz, hTI, ⟨x, y, u, hTO⟩, h1, h2, h3⟩ := st
    exact ⟨hn, k z (by simp) _ hz, k TI (by simp) _ hTI, ⟨x, y, u, k TO (by simp) _ hTO⟩, Src.itr_at h1 fun o q => k i1 (by simp) o q, Src.itr_at h2 fun o q => k i2 (by simp) o q, Src.itr_at h3 fun o q => k i3 (by simp) o q⟩
  · intro X hK hh i pins s σ H I ⟨hn, hz, hTI, hTO, h1, h2, h3⟩ ⟨hi, xs, ys, zs, hx, hy, hw, hm⟩
    subst hK
    obtain ⟨us, rx, px, _⟩ := Src.ofInv I hx
    obtain ⟨vs, ry, py, _⟩ := Src.ofInv I hy
    obtain ⟨ws, rz, pz, _⟩ := Src.ofInv I hw
    have l1 := rx.length
    have l2 := ry.length
    have l3 := rz.length
    refine ⟨_, _, _, _, _, _, mk X hh us.toArray vs.toArray ws.toArray, wr, by simp; omega, ⟨hz, hTI, hTO, ⟨h1, px⟩, ⟨h2, py⟩, ⟨h3, pz⟩⟩, fun h st => ⟨by omega, st.1, st.2.1, st.2.2.1, st.2.2.2.1.1, st.2.2.2.2.1.1, st.2.2.2.2.2.1⟩, ?_⟩
    rintro vals ⟨x, y, u, ex, ey, eu, rfl⟩
    obtain ⟨v, e1, r1⟩ := vals_get rx (by simpa using ex)
    obtain ⟨v2, e2, r2⟩ := vals_get ry (by simpa using ey)
    obtain ⟨v3, e3, r3⟩ := vals_get rz (by simpa using eu)
    refine ⟨[v, v2, v3], by show 3 ≤ sizeLine; decide, ⟨[x, y, u], rfl, .cons r1 (.cons r2 (.cons r3 .nil))⟩, fun T hT => ⟨T, v, v2, v3, rfl, hT, rfl, fun l hl => ?_, fun l hl => ?_, fun l hl => ?_⟩⟩
    · rw [Src.inj I hl hx]; exact e1
    · rw [Src.inj I hl hy]; exact e2
    · rw [Src.inj I hl hw]; exact e3
  · intro X hK hh i pins s σ H I ⟨hn, hz, hTI, hTO, h1, h2, h3⟩ ⟨hi, xs, ys, zs, hx, hy, hw, hm⟩
    subst hK
    obtain ⟨us, rx, px, _⟩ := Src.ofInv I hx
    obtain ⟨vs, ry, py, _⟩ := Src.ofInv I hy
    obtain ⟨ws, rz, pz, _⟩ := Src.ofInv I hw
    have l1 := rx.length
    have l2 := ry.length
    have l3 := rz.length
    have e : min (min us.toArray.size vs.toArray.size) ws.toArray.size = i := by simp; omega
    refine ⟨_, _, _, _, _, _, mk X hh us.toArray vs.toArray ws.toArray, wr, ?_⟩
    rw [e]
    exact ⟨hz, hTI, hTO, ⟨h1, px⟩, ⟨h2, py⟩, ⟨h3, pz⟩⟩
def iZip3 (K : PySem.W.Frag) (ta : TA) : TI := fun σ H R => ta σ H fun vs H1 => ∃ (A B C : Src) (xs ys zs : List V), vs = [.ref A.a, .ref B.a, .ref C.a] ∧ A.has K H1 xs ∧ B.has K H1 ys ∧ C.has K H1 zs ∧ R (Itz3 K A B C (min (min xs.length ys.length) zs.length)) H1
theorem pi_zip3 {X : Cx} {e e2 e3 : Expr} {ta : TA} {p pos tpos : Pos} {elts : List Expr} {kk : Nat} (hg : Gl X "zip") (hm : X.mg "zip" = none) (ha : PA X [e, e2, e3] ta)
    (hs : starEach [e, e2, e3] X.env = (false, eval e X.env) :: starEach [e2, e3] X.env := by rfl) (hpl : (backTo pos (starEach [e2, e3] X.env)).any (·.1) = false := by rfl) :
    PI X (.Tuple elts kk tpos) (.Call (.Name "zip" p) [e, e2, e3] [] pos) (iZip3 X.K ta) := by
  refine ⟨fun pins s σ H R I h => ?_⟩
  refine Call_ (ld_blt I hg hm PyProof.Rows.boot_zip (PyProof.Rows.callWith_type1 (thn (ha.run pos pins s σ H _ I h) fun us s1 ⟨vs, H1, I1, r1, q1⟩ => ?_) hs hpl))
  obtain ⟨A, B, C, xs, ys, zs, ex, hx, hy, hw, q⟩ := q1
  subst ex
  cases r1 with
  | cons r rr =>
    cases rr with
    | cons r' rr =>
     cases rr with
     | cons r'' rr =>
      cases rr
      cases r
      cases r'
      cases r''
      obtain ⟨us, rx, px, lx⟩ := Src.ofInv I1 hx
      obtain ⟨vs, ry, py, ly⟩ := Src.ofInv I1 hy
      obtain ⟨ws, rz, pz, lz⟩ := Src.ofInv I1 hw
      refine zip_begins3 (A.begins us.toArray) (B.begins vs.toArray) (C.begins ws.toArray) px py pz fun h' hz hTI hTO h1 h2 h3 hsz hk => wpAny_pyIter_zip hz ?_
      have I2 : Inv X pins σ H1 { s1 with heap := h' } := I1.kept (t' := s1.toks) hk
      refine ⟨s1.heap.objs.size + 5, [s1.heap.objs.size + 5, s1.heap.objs.size + 3, s1.heap.objs.size + 4, s1.heap.objs.size, s1.heap.objs.size + 1, s1.heap.objs.size + 2], _, _, H1, rfl, I2,
        turn_zip3 (zip_sep3 (by simpa using lx) (by simpa using ly) (by simpa using lz)) (Nat.ne_of_lt lx) (Nat.ne_of_lt (Nat.lt_succ_of_lt ly)) (Nat.ne_of_lt (Nat.lt_succ_of_lt (Nat.lt_succ_of_lt lz))), ⟨Nat.zero_le _, hz, hTI, ⟨_, _, _, hTO⟩, Src.itr0 h1, Src.itr0 h2, Src.itr0 h3⟩, fun c hcm => ?_, q⟩
      have e' : c = s1.heap.objs.size + 5 ∨ c = s1.heap.objs.size + 3 ∨ c = s1.heap.objs.size + 4 ∨ c = s1.heap.objs.size ∨ c = s1.heap.objs.size + 1 ∨ c = s1.heap.objs.size + 2 := by simpa using hcm
      have hle : s1.heap.objs.size ≤ c := by
        rcases e' with z | z | z | z | z | z
        · rw [z]; exact Nat.le_add_right _ _
        · rw [z]; exact Nat.le_add_right _ _
        · rw [z]; exact Nat.le_add_right _ _
        · rw [z]; exact Nat.le_refl _
        · rw [z]; exact Nat.le_add_right _ _
        · rw [z]; exact Nat.le_add_right _ _
      exact I1.fpOk hle (I1.hok.fresh hle)

/-! ### enumerate -/
def Itee (K : PySem.W.Frag) (A : Src) (n : Nat) : It :=
  ⟨fun i H => i < n ∧ ∃ xs : List V, A.has K H xs ∧ xs.length = n,
    fun i H v H' => ∃ T x, v = .ref T ∧ H T = none ∧ H' = upd H T (.tup [.int (i : Nat), x]) ∧ ∀ xs, A.has K H xs → xs[i]? = some x,
    fun i H => n ≤ i ∧ ∃ xs : List V, A.has K H xs ∧ xs.length = n⟩
theorem turn_enumA {P : Program} {w : World} {K : PySem.W.Frag} {elts : List Expr} {kk : Nat} {tpos : Pos} {A : Src} {n : Nat} {e it : Addr} (n1 : A.a ≠ it) (n2 : e ≠ it) (n3 : e ≠ A.a) :
    Turn P w K (.Tuple elts kk tpos) (Itee K A n) [e, it] e (fun i h => i ≤ n ∧ (∃ old, IsEnum h e it ((i : Nat) : Int) old) ∧ A.itr h it i) := by
  have mk : ∀ (X : Cx) (hh : X.A.handled = none) (a : Array Value), _ := fun X hh a => WalksT.enumFrom (prog := P) (w := w) (A := X.A) 0 (A.draws (A := X.A.in1) (show X.A.in1.handled = none from hh) it n1 a) e n2 (by simp [n2, n3]) (by simp)
  have wr : ∀ b ∈ [e, it], b ∈ [e, it] := fun b h => h
  refine turn_w (by simp) (fun i h st c hc => ?_) (fun i h h' st k => ?_) (fun A i s Q E st h => ?_) ?_ ?_
  · obtain ⟨_, ⟨o, he⟩, h1⟩ := st
    have e' : c = e ∨ c = it := by simpa using hc
    rcases e' with q | q
    · rw [q]; exact ⟨_, he, fun v q => nomatch q⟩
    · rw [q]; exact Src.itr_ob h1
  · obtain ⟨hn, ⟨o, he⟩, h1⟩ := st
    exact ⟨hn, ⟨o, k e (by simp) _ he⟩, Src.itr_at h1 fun o q => k it (by simp) o q⟩
  · obtain ⟨hn, ⟨o, he⟩, h1⟩ := st
    exact wpAny_pyIter_enum he h
  · intro X hK hh i pins s σ H I ⟨hn, ⟨o, he⟩, h1⟩ ⟨hi, xs, hx, hm⟩
    subst hK
    obtain ⟨us, rx, px, _⟩ := Src.ofInv I hx
    have l1 := rx.length
    refine ⟨_, _, _, _, _, _, mk X hh us.toArray, wr, by simp; omega, ⟨⟨o, by rw [Int.zero_add]; exact he⟩, h1, px⟩, fun h st => ⟨by omega, by obtain ⟨o, q⟩ := st.1; rw [Int.zero_add] at q; exact ⟨o, q⟩, st.2.1⟩, ?_⟩
    rintro vals ⟨t, x, ex, rfl⟩
    obtain ⟨v, e1, r1⟩ := vals_get rx (by simpa using ex)
    refine ⟨[.int (i : Nat), v], by show 2 ≤ sizeLine; decide, ⟨[.int (0 + (i : Int)) t, x], rfl, .cons ⟨t, by rw [Int.zero_add]⟩ (.cons r1 .nil)⟩, fun T hT => ⟨T, v, rfl, hT, rfl, fun l hl => ?_⟩⟩
    rw [Src.inj I hl hx]; exact e1
  · intro X hK hh i pins s σ H I ⟨hn, ⟨o, he⟩, h1⟩ ⟨hi, xs, hx, hm⟩
    subst hK
    obtain ⟨us, rx, px, _⟩ := Src.ofInv I hx
    have l1 := rx.length
    have e : us.toArray.size = i := by simp; omega
    refine ⟨_, _, _, _, _, _, mk X hh us.toArray, wr, ?_⟩
    rw [e]
    exact ⟨⟨o, by rw [Int.zero_add]; exact he⟩, h1, px⟩
def iEnumA (K : PySem.W.Frag) (ta : TA) : TI := fun σ H R => ta σ H fun vs H1 => ∃ (A : Src) (xs : List V), vs = [.ref A.a] ∧ A.has K H1 xs ∧ R (Itee K A xs.length) H1
theorem pi_enumA {X : Cx} {e : Expr} {ta : TA} {p pos tpos : Pos} {elts : List Expr} {kk : Nat} (hg : Gl X "enumerate") (hm : X.mg "enumerate" = none) (ha : PA X [e] ta) (hs : starEach [e] X.env = [(false, eval e X.env)] := by rfl) :
    PI X (.Tuple elts kk tpos) (.Call (.Name "enumerate" p) [e] [] pos) (iEnumA X.K ta) := by
  refine ⟨fun pins s σ H R I h => ?_⟩
  refine Call_ (ld_blt I hg hm boot_enumerate (PyProof.Rows.callWith_type1 (thn (ha.run pos pins s σ H _ I h) fun us s1 ⟨vs, H1, I1, r1, q1⟩ => ?_) hs rfl))
  obtain ⟨A, xs, ex, hx, q⟩ := q1
  subst ex
  cases r1 with
  | cons r rr =>
    cases rr
    cases r
    obtain ⟨us, rx, px, lx⟩ := Src.ofInv I1 hx
    refine pl_enum_begins (A.begins us.toArray) px fun h' he hit hsz hk => wpAny_pyIter_enum he ?_
    have I2 : Inv X pins σ H1 { s1 with heap := h' } := I1.kept (t' := s1.toks) hk
    refine ⟨s1.heap.objs.size + 1, [s1.heap.objs.size + 1, s1.heap.objs.size], _, _, H1, rfl, I2, turn_enumA (e := s1.heap.objs.size + 1) (it := s1.heap.objs.size) (Nat.ne_of_lt lx) (Nat.succ_ne_self _) (Nat.ne_of_gt (Nat.lt_succ_of_lt lx)), ⟨Nat.zero_le _, ⟨.none, he⟩, Src.itr0 hit⟩, fun b hb => ?_, q⟩
    have e' : b = s1.heap.objs.size + 1 ∨ b = s1.heap.objs.size := by simpa using hb
    have hle : s1.heap.objs.size ≤ b := by
      rcases e' with z | z
      · rw [z]; exact Nat.le_add_right _ _
      · rw [z]; exact Nat.le_refl _
    exact I1.fpOk hle (I1.hok.fresh hle)

/-! ### the rules over data -/
def seqD : D → Res (List D)
  | .lst l => .ok l
  | .tup l => .ok l
  | .scr ns => .ok (ns.map D.int)
  | _ => .bad
section
variable {X : Cx} {g : G} {E : XK} {e e2 e3 tg : Expr} {es : List Expr} {pos : Pos} {f h : BEnv → Res D} {fs : BEnv → Res (List D)}
theorem seq_src {Hs H H1 : Hp} {v : V} {d : D} {P : List D → Prop} (s : Same Hs H) (r : R g Hs v d) (w : Wk g E H1 (seqD d) P) : ∃ (A : Src) (xs : List V) (l : List D), v = .ref A.a ∧ A.has g.K Hs xs ∧ A.has g.K H xs ∧ Rs g Hs xs l ∧ P l := by
  cases r with
  | lst h q => exact ⟨.l _, _, _, rfl, SqL.of h, SqL.of (s _ _ h), q, w.is_ok⟩
  | tup h q => exact ⟨.t _, _, _, rfl, h, SameT s h, q, w.is_ok⟩
  | scr h => exact ⟨.l _, _, _, rfl, h, s.seq h, Rs.ints _, w.is_ok⟩
  | _ => exact absurd rfl w.bad
theorem Src.mono {A : Src} {K : PySem.W.Frag} {H H' : Hp} {xs : List V} (s : Same H H') (h : A.has K H xs) : A.has K H' xs := by
  cases A with
  | l a =>
    have h : SqL K H a xs := h
    exact s.seq h
  | t a => exact SameT s h
/-- a list or a tuple -/
def iSeq (f : BEnv → Res D) : BEnv → Res (List D) := fun env => f env >>= seqD
theorem si_seq (hK : X.K = g.K) (he : PE X e (ER g E f)) : PI X tg e (IR g E (iSeq f)) := by
  refine ⟨fun pins s σ H RR I ⟨Hs, env, sm, rr, w⟩ => ?_⟩
  refine thn (he.run pins s σ H (fun v H1 => ∃ (A : Src) (xs : List V), v = .ref A.a ∧ A.has g.K H1 xs ∧ ((∀ a, A = .l a → RR (Itl g.K a) H1) ∧ ∀ a, A = .t a → RR (Itt g.K a) H1)) I ⟨Hs, env, sm, rr, w.bind.mono (Same.refl _) fun d wd v H' Hs' x r => ?_⟩) fun v s1 ⟨x, H1, I1, r1, q1⟩ => ?_
  · have W : ∀ (A : Src) (xs : List V) (l : List D) (a : Addr), A.has g.K Hs' xs → Rs g Hs' xs l → (A = .l a → WalksL g (Itl g.K a) Hs' l) ∧ (A = .t a → WalksL g (Itt g.K a) Hs' l) := fun A xs l a h q =>
      ⟨fun e => by subst e; exact walks_list' h q, fun e => by subst e; exact walks_tup h q⟩
    obtain ⟨A, xs, l, e, h1, h2, q, k⟩ := seq_src (g := g) x.sub r wd
    exact ⟨A, xs, e, h2, fun a e => k _ H' Hs' x ((W A xs l a h1 q).1 e), fun a e => k _ H' Hs' x ((W A xs l a h1 q).2 e)⟩
  · obtain ⟨A, xs, ex, h, q1, q2⟩ := q1
    subst ex
    cases r1
    have new : ∀ b ∈ [s1.heap.objs.size], FpOk X pins H1 b := fun b hb => by
      have e : b = s1.heap.objs.size := by simpa using hb
      subst e
      exact I1.fpOk (Nat.le_refl _) (I1.hok.fresh (Nat.le_refl _))
    cases A with
    | l a =>
      have h : SqL g.K H1 a xs := h
      obtain ⟨its, rv, p, hz⟩ := I1.list (hK ▸ h)
      exact wpAny_pyIter_list p.isList ⟨s1.heap.objs.size, [s1.heap.objs.size], _, _, H1, rfl, I1.kept (t' := s1.toks) fun b o e => Heap.get?_push_of_some _ e, turn_list a _, ⟨_, Heap.get?_push_size _ rfl, rfl, rfl⟩, new, hK ▸ q1 a rfl⟩
    | t a =>
      have h : SqT g.K H1 a xs := h
      obtain ⟨its, rv, p, hz⟩ := I1.tuple (hK ▸ h)
      exact wpAny_pyIter_tuple (show s1.heap.IsTuple a its.toArray from p) ⟨s1.heap.objs.size, [s1.heap.objs.size], _, _, H1, rfl, I1.kept (t' := s1.toks) fun b o e => Heap.get?_push_of_some _ e, turn_tuple a _, ⟨_, Heap.get?_push_size _ rfl, rfl, rfl⟩, new, hK ▸ q2 a rfl⟩
/-- pairs -/
def pair2 (l m : List D) : List D := List.zipWith (fun p q => D.tup [p, q]) l m
def pair3 : List D → List D → List D → List D
  | a :: l, b :: m, c :: n => .tup [a, b, c] :: pair3 l m n
  | _, _, _ => []
def enumD (l : List D) : List D := l.mapIdx fun i d => .tup [.int (i : Nat), d]
theorem pair3_len : ∀ (l m n : List D), (pair3 l m n).length = min (min l.length m.length) n.length
  | [], _, _ => by simp [pair3]
  | _ :: _, [], _ => by simp [pair3]
  | _ :: _, _ :: _, [] => by simp [pair3]
  | a :: l, b :: m, c :: n => by
    rw [pair3, List.length_cons, pair3_len l m n]
    simp only [List.length_cons]
    omega
theorem pair3_get : ∀ (l m n : List D) (i : Nat) (a b c : D), l[i]? = some a → m[i]? = some b → n[i]? = some c → (pair3 l m n)[i]? = some (.tup [a, b, c])
  | [], _, _, _, _, _, _, e, _, _ => by simp at e
  | _ :: _, [], _, _, _, _, _, _, e, _ => by simp at e
  | _ :: _, _ :: _, [], _, _, _, _, _, _, e => by simp at e
  | a :: l, b :: m, c :: n, 0, x, y, z, e1, e2, e3 => by simp at e1 e2 e3; subst e1 e2 e3; rfl
  | a :: l, b :: m, c :: n, i + 1, x, y, z, e1, e2, e3 => by
    have := pair3_get l m n i x y z (by simpa using e1) (by simpa using e2) (by simpa using e3)
    simpa [pair3] using this
theorem at_len {α : Type} {l : List α} {i : Nat} (h : i < l.length) : ∃ d, l[i]? = some d := ⟨_, List.getElem?_eq_getElem h⟩
/-- a new tuple of the turn's -/
theorem new_tup {Hs H : Hp} {T : Addr} {vs : List V} {ds : List D} (s : Same Hs H) (hT : H T = none) (r : Rs g Hs vs ds) : Ext Hs H (upd Hs T (.tup vs)) (upd H T (.tup vs)) ∧ R g (upd Hs T (.tup vs)) (.ref T) (.tup ds) :=
  ⟨Ext.new1 s hT, .tup (.inl (.inl upd_same)) (r.mono (same_upd (s.free hT)))⟩
theorem walks_zip2 {Hs : Hp} {A B : Src} {xs ys : List V} {l m : List D} (h1 : A.has g.K Hs xs) (h2 : B.has g.K Hs ys) (r1 : Rs g Hs xs l) (r2 : Rs g Hs ys m) : WalksL g (Itz2 g.K A B (min xs.length ys.length)) Hs (pair2 l m) := fun Hs2 H2 s1 s2 i => by
  have a1 := Src.mono s2 (Src.mono s1 h1)
  have a2 := Src.mono s2 (Src.mono s1 h2)
  have e1 := r1.length
  have e2 := r2.length
  have hl : (pair2 l m).length = min l.length m.length := by unfold pair2; simp
  rw [hl, ← e1, ← e2]
  refine ⟨fun hi => ⟨⟨hi, xs, ys, a1, a2, rfl⟩, ?_⟩, fun hi => ⟨hi, xs, ys, a1, a2, rfl⟩⟩
  rintro v H3 ⟨T, x, y, rfl, hT, rfl, p1, p2⟩
  obtain ⟨d1, q1, t1⟩ := r1.get' (p1 _ a1)
  obtain ⟨d2, q2, t2⟩ := r2.get' (p2 _ a2)
  obtain ⟨n1, n2⟩ := new_tup s2 hT (.cons (t1.mono s1) (.cons (t2.mono s1) .nil) : Rs g Hs2 [x, y] [d1, d2])
  refine ⟨_, _, ?_, n1, n2⟩
  unfold pair2
  rw [List.getElem?_zipWith, q1, q2]
theorem walks_zip3 {Hs : Hp} {A B C : Src} {xs ys zs : List V} {l m n : List D} (h1 : A.has g.K Hs xs) (h2 : B.has g.K Hs ys) (h3 : C.has g.K Hs zs) (r1 : Rs g Hs xs l) (r2 : Rs g Hs ys m) (r3 : Rs g Hs zs n) : WalksL g (Itz3 g.K A B C (min (min xs.length ys.length) zs.length)) Hs (pair3 l m n) := fun Hs2 H2 s1 s2 i => by
  have a1 := Src.mono s2 (Src.mono s1 h1)
  have a2 := Src.mono s2 (Src.mono s1 h2)
  have a3 := Src.mono s2 (Src.mono s1 h3)
  have e1 := r1.length
  have e2 := r2.length
  have e3 := r3.length
  rw [pair3_len, ← e1, ← e2, ← e3]
  refine ⟨fun hi => ⟨⟨hi, xs, ys, zs, a1, a2, a3, rfl⟩, ?_⟩, fun hi => ⟨hi, xs, ys, zs, a1, a2, a3, rfl⟩⟩
  rintro v H3 ⟨T, x, y, z, rfl, hT, rfl, p1, p2, p3⟩
  obtain ⟨d1, q1, t1⟩ := r1.get' (p1 _ a1)
  obtain ⟨d2, q2, t2⟩ := r2.get' (p2 _ a2)
  obtain ⟨d3, q3, t3⟩ := r3.get' (p3 _ a3)
  obtain ⟨n1, n2⟩ := new_tup s2 hT (.cons (t1.mono s1) (.cons (t2.mono s1) (.cons (t3.mono s1) .nil)) : Rs g Hs2 [x, y, z] [d1, d2, d3])
  exact ⟨_, _, pair3_get l m n i d1 d2 d3 q1 q2 q3, n1, n2⟩
theorem walks_enum {Hs : Hp} {A : Src} {xs : List V} {l : List D} (h1 : A.has g.K Hs xs) (r1 : Rs g Hs xs l) : WalksL g (Itee g.K A xs.length) Hs (enumD l) := fun Hs2 H2 s1 s2 i => by
  have a1 := Src.mono s2 (Src.mono s1 h1)
  have e1 := r1.length
  have hl : (enumD l).length = l.length := by unfold enumD; simp
  rw [hl, ← e1]
  refine ⟨fun hi => ⟨⟨hi, xs, a1, rfl⟩, ?_⟩, fun hi => ⟨hi, xs, a1, rfl⟩⟩
  rintro v H3 ⟨T, x, rfl, hT, rfl, p1⟩
  obtain ⟨d1, q1, t1⟩ := r1.get' (p1 _ a1)
  obtain ⟨n1, n2⟩ := new_tup s2 hT (.cons (.int (i : Nat)) (.cons (t1.mono s1) .nil) : Rs g Hs2 [.int (i : Nat), x] [.int (i : Nat), d1])
  refine ⟨_, _, ?_, n1, n2⟩
  unfold enumD
  rw [List.getElem?_mapIdx, q1]
  rfl
def zip2D (fs : BEnv → Res (List D)) : BEnv → Res (List D) := fun env => fs env >>= fun ds => match ds with
  | [a, b] => seqD a >>= fun l => seqD b >>= fun m => .ok (pair2 l m)
  | _ => .bad
def zip3D (fs : BEnv → Res (List D)) : BEnv → Res (List D) := fun env => fs env >>= fun ds => match ds with
  | [a, b, c] => seqD a >>= fun l => seqD b >>= fun m => seqD c >>= fun n => .ok (pair3 l m n)
  | _ => .bad
def enum1D (fs : BEnv → Res (List D)) : BEnv → Res (List D) := fun env => fs env >>= fun ds => match ds with
  | [a] => seqD a >>= fun l => .ok (enumD l)
  | _ => .bad
theorem si_zip2 {p tpos : Pos} {elts : List Expr} {kk : Nat} (hK : X.K = g.K) (hg : Gl X "zip") (hm : X.mg "zip" = none) (ha : PA X [e, e2] (AR g E fs))
    (hs : starEach [e, e2] X.env = (false, eval e X.env) :: starEach [e2] X.env := by rfl) (hpl : (backTo pos (starEach [e2] X.env)).any (·.1) = false := by rfl) :
    PI X (.Tuple elts kk tpos) (.Call (.Name "zip" p) [e, e2] [] pos) (IR g E (zip2D fs)) :=
  PI_mono (pi_zip2 hg hm ha hs hpl) fun σ H RR ⟨Hs, env, s, rr, w⟩ => by
    refine ⟨Hs, env, s, rr, w.bind.mono (Same.refl _) fun ds wd vs H' Hs' x r => ?_⟩
    split at wd
    · obtain ⟨⟩ | ⟨r1, r⟩ := r
      obtain ⟨⟩ | ⟨r2, r⟩ := r
      cases r
      obtain ⟨A, xs, l, rfl, h1, h2, q1, wd⟩ := seq_src (g := g) x.sub r1 wd.bind
      obtain ⟨B, ys, m, rfl, h3, h4, q2, wd⟩ := seq_src (g := g) x.sub r2 wd.bind
      exact ⟨A, B, xs, ys, rfl, hK ▸ h2, hK ▸ h4, hK ▸ wd.is_ok _ H' Hs' x (walks_zip2 h1 h3 q1 q2)⟩
    · exact absurd rfl wd.bad
theorem si_zip3 {p tpos : Pos} {elts : List Expr} {kk : Nat} (hK : X.K = g.K) (hg : Gl X "zip") (hm : X.mg "zip" = none) (ha : PA X [e, e2, e3] (AR g E fs))
    (hs : starEach [e, e2, e3] X.env = (false, eval e X.env) :: starEach [e2, e3] X.env := by rfl) (hpl : (backTo pos (starEach [e2, e3] X.env)).any (·.1) = false := by rfl) :
    PI X (.Tuple elts kk tpos) (.Call (.Name "zip" p) [e, e2, e3] [] pos) (IR g E (zip3D fs)) :=
  PI_mono (pi_zip3 hg hm ha hs hpl) fun σ H RR ⟨Hs, env, s, rr, w⟩ => by
    refine ⟨Hs, env, s, rr, w.bind.mono (Same.refl _) fun ds wd vs H' Hs' x r => ?_⟩
    split at wd
    · obtain ⟨⟩ | ⟨r1, r⟩ := r
      obtain ⟨⟩ | ⟨r2, r⟩ := r
      obtain ⟨⟩ | ⟨r3, r⟩ := r
      cases r
      obtain ⟨A, xs, l, rfl, h1, h2, q1, wd⟩ := seq_src (g := g) x.sub r1 wd.bind
      obtain ⟨B, ys, m, rfl, h3, h4, q2, wd⟩ := seq_src (g := g) x.sub r2 wd.bind
      obtain ⟨C, zs, n, rfl, h5, h6, q3, wd⟩ := seq_src (g := g) x.sub r3 wd.bind
      exact ⟨A, B, C, xs, ys, zs, rfl, hK ▸ h2, hK ▸ h4, hK ▸ h6, hK ▸ wd.is_ok _ H' Hs' x (walks_zip3 h1 h3 h5 q1 q2 q3)⟩
    · exact absurd rfl wd.bad
theorem si_enum {p tpos : Pos} {elts : List Expr} {kk : Nat} (hK : X.K = g.K) (hg : Gl X "enumerate") (hm : X.mg "enumerate" = none) (ha : PA X [e] (AR g E fs)) (hs : starEach [e] X.env = [(false, eval e X.env)] := by rfl) :
    PI X (.Tuple elts kk tpos) (.Call (.Name "enumerate" p) [e] [] pos) (IR g E (enum1D fs)) :=
  PI_mono (pi_enumA hg hm ha hs) fun σ H RR ⟨Hs, env, s, rr, w⟩ => by
    refine ⟨Hs, env, s, rr, w.bind.mono (Same.refl _) fun ds wd vs H' Hs' x r => ?_⟩
    split at wd
    · obtain ⟨⟩ | ⟨r1, r⟩ := r
      cases r
      obtain ⟨A, xs, l, rfl, h1, h2, q1, wd⟩ := seq_src (g := g) x.sub r1 wd.bind
      exact ⟨A, xs, rfl, hK ▸ h2, hK ▸ wd.is_ok _ H' Hs' x (walks_enum h1 q1)⟩
    · exact absurd rfl wd.bad
/-! reversed -/
theorem rev_at {α : Type} {l : List α} {n i : Nat} (hn : l.length = n) (hi : i < n) : l.reverse[i]? = l[n - 1 - i]? := by
  subst hn
  rw [List.getElem?_reverse hi]
theorem walks_revL {Hs : Hp} {a : Addr} {vs : List V} {l : List D} (h : SqL g.K Hs a vs) (r : Rs g Hs vs l) : WalksL g (Itv g.K a vs.length) Hs l.reverse := fun Hs2 H2 s1 s2 i => by
  have hq : SqL g.K H2 a vs := s2.seq (s1.seq h)
  have el := r.length
  rw [List.length_reverse]
  refine ⟨fun hi => ?_, fun hi => by show vs.length ≤ i; omega⟩
  obtain ⟨d, hd⟩ := at_len (l := l) (i := vs.length - 1 - i) (by omega)
  obtain ⟨v, h1, h2⟩ := r.get hd
  refine ⟨⟨by omega, vs, v, hq, h1⟩, fun x H3 ⟨e1, e2⟩ => ?_⟩
  subst e1
  have := e2 vs hq
  rw [h1] at this
  cases this
  exact ⟨d, Hs2, by rw [rev_at el.symm (by omega)]; exact hd, Ext.refl s2, h2.mono s1⟩
theorem walks_revT {Hs : Hp} {a : Addr} {vs : List V} {l : List D} (h : SqT g.K Hs a vs) (r : Rs g Hs vs l) : WalksL g (RT.ItvT g.K a vs.length) Hs l.reverse := fun Hs2 H2 s1 s2 i => by
  have hq : SqT g.K H2 a vs := SameT s2 (SameT s1 h)
  have el := r.length
  rw [List.length_reverse]
  refine ⟨fun hi => ?_, fun hi => by show vs.length ≤ i; omega⟩
  obtain ⟨d, hd⟩ := at_len (l := l) (i := vs.length - 1 - i) (by omega)
  obtain ⟨v, h1, h2⟩ := r.get hd
  refine ⟨⟨by omega, vs, v, hq, h1⟩, fun x H3 ⟨e1, e2⟩ => ?_⟩
  subst e1
  have := e2 vs hq
  rw [h1] at this
  cases this
  exact ⟨d, Hs2, by rw [rev_at el.symm (by omega)]; exact hd, Ext.refl s2, h2.mono s1⟩
def iRevD (f : BEnv → Res D) : BEnv → Res (List D) := fun env => f env >>= seqD >>= fun l => .ok l.reverse
theorem si_rev {p : Pos} (hK : X.K = g.K) (hg : Gl X "reversed") (hm : X.mg "reversed" = none) (he : PE X e (ER g E f)) (hs : starEach [e] X.env = (false, eval e X.env) :: starEach [] X.env := by rfl) : PI X tg (.Call (.Name "reversed" p) [e] [] pos) (IR g E (iRevD f)) :=
  PI_mono (RT.pi_revA hg hm he hs) fun σ H RR ⟨Hs, env, s, rr, w⟩ => by
    refine ⟨Hs, env, s, rr, w.bind.bind.mono (Same.refl _) fun d wd v H' Hs' x r => ?_⟩
    obtain ⟨A, xs, l, rfl, h1, h2, q1, wd⟩ := seq_src (g := g) x.sub r wd
    cases A with
    | l a => exact ⟨a, xs, rfl, .inl ⟨hK ▸ h2, hK ▸ wd.is_ok _ H' Hs' x (walks_revL h1 q1)⟩⟩
    | t a => exact ⟨a, xs, rfl, .inr ⟨hK ▸ h2, hK ▸ wd.is_ok _ H' Hs' x (walks_revT h1 q1)⟩⟩
end
end PL

set_option Elab.async false
set_option linter.all false
set_option maxRecDepth 100000
set_option maxHeartbeats 1000000
namespace PL
open PySem PySem.Spec PyProof.Rows L2

/-! ### in a try's body: an exception comes at the slots that stand -/
def mustE (f : BEnv → Res D) : BEnv → Res D := fun env => must (f env) .ok
def ERW (g : G) (W : WX) (f : BEnv → Res D) : TE := fun σ H Q => ER g (WE W σ) f σ H Q
def eFnM (den : List D → Res Cell) (fs : BEnv → Res (List D)) : BEnv → Res D := fun env => must (fs env) fun ds => den ds >>= fun c => .ok c.toD
/-- H1: when the try began -/
def BR (g : G) (W : WX) (B Hs0 : Hp) (s : Env → Res Fl) : TS := fun D σ H => ∃ Hs env H1, StR g B Hs0 Hs H σ env ∧ Same H1 H ∧ Wk g (WE W σ) H1 (s env) (SLand g B Hs0 Hs D)
section
variable {X : Cx} {g : G} {W : WX} {B Hs0 : Hp} {e : Expr} {es : List Expr} {pos p : Pos} {f : BEnv → Res D} {fs : BEnv → Res (List D)} {x : Str} {n k : Nat} {den : List D → Res Cell}
theorem bw_pure (q : PE X e (ER g EN f)) : PE X e (ERW g W (mustE f)) := PE_mono q fun σ H Q ⟨Hs, env, s, r, w⟩ => by
  obtain ⟨a, ha, w⟩ := must_wk w
  exact ⟨Hs, env, s, r, .of_ne ha w.is_ok⟩
theorem bw_call (F : Fn X.prog X.w X.base g x n k den) (hK : X.K = g.K) (hM : X.mg = g.mg) (hr : Room k X.A) (tk : Takes X W) (hg : Gl X x) (ha : PA X (e :: es) (AR g EN fs)) (hdb : (x == ("__debug__" : Str)) = false := by decide)
    (he : starEach (e :: es) X.env = (false, eval e X.env) :: starEach es X.env := by rfl) (hpl : (backTo pos (starEach es X.env)).any (·.1) = false := by rfl) : PE X (.Call (.Name x p) (e :: es) [] pos) (ERW g W (eFnM den fs)) := by
  obtain ⟨f, fd, ps, hn, h1, h2, h3, h4⟩ := F.ex
  rw [← hM] at h1
  rw [← hK] at h2 h3 h4
  rw [← hM] at h4
  refine PE_mono (pe_callS (E := WE W) h4 hr hg h1 h2 h3 (passAt tk) ha hdb he hpl) fun σ H Q w => ?_
  obtain ⟨Hs, env, s, rr, w⟩ := w
  obtain ⟨ds, hds, w⟩ := must_wk w
  refine ⟨Hs, env, s, rr, .of_ne hds fun vs H1 Hs1 x1 r1 => ?_⟩
  refine ⟨Hs1, ds, x1.sub, r1, ?_, w.bind.mono x1.same fun c wc v H' rt => ?_⟩
  · refine F.ar ds fun z => w.bad ?_
    rw [z]; rfl
  · obtain ⟨Hs', x', r'⟩ := rt.toD
    exact wc.is_ok v H' Hs' (x1.trans x') r'
variable {s t : Env → Res Fl} {st : Stmt} {pt : BEnv → Res Bool}
theorem bw_expr (he : PE X e (ERW g W f)) (hs : swapsWith e none pos.line X.env = pure false := by rfl) : PS X (.Expr e pos) (BR g W B Hs0 (sExpr f)) :=
  PS_mono (ps_expr he hs) fun D σ H ⟨Hs, env, H1, r, s1, w⟩ =>
    ⟨Hbor Hs H σ env, env.borrow, r.hb_sub, r.borrow, w.bind.mono s1 fun d wd v H' Hs' x r' => wd.is_ok σ H' Hs (Same.refl _) (r.same x.same)⟩
theorem bw_ret (he : PE X e (ERW g W f)) : PS X (.Return (some e) pos) (BR g W B Hs0 (sRet f)) :=
  PS_mono (ps_ret he) fun D σ H ⟨Hs, env, H1, r, s1, w⟩ => by
    refine ⟨Hbor Hs H σ env, env.borrow, r.hb_sub, r.borrow, w.bind.mono s1 fun d wd v H' Hs' x r' => ?_⟩
    refine wd.is_ok v H' ⟨Hs', ⟨r.keep.trans x.same, r.sub0.trans (r.hb_up.trans x.up), x.sub, fun a o e => ?_⟩, r'⟩
    rcases x.new a o e with q | q
    · by_cases h : isRoot σ env a
      · exact .inr (r.root h).2.1
      · rw [hb_not h] at q; exact r.new a o q
    · exact .inr (r.keep.free q)
def sIfM (p : BEnv → Res Bool) (s t : Env → Res Fl) : Env → Res Fl := fun env => must (p env.borrow) fun b => if b = true then s env else t env
theorem bw_if {c : Expr} {a b : List Stmt} (hc : PT X c (TR g EN pt)) (ha : PSs X a (BR g W B Hs0 s)) (hb : PSs X b (BR g W B Hs0 t)) : PS X (.If c a b pos) (BR g W B Hs0 (sIfM pt s t)) :=
  PS_mono (ps_if hc ha hb) fun D σ H ⟨Hs, env, H1, r, s1, w⟩ => by
    obtain ⟨b, hb, w⟩ := must_wk w
    refine ⟨Hbor Hs H σ env, env.borrow, r.hb_sub, r.borrow, .of_ne hb fun H' Hs' x => ?_⟩
    have r' := r.same x.same
    cases b with
    | true => exact iteT ⟨Hs, env, H1, r', s1.trans x.same, by simpa using w⟩
    | false => exact iteF ⟨Hs, env, H1, r', s1.trans x.same, by simpa using w⟩
theorem bw_one (h : PS X st (BR g W B Hs0 s)) : PSs X [st] (BR g W B Hs0 s) := pss_one h
theorem bw_nil : PSs X [] (BR g W B Hs0 sNil) := PSs_mono pss_nil fun D σ H ⟨Hs, env, H1, r, s1, w⟩ => w.is_ok σ H Hs (Same.refl _) r
end

/-! ### in an except suite: values are stored, an error is asked -/
mutual
def noX : D → Bool
  | .non => true
  | .bl _ => true
  | .int _ => true
  | .str _ => true
  | .tup l => noXs l
  | .lst _ => false
  | .scr _ => false
  | .cut _ l => noXs l
  | .dic => true
  | .exn => false
def noXs : List D → Bool
  | [] => true
  | d :: ds => noX d && noXs ds
end
/-- what the suite knows of the error: at a, its dict d, its field x -/
def XP (a : Addr) (d : Option Addr) (x : Option D) : Addr → Hp → Prop := fun b H => b = a ∧ match x with
  | none => d = none
  | some (.int k) => ∃ dd, d = some dd ∧ H dd = some (.xd [("at", V.int k)])
  | _ => False
theorem XP_keep (a : Addr) (d : Option Addr) (x : Option D) : ∀ (b : Addr) (H H' : Hp), (∀ b o, (∀ ys, o ≠ HO.lst ys) → H b = some o → H' b = some o) → XP a d x b H → XP a d x b H' := fun b H H' k ⟨e, h⟩ => ⟨e, by
  split at h
  · exact h
  · obtain ⟨dd, h1, h2⟩ := h
    exact ⟨dd, h1, k _ _ (fun ys z => nomatch z) h2⟩
  · exact h⟩
def gX (g : G) (a : Addr) (d : Option Addr) (x : Option D) : G := { g with xp := XP a d x, xk := XP_keep a d x }
section
variable {g : G} {a : Addr} {d : Option Addr} {x : Option D}
mutual
theorem R.inX (no : ∀ a H, ¬ g.xp a H) {H : Hp} : ∀ {v : V} {e : D}, R g H v e → R (gX g a d x) H v e
  | _, _, .non => .non
  | _, _, .bl b => .bl b
  | _, _, .int i => .int i
  | _, _, .str x => .str x
  | _, _, .tup h r => .tup h (Rs.inX no r)
  | _, _, .lst h r => .lst h (Rs.inX no r)
  | _, _, .scr h => .scr h
  | _, _, .cut h k r => .cut h k (Rs.inX no r)
  | _, _, .dic h => .dic h
  | _, _, .exn h => absurd h (no _ _)
theorem Rs.inX (no : ∀ a H, ¬ g.xp a H) {H : Hp} : ∀ {vs : List V} {es : List D}, Rs g H vs es → Rs (gX g a d x) H vs es
  | _, _, .nil => .nil
  | _, _, .cons h r => .cons (R.inX no h) (Rs.inX no r)
end
/-- what data may hang on is kept -/
def KeepX (Hb Hc : Hp) : Prop := ∀ a o, (∀ ys, o ≠ HO.lst ys) → (∀ fs, o ≠ HO.xd fs) → Hb a = some o → Hc a = some o
theorem SqT_cut2 {K : PySem.W.Frag} {Hb Hc : Hp} {a : Addr} {xs : List V} (k : KeepX Hb Hc) (h : SqT K Hb a xs) : SqT K Hc a xs := by
  rcases h with (h | ⟨o, h⟩) | h
  · exact .inl (.inl (k _ _ (fun ys z => nomatch z) (fun ys z => nomatch z) h))
  · exact .inl (.inr ⟨o, k _ _ (fun ys z => nomatch z) (fun ys z => nomatch z) h⟩)
  · exact .inr h
mutual
theorem R.outX {Hb Hc : Hp} (k : KeepX Hb Hc) : ∀ {v : V} {e : D}, R (gX g a d x) Hb v e → noX e = true → R g Hc v e
  | _, _, .non, _ => .non
  | _, _, .bl b, _ => .bl b
  | _, _, .int i, _ => .int i
  | _, _, .str x, _ => .str x
  | _, .tup l, .tup h r, e =>
    have e' : noXs l = true := by simpa [noX] using e
    .tup (SqT_cut2 k h) (Rs.outX k r e')
  | _, .lst l, .lst h r, e => absurd e (by simp [noX])
  | _, .scr l, .scr h, e => absurd e (by simp [noX])
  | _, .cut n l, .cut h q r, e =>
    have e' : noXs l = true := by simpa [noX] using e
    .cut (k _ _ (fun ys z => nomatch z) (fun ys z => nomatch z) h) (SqT_cut2 k q) (Rs.outX k r e')
  | _, _, .dic h, _ => .dic (k _ _ (fun ys z => nomatch z) (fun ys z => nomatch z) h)
  | _, _, .exn h, e => absurd e (by simp [noX])
theorem Rs.outX {Hb Hc : Hp} (k : KeepX Hb Hc) : ∀ {vs : List V} {es : List D}, Rs (gX g a d x) Hb vs es → noXs es = true → Rs g Hc vs es
  | _, _, .nil, _ => .nil
  | _, e :: es, .cons h r, q =>
    have e' : noX e = true ∧ noXs es = true := by simpa [noXs] using q
    .cons (R.outX k h e'.1) (Rs.outX k r e'.2)
end
theorem EnvR.inX (no : ∀ a H, ¬ g.xp a H) {Hs : Hp} {σ : L2.St} {env : BEnv} (r : EnvR g Hs σ env) : EnvR (gX g a d x) Hs σ env := ⟨r.len, fun i e h =>
  let ⟨v, h1, h2⟩ := r.get i e h
  ⟨v, h1, R.inX no h2⟩⟩
end
theorem As.mono {g : G} {Hs Hs' : Hp} (s : Same Hs Hs') : ∀ {v : List (Nat × V)} {as : List (Nat × D)}, As g Hs v as → As g Hs' v as
  | _, _, .nil => .nil
  | _, _, .cons h r => .cons (h.mono s) (As.mono s r)
def noXA : List (Nat × D) → Bool
  | [] => true
  | (_, d) :: r => noX d && noXA r
theorem As.outX {g : G} {a : Addr} {d : Option Addr} {x : Option D} {Hb Hc : Hp} (k : KeepX Hb Hc) : ∀ {v : List (Nat × V)} {as : List (Nat × D)}, As (gX g a d x) Hb v as → noXA as = true → As g Hc v as
  | _, _, .nil, _ => .nil
  | _, (_, e) :: as, .cons h r, q =>
    have e' : noX e = true ∧ noXA as = true := by simpa [noXA] using q
    .cons (R.outX k h e'.1) (As.outX k r e'.2)
theorem setAll_set (i : Nat) : ∀ (vs : List (Nat × V)) (σ : L2.St) (x y : Option V), (setAll (σ.set i x) vs).set i y = (setAll σ vs).set i y
  | [], σ, x, y => by show (σ.set i x).set i y = σ.set i y; rw [List.set_set]
  | (j, v) :: vs, σ, x, y => by
    show (setAll ((σ.set i x).set j (some v)) vs).set i y = (setAll (σ.set j (some v)) vs).set i y
    by_cases h : i = j
    · subst h
      rw [List.set_set]
    · rw [List.set_comm _ _ h]
      exact setAll_set i vs _ x y
theorem StR.setNone {g : G} {B Hs0 Hs H : Hp} {σ : L2.St} {env : Env} (r : StR g B Hs0 Hs H σ env) (i : Nat) : StR g B Hs0 Hs H (σ.set i none) (env.set i none) where
  keep := r.keep
  sub0 := r.sub0
  sub := r.sub
  new := r.new
  len := by rw [List.length_set, List.length_set, r.len]
  val := fun j d' e => by
    by_cases h : j = i
    · subst h
      by_cases hl : j < env.length
      · rw [List.getElem?_set_self hl] at e; cases e
      · rw [List.getElem?_eq_none (by rw [List.length_set]; exact Nat.not_lt.mp hl)] at e; cases e
    · rw [List.getElem?_set_ne (Ne.symm h)] at e ⊢
      exact r.val j d' e
  own := fun j l e => by
    by_cases h : j = i
    · subst h
      by_cases hl : j < env.length
      · rw [List.getElem?_set_self hl] at e; cases e
      · rw [List.getElem?_eq_none (by rw [List.length_set]; exact Nat.not_lt.mp hl)] at e; cases e
    · rw [List.getElem?_set_ne (Ne.symm h)] at e ⊢
      exact r.own j l e
  dis := fun j k l m a n e1 e2 h1 h2 => by
    have f : ∀ {j : Nat} {l : List PL.D}, (env.set i none)[j]? = some (some (.own l)) → j ≠ i := fun {j l} e h => by
      subst h
      by_cases hl : j < env.length
      · rw [List.getElem?_set_self hl] at e; cases e
      · rw [List.getElem?_eq_none (by rw [List.length_set]; exact Nat.not_lt.mp hl)] at e; cases e
    have n1 := f e1
    have n2 := f e2
    rw [List.getElem?_set_ne (Ne.symm n1)] at e1 h1
    rw [List.getElem?_set_ne (Ne.symm n2)] at e2 h2
    exact r.dis j k l m a n e1 e2 h1 h2

inductive UFl where
  | nx (as : List (Nat × D)) | rt (d : D)
abbrev UD := BEnv → List (Nat × D) → Res UFl
def ULand (g : G) (Hz H0 : Hp) (σ0 : L2.St) (Z : Ends) : UFl → Prop
  | .nx as => ∀ vas H' Hb, Ext Hz H0 Hb H' → As g Hb vas as → Z.nx (setAll σ0 vas) H'
  | .rt d => ∀ v H' Hb, Ext Hz H0 Hb H' → R g Hb v d → Z.rt v H'
/-- Hz H0: when the suite began -/
def UR (g : G) (u : UD) : TS := fun Z σ H => ∃ Hz H0 σ0 bb vas as Hb, EnvR g Hz σ0 bb ∧ Ext Hz H0 Hb H ∧ As g Hb vas as ∧ σ = setAll σ0 vas ∧ ∃ fl, u bb as = .ok fl ∧ ULand g Hz H0 σ0 Z fl
section
variable {X : Cx} {g : G} {e : Expr} {pos : Pos} {f : BEnv → Res D} {u u' : UD} {st : Stmt} {rest : List Stmt} {p : BEnv → Res Bool}
def uNil : UD := fun _ as => .ok (.nx as)
def uSeq (u u' : UD) : UD := fun env as => must (u env as) fun
  | .nx as' => u' env as'
  | .rt d => .ok (.rt d)
def uSet (i : Nat) (f : BEnv → Res D) : UD := fun env as => must (f (setAllB env as)) fun d => .ok (.nx (as ++ [(i, d)]))
def uRet (f : BEnv → Res D) : UD := fun env as => must (f (setAllB env as)) fun d => .ok (.rt d)
def uIf (p : BEnv → Res Bool) (u u' : UD) : UD := fun env as => must (p (setAllB env as)) fun b => if b = true then u env as else u' env as
theorem must_ok' {α β : Type} {r : Res α} {k : α → Res β} {b : β} (h : must r k = .ok b) : ∃ a, r = .ok a ∧ k a = .ok b := by
  cases r with
  | ok a => exact ⟨a, rfl, h⟩
  | _ => cases h
theorem us_nil : PSs X [] (UR g uNil) := PSs_mono pss_nil fun Z σ H ⟨Hz, H0, σ0, bb, vas, as, Hb, r, x, q, e, fl, hu, l⟩ => by
  cases hu
  subst e
  exact l vas H Hb x q
theorem us_one (h : PS X st (UR g u)) : PSs X [st] (UR g u) := pss_one h
theorem us_cons (h1 : PS X st (UR g u)) (h2 : PSs X rest (UR g u')) : PSs X (st :: rest) (UR g (uSeq u u')) :=
  PSs_mono (pss_cons h1 h2) fun Z σ H ⟨Hz, H0, σ0, bb, vas, as, Hb, r, x, q, e, fl, hu, l⟩ => by
    obtain ⟨f1, h1, h2⟩ := must_ok' hu
    refine ⟨Hz, H0, σ0, bb, vas, as, Hb, r, x, q, e, f1, h1, ?_⟩
    cases f1 with
    | nx as' => exact fun vas' H' Hb' x' q' => ⟨Hz, H0, σ0, bb, vas', as', Hb', r, x', q', rfl, fl, h2, l⟩
    | rt d => cases h2; exact l
theorem us_set {i : Nat} {y : Str} {py : Pos} (hN : X.N.Nodup) (hi : X.N[i]? = some y) (hy : Loc X.env.scope y) (he : PE X e (ER g EN f)) (hs : swapsWith e (some (.Name y py)) pos.line X.env = pure false := by rfl) (hf : X.fn y = true ∨ X.env.scope.names.lookup y = some .local := by first | exact .inl rfl | exact .inr rfl | assumption) :
    PS X (.Assign [.Name y py] e pos) (UR g (uSet i f)) :=
  PS_mono (ps_set hN hi hy he hs hf) fun Z σ H ⟨Hz, H0, σ0, bb, vas, as, Hb, r, x, q, e, fl, hu, l⟩ => by
    obtain ⟨d, h1, h2⟩ := must_ok' hu
    cases h2
    subst e
    refine ⟨Hb, setAllB bb as, x.sub, EnvR.setAll q (r.mono x.up), .of_ne h1 fun v H' Hb' x' r' => ?_⟩
    show Z.nx ((setAll σ0 vas).set i (some v)) H'
    have := l (vas ++ [(i, v)]) H' Hb' (x.trans x') ((q.mono x'.up).append (.cons r' .nil))
    rw [setAll_append] at this
    exact this
theorem us_ret (he : PE X e (ER g EN f)) : PS X (.Return (some e) pos) (UR g (uRet f)) :=
  PS_mono (ps_ret he) fun Z σ H ⟨Hz, H0, σ0, bb, vas, as, Hb, r, x, q, e, fl, hu, l⟩ => by
    obtain ⟨d, h1, h2⟩ := must_ok' hu
    cases h2
    subst e
    exact ⟨Hb, setAllB bb as, x.sub, EnvR.setAll q (r.mono x.up), .of_ne h1 fun v H' Hb' x' r' => l v H' Hb' (x.trans x') r'⟩
theorem us_if {c : Expr} {a b : List Stmt} (hc : PT X c (TR g EN p)) (ha : PSs X a (UR g u)) (hb : PSs X b (UR g u')) : PS X (.If c a b pos) (UR g (uIf p u u')) :=
  PS_mono (ps_if hc ha hb) fun Z σ H ⟨Hz, H0, σ0, bb, vas, as, Hb, r, x, q, e, fl, hu, l⟩ => by
    obtain ⟨b, h1, h2⟩ := must_ok' hu
    subst e
    refine ⟨Hb, setAllB bb as, x.sub, EnvR.setAll q (r.mono x.up), .of_ne h1 fun H' Hb' x' => ?_⟩
    cases b with
    | true => exact iteT ⟨Hz, H0, σ0, bb, vas, as, Hb', r, x.trans x', q.mono x'.up, rfl, fl, by simpa using h2, l⟩
    | false => exact iteF ⟨Hz, H0, σ0, bb, vas, as, Hb', r, x.trans x', q.mono x'.up, rfl, fl, by simpa using h2, l⟩
end

/-! ### what is asked of the error -/
def isxD (b : Bool) : D → Res D
  | .exn => .ok (.bl b)
  | _ => .bad
def xatD (x : Option D) : D → Res D
  | .exn => match x with
    | some (.int k) => .ok (.int k)
    | _ => .bad
  | _ => .bad
/-- the class of the error, as isinstance asks it -/
structure ExcD (K : PySem.W.Frag) (D : Addr) : Prop where
  hc : (PySem.W.clsIn K D).isSome = true
  hg : PySem.W.findIn K (.ref D) "__getattribute__" = some (some (.builtin "BaseException.__getattribute__"))
  hk : PySem.W.findIn K (.ref D) "__getattr__" = some none
  hs : PySem.W.subIn K (.ref D) (.type "BaseException") = some true
  hd : PySem.W.hasDictIn K D = true
  ha : PySem.W.findIn K (.ref D) "__class__" = some (some (.builtin "object.__class__"))
  hn : PySem.W.specialIn K (.builtin "object.__class__") "__get__" = some (some (.builtin "getset_descriptor.__get__"))
  ht : PySem.W.takesIn K (.builtin "object.__class__") = some true
  hm : PySem.W.mroIn K D (.type "object") = some true
  fx : PySem.W.findIn K (.ref D) "at" = some none
def rIsX (K : PySem.W.Frag) (D a : Addr) (d : Option Addr) : List V → Hp → VK → Prop := fun xs H Q => ∃ (c : V) (cv : Value) (b : Bool), xs = [.ref a, c] ∧ ClsV c cv ∧ PySem.W.kitOne K (.ref D) cv = some b ∧ (d = none ∨ ∃ dd fs, d = some dd ∧ H dd = some (.xd fs)) ∧ Q (.bl b) H
def rIsXT (K : PySem.W.Frag) (D a : Addr) (d : Option Addr) : List V → Hp → VK → Prop := fun xs H Q => ∃ (tp : Addr) (cs : List V) (us : List Value) (b : Bool), xs = [.ref a, .ref tp] ∧ H tp = some (.tup cs) ∧ Paired ClsV cs us ∧ PySem.W.kitAny K (.ref D) us = some b ∧ (d = none ∨ ∃ dd fs, d = some dd ∧ H dd = some (.xd fs)) ∧ Q (.bl b) H
section
variable {X : Cx} {a D : Addr} {oe : Obj} {d : Option Addr} {pn : List (Addr × Obj)}
theorem inst_at {pins : List (Addr × Obj)} {s : Shared} {σ : L2.St} {H : Hp} (I : Inv (X.suite a ((a, oe) :: pn)) pins σ H s) (hz : Zc (.ref D) d oe) (hf : ∃ vs, oe.data = .fields vs) (hd : d = none ∨ ∃ dd fs, d = some dd ∧ H dd = some (.xd fs)) : ∃ od, PySem.W.InstAt s.heap a oe D od := by
  obtain ⟨hget, _⟩ := I.pin (a, oe) (List.mem_append.mpr (.inl List.mem_cons_self))
  obtain ⟨vs, hv⟩ := hf
  rcases hd with rfl | ⟨dd, fs, rfl, hdd⟩
  · refine ⟨none, ?_⟩
    obtain ⟨oc, od, oda, osl⟩ := oe
    obtain ⟨h1, h2⟩ := hz
    dsimp only at h1 h2 hv
    subst h1 h2 hv
    exact ⟨hget, rfl, rfl, trivial⟩
  · have hx : ObjOk X.prog X.w H s.heap dd (.xd fs) := I.hok dd _ hdd
    obtain ⟨mA, hns, hr⟩ := hx
    obtain ⟨od, ho, hl⟩ := lookIn_ns hns
    exact ⟨some od, ⟨hget, hz.1, by unfold PySem.W.notCls; rw [hv] <;> rfl, by rw [hz.2]; exact ho⟩⟩
theorem call_isX (C : ExcD X.K D) (hz : Zc (.ref D) d oe) (hf : ∃ vs, oe.data = .fields vs) : CallR (X.suite a ((a, oe) :: pn)) (.builtin "isinstance") (rIsX X.K D a d) := by
  intro pins s σ H xs us Q I r h
  obtain ⟨c, cv, b, rfl, hcv, e, hd, q⟩ := h
  obtain ⟨u1, u2, rfl, r1, r2⟩ := vals2 r
  have e2 := hcv.eq r2
  subst e2
  cases (show u1 = Value.ref a from r1)
  obtain ⟨od, J⟩ := inst_at I hz hf hd
  exact PySem.W.kia_one (PySem.W.kitx_exc C.hc C.hg C.hk C.hs C.ha C.hn C.ht C.hm) I.kIn J e (fun z => nomatch z) fun tk => ⟨.bl b, H, I.kept (t' := tk) fun _ _ z => z, rfl, q⟩
theorem call_isXT (C : ExcD X.K D) (hz : Zc (.ref D) d oe) (hf : ∃ vs, oe.data = .fields vs) : CallR (X.suite a ((a, oe) :: pn)) (.builtin "isinstance") (rIsXT X.K D a d) := by
  intro pins s σ H xs us Q I r h
  obtain ⟨tp, cs, ws, b, rfl, hT, k, e, hd, q⟩ := h
  obtain ⟨u1, u2, rfl, r1, r2⟩ := vals2 r
  cases (show u1 = Value.ref a from r1)
  cases (show u2 = Value.ref tp from r2)
  obtain ⟨od, J⟩ := inst_at I hz hf hd
  obtain ⟨_, its, rv, o, h1, h2, n, h3⟩ := (show ObjOk X.prog X.w H s.heap tp (.tup cs) from I.hok tp _ hT)
  have e3 := ClsV.all k rv
  subst e3
  obtain ⟨oc, od', dt, sl⟩ := o
  simp only at h2 h3
  subst h2 h3
  exact PySem.W.kia_tup (PySem.W.kitx_exc C.hc C.hg C.hk C.hs C.ha C.hn C.ht C.hm) I.kIn J h1 e (fun z => nomatch z) fun tk => ⟨.bl b, H, I.kept (t' := tk) fun _ _ z => z, rfl, q⟩
theorem exn_at {g : G} {Hs H : Hp} {v : V} {x : Option PL.D} (s : Same Hs H) (r : R (gX g a d x) Hs v .exn) : v = .ref a ∧ (d = none ∨ ∃ dd fs, d = some dd ∧ H dd = some (.xd fs)) := by
  cases r with
  | exn h =>
    obtain ⟨e1, k⟩ := (h : XP a d x _ Hs)
    refine ⟨by rw [e1], ?_⟩
    split at k
    · exact .inl k
    · obtain ⟨dd, h1, h2⟩ := k
      exact .inr ⟨dd, _, h1, s _ _ h2⟩
    · exact k.elim
variable {g : G} {x : Option PL.D} {e : Expr} {es : List Expr} {pos : Pos} {f : BEnv → Res PL.D} {E : XK}
theorem se_isx {b : Bool} {xT : Str} {c : V} {cv : Value} {p p2 : Pos} (C : ExcD X.K D) (hz : Zc (.ref D) d oe) (hf : ∃ vs, oe.data = .fields vs) (hg : Gl (X.suite a ((a, oe) :: pn)) "isinstance") (hm : X.mg "isinstance" = none)
    (hT : PE (X.suite a ((a, oe) :: pn)) (.Name xT p2) (tC c)) (hc : ClsV c cv) (hk : PySem.W.kitOne X.K (.ref D) cv = some b) (ha : PE (X.suite a ((a, oe) :: pn)) e (ER (gX g a d x) E f))
    (h1 : starEach [e, .Name xT p2] X.env = (false, eval e X.env) :: starEach [.Name xT p2] X.env := by rfl) (h2 : starEach [.Name xT p2] X.env = (false, eval (.Name xT p2) X.env) :: starEach [] X.env := by rfl)
    (hpl : (backTo pos (starEach [.Name xT p2] X.env)).any (·.1) = false := by rfl) : PE (X.suite a ((a, oe) :: pn)) (.Call (.Name "isinstance" p) [e, .Name xT p2] [] pos) (ER (gX g a d x) E (e1 (isxD b) f)) :=
  PE_mono (pe_callB (call_isX C hz hf) hg hm boot_isinstance (pa_cons ha (pa_cons hT pa_nil h2) h1) (by decide) (by decide) h1 hpl) fun σ H Q w => by
    refine one (r := fun y H Q => rIsX X.K D a d [y, c] H Q) (fun Hs H v dd Q s r E w => ?_) w
    cases dd with
    | exn =>
      obtain ⟨rfl, hd⟩ := exn_at s r
      exact ⟨c, cv, b, rfl, hc, hk, hd, w.is_ok _ _ _ (Ext.refl s) (.bl _)⟩
    | _ => exact absurd rfl w.bad
/-- a row of classes' names -/
def tAll (vs : List V) : TA := fun _ H Q => Q vs H
structure NmL (X : Cx) (K : PySem.W.Frag) (C : Value) (es : List Expr) (b : Bool) : Prop where
  ex : ∃ vs us, PA X es (tAll vs) ∧ Paired ClsV vs us ∧ PySem.W.kitAny K C us = some b ∧ vs.length = es.length
theorem nm_nil {X : Cx} {K : PySem.W.Frag} {C : Value} : NmL X K C [] false := ⟨[], [], PA_mono pa_nil fun σ H Q w => w, .nil, rfl, rfl⟩
theorem nm_cons {X : Cx} {K : PySem.W.Frag} {C cv : Value} {es : List Expr} {b b' : Bool} {xT : Str} {p : Pos} {c : V} (hT : PE X (.Name xT p) (tC c)) (hc : ClsV c cv) (hk : PySem.W.kitOne K C cv = some b) (r : NmL X K C es b') (h : starEach (.Name xT p :: es) X.env = (false, eval (.Name xT p) X.env) :: starEach es X.env := by rfl) :
    NmL X K C (.Name xT p :: es) (b || b') := by
  obtain ⟨vs, us, h1, h2, h3, h4⟩ := r.ex
  refine ⟨c :: vs, cv :: us, PA_mono (pa_cons hT h1 h) fun σ H Q w => w, .cons hc h2, ?_, by simp [h4]⟩
  unfold PySem.W.kitAny
  rw [hk]
  cases b with
  | true => rfl
  | false => exact h3
theorem se_isxT {b : Bool} {x1 : Nat} {tpos p : Pos} (C : ExcD X.K D) (hz : Zc (.ref D) d oe) (hf : ∃ vs, oe.data = .fields vs) (hg : Gl (X.suite a ((a, oe) :: pn)) "isinstance") (hm : X.mg "isinstance" = none)
    (hT : NmL (X.suite a ((a, oe) :: pn)) X.K (.ref D) es b) (hl : es.length ≤ 1000) (ha : PE (X.suite a ((a, oe) :: pn)) e (ER (gX g a d x) E f))
    (h1 : starEach [e, .Tuple es x1 tpos] X.env = (false, eval e X.env) :: starEach [.Tuple es x1 tpos] X.env := by rfl) (h2 : starEach [.Tuple es x1 tpos] X.env = (false, eval (.Tuple es x1 tpos) X.env) :: starEach [] X.env := by rfl)
    (hpl : (backTo pos (starEach [.Tuple es x1 tpos] X.env)).any (·.1) = false := by rfl) : PE (X.suite a ((a, oe) :: pn)) (.Call (.Name "isinstance" p) [e, .Tuple es x1 tpos] [] pos) (ER (gX g a d x) E (e1 (isxD b) f)) := by
  obtain ⟨vs, us, hp, hc, hk, hlen⟩ := hT.ex
  refine PE_mono (pe_callB (call_isXT C hz hf) hg hm boot_isinstance (pa_cons ha (pa_cons (pe_tup hp) pa_nil h2) h1) (by decide) (by decide) h1 hpl) fun σ H Q w => ?_
  refine one (r := fun y H Q => tCons (fun σ H Q => tAll vs σ H fun xs H1 => xs.length ≤ sizeLine ∧ ∀ p, H1 p = none → Q (.ref p) (upd H1 p (.tup xs))) tNil σ H fun ys H1 => rIsXT X.K D a d (y :: ys) H1 Q) (fun Hs H v dd Q s r E w => ?_) w
  cases dd with
  | exn =>
    obtain ⟨rfl, hd⟩ := exn_at s r
    refine ⟨?_, fun p np => ?_⟩
    · rw [hlen]; exact line1000 hl
    · refine ⟨p, vs, us, b, rfl, upd_same, hc, hk, ?_, ?_⟩
      · rcases hd with hd | ⟨dd, fs, h1, h2⟩
        · exact .inl hd
        · exact .inr ⟨dd, fs, h1, by rw [upd_ne (ne_of_none h2 np)]; exact h2⟩
      · exact w.is_ok _ _ _ (Ext.new1 s np) (.bl _)
  | _ => exact absurd rfl w.bad
/-- e.at -/
theorem se_xat (C : ExcD X.K D) (hz : Zc (.ref D) d oe) (hf : ∃ vs, oe.data = .fields vs) (he : PE (X.suite a ((a, oe) :: pn)) e (ER (gX g a d x) E f)) (hb : attributeBase e "at" X.env (eval e X.env) = eval e X.env := by rfl) :
    PE (X.suite a ((a, oe) :: pn)) (.Attribute e "at" pos) (ER (gX g a d x) E (e1 (xatD x) f)) :=
  PE_mono (pe_xf (T := ⟨C.hg, C.hk, C.hs, C.hd⟩) (hno := C.fx) hz hf he hb) fun σ H Q w => by
    refine one (r := fun y H1 Q => y = .ref a ∧ Value.ref D = .ref D ∧ ∃ (dd : Addr) (fs : List (Str × V)) (v : V), d = some dd ∧ H1 dd = some (.xd fs) ∧ fs.lookup ("at" : Str) = some v ∧ Q v H1) (fun Hs H v dd Q s r E w => ?_) w
    cases dd with
    | exn =>
      cases r with
      | exn h =>
        obtain ⟨e1, k⟩ := (h : XP a d x _ Hs)
        have w : Wk (gX g a d x) E H (match x with
          | some (.int k) => Res.ok (PL.D.int k)
          | _ => .bad) (Lands (gX g a d x) Hs H Q) := w
        split at k
        · exact absurd rfl w.bad
        · obtain ⟨dd, h1, h2⟩ := k
          exact ⟨by rw [e1], rfl, dd, _, _, h1, s _ _ h2, rfl, w.is_ok _ _ _ (Ext.refl s) (.int _)⟩
        · exact k.elim
    | _ => exact absurd rfl w.bad
end

/-! ### try .. except X as n -/
def okY : Option D → Bool
  | none => true
  | some (.int _) => true
  | _ => false
def sTry (i : Nat) (cs : List String) (s : Env → Res Fl) (h : String → Option D → UD) : Env → Res Fl := fun env => match s env with
  | .ok fl => .ok fl
  | .exc k y => if k ∈ cs ∧ okY y = true then must (h k y (env.borrow.set i (some .exn)) []) fun
      | .nx as => if noXA as = true then .ok (.nx ((setAllE env as).set i none)) else .bad
      | .rt d => if noX d = true then .ok (.rt (.val d)) else .bad
    else .bad
  | .bad => .bad
theorem hz_ex {g : G} {H' Hq : Hp} {o : Option Addr} {y : Option D} {a : Addr} {k : String} {C : Value} (s : Same Hq H') (hy : okY y = true) (ex : ExcAt g k y C o H') :
    ∃ Hz, Same Hq Hz ∧ Same Hz H' ∧ (∀ b u, Hz b = some u → Hq b = some u ∨ ∃ fs, u = HO.xd fs) ∧ XP a o y a Hz := by
  obtain ⟨_, _, _, h⟩ := ex
  cases y with
  | none => exact ⟨Hq, Same.refl _, s, fun b u e => .inl e, rfl, h⟩
  | some d =>
    obtain ⟨dd, w, h1, h2, h3⟩ := h
    cases d with
    | int k =>
      cases h3
      refine ⟨upd Hq dd (.xd [("at", .int k)]), fun b u e => ?_, fun b u e => ?_, fun b u e => ?_, rfl, dd, h1, upd_same⟩
      · by_cases hb : b = dd
        · subst hb
          rw [upd_same]
          rw [← h2]
          exact s _ _ e
        · rw [upd_ne hb]; exact e
      · by_cases hb : b = dd
        · subst hb; rw [upd_same] at e; cases e; exact h2
        · rw [upd_ne hb] at e; exact s _ _ e
      · by_cases hb : b = dd
        · subst hb; rw [upd_same] at e; cases e; exact .inr ⟨_, rfl⟩
        · rw [upd_ne hb] at e; exact .inl e
    | _ => cases hy
section
variable {X : Cx} {g : G} {E : XK} {B Hs0 : Hp} {x n : Str} {c : Value} {i : Nat} {body suite : List Stmt} {b₀ : Stmt} {np pos pos' : Pos} {s : Env → Res Fl} {h : String → Option D → UD}
theorem ss_try (cs : List String) (no : ∀ a H, ¬ g.xp a H) (hK : X.K = g.K) (hs : X.stack = X.env :: X.outer) (hf : X.env.frame = some X.env.locals) (hN : X.N.Nodup) (hi : X.N[i]? = some n) (hln : X.env.kindOf n = some .local) (hc : Names X x c) (tk : Takes X (fun cls d _ H => E cls d H))
    (hcs : ∀ k ∈ cs, ∀ C, g.mg (Str.ofString k) = some (.ref C) → PySem.W.exmOne g.K (.ref C) c = some true)
    (hb : ∀ (W : WX) (pn : List (Addr × Obj)) (xe : Value → Shared → Prop), Takes (X.tr pn xe) W → PSs (X.tr pn xe) body (BR g W B Hs0 s))
    (hsu : ∀ k ∈ cs, ∀ (a : Addr) (oe : Obj) (C : Addr) (d : Option Addr) (y : Option D) (pn : List (Addr × Obj)), g.mg (Str.ofString k) = some (.ref C) → Zc (.ref C) d oe → (∃ vs, oe.data = .fields vs) → PSs (X.suite a ((a, oe) :: pn)) (b₀ :: suite) (UR (gX g a d y) (h k y))) :
    PS X (.Try body [.ExceptHandler (some (.Name x np)) (some n) (b₀ :: suite) pos'] [] [] pos) (SR g E B Hs0 (sTry i cs s h)) := by
  refine PS_mono (ps_try_as (tb := fun W => BR g W B Hs0 s) (ts := fun a cls d => fun Z σ H => ∃ k, k ∈ cs ∧ ∃ C y, cls = .ref C ∧ g.mg (Str.ofString k) = some (.ref C) ∧ UR (gX g a d y) (h k y) Z σ H) hs hf hN hi hln hc tk (fun W pn xe t _ => hb W pn xe t) fun a oe cls d pn hz hv => ⟨fun pins s σ H D I ⟨k, hk, C, y, e, hm, w⟩ => ?_⟩) fun Z σ H w => ?_
  · subst e
    exact (hsu k hk a oe C d y pn hm hz hv).run pins s σ H D I w
  · obtain ⟨Hs, env, r, w⟩ := w
    refine ⟨Hs, env, H, r, Same.refl _, ?_⟩
    unfold sTry at w
    cases q : s env with
    | ok fl => rw [q] at w; exact .of_ok w.is_ok
    | bad => rw [q] at w; exact absurd rfl w.bad
    | exc k y =>
      rw [q] at w
      refine Wk.mk (fun _ e => nomatch e) (fun k' y' e C o H' sm ex => ?_) (fun e => nomatch e)
      cases e
      by_cases hk : k ∈ cs ∧ okY y = true
      · have w' : Wk g E B (must (h k y (env.borrow.set i (some .exn)) []) fun
            | .nx as => if noXA as = true then Res.ok (Fl.nx ((setAllE env as).set i none)) else .bad
            | .rt d => if noX d = true then .ok (.rt (.val d)) else .bad) (SLand g B Hs0 Hs Z) := by
          have w := w
          simp only [if_pos hk] at w
          exact w
        obtain ⟨fl, hfl, w'⟩ := must_wk w'
        have ex0 := ex
        obtain ⟨ad, hm, eC, ho⟩ := (ex : ExcAt g k y C o H')
        subst eC
        have r1 := r.same sm
        refine ⟨true, by rw [hK]; exact hcs k hk.1 ad hm, fun _ a na => ⟨k, hk.1, ad, y, rfl, hm, ?_⟩, fun e => nomatch e⟩
        obtain ⟨Hz, z1, z2, z3, z4⟩ := hz_ex (a := a) r1.hb_sub hk.2 ex0
        refine ⟨Hz, H', σ.set i (some (.ref a)), env.borrow.set i (some .exn), [], [], Hz, EnvR.set1 (EnvR.mono (EnvR.inX no r1.borrow) z1) (.exn z4), Ext.refl z2, .nil, rfl, fl, hfl, ?_⟩
        -- at the end
        have fin : ∀ {H2 Hb : Hp}, Ext Hz H' Hb H2 → ∃ Hs2, Same Hs Hs2 ∧ StR g B Hs0 Hs2 H2 σ env ∧ KeepX Hb Hs2 := fun {H2 Hb} x => by
          let Hb2 : Hp := fun b => match Hbor Hs H' σ env b, Hz b with
            | none, some _ => none
            | _, _ => Hb b
          have e1 : ∀ b u, Hb2 b = some u → Hb b = some u := fun b u e => by
            show Hb b = some u
            have e : (match Hbor Hs H' σ env b, Hz b with
              | none, some _ => none
              | _, _ => Hb b) = some u := e
            split at e
            · cases e
            · exact e
          have x2 : Ext (Hbor Hs H' σ env) H' Hb2 H2 := by
            refine ⟨x.same, fun b u e => ?_, fun b u e => x.sub _ _ (e1 b u e), fun b u e => ?_⟩
            · show (match Hbor Hs H' σ env b, Hz b with
                | none, some _ => none
                | _, _ => Hb b) = some u
              rw [e]
              exact x.up _ _ (z1 _ _ e)
            · have e' : (match Hbor Hs H' σ env b, Hz b with
                | none, some _ => none
                | _, _ => Hb b) = some u := e
              rcases x.new b u (e1 b u e) with q | q
              · cases hh : Hbor Hs H' σ env b with
                | none => rw [hh, q] at e'; cases e'
                | some u' =>
                  have := z1 _ _ hh
                  rw [q] at this
                  left; rw [this]
              · exact .inr q
          obtain ⟨r2, up, k, _⟩ := r1.bor x2
          refine ⟨_, up, r2, fun b u h1 h2 e => k b u h1 ?_⟩
          show (match Hbor Hs H' σ env b, Hz b with
            | none, some _ => none
            | _, _ => Hb b) = some u
          cases hh : Hbor Hs H' σ env b with
          | some u' => exact e
          | none =>
            cases hq : Hz b with
            | none => exact e
            | some u2 =>
              have e2 := x.up _ _ hq
              rw [e] at e2
              cases e2
              rcases z3 b u hq with z | ⟨fs, z⟩
              · rw [hh] at z; cases z
              · exact absurd z (h2 fs)
        cases fl with
        | nx as =>
          intro vas H2 Hb x q
          obtain ⟨hn, l⟩ := wk_if w'
          obtain ⟨Hs2, up, r2, kx⟩ := fin x
          show Z.nx ((setAll (σ.set i (some (.ref a))) vas).set i none) H2
          rw [setAll_set]
          exact l _ _ Hs2 up ((r2.setAll (As.outX kx q hn)).setNone i)
        | rt d =>
          intro v H2 Hb x q
          obtain ⟨hn, l⟩ := wk_if w'
          obtain ⟨Hs2, up, r2, kx⟩ := fin x
          exact l v H2 ⟨Hs2, ⟨r2.keep, r2.sub0, r2.sub, r2.new⟩, R.outX kx q hn⟩
      · have w := w
        simp only [if_neg hk] at w
        exact absurd rfl w.bad
end
theorem hc_of {K : PySem.W.Frag} {D : Addr} (h : PySem.W.hasDictIn K D = true) : (PySem.W.clsIn K D).isSome = true := by
  obtain ⟨cd, hc, _⟩ := PySem.W.any_some h
  rw [hc]; rfl
/-! reckoned out -/
section
variable {env : BEnv} {s : Env} {f : BEnv → Res D} {p : BEnv → Res Bool} {fs : BEnv → Res (List D)} {g1 g2 : Env → Res Fl} {u u' : UD} {as : List (Nat × D)} {d : D} {b : Bool} {n : Nat}
@[simp] theorem x_mustE : mustE f env = must (f env) .ok := rfl
@[simp] theorem x_eFnM {den : List D → Res Cell} : eFnM den fs env = must (fs env) fun ds => den ds >>= fun c => .ok c.toD := rfl
@[simp] theorem x_sIfM : sIfM p g1 g2 s = must (p s.borrow) fun b => if b = true then g1 s else g2 s := rfl
@[simp] theorem x_uNil : uNil env as = .ok (.nx as) := rfl
@[simp] theorem x_uSeq : uSeq u u' env as = must (u env as) fun
  | .nx as' => u' env as'
  | .rt d => .ok (.rt d) := rfl
@[simp] theorem x_uSet : uSet n f env as = must (f (setAllB env as)) fun d => .ok (.nx (as ++ [(n, d)])) := rfl
@[simp] theorem x_uRet : uRet f env as = must (f (setAllB env as)) fun d => .ok (.rt d) := rfl
@[simp] theorem x_uIf : uIf p u u' env as = must (p (setAllB env as)) fun b => if b = true then u env as else u' env as := rfl
@[simp] theorem x_isx : isxD b .exn = .ok (.bl b) := rfl
@[simp] theorem x_xat {k : Int} : xatD (some (.int k)) .exn = .ok (.int k) := rfl
@[simp] theorem x_setB_nil : setAllB env [] = env := rfl
@[simp] theorem x_setB_cons {r : List (Nat × D)} : setAllB env ((n, d) :: r) = setAllB (env.set n (some d)) r := rfl
@[simp] theorem x_noXA_nil : noXA [] = true := rfl
@[simp] theorem x_noXA_cons {r : List (Nat × D)} : noXA ((n, d) :: r) = (noX d && noXA r) := rfl
@[simp] theorem x_noX_t {l : List D} : noX (.tup l) = noXs l := by simp [noX]
@[simp] theorem x_noX_b : noX (.bl b) = true := by simp [noX]
@[simp] theorem x_noX_i {i : Int} : noX (.int i) = true := by simp [noX]
@[simp] theorem x_noX_s {i : Str} : noX (.str i) = true := by simp [noX]
@[simp] theorem x_noX_n : noX .non = true := by simp [noX]
@[simp] theorem x_noXs_n : noXs [] = true := by simp [noXs]
@[simp] theorem x_noXs_c {l : List D} : noXs (d :: l) = (noX d && noXs l) := by simp [noXs]
@[simp] theorem x_okY_n : okY none = true := rfl
@[simp] theorem x_okY_i {i : Int} : okY (some (.int i)) = true := rfl
theorem x_try {i : Nat} {cs : List String} {h : String → Option D → UD} : sTry i cs g1 h s = match g1 s with
  | .ok fl => .ok fl
  | .exc k y => if k ∈ cs ∧ okY y = true then must (h k y (s.borrow.set i (some .exn)) []) fun
      | .nx as => if noXA as = true then .ok (.nx ((setAllE s as).set i none)) else .bad
      | .rt d => if noX d = true then .ok (.rt (.val d)) else .bad
    else .bad
  | .bad => .bad := rfl
end
end PL

set_option Elab.async false
set_option linter.all false
set_option maxRecDepth 100000
set_option maxHeartbeats 1000000
namespace PL
open PySem PySem.Spec PyProof.Rows L2
/-! ### == reckoned -/
section
variable {l m : List D} {a b : D} {i j : Int} {x y : Str} {t u : Bool} {n : Nat}
theorem eqD_ok (h1 : eqOk 60 a = true) (h2 : eqOk 60 b = true) : eqD a b = .ok (.bl (deq a b)) := by unfold eqD; rw [if_pos ⟨h1, h2⟩]
theorem neD_ok (h1 : eqOk 60 a = true) (h2 : eqOk 60 b = true) : neD a b = .ok (.bl (!deq a b)) := by unfold neD; rw [if_pos ⟨h1, h2⟩]
@[simp] theorem eqOk_i : eqOk n (.int i) = true := by simp [eqOk]
@[simp] theorem eqOk_b : eqOk n (.bl t) = true := by simp [eqOk]
@[simp] theorem eqOk_n : eqOk n .non = true := by simp [eqOk]
@[simp] theorem eqOk_s : eqOk n (.str x) = PyData.strOk x := by simp [eqOk]
@[simp] theorem eqOk_t : eqOk n (.tup l) = (decide (0 < n) && eqOks (n - 1) l) := by simp [eqOk]
@[simp] theorem eqOk_l : eqOk n (.lst l) = (decide (0 < n) && eqOks (n - 1) l) := by simp [eqOk]
@[simp] theorem eqOks_nil : eqOks n [] = true := by simp [eqOks]
@[simp] theorem eqOks_cons : eqOks n (a :: l) = (eqOk n a && eqOks n l) := by simp [eqOks]
@[simp] theorem deq_i : deq (.int i) (.int j) = (i == j) := by simp [deq, toPy, PyData.eqv]
@[simp] theorem deq_b : deq (.bl t) (.bl u) = (t == u) := by simp [deq, toPy, PyData.eqv]
@[simp] theorem deq_s : deq (.str x) (.str y) = (x == y) := by simp [deq, toPy, PyData.eqv]
@[simp] theorem deq_tt : deq (.tup l) (.tup m) = deqs l m := by simp [deq, deqs, toPy, PyData.eqv]
@[simp] theorem deq_ll : deq (.lst l) (.lst m) = deqs l m := by simp [deq, deqs, toPy, PyData.eqv]
@[simp] theorem deqs_nn : deqs [] [] = true := by simp [deqs, toPys, PyData.eqvAll]
@[simp] theorem deqs_nc : deqs [] (a :: l) = false := by simp [deqs, toPys, PyData.eqvAll]
@[simp] theorem deqs_cn : deqs (a :: l) [] = false := by simp [deqs, toPys, PyData.eqvAll]
@[simp] theorem deqs_cc : deqs (a :: l) (b :: m) = (deq a b && deqs l m) := by simp [deqs, deq, toPys, PyData.eqvAll]
theorem eqOks_ints : ∀ ns : List Int, eqOks n (ns.map D.int) = true
  | [] => by simp
  | k :: ns => by simp [eqOks_ints ns]
theorem deqs_ints : ∀ ns ms : List Int, deqs (ns.map D.int) (ms.map D.int) = (ns == ms)
  | [], [] => by simp
  | [], _ :: _ => by simp
  | _ :: _, [] => by simp
  | k :: ns, j :: ms => by simp [deqs_ints ns ms]
@[simp] theorem eqD_tt : eqD (.tup l) (.tup m) = if eqOks 59 l = true ∧ eqOks 59 m = true then .ok (.bl (deqs l m)) else .bad := by simp [eqD]
@[simp] theorem eqD_ll : eqD (.lst l) (.lst m) = if eqOks 59 l = true ∧ eqOks 59 m = true then .ok (.bl (deqs l m)) else .bad := by simp [eqD]
@[simp] theorem neD_tt : neD (.tup l) (.tup m) = if eqOks 59 l = true ∧ eqOks 59 m = true then .ok (.bl (!deqs l m)) else .bad := by simp [neD]
@[simp] theorem neD_ll : neD (.lst l) (.lst m) = if eqOks 59 l = true ∧ eqOks 59 m = true then .ok (.bl (!deqs l m)) else .bad := by simp [neD]
end
theorem atI_nn {α : Type} {l : List α} {k : Nat} : atI l (k : Int) = l[k]? := by
  unfold atI ixN
  rw [if_pos (Int.natCast_nonneg k)]
  by_cases h : k < l.length
  · rw [if_pos (by omega)]
    show l[(k : Int).toNat]? = _
    rw [Int.toNat_natCast]
  · rw [if_neg (by omega), List.getElem?_eq_none (by omega)]
    rfl

/-! ### a list that stands still from its making -/
def sSetL (i : Nat) (f : BEnv → Res (List D)) : Env → Res Fl := fun env => f env.clean >>= fun l => .ok (.nx (env.set i (some (.val (.lst l)))))
def sSetLB (i : Nat) (f : BEnv → Res (List D)) : Env → Res Fl := fun env => f env.borrow >>= fun l => if noLsts l = true then .ok (.nx (env.set i (some (.val (.lst l))))) else .bad
section
variable {X : Cx} {g : G} {E : XK} {B Hs0 : Hp} {i : Nat} {fo : BEnv → Res (List D)} {D : Ends} {σ : L2.St} {H : Hp}
theorem land_frz {Hs : Hp} {env : Env} {l : List PL.D} (h : SLand g B Hs0 Hs D (.nx (env.set i (some (.val (.lst l)))))) : SLand g B Hs0 Hs D (.nx (env.set i (some (.own l)))) := fun σ' H' Hs' s r => by
  by_cases hi : i < env.length
  · obtain ⟨Hs2, up, r2⟩ := r.frz (i := i) (l := l) (by rw [List.getElem?_set_self hi])
    rw [List.set_set] at r2
    exact h σ' H' Hs2 (s.trans up) r2
  · have hi := Nat.not_lt.mp hi
    rw [List.set_eq_of_length_le hi] at r
    refine h σ' H' Hs' s ?_
    rw [List.set_eq_of_length_le hi]
    exact r
theorem rd_setL (w : SR g E B Hs0 (sSetL i fo) D σ H) : SR g E B Hs0 (sOwn i fo) D σ H := by
  obtain ⟨Hs, env, r, w⟩ := w
  refine ⟨Hs, env, r, ?_⟩
  unfold sSetL at w
  unfold sOwn
  cases q : fo env.clean with
  | ok l => rw [q] at w; exact .of_ok (land_frz w.is_ok)
  | exc c x => rw [q] at w; exact ⟨fun b e => (nomatch e), w.exc, fun e => (nomatch e)⟩
  | bad => rw [q] at w; exact absurd rfl w.bad
theorem rd_setLB (w : SR g E B Hs0 (sSetLB i fo) D σ H) : SR g E B Hs0 (sOwnB i fo) D σ H := by
  obtain ⟨Hs, env, r, w⟩ := w
  refine ⟨Hs, env, r, ?_⟩
  unfold sSetLB at w
  unfold sOwnB
  cases q : fo env.borrow with
  | ok l =>
    rw [q] at w
    by_cases h : noLsts l = true
    · have w' : Wk g E B (.ok (.nx (env.set i (some (.val (.lst l)))))) (SLand g B Hs0 Hs D) := by
        have w := w
        simp only [Res.bind_ok, if_pos h] at w
        exact w
      simp only [Res.bind_ok, if_pos h]
      exact .of_ok (land_frz w'.is_ok)
    · have w := w
      simp only [Res.bind_ok, if_neg h] at w
      exact absurd rfl w.bad
  | exc c x => rw [q] at w; exact ⟨fun b e => (nomatch e), w.exc, fun e => (nomatch e)⟩
  | bad => rw [q] at w; exact absurd rfl w.bad
theorem ss_setL {st : Stmt} (h : PS X st (SR g E B Hs0 (sOwn i fo))) : PS X st (SR g E B Hs0 (sSetL i fo)) := PS_mono h fun _ _ _ w => rd_setL w
theorem ss_setLB {st : Stmt} (h : PS X st (SR g E B Hs0 (sOwnB i fo))) : PS X st (SR g E B Hs0 (sSetLB i fo)) := PS_mono h fun _ _ _ w => rd_setLB w
end
@[simp] theorem x_sSetL {s : Env} {n : Nat} {fo : BEnv → Res (List D)} : sSetL n fo s = (fo s.clean >>= fun l => .ok (.nx (s.set n (some (.val (.lst l)))))) := rfl
@[simp] theorem x_sSetLB {s : Env} {n : Nat} {fo : BEnv → Res (List D)} : sSetLB n fo s = (fo s.borrow >>= fun l => if noLsts l = true then .ok (.nx (s.set n (some (.val (.lst l))))) else .bad) := rfl

section
variable {X : Cx} {g : G} {E : XK} {e a b : Expr} {es : List Expr} {pos p : Pos} {f h : BEnv → Res D} {fs : BEnv → Res (List D)} {x : Str} {n k : Nat} {den : List D → Res Cell}
/-- a def that hands back a list of its own -/
theorem eo_call (F : Fn X.prog X.w X.base g x n k den) (hK : X.K = g.K) (hM : X.mg = g.mg) (hr : Room k X.A) (hx : Passes (L2.CX X.prog X.w) X E) (hg : Gl X x) (ha : PA X (e :: es) (AR g E fs)) (hdb : (x == ("__debug__" : Str)) = false := by decide)
    (he : starEach (e :: es) X.env = (false, eval e X.env) :: starEach es X.env := by rfl) (hpl : (backTo pos (starEach es X.env)).any (·.1) = false := by rfl) : PE X (.Call (.Name x p) (e :: es) [] pos) (EO g E (oFn den fs)) := by
  obtain ⟨f, fd, ps, hn, h1, h2, h3, h4⟩ := F.ex
  rw [← hM] at h1
  rw [← hK] at h2 h3 h4
  rw [← hM] at h4
  refine PE_mono (pe_call h4 hr hg h1 h2 h3 .nil hx ha hdb he hpl) fun σ H Q w => ?_
  obtain ⟨Hs, env, s, rr, w⟩ := w
  unfold oFn at w
  rw [res_assoc] at w
  refine ⟨Hs, env, s, rr, w.bind.mono (Same.refl _) fun ds wd vs H1 Hs1 x1 r1 => ?_⟩
  show spD g n den (vs ++ []) H1 Q E
  rw [List.append_nil]
  refine ⟨Hs1, ds, x1.sub, r1, ?_, wd.bind.mono x1.same fun c wc v H' rt => ?_⟩
  · refine F.ar ds fun z => wd.bad ?_
    rw [z]; rfl
  · cases c with
    | val d => exact absurd rfl wc.bad
    | own l =>
      obtain ⟨b, us, Hs', rfl, x', q1, q2, q3, q4⟩ := rt
      exact wc.is_ok b us H' Hs' (x1.trans x') (x1.same.free q2) q1 q3 q4
/-- {} -/
theorem se_dic : PE X (.Dict [] [] pos) (ER g E (eC .dic)) := PE_mono pe_dnewK fun σ H Q ⟨Hs, env, s, r, w⟩ p np => lands_new w.is_ok s np (.dic upd_same)
/-- a number that stands at the top -/
theorem se_gi {i : Int} (hi : ∃ u, g.mg x = some u ∧ RelV (.int i) u) (hM : X.mg = g.mg) (hg : Gl X x) (hd : (x == ("__debug__" : Str)) = false := by decide) : PE X (.Name x p) (ER g E (eC (.int i))) := by
  obtain ⟨u, h1, h2⟩ := hi
  exact se_c (pe_glob hg (by rw [hM]; exact h1) h2 hd) fun _ => .int i
/-- << >> & -/
def shlD : D → D → Res D := iiD (fun i j => decide (0 ≤ j ∧ j ≤ 1000000 ∧ i.natAbs < 2 ^ 64)) fun i j => .int (i * 2 ^ j.toNat)
def shrD : D → D → Res D := iiD (fun _ j => decide (0 ≤ j)) fun i j => .int (i / 2 ^ j.toNat)
def andD : D → D → Res D := iiD0 fun i j => .int (Builtin.bitAnd i j)
theorem od_shl : OpD g (rI CPow fun i j => V.int (i * 2 ^ j.toNat)) shlD := od_ii (fun i j h => (of_decide_eq_true h : 0 ≤ j ∧ j ≤ 1000000 ∧ i.natAbs < 2 ^ 64)) fun _ _ _ => .int _
theorem od_shr : OpD g (rI (fun _ j => 0 ≤ j) fun i j => V.int (i / 2 ^ j.toNat)) shrD := od_ii (fun i j h => of_decide_eq_true h) fun _ _ _ => .int _
theorem od_and : OpD g (rI0 fun i j => V.int (Builtin.bitAnd i j)) andD := od_ii0 fun _ _ _ => .int _
/-- in, of a list -/
def inD : D → D → Res D
  | a, .lst l => if eqOk 60 a = true ∧ eqOks 59 l = true then .ok (.bl (l.any fun z => deq z a)) else .bad
  | _, _ => .bad
def ninD : D → D → Res D
  | a, .lst l => if eqOk 60 a = true ∧ eqOks 59 l = true then .ok (.bl (!l.any fun z => deq z a)) else .bad
  | _, _ => .bad
theorem toPys_any (q : PyData → Bool) : ∀ l : List D, (toPys l).any q = l.any fun z => q (toPy z)
  | [] => rfl
  | d :: l => by
    show (toPy d :: toPys l).any q = _
    rw [List.any_cons, List.any_cons, toPys_any q l]
theorem od_in : OpD g (rInD g.K) inD := by
  intro Hs H v u a b Q s r1 r2 E w
  cases b with
  | lst l =>
    obtain ⟨⟨h1, h2⟩, l'⟩ := wk_if w
    obtain ⟨d1, s1⟩ := shaped_of (r1.mono s) h1
    obtain ⟨d2, s2⟩ := shaped_of (r2.mono s) (show eqOk 60 (.lst l) = true by simp [h2])
    refine ⟨toPy a, toPys l, d1, d2, s1, s2, ?_⟩
    rw [toPys_any]
    exact l' _ _ _ (Ext.refl s) (.bl _)
  | _ => exact absurd rfl w.bad
theorem od_nin : OpD g (rNotInD g.K) ninD := by
  intro Hs H v u a b Q s r1 r2 E w
  cases b with
  | lst l =>
    obtain ⟨⟨h1, h2⟩, l'⟩ := wk_if w
    obtain ⟨d1, s1⟩ := shaped_of (r1.mono s) h1
    obtain ⟨d2, s2⟩ := shaped_of (r2.mono s) (show eqOk 60 (.lst l) = true by simp [h2])
    refine ⟨toPy a, toPys l, d1, d2, s1, s2, ?_⟩
    rw [toPys_any]
    exact l' _ _ _ (Ext.refl s) (.bl _)
  | _ => exact absurd rfl w.bad
end
@[simp] theorem y_shl {i j : Int} : shlD (.int i) (.int j) = if decide (0 ≤ j ∧ j ≤ 1000000 ∧ i.natAbs < 2 ^ 64) = true then .ok (.int (i * 2 ^ j.toNat)) else .bad := rfl
@[simp] theorem y_shr {i j : Int} : shrD (.int i) (.int j) = if decide (0 ≤ j) = true then .ok (.int (i / 2 ^ j.toNat)) else .bad := rfl
@[simp] theorem y_and {i j : Int} : andD (.int i) (.int j) = .ok (.int (Builtin.bitAnd i j)) := rfl
@[simp] theorem y_in {a : D} {l : List D} : inD a (.lst l) = if eqOk 60 a = true ∧ eqOks 59 l = true then .ok (.bl (l.any fun z => deq z a)) else .bad := rfl
@[simp] theorem y_nin {a : D} {l : List D} : ninD a (.lst l) = if eqOk 60 a = true ∧ eqOks 59 l = true then .ok (.bl (!l.any fun z => deq z a)) else .bad := rfl

/-! ### a, b = e -/
def sUnp (p : Pat) (f : BEnv → Res D) : Env → Res Fl := fun env => f env.clean >>= fun d => must (p d) fun as => .ok (.nx (setAllE env as))
theorem ss_unp {X : Cx} {g : G} {E : XK} {B Hs0 : Hp} {tg e : Expr} {p : Pat} {f : BEnv → Res D} {pos : Pos} (he : PE X e (ER g E f)) (hg : PG X tg (GA g p)) (hs : swapsWithSole [tg] e pos.line X.env = pure false := by rfl) (hw : swappedStores [tg] e X.env = pure none := by rfl) (h1 : (assignEach [tg] X.env).map (·.2) = [assign tg X.env] := by rfl) : PS X (.Assign [tg] e pos) (SR g E B Hs0 (sUnp p f)) :=
  PS_mono (ps_asg he hg hs hw h1) fun D σ H w => clean_then (kd := fun d env => must (p d) fun as => .ok (.nx (setAllE env as))) w fun Hs env d v H r q w => by
    obtain ⟨as, ha, w⟩ := must_wk w
    exact ⟨Hs, d, as, r.sub, q, ha, fun vas ra => nx_end w (r.setAll ra)⟩
@[simp] theorem x_sUnp {p : Pat} {f : BEnv → Res D} {s : Env} : sUnp p f s = (f s.clean >>= fun d => must (p d) fun as => .ok (.nx (setAllE s as))) := rfl
@[simp] theorem x_pTup {q : PatL} {l : List D} : pTup q (.tup l) = q l := rfl
@[simp] theorem x_pNil : pNil [] = .ok [] := rfl
@[simp] theorem x_pCons {p : Pat} {q : PatL} {d : D} {l : List D} : pCons p q (d :: l) = (p d >>= fun a => q l >>= fun b => .ok (a ++ b)) := rfl
/-! walks -/
@[simp] theorem x_iSeq {f : BEnv → Res D} {env : BEnv} : iSeq f env = (f env >>= seqD) := rfl
@[simp] theorem x_seq_t {l : List D} : seqD (.tup l) = .ok l := rfl
@[simp] theorem x_seq_l {l : List D} : seqD (.lst l) = .ok l := rfl
@[simp] theorem x_seq_s {l : List Int} : seqD (.scr l) = .ok (l.map D.int) := rfl
@[simp] theorem x_zip2 {fs : BEnv → Res (List D)} {env : BEnv} : zip2D fs env = (fs env >>= fun ds => match ds with | [d, e] => seqD d >>= fun l => seqD e >>= fun m => .ok (pair2 l m) | _ => .bad) := rfl
@[simp] theorem x_frz {i : Nat} {s : Env → Res Fl} {env : Env} : sFrz i s env = s (frz1 i env) := rfl
@[simp] theorem x_sRetV {i : Nat} {s : Env} : sRetV i s = (match s[i]? with | some (some (.own l)) => .ok (.rt (.own l)) | _ => .bad) := rfl
@[simp] theorem x_ownOnly {l : List D} : ownOnly (.own l) = .ok l := rfl
@[simp] theorem x_sApp {i : Nat} {f : BEnv → Res D} {s : Env} : sApp i f s = ownAt s i fun l => f s.clean >>= fun d => if l.length < 1000000 then .ok (.nx (s.set i (some (.own (l ++ [d]))))) else .bad := rfl
@[simp] theorem x_sAppB {i : Nat} {f : BEnv → Res D} {s : Env} : sAppB i f s = ownAt s i fun l => f s.borrow >>= fun d => if noLst d = true then (if l.length < 1000000 then .ok (.nx (s.set i (some (.own (l ++ [d]))))) else .bad) else .bad := rfl
@[simp] theorem x_ownAt {k : List D → Res Fl} {s : Env} {i : Nat} : ownAt s i k = (match s[i]? with | some (some (.own l)) => k l | _ => .bad) := rfl
/-! ranges -/
def RngOk (j : Int) : Prop := -(2 ^ 62) ≤ j ∧ j < 2 ^ 62
theorem rngOk_of {j : Int} (h1 : -1000000 ≤ j) (h2 : j ≤ 1000000) : RngOk j := by
  unfold RngOk
  have e : (2 : Int) ^ 62 = 4611686018427387904 := by decide
  rw [e]
  exact ⟨by omega, by omega⟩
theorem rngOk_n {n : Nat} (h : n ≤ 1000000) : RngOk (n : Int) := rngOk_of (by omega) (by omega)
open Classical in
noncomputable def rng1K : D → Res (List D)
  | .int j => if RngOk j then .ok (rngD 0 j.toNat) else .bad
  | _ => .bad
open Classical in
noncomputable def rng2K : D → D → Res (List D)
  | .int i, .int j => if RngOk i ∧ RngOk j then .ok (rngD i (j - i).toNat) else .bad
  | _, _ => .bad
theorem x_rng1K {j : Int} (h : RngOk j) : rng1K (.int j) = .ok (rngD 0 j.toNat) := by
  unfold rng1K
  simp only [if_pos h]
theorem x_rng2K {i j : Int} (h : RngOk i) (h2 : RngOk j) : rng2K (.int i) (.int j) = .ok (rngD i (j - i).toNat) := by
  unfold rng2K
  simp only [if_pos (And.intro h h2)]
theorem x_rng1N {n : Nat} (h : n ≤ 1000000) : rng1K (.int (n : Int)) = .ok (rngD 0 n) := by
  rw [x_rng1K (rngOk_n h)]
  rfl
@[simp] theorem x_rng1 {f : BEnv → Res D} {env : BEnv} : iRng1 (aCons f aNil) env = (f env >>= rng1K) := by
  unfold iRng1 aCons aNil
  cases h : f env with
  | ok d =>
    cases d with
    | int j =>
      show (if -(2 ^ 62) ≤ j ∧ j < 2 ^ 62 then Res.ok (rngD 0 j.toNat) else .bad) = rng1K (.int j)
      unfold rng1K
      by_cases h : RngOk j
      · simp only [if_pos h]
        exact if_pos h
      · simp only [if_neg h]
        exact if_neg h
    | _ => rfl
  | _ => rfl
@[simp] theorem x_rng2 {f h : BEnv → Res D} {env : BEnv} : iRng2 (aCons f (aCons h aNil)) env = (f env >>= fun d => h env >>= fun e => rng2K d e) := by
  unfold iRng2 aCons aNil
  cases f env with
  | ok d =>
    cases h env with
    | ok e =>
      cases d with
      | int i =>
        cases e with
        | int j =>
          show (if -(2 ^ 62) ≤ i ∧ i < 2 ^ 62 ∧ -(2 ^ 62) ≤ j ∧ j < 2 ^ 62 then Res.ok (rngD i (j - i).toNat) else .bad) = rng2K (.int i) (.int j)
          unfold rng2K
          by_cases h : RngOk i ∧ RngOk j
          · simp only [if_pos h]
            exact if_pos ⟨h.1.1, h.1.2, h.2.1, h.2.2⟩
          · simp only [if_neg h]
            exact if_neg fun k => h ⟨⟨k.1, k.2.1⟩, k.2.2⟩
        | _ => rfl
      | _ => rfl
    | _ => rfl
  | _ => rfl
end PL

set_option Elab.async false
set_option linter.all false
set_option maxRecDepth 100000
set_option maxHeartbeats 4000000
namespace PL
open PySem PySem.Spec PyProof.Rows L2
theorem tuple_mulS (l : Addr) (items : Array Value) (n : Nat) (dd : Option Addr) (sl : Array (Option Value)) (x : Int) (u : Tok) (c0 : (decide (x < -(2 ^ 63)) || decide (x ≥ 2 ^ 63)) = false) (c1 : (items.isEmpty || x == 1) = true) :
    Meets (Builtin.«tuple.__mul__» ⟨[.ref l, .int x u], []⟩) (fun _ Q s => s.heap.get? l = some { cls := .type "tuple", dict := dd, data := .seq items n, slots := sl } ∧ Q (.ok (.ret (Value.ref l))) s) :=
  .of_wp fun prog w A Q s h => by
    obtain ⟨hp, g, d, tk, os⟩ := s
    obtain ⟨hl, h⟩ := h
    have f1 := AutoSeq1.idx_int
    wp_walk using wpAny_loadPart' hl
    repeat (first
      | (refine wpAny_ite_false (decide_eq_false (by rw [c0]; exact Bool.false_ne_true)) ?_; wp_walk using wpAny_loadPart' hl)
      | (refine wpAny_ite_true (decide_eq_true (by rw [c1])) ?_; wp_walk using wpAny_loadPart' hl))
    exact ⟨_, rfl, h⟩
theorem tuple_mulZ (l : Addr) (items : Array Value) (n : Nat) (dd : Option Addr) (sl : Array (Option Value)) (x : Int) (u : Tok) (c0 : (decide (x < -(2 ^ 63)) || decide (x ≥ 2 ^ 63)) = false) (c1 : (items.isEmpty || x == 1) = false) (c2 : (decide (x ≤ 0) || items.isEmpty) = true) :
    Meets (Builtin.«tuple.__mul__» ⟨[.ref l, .int x u], []⟩) (fun _ Q s => s.heap.get? l = some { cls := .type "tuple", dict := dd, data := .seq items n, slots := sl } ∧
      Q (.ok (.ret (Value.ref s.heap.objs.size))) { s with heap := s.heap.push { cls := Value.type "tuple", data := Data.seq #[] }, toks := s.toks }) :=
  .of_wp fun prog w A Q s h => by
    obtain ⟨hp, g, d, tk, os⟩ := s
    obtain ⟨hl, h⟩ := h
    have f1 := AutoSeq1.idx_int
    wp_walk using wpAny_loadPart' hl
    repeat (first
      | (refine wpAny_ite_false (decide_eq_false (by rw [c0]; exact Bool.false_ne_true)) ?_; wp_walk using wpAny_loadPart' hl)
      | (refine wpAny_ite_false (decide_eq_false (by rw [c1]; exact Bool.false_ne_true)) ?_; wp_walk using wpAny_loadPart' hl)
      | (refine wpAny_ite_true (decide_eq_true (by rw [c2])) ?_; wp_walk using wpAny_loadPart' hl))
    exact ⟨_, rfl, h⟩
def rRepS (K : PySem.W.Frag) : R2 := fun x y H Q => ∃ l k xs, x = .ref l ∧ y = .int k ∧ SqT K H l xs ∧ ((xs = [] ∨ k = 1) ∧ -1000000 ≤ k ∧ k ≤ 1000000) ∧ Q (.ref l) H
def rRepZ (K : PySem.W.Frag) : R2 := fun x y H Q => ∃ l k xs, x = .ref l ∧ y = .int k ∧ SqT K H l xs ∧ xs ≠ [] ∧ (-1000000 ≤ k ∧ k ≤ 0) ∧ ∀ p, H p = none → Q (.ref p) (upd H p (.tup []))
section
variable {X : Cx}
theorem op_repS : OpR X (binaryOp .Mult) (rRepS X.K) := by
  intro pins s σ H x y v u Q I rx ry h
  obtain ⟨l, k, xs, rfl, rfl, hT, ⟨hk, h1, h2⟩, q⟩ := h
  cases rx
  obtain ⟨t, rfl⟩ := ry
  obtain ⟨its, r, ⟨⟨cls, dd, data, sl⟩, ho, hc, n, hd⟩, hs⟩ := I.tuple hT
  simp only at hc hd
  subst hc hd
  have hle : its.length = xs.length := r.length.symm
  have c0 : (decide (k < -(2 ^ 63)) || decide (k ≥ 2 ^ 63)) = false := by
    rw [decide_eq_false (by omega), decide_eq_false (by omega)] <;> rfl
  have c1 : (its.toArray.isEmpty || k == 1) = true := by
    rcases hk with hk | hk
    · rw [hk] at hle
      rw [List.eq_nil_of_length_eq_zero hle]
      rfl
    · rw [hk]
      simp
  refine wpAny_binaryOp_repeat_ref (T := "tuple") (U := "int") (by decide) ⟨_, ho, rfl⟩ (fun s' => typeIs_int s' k t) noFill_tuple_mul F.fills_int_mul F.slot_int_rmul repeat_tuple F.slot_int_index.lookup
    (call_meets F.slot_int_rmul (typeIs_int s k t) F.entry_int_rmul (F.args_int_rmul_2 _ _) (int_rmul_tuple k t l its.toArray n dd sl)
      ⟨ho, rfl, ⟨_, ho, rfl⟩, call_meets F.slot_tuple_mul ⟨_, ho, rfl⟩ F.entry_tuple_mul (F.args_tuple_mul_2 _ _) (tuple_mulS l its.toArray n dd sl k t c0 c1) ⟨ho, ?_⟩⟩)
  exact ⟨.ref l, H, I, rfl, q⟩
theorem op_repZ : OpR X (binaryOp .Mult) (rRepZ X.K) := by
  intro pins s σ H x y v u Q I rx ry h
  obtain ⟨l, k, xs, rfl, rfl, hT, hne, ⟨h1, h2⟩, q⟩ := h
  cases rx
  obtain ⟨t, rfl⟩ := ry
  obtain ⟨its, r, ⟨⟨cls, dd, data, sl⟩, ho, hc, n, hd⟩, hs⟩ := I.tuple hT
  simp only at hc hd
  subst hc hd
  have hle : its.length = xs.length := r.length.symm
  have hn : its ≠ [] := fun e => hne (by
    rw [e] at hle
    exact List.eq_nil_of_length_eq_zero hle.symm)
  have hi : its.toArray.isEmpty = false := by
    cases its with
    | nil => exact absurd rfl hn
    | cons a b => rfl
  have c0 : (decide (k < -(2 ^ 63)) || decide (k ≥ 2 ^ 63)) = false := by
    rw [decide_eq_false (by omega), decide_eq_false (by omega)] <;> rfl
  have c1 : (its.toArray.isEmpty || k == 1) = false := by
    rw [hi, Bool.false_or]
    exact beq_eq_false_iff_ne.mpr (by omega)
  have c2 : (decide (k ≤ 0) || its.toArray.isEmpty) = true := by
    rw [hi, Bool.or_false]
    exact decide_eq_true (by omega)
  refine wpAny_binaryOp_repeat_ref (T := "tuple") (U := "int") (by decide) ⟨_, ho, rfl⟩ (fun s' => typeIs_int s' k t) noFill_tuple_mul F.fills_int_mul F.slot_int_rmul repeat_tuple F.slot_int_index.lookup
    (call_meets F.slot_int_rmul (typeIs_int s k t) F.entry_int_rmul (F.args_int_rmul_2 _ _) (int_rmul_tuple k t l its.toArray n dd sl)
      ⟨ho, rfl, ⟨_, ho, rfl⟩, call_meets F.slot_tuple_mul ⟨_, ho, rfl⟩ F.entry_tuple_mul (F.args_tuple_mul_2 _ _) (tuple_mulZ l its.toArray n dd sl k t c0 c1 c2) ⟨ho, ?_⟩⟩)
  refine ⟨.ref s.heap.objs.size, _, I.laid (t' := s.toks) (o := .tup []) (fun b ob q => Heap.get?_push_of_some _ q) (Nat.le_refl _) ?_, rfl, q _ (I.hok.fresh (Nat.le_refl _))⟩
  exact ⟨Nat.zero_le _, [], .nil, IsTup.new _ _⟩
end
theorem room65 {k : Nat} {A : Around} (r : Room k A) : A.units + 65 < cLine := by have := r.un; omega
/-- * of all sorts -/
def mulX : D → D → Res D
  | .tup a, .int k => if -1000000 ≤ k ∧ k ≤ 1000 ∧ a.length ≤ 1000 then .ok (.tup (List.replicate k.toNat a).flatten) else .bad
  | a, b => mulD a b
abbrev rMulX (K : PySem.W.Frag) : R2 := fun x y H Q => rMulD K x y H Q ∨ (rRepS K x y H Q ∨ rRepZ K x y H Q)
theorem or_mulX {X : Cx} : OpR X (binaryOp .Mult) (rMulX X.K) := or_mul.or (op_repS.or op_repZ)
theorem rep_nil {α : Type} : ∀ n : Nat, (List.replicate n ([] : List α)).flatten = []
  | 0 => rfl
  | n + 1 => by rw [List.replicate_succ, List.flatten_cons, rep_nil n]; rfl
theorem od_mulX {g : G} : OpD g (rMulX g.K) mulX := by
  intro Hs H v u a b Q s r1 r2 E w
  by_cases ht : (∃ l k, a = .tup l ∧ b = .int k)
  · obtain ⟨l, k, rfl, rfl⟩ := ht
    have w : Wk g E H (if -1000000 ≤ k ∧ k ≤ 1000 ∧ l.length ≤ 1000 then Res.ok (.tup (List.replicate k.toNat l).flatten) else .bad) (Lands g Hs H Q) := w
    obtain ⟨⟨h1, h2, h3⟩, L⟩ := wk_if w
    cases r1 with
    | tup h q =>
      cases r2 with
      | int k =>
        by_cases hl : l = []
        · subst hl
          refine .inr (.inl ⟨_, k, _, rfl, rfl, SameT s h, ⟨.inl (by cases q; rfl), h1, by omega⟩, ?_⟩)
          rw [rep_nil] at L
          exact L _ _ _ (Ext.refl s) (.tup h q)
        · have hv : ∀ vs : List V, Rs g Hs vs l → vs ≠ [] := fun vs q e => by
            rw [e] at q
            cases q
            exact hl rfl
          by_cases h4 : k = 1
          · subst h4
            refine .inr (.inl ⟨_, 1, _, rfl, rfl, SameT s h, ⟨.inr rfl, h1, by omega⟩, ?_⟩)
            have e : (List.replicate (1 : Int).toNat l).flatten = l := by simp
            rw [e] at L
            exact L _ _ _ (Ext.refl s) (.tup h q)
          · by_cases h5 : k ≤ 0
            · refine .inr (.inr ⟨_, k, _, rfl, rfl, SameT s h, hv _ q, ⟨h1, h5⟩, fun p np => ?_⟩)
              have e : k.toNat = 0 := by omega
              rw [e] at L
              exact lands_new L s np (.tup (.inl (.inl upd_same)) .nil)
            · refine .inl (.inr (.inr ⟨_, k, _, rfl, rfl, SameT s h, hv _ q, by omega, h2, by rw [q.length]; exact h3, fun p np => ?_⟩))
              exact lands_new L s np (.tup (.inl (.inl upd_same)) ((q.rep _).mono (same_upd (s.free np))))
  · have e : mulX a b = mulD a b := by
      unfold mulX
      split
      · rename_i l k
        exact absurd ⟨l, k, rfl, rfl⟩ ht
      · rfl
    rw [e] at w
    exact .inl (od_mul Hs H v u a b Q s r1 r2 E w)
@[simp] theorem z_mul {i j : Int} : mulX (.int i) (.int j) = if mulOk i j = true then .ok (.int (i * j)) else .bad := rfl
@[simp] theorem z_mul_l {a : List D} {i : Int} : mulX (.lst a) (.int i) = if 0 ≤ i ∧ i ≤ 1000 ∧ a.length ≤ 1000 then .ok (.lst (List.replicate i.toNat a).flatten) else .bad := rfl
@[simp] theorem z_mul_t {a : List D} {i : Int} : mulX (.tup a) (.int i) = if -1000000 ≤ i ∧ i ≤ 1000 ∧ a.length ≤ 1000 then .ok (.tup (List.replicate i.toNat a).flatten) else .bad := rfl
end PL

set_option Elab.async false
set_option linter.all false
set_option maxRecDepth 100000
set_option maxHeartbeats 1000000
namespace PL
open PySem PySem.Spec PyProof.Rows L2

/-! ### what is not reached -/
def sBad : Env → Res Fl := fun _ => .bad
theorem ss_bad {X : Cx} {g : G} {E : XK} {B Hs0 : Hp} {st : Stmt} : PS X st (SR g E B Hs0 sBad) := ⟨fun _ _ _ _ _ _ w => by
  obtain ⟨_, _, _, w⟩ := w
  exact absurd rfl w.bad⟩
@[simp] theorem x_sBad {env : Env} : sBad env = .bad := rfl

/-! ### the class Cutting -/
structure CutC (g : G) : Prop where
  cls : Cls g.K g.cC
  w : NoAttr g.K g.cC "wide"
  r : NoAttr g.K g.cC "rows"
def wideD : D → Res D
  | .cut n _ => .ok (.int n)
  | _ => .bad
def rowsD : D → Res D
  | .cut _ l => .ok (.tup l)
  | _ => .bad
@[simp] theorem y_wide {n : Int} {l : List D} : wideD (.cut n l) = .ok (.int n) := rfl
@[simp] theorem y_rows {n : Int} {l : List D} : rowsD (.cut n l) = .ok (.tup l) := rfl
section
variable {X : Cx} {g : G} {E : XK} {o e : Expr} {es : List Expr} {pos apos p : Pos} {f : BEnv → Res D} {fs : BEnv → Res (List D)}
theorem se_wide (c : CutC g) (hK : X.K = g.K) (he : PE X o (ER g E f)) (hb : attributeBase o "wide" X.env (eval o X.env) = eval o X.env := by rfl) : PE X (.Attribute o "wide" pos) (ER g E (e1 wideD f)) :=
  PE_mono (pe_fld he hb) fun σ H Q w => by
    refine one (r := fun x H1 Q => ∃ a C dx fs v, x = .ref a ∧ H1 a = some (.ins C dx fs) ∧ Cls X.K C ∧ NoAttr X.K C "wide" ∧ fs.lookup ("wide" : Str) = some v ∧ Q v H1) (fun Hs H v d Q s r E w => ?_) w
    cases r with
    | cut h k q => exact ⟨_, _, _, _, _, rfl, s _ _ h, hK ▸ c.cls, hK ▸ c.w, rfl, w.is_ok _ _ _ (Ext.refl s) (.int _)⟩
    | _ => exact absurd rfl w.bad
theorem se_rows (c : CutC g) (hK : X.K = g.K) (he : PE X o (ER g E f)) (hb : attributeBase o "rows" X.env (eval o X.env) = eval o X.env := by rfl) : PE X (.Attribute o "rows" pos) (ER g E (e1 rowsD f)) :=
  PE_mono (pe_fld he hb) fun σ H Q w => by
    refine one (r := fun x H1 Q => ∃ a C dx fs v, x = .ref a ∧ H1 a = some (.ins C dx fs) ∧ Cls X.K C ∧ NoAttr X.K C "rows" ∧ fs.lookup ("rows" : Str) = some v ∧ Q v H1) (fun Hs H v d Q s r E w => ?_) w
    cases r with
    | cut h k q => exact ⟨_, _, _, _, _, rfl, s _ _ h, hK ▸ c.cls, hK ▸ c.r, rfl, w.is_ok _ _ _ (Ext.refl s) (.tup k q)⟩
    | _ => exact absurd rfl w.bad

/-- a method's def -/
structure FnM (P : Program) (w : World) (base : Heap) (g : G) (m : Str) (n k : Nat) (den : List D → Res Cell) : Prop where
  ar : ∀ ds, den ds ≠ .bad → ds.length = n
  no : m ≠ "wide" ∧ m ≠ "rows"
  ex : ∃ f fd ps, ps.length = n ∧ Meth g.K g.cC m f ∧ Binds g.K fd ps [] ∧ FnOk P w g.K g.mg base (L2.CX P w) k f fd ps (spD g n den)
theorem FnM.mono {P : Program} {w : World} {base : Heap} {g : G} {m : Str} {n k k' : Nat} {den : List D → Res Cell} (F : FnM P w base g m n k den) (h : k ≤ k') : FnM P w base g m n k' den := by
  obtain ⟨f, fd, ps, hn, a, b, d⟩ := F.ex
  exact ⟨F.ar, F.no, f, fd, ps, hn, a, b, d.mono h⟩
def cutOf : D → Res (Int × List D)
  | .cut n l => .ok (n, l)
  | _ => .bad
def eMeth (den : List D → Res Cell) (f : BEnv → Res D) (fs : BEnv → Res (List D)) : BEnv → Res D := fun env => f env >>= fun d => cutOf d >>= fun nl => fs env >>= fun ds => den (.cut nl.1 nl.2 :: ds) >>= fun c => .ok c.toD
def oMeth (den : List D → Res Cell) (f : BEnv → Res D) (fs : BEnv → Res (List D)) : BEnv → Res (List D) := fun env => f env >>= fun d => cutOf d >>= fun nl => fs env >>= fun ds => den (.cut nl.1 nl.2 :: ds) >>= ownOnly
@[simp] theorem x_eMeth {den : List D → Res Cell} {env : BEnv} : eMeth den f fs env = (f env >>= fun d => cutOf d >>= fun nl => fs env >>= fun ds => den (.cut nl.1 nl.2 :: ds) >>= fun c => .ok c.toD) := rfl
@[simp] theorem x_oMeth {den : List D → Res Cell} {env : BEnv} : oMeth den f fs env = (f env >>= fun d => cutOf d >>= fun nl => fs env >>= fun ds => den (.cut nl.1 nl.2 :: ds) >>= ownOnly) := rfl
@[simp] theorem x_cutOf {n : Int} {l : List D} : cutOf (.cut n l) = .ok (n, l) := rfl
variable {P : Program} {w : World} {base : Heap} {m : Str} {n k : Nat} {den : List D → Res Cell} {pl : Sem Bool}
theorem look_cut {t : Addr} {n : Int} (no : m ≠ "wide" ∧ m ≠ "rows") : ([("wide", V.int n), ("rows", V.ref t)] : List (Str × V)).lookup m = none := by
  have e1 : (m == ("wide" : Str)) = false := by simpa using no.1
  have e2 : (m == ("rows" : Str)) = false := by simpa using no.2
  simp [List.lookup, e1, e2]
/-- a method called in a try's body: what it lets out comes at the slots that stand -/
def tMethS (C : Addr) (m : Str) (sp : Sp) (E : L2.St → XK) (ta : TE) (t : TA) : TE := fun σ H Q => ta σ H fun x H1 => ∃ a dx fs, x = .ref a ∧ H1 a = some (.ins C dx fs) ∧ fs.lookup m = none ∧
  t σ H1 fun vs H2 => sp (x :: vs) H2 Q (E σ)
theorem pe_methS {X : Cx} {CX : CXT} {k : Nat} {fa C : Addr} {fd : FuncData} {ps : List Str} {sp : Sp} {E : L2.St → XK} {m : Str} {pos apos : Pos} {e o : Expr} {es : List Expr} {ta : TE} {t : TA} {pl : Sem Bool} (he : PE X o ta) (c : Cls X.K C) (hm : Meth X.K C m fa) (F : FnOk X.prog X.w X.K X.mg X.base CX k fa fd ps sp) (hr : Room k X.A) (hb : Binds X.K fd ps []) (hx : ∀ σ, PassesAt CX X σ (E σ)) (ha : PA X (e :: es) t)
    (hst : starEach (e :: es) X.env = (false, eval e X.env) :: starEach es X.env := by rfl) (hpl : (backTo pos (starEach es X.env)).any (·.1) = false := by rfl)
    (ht : eval (.Call (.Attribute o m apos) (e :: es) [] pos) X.env = (do
      let ov ← eval o X.env
      standAt apos.atName
      let (f, first) ← holding [ov] (getMethod ov m pl)
      callWith pos f first (backTo pos (starEach (e :: es) X.env)) (backToKw pos (keywordEach [] X.env))) := by rfl) :
    PE X (.Call (.Attribute o m apos) (e :: es) [] pos) (tMethS C m sp E ta t) := by
  refine ⟨fun pins s σ H Q I h => ?_⟩
  refine PySem.W.methodCall_KW (pl := pl) (thn (he.run pins s σ H _ I h) fun u s1 ⟨x, H1, I1, rx, a, dx, fs, ex, ea, l, q⟩ => ?_) ht
  subst ex
  obtain rfl : u = Value.ref a := rx
  refine getmeth_ok I1 ea c hm l ?_
  refine PySem.W.callWith_K (first := [.ref a]) (h₀ := X.base) I.ok.mod.kin hm.kp (thn (ha.run pos pins s1 σ H1 _ I1 q) fun us s2 ⟨vs, H2, I2, r, q2⟩ => ⟨I2.kIn, ?_⟩) hst hpl
  exact run_fnS (us := .ref a :: us) (vs := .ref a :: vs) F hr hb (hx σ) I2 (.cons rfl r) q2
variable {W : WX}
def eMethM (den : List D → Res Cell) (f : BEnv → Res D) (fs : BEnv → Res (List D)) : BEnv → Res D := fun env => must (f env) fun d => cutOf d >>= fun nl => must (fs env) fun ds => den (.cut nl.1 nl.2 :: ds) >>= fun c => .ok c.toD
@[simp] theorem x_eMethM {den : List D → Res Cell} {env : BEnv} : eMethM den f fs env = must (f env) fun d => cutOf d >>= fun nl => must (fs env) fun ds => den (.cut nl.1 nl.2 :: ds) >>= fun c => .ok c.toD := rfl
theorem cut_end {Hs Hs1 Hs2 H H1 H2 : Hp} {ds : List D} {vs : List V} {v : V} {nn : Int} {ll : List D} {Q : VK} {E : XK} (ar : ∀ ds, den ds ≠ .bad → ds.length = n) (x1 : Ext Hs H Hs1 H1) (x2 : Ext Hs1 H1 Hs2 H2) (r1 : R g Hs1 v (.cut nn ll)) (r2 : Rs g Hs2 vs ds) (w : Wk g E H (den (.cut nn ll :: ds) >>= fun c => Res.ok c.toD) (Lands g Hs H Q)) : spD g n den (v :: (vs ++ [])) H2 Q E := by
  rw [List.append_nil]
  refine ⟨Hs2, .cut nn ll :: ds, x2.sub, .cons (r1.mono x2.up) r2, ?_, w.bind.mono (x1.same.trans x2.same) fun c wc v H' rt => ?_⟩
  · refine ar _ fun z => w.bad ?_
    rw [z]; rfl
  · obtain ⟨Hs', x', r'⟩ := rt.toD
    exact wc.is_ok v H' Hs' (x1.trans (x2.trans x')) r'
theorem cut_endO {Hs Hs1 Hs2 H H1 H2 : Hp} {ds : List D} {vs : List V} {v : V} {nn : Int} {ll : List D} {Q : VK} {E : XK} (ar : ∀ ds, den ds ≠ .bad → ds.length = n) (x1 : Ext Hs H Hs1 H1) (x2 : Ext Hs1 H1 Hs2 H2) (r1 : R g Hs1 v (.cut nn ll)) (r2 : Rs g Hs2 vs ds) (w : Wk g E H (den (.cut nn ll :: ds) >>= ownOnly) (LandsO g Hs H Q)) : spD g n den (v :: (vs ++ [])) H2 Q E := by
  rw [List.append_nil]
  refine ⟨Hs2, .cut nn ll :: ds, x2.sub, .cons (r1.mono x2.up) r2, ?_, w.bind.mono (x1.same.trans x2.same) fun c wc v H' rt => ?_⟩
  · refine ar _ fun z => w.bad ?_
    rw [z]; rfl
  · cases c with
    | val d => exact absurd rfl wc.bad
    | own l =>
      obtain ⟨b, us, Hs', rfl, x', q1, q2, q3, q4⟩ := rt
      exact wc.is_ok b us H' Hs' (x1.trans (x2.trans x')) ((x1.trans x2).same.free q2) q1 q3 q4
theorem se_meth (F : FnM X.prog X.w X.base g m n k den) (c : CutC g) (hK : X.K = g.K) (hM : X.mg = g.mg) (hr : Room k X.A) (hx : Passes (L2.CX X.prog X.w) X E) (ho : PE X o (ER g E f)) (ha : PA X (e :: es) (AR g E fs))
    (hst : starEach (e :: es) X.env = (false, eval e X.env) :: starEach es X.env := by rfl) (hpl : (backTo pos (starEach es X.env)).any (·.1) = false := by rfl)
    (ht : eval (.Call (.Attribute o m apos) (e :: es) [] pos) X.env = (do
      let ov ← eval o X.env
      standAt apos.atName
      let (f, first) ← holding [ov] (getMethod ov m pl)
      callWith pos f first (backTo pos (starEach (e :: es) X.env)) (backToKw pos (keywordEach [] X.env))) := by rfl) :
    PE X (.Call (.Attribute o m apos) (e :: es) [] pos) (ER g E (eMeth den f fs)) := by
  obtain ⟨fa, fd, ps, hn, h1, h3, h4⟩ := F.ex
  rw [← hK] at h1 h3 h4
  rw [← hM] at h4
  refine PE_mono (pe_meth ho (by rw [hK]; exact c.cls) h1 h4 hr h3 .nil hx ha hst hpl ht) fun σ H Q w => ?_
  obtain ⟨Hs, env, s, rr, w⟩ := w
  refine ⟨Hs, env, s, rr, w.bind.mono (Same.refl _) fun d wd v H1 Hs1 x1 r1 => ?_⟩
  cases r1 with
  | cut h k' q =>
    refine ⟨_, _, _, rfl, x1.sub _ _ h, look_cut F.no, ?_⟩
    refine ⟨Hs1, env, x1.sub, rr.mono x1.up, (Wk.bind (show Wk g E H (fs env >>= _) _ from wd)).mono x1.same fun ds wds vs H2 Hs2 x2 r2 => ?_⟩
    exact cut_end F.ar x1 x2 (.cut h k' q) r2 wds
  | _ => exact absurd rfl wd.bad
theorem eo_meth (F : FnM X.prog X.w X.base g m n k den) (c : CutC g) (hK : X.K = g.K) (hM : X.mg = g.mg) (hr : Room k X.A) (hx : Passes (L2.CX X.prog X.w) X E) (ho : PE X o (ER g E f)) (ha : PA X (e :: es) (AR g E fs))
    (hst : starEach (e :: es) X.env = (false, eval e X.env) :: starEach es X.env := by rfl) (hpl : (backTo pos (starEach es X.env)).any (·.1) = false := by rfl)
    (ht : eval (.Call (.Attribute o m apos) (e :: es) [] pos) X.env = (do
      let ov ← eval o X.env
      standAt apos.atName
      let (f, first) ← holding [ov] (getMethod ov m pl)
      callWith pos f first (backTo pos (starEach (e :: es) X.env)) (backToKw pos (keywordEach [] X.env))) := by rfl) :
    PE X (.Call (.Attribute o m apos) (e :: es) [] pos) (EO g E (oMeth den f fs)) := by
  obtain ⟨fa, fd, ps, hn, h1, h3, h4⟩ := F.ex
  rw [← hK] at h1 h3 h4
  rw [← hM] at h4
  refine PE_mono (pe_meth ho (by rw [hK]; exact c.cls) h1 h4 hr h3 .nil hx ha hst hpl ht) fun σ H Q w => ?_
  obtain ⟨Hs, env, s, rr, w⟩ := w
  refine ⟨Hs, env, s, rr, w.bind.mono (Same.refl _) fun d wd v H1 Hs1 x1 r1 => ?_⟩
  cases r1 with
  | cut h k' q =>
    refine ⟨_, _, _, rfl, x1.sub _ _ h, look_cut F.no, ?_⟩
    refine ⟨Hs1, env, x1.sub, rr.mono x1.up, (Wk.bind (show Wk g E H (fs env >>= _) _ from wd)).mono x1.same fun ds wds vs H2 Hs2 x2 r2 => ?_⟩
    exact cut_endO F.ar x1 x2 (.cut h k' q) r2 wds
  | _ => exact absurd rfl wd.bad
theorem se_meth0 (F : FnM X.prog X.w X.base g m n k den) (c : CutC g) (hK : X.K = g.K) (hM : X.mg = g.mg) (hr : Room k X.A) (hx : Passes (L2.CX X.prog X.w) X E) (ho : PE X o (ER g E f)) (ht : eval (.Call (.Attribute o m apos) [] [] pos) X.env = (do
      let ov ← eval o X.env
      standAt apos.atName
      let (f, first) ← holding [ov] (getMethod ov m pl)
      callWith pos f first (backTo pos (starEach [] X.env)) (backToKw pos (keywordEach [] X.env))) := by rfl) :
    PE X (.Call (.Attribute o m apos) [] [] pos) (ER g E (eMeth den f aNil)) := by
  obtain ⟨fa, fd, ps, hn, h1, h3, h4⟩ := F.ex
  rw [← hK] at h1 h3 h4
  rw [← hM] at h4
  refine PE_mono (pe_meth0 ho (by rw [hK]; exact c.cls) h1 h4 hr h3 .nil hx ht) fun σ H Q w => ?_
  obtain ⟨Hs, env, s, rr, w⟩ := w
  refine ⟨Hs, env, s, rr, w.bind.mono (Same.refl _) fun d wd v H1 Hs1 x1 r1 => ?_⟩
  cases r1 with
  | cut h k' q =>
    refine ⟨_, _, _, rfl, x1.sub _ _ h, look_cut F.no, ?_⟩
    exact cut_end F.ar x1 (Ext.refl x1.sub) (.cut h k' q) .nil wd
  | _ => exact absurd rfl wd.bad
theorem eo_meth0 (F : FnM X.prog X.w X.base g m n k den) (c : CutC g) (hK : X.K = g.K) (hM : X.mg = g.mg) (hr : Room k X.A) (hx : Passes (L2.CX X.prog X.w) X E) (ho : PE X o (ER g E f)) (ht : eval (.Call (.Attribute o m apos) [] [] pos) X.env = (do
      let ov ← eval o X.env
      standAt apos.atName
      let (f, first) ← holding [ov] (getMethod ov m pl)
      callWith pos f first (backTo pos (starEach [] X.env)) (backToKw pos (keywordEach [] X.env))) := by rfl) :
    PE X (.Call (.Attribute o m apos) [] [] pos) (EO g E (oMeth den f aNil)) := by
  obtain ⟨fa, fd, ps, hn, h1, h3, h4⟩ := F.ex
  rw [← hK] at h1 h3 h4
  rw [← hM] at h4
  refine PE_mono (pe_meth0 ho (by rw [hK]; exact c.cls) h1 h4 hr h3 .nil hx ht) fun σ H Q w => ?_
  obtain ⟨Hs, env, s, rr, w⟩ := w
  refine ⟨Hs, env, s, rr, w.bind.mono (Same.refl _) fun d wd v H1 Hs1 x1 r1 => ?_⟩
  cases r1 with
  | cut h k' q =>
    refine ⟨_, _, _, rfl, x1.sub _ _ h, look_cut F.no, ?_⟩
    exact cut_endO F.ar x1 (Ext.refl x1.sub) (.cut h k' q) .nil wd
  | _ => exact absurd rfl wd.bad
theorem bw_meth (F : FnM X.prog X.w X.base g m n k den) (c : CutC g) (hK : X.K = g.K) (hM : X.mg = g.mg) (hr : Room k X.A) (tk : Takes X W) (ho : PE X o (ER g EN f)) (ha : PA X (e :: es) (AR g EN fs))
    (hst : starEach (e :: es) X.env = (false, eval e X.env) :: starEach es X.env := by rfl) (hpl : (backTo pos (starEach es X.env)).any (·.1) = false := by rfl)
    (ht : eval (.Call (.Attribute o m apos) (e :: es) [] pos) X.env = (do
      let ov ← eval o X.env
      standAt apos.atName
      let (f, first) ← holding [ov] (getMethod ov m pl)
      callWith pos f first (backTo pos (starEach (e :: es) X.env)) (backToKw pos (keywordEach [] X.env))) := by rfl) :
    PE X (.Call (.Attribute o m apos) (e :: es) [] pos) (ERW g W (eMethM den f fs)) := by
  obtain ⟨fa, fd, ps, hn, h1, h3, h4⟩ := F.ex
  rw [← hK] at h1 h3 h4
  rw [← hM] at h4
  refine PE_mono (pe_methS (E := WE W) ho (by rw [hK]; exact c.cls) h1 h4 hr h3 (passAt tk) ha hst hpl ht) fun σ H Q w => ?_
  obtain ⟨Hs, env, s, rr, w⟩ := w
  obtain ⟨d, hd, w⟩ := must_wk w
  refine ⟨Hs, env, s, rr, .of_ne hd fun v H1 Hs1 x1 r1 => ?_⟩
  cases r1 with
  | cut h k' q =>
    refine ⟨_, _, _, rfl, x1.sub _ _ h, look_cut F.no, ?_⟩
    obtain ⟨ds, hds, w⟩ := must_wk w
    refine ⟨Hs1, env, x1.sub, rr.mono x1.up, .of_ne hds fun vs H2 Hs2 x2 r2 => ?_⟩
    have := cut_end (Q := Q) (E := WE W σ) F.ar x1 x2 (.cut h k' q) r2 w
    rwa [List.append_nil] at this
  | _ => exact absurd rfl w.bad
end

/-! ### Cutting(..) -/
def spInit (g : G) (den : List D → Res D) : Sp := fun vs H Q E => ∃ (x dx : Addr) (vs' : List V) (Hs H0 : Hp) (ds : List D), vs = .ref x :: vs' ∧ H = upd (upd H0 dx (.own x)) x (.ins g.cC dx []) ∧ H0 x = none ∧ H0 dx = none ∧ dx ≠ x ∧ Same Hs H0 ∧ Rs g Hs vs' ds ∧ ds.length = 2 ∧
  Wk g E H0 (den ds) (fun d => ∀ H' Hs', Ext Hs H0 Hs' H' → R g Hs' (.ref x) d → Q .non H')
structure MkF (P : Program) (w : World) (base : Heap) (g : G) (k : Nat) (den : List D → Res D) : Prop where
  hm : g.mg "Cutting" = some (.ref g.cC)
  c : CutC g
  ex : ∃ f fd ps, Mk g.K g.cC f ∧ Binds g.K fd ps [] ∧ FnOk P w g.K g.mg base (L2.CX P w) k f fd ps (spInit g den)
section
variable {X : Cx} {g : G} {E : XK} {e e2 : Expr} {pos p : Pos} {fs : BEnv → Res (List D)} {k : Nat} {den : List D → Res D} {W : WX}
theorem make_end {Hs H : Hp} {ds : List D} {vs : List V} {Q : VK} {E : XK} (hl : ds.length = 2) (s : Same Hs H) (r : Rs g Hs vs ds) {P : D → Prop} (w : Wk g E H (den ds) P) (hP : ∀ d, P d → ∀ x H' Hs', Ext Hs H Hs' H' → R g Hs' (.ref x) d → Q (.ref x) H') :
    ∀ x dx, H x = none → H dx = none → dx ≠ x → spInit g den (.ref x :: (vs ++ [])) (upd (upd H dx (.own x)) x (.ins g.cC dx [])) (fun v H2 => v = .non ∧ Q (.ref x) H2) E := fun x dx h1 h2 h3 => by
  rw [List.append_nil]
  exact ⟨x, dx, vs, Hs, H, ds, rfl, rfl, h1, h2, h3, s, r, hl, w.mono (Same.refl _) fun d pd H' Hs' x' r' => ⟨rfl, hP d pd _ H' Hs' x' r'⟩⟩
def eMake (den : List D → Res D) (fs : BEnv → Res (List D)) : BEnv → Res D := fun env => fs env >>= fun ds => if ds.length = 2 then den ds else .bad
def eMakeM (den : List D → Res D) (fs : BEnv → Res (List D)) : BEnv → Res D := fun env => must (fs env) fun ds => if ds.length = 2 then den ds else .bad
@[simp] theorem x_eMake {env : BEnv} : eMake den fs env = (fs env >>= fun ds => if ds.length = 2 then den ds else .bad) := rfl
@[simp] theorem x_eMakeM {env : BEnv} : eMakeM den fs env = must (fs env) fun ds => if ds.length = 2 then den ds else .bad := rfl
theorem se_make (F : MkF X.prog X.w X.base g k den) (hK : X.K = g.K) (hM : X.mg = g.mg) (hr : Room (k + 1) X.A) (hx : Passes (L2.CX X.prog X.w) X E) (hg : Gl X "Cutting") (ha : PA X [e, e2] (AR g E fs))
    (he : starEach [e, e2] X.env = (false, eval e X.env) :: starEach [e2] X.env := by rfl) (hpl : (backTo pos (starEach [e2] X.env)).any (·.1) = false := by rfl) : PE X (.Call (.Name "Cutting" p) [e, e2] [] pos) (ER g E (eMake den fs)) := by
  obtain ⟨f, fd, ps, h1, h3, h4⟩ := F.ex
  rw [← hK] at h1 h3 h4
  rw [← hM] at h4
  refine PE_mono (pe_make h1 h4 hr hg (by rw [hM]; exact F.hm) h3 .nil hx ha (by decide) he hpl) fun σ H Q w => ?_
  obtain ⟨Hs, env, s, rr, w⟩ := w
  refine ⟨Hs, env, s, rr, w.bind.mono (Same.refl _) fun ds wd vs H1 Hs1 x1 r1 => ?_⟩
  by_cases hl : ds.length = 2
  · rw [if_pos hl] at wd
    exact make_end hl x1.sub r1 (wd.mono x1.same fun _ h => h) fun d pd x H' Hs' x' r' => pd _ H' Hs' (x1.trans x') r'
  · rw [if_neg hl] at wd; exact absurd rfl wd.bad
/-- in a try's body -/
theorem bw_make (F : MkF X.prog X.w X.base g k den) (hK : X.K = g.K) (hM : X.mg = g.mg) (hr : Room (k + 1) X.A) (tk : Takes X W) (hg : Gl X "Cutting") (ha : PA X [e, e2] (AR g EN fs))
    (he : starEach [e, e2] X.env = (false, eval e X.env) :: starEach [e2] X.env := by rfl) (hpl : (backTo pos (starEach [e2] X.env)).any (·.1) = false := by rfl) : PE X (.Call (.Name "Cutting" p) [e, e2] [] pos) (ERW g W (eMakeM den fs)) := by
  obtain ⟨f, fd, ps, h1, h3, h4⟩ := F.ex
  rw [← hK] at h1 h3 h4
  rw [← hM] at h4
  refine ⟨fun pins s σ H Q I w => ?_⟩
  obtain ⟨Hs, env, sm, rr, w⟩ := w
  obtain ⟨ds, hds, w⟩ := must_wk w
  refine wpAny_Call_Name_kw (ld_glob I hg (by rw [hM]; exact F.hm) ?_ (by decide))
  refine PySem.W.callWith_K (h₀ := X.base) I.ok.mod.kin h1.kp (thn (ha.run pos pins s σ H (fun vs H1 => ∀ x dx, H1 x = none → H1 dx = none → dx ≠ x → spInit g den (.ref x :: (vs ++ [])) (upd (upd H1 dx (.own x)) x (.ins g.cC dx [])) (fun v H2 => v = .non ∧ Q (.ref x) H2) (WE W σ)) I ?_) fun us s1 ⟨vs, H1, I1, r, q⟩ => ⟨I1.kIn, ?_⟩) he hpl
  · refine ⟨Hs, env, sm, rr, .of_ne hds fun vs H1 Hs1 x1 r1 => ?_⟩
    by_cases hl : ds.length = 2
    · rw [if_pos hl] at w
      exact make_end hl x1.sub r1 (w.mono x1.same fun _ h => h) fun d pd x H' Hs' x' r' => pd _ H' Hs' (x1.trans x') r'
    · rw [if_neg hl] at w; exact absurd rfl w.bad
  · have hr' := hr
    have hq := q (s1.heap.objs.size + 1) s1.heap.objs.size (I1.hok.fresh (Nat.le_succ _)) (I1.hok.fresh (Nat.le_refl _)) (Nat.ne_of_lt (Nat.lt_succ_self _))
    have I2 := Inv.made (C := g.cC) I1
    have r2 : Vals (V.ref (s1.heap.objs.size + 1) :: (vs ++ [])) (Value.ref (s1.heap.objs.size + 1) :: us) := .cons rfl (by rw [List.append_nil]; exact r)
    have hl : (Value.ref (s1.heap.objs.size + 1) :: us ++ ([] : List Value)).length = ps.length := by
      have e := r2.length
      rw [h4.len _ _ _ _ hq] at e
      rw [List.append_nil]
      exact e.symm
    refine wpAny_call (make_map (f := f) I1.kIn h1.makes h1.init (beq_iff_eq.mp h1.fn) (codeAny_mono (h4.run _ X.stack _ _ ⟨Value.ref (s1.heap.objs.size + 1) :: us, []⟩ (Value.ref (s1.heap.objs.size + 1) :: us) _ _ (WE W σ) (hr.make g.cC us [])
      (I2.env0.make g.cC us []) (by have := h3 _ (Value.ref (s1.heap.objs.size + 1) :: us) I2.kIn hl; rwa [List.append_nil] at this) r2 hq) fun r s' hq' => ?_))
    cases r with
    | error e => exact passAt tk σ pins _ _ e s' I2 hq'
    | ok fl =>
      cases fl with
      | ret u =>
        obtain ⟨v, H', I3, rv, ev, q3⟩ := I2.after hq'
        subst ev
        exact ⟨rv, ⟨V.ref (s1.heap.objs.size + 1), H', I3, rfl, q3⟩⟩
      | next => exact False.elim hq'
      | brk => exact False.elim hq'
      | cont => exact False.elim hq'
end
/-! ### its __init__ -/
def mkCut : D → D → Res D
  | .int n, .lst l => .ok (.cut n l)
  | _, _ => .bad
def initD (chk : List D → Res Cell) : List D → Res D
  | [a, b] => chk [a, b] >>= fun _ => mkCut a b
  | _ => .bad
theorem x_initD {chk : List D → Res Cell} {a b : D} : initD chk [a, b] = (chk [a, b] >>= fun _ => mkCut a b) := rfl
@[simp] theorem x_mkCut {n : Int} {l : List D} : mkCut (.int n) (.lst l) = .ok (.cut n l) := rfl
abbrev tInit (g : G) (E : XK) (chk : List D → Res Cell) : TS := tSeq (tDrop (ER g E (eFn chk (aCons (eVar 1) (aCons (eVar 2) aNil))))) (tSeq (sFld g.K (tVar 0) (tVar 1) "wide") (sFld g.K (tVar 0) (ER g E (eCall tupleD (aCons (eVar 2) aNil))) "rows"))
theorem init_read {g : G} {H : Hp} {vs : List V} {Q : VK} {E : XK} {chk : List D → Res Cell} (c : CutC g) (h : spInit g (initD chk) vs H Q E) :
    tInit g E chk { nx := fun _ H' => Q .non H', rt := Q } (L2.start ["self", "dims", "cuts"] vs) H := by
  obtain ⟨x, dx, vs', Hs, H0, ds, rfl, rfl, nx, ndx, ne, s, r, hl, w⟩ := h
  match ds, hl with
  | [d1, d2], _ =>
  obtain ⟨⟩ | ⟨r1, r⟩ := r
  obtain ⟨⟩ | ⟨r2, r⟩ := r
  cases r
  rename_i v1 v2
  have s01 : Same H0 (upd (upd H0 dx (.own x)) x (.ins g.cC dx [])) := fun b o e => by
    rw [upd_ne (ne_of_none e nx), upd_ne (ne_of_none e ndx)]
    exact e
  have er : EnvR g Hs (L2.start ["self", "dims", "cuts"] [.ref x, v1, v2]) [none, some d1, some d2] := ⟨rfl, fun i d e => by
    match i, e with
    | 1, e => cases e; exact ⟨_, rfl, r1⟩
    | 2, e => cases e; exact ⟨_, rfl, r2⟩⟩
  refine ⟨Hs, [none, some d1, some d2], s.trans s01, er, ?_⟩
  have ef : eFn chk (aCons (eVar 1) (aCons (eVar 2) aNil)) [none, some d1, some d2] = (chk [d1, d2] >>= fun c => .ok c.toD) := rfl
  rw [ef]
  have w : Wk g E H0 (chk [d1, d2] >>= fun _ => mkCut d1 d2) _ := w
  cases hq : chk [d1, d2] with
  | bad => rw [hq] at w; exact absurd rfl w.bad
  | exc k y =>
    rw [hq] at w
    refine Wk.mk (fun _ e => nomatch e) (fun k' y' e C o H' sm ex => ?_) (fun e => nomatch e)
    cases e
    exact w.exc _ _ rfl C o H' (s01.trans sm) ex
  | ok cc =>
    rw [hq] at w
    have w : Wk g E H0 (mkCut d1 d2) _ := w
    refine .of_ok fun v H2 Hs2 x2 _ => ?_
    cases r1 with
    | int n =>
      cases r2 with
      | @lst a us l hh rr =>
        have hx1 : (upd (upd H0 dx (HO.own x)) x (HO.ins g.cC dx [])) x = some (.ins g.cC dx []) := upd_same
        have hx2 := x2.same _ _ hx1
        have n2 : Hs2 x = none := by
          cases q : Hs2 x with
          | none => rfl
          | some o =>
            rcases x2.new x o q with z | z
            · have := s _ _ z; rw [nx] at this; cases this
            · rw [hx1] at z; cases z
        refine ⟨.int n, rfl, .ref x, rfl, x, g.cC, dx, [], rfl, hx2, c.cls, c.w, by decide, ?_⟩
        have s23 : Same Hs2 (upd H2 x (.ins g.cC dx (putF "wide" (.int n) []))) := fun b o e => by
          rw [upd_ne (ne_of_none e n2)]
          exact x2.sub _ _ e
        have er2 := er.mono x2.up
        refine ⟨Hs2, [none, some (.int n), some (.lst l)], s23, er2, .of_ne (a := .tup l) rfl fun v4 H4 Hs4 x4 r4 => ?_⟩
        have hx4 := x4.same x _ upd_same
        cases r4 with
        | @tup t ws _ kk qq =>
          refine ⟨.ref x, rfl, x, g.cC, dx, _, rfl, hx4, c.cls, c.r, (by show 1 < 1000; decide), ?_⟩
          have n4 : Hs4 x = none := by
            cases q : Hs4 x with
            | none => rfl
            | some o =>
              rcases x4.new x o q with z | z
              · rw [n2] at z; cases z
              · rw [upd_same] at z; cases z
          have u4 : Same Hs4 (upd Hs4 x (.ins g.cC dx [("wide", .int n), ("rows", .ref t)])) := same_upd n4
          refine w.is_ok _ (upd Hs4 x (.ins g.cC dx [("wide", .int n), ("rows", .ref t)])) ⟨fun b o e => ?_, fun b o e => ?_, sameUpd2 x4.sub, fun b o e => ?_⟩ (.cut upd_same (SameT u4 kk) (qq.mono u4))
          · have nb := ne_of_none e nx
            rw [upd_ne nb]
            refine x4.same _ _ ?_
            rw [upd_ne nb]
            exact x2.same _ _ (s01 _ _ e)
          · have e4 := x4.up _ _ (x2.up _ _ e)
            exact u4 _ _ e4
          · by_cases hb : b = x
            · subst hb; exact .inr nx
            · rw [upd_ne hb] at e
              rcases x4.new b o e with z | z
              · rcases x2.new b o z with y | y
                · exact .inl y
                · exact .inr (s01.free y)
              · rw [upd_ne hb] at z
                exact .inr (s01.free (x2.same.free z))
      | _ => exact absurd rfl w.bad
    | _ => exact absurd rfl w.bad
theorem init_fn {P : Program} {w : World} {base : Heap} {g : G} {st : Stmt} {f : Addr} {fd : FuncData} {k : Nat} {chk : List D → Res Cell} (F : Fun g.K "__init__" "Cutting.__init__" st f fd) (S : FnScope ["self", "dims", "cuts"] ["self", "dims", "cuts"] (defScope st)) (c : CutC g)
    (hbody : ∀ (cdv : Value) (A : Around) (outer : List PySem.Env) (sh : Shared) (H : Hp) (E : XK), Room k (A.deeper (envOfC "Cutting.__init__" (defScope st) sh.heap.objs.size f cdv)) →
      PSs (cxOf (L2.CX P w) P w g.K g.mg base ["self", "dims", "cuts"] "Cutting.__init__" (defScope st) f cdv A outer sh H E) (defBody st) (tInit g E chk)) : FnOk P w g.K g.mg base (L2.CX P w) (k + 1) f fd ["self", "dims", "cuts"] (spInit g (initD chk)) :=
  F.okX S (fun vs H Q E h => by
    obtain ⟨x, dx, vs', Hs, H0, ds, rfl, _, _, _, _, _, r, hl, _⟩ := h
    show vs'.length + 1 = 3
    rw [r.length, hl]) fun cdv A outer sh H vs Q E hr h => ⟨_, hbody cdv A outer sh H E hr, init_read c h⟩
/-- a method, from its body -/
theorem defM_ok {P : Program} {w : World} {base : Heap} {g : G} {x qual : Str} {st : Stmt} {f : Addr} {fd : FuncData} {N ps : List Str} {k : Nat} {s : Env → Res Fl} (F : Fun g.K x qual st f fd) (S : FnScope N ps (defScope st))
    (hm : Meth g.K g.cC x f) (no : x ≠ "wide" ∧ x ≠ "rows") (hb : Binds g.K fd ps [])
    (hbody : ∀ (cdv : Value) (A : Around) (outer : List PySem.Env) (sh : Shared) (H : Hp) (E : XK) (B Hs0 : Hp), Room k (A.deeper (envOfC qual (defScope st) sh.heap.objs.size f cdv)) →
      PSs (cxOf (L2.CX P w) P w g.K g.mg base N qual (defScope st) f cdv A outer sh H E) (defBody st) (SR g E B Hs0 s)) : FnM P w base g x ps.length (k + 1) (runB N.length ps.length s) := by
  refine ⟨fun ds nb => ?_, no, f, fd, ps, rfl, hm, hb, def_fn F S hbody⟩
  by_cases e : ds.length = ps.length
  · exact e
  · unfold runB at nb; rw [if_neg e] at nb; exact absurd rfl nb
end PL

set_option Elab.async false
set_option linter.all false
set_option maxRecDepth 100000
set_option maxHeartbeats 1000000
namespace PL
open PySem PySem.Spec PyProof.Rows L2

/-! ### a def that is called within an except suite and raises nothing there -/
abbrev CtxQ (P : Program) (w : World) (g : G) (base : Heap) (N : List Str) (qual : Str) (sc : Scope) (f : Addr) (cd : Value) (A : Around) (out : List PySem.Env) (s : Shared) (H : Hp) (p : Addr × Obj) : Cx :=
  L2H.cxH (L2.CX P w) P w g.K g.mg base N qual sc f cd A out s H EN p
structure FnQ (P : Program) (w : World) (base : Heap) (g : G) (x : Str) (n k : Nat) (den : List D → Res Cell) : Prop where
  ar : ∀ ds, den ds ≠ .bad → ds.length = n
  ex : ∃ f fd ps, ps.length = n ∧ g.mg x = some (.ref f) ∧ PySem.W.keepIn g.K (.ref f) = true ∧ Binds g.K fd ps [] ∧
    ∀ (A : Around) (out : List PySem.Env) (s : Shared) (H : Hp) (us : List Value) (vs : List V) (Q : VK) (p : Addr × Obj), L2H.RoomH k A → L2H.PinOk out H s p → Env0 P w g.K g.mg base A out s H → us.length = n → Vals vs us → spD g n den vs H Q EN →
      codeAny (model P w) A (.call (.ref f) ⟨us, []⟩) (CR (L2.CX P w) out P w H s Q EN) s
theorem defQ_ok {P : Program} {w : World} {base : Heap} {g : G} {x qual : Str} {f : Addr} {params : Arguments} {body : List Stmt} {sc : Scope} {dV kV doc pm cdv ct oc : Value} {an od : Option Addr} {osl : Array (Option Value)} {N ps : List Str} {k : Nat} {s : Env → Res Fl}
    (lk : g.K.lookup f = some ⟨oc, od, .func (PySem.W.fnOf x qual params body sc dV kV doc pm an cdv ct), osl⟩) (hcd : PySem.W.codeIn g.K cdv qual = true) (S : FnScope N ps sc) (hm : g.mg x = some (.ref f)) (kp : PySem.W.keepIn g.K (.ref f) = true)
    (hb : Binds g.K (PySem.W.fnOf x qual params body sc dV kV doc pm an cdv ct) ps [])
    (hbody : ∀ (A : Around) (out : List PySem.Env) (sh : Shared) (H : Hp) (p : Addr × Obj) (B Hs0 : Hp), PSs (CtxQ P w g base N qual sc f cdv A out sh H p) body (SR g EN B Hs0 s)) : FnQ P w base g x ps.length (k + 1) (runB N.length ps.length s) := by
  refine ⟨fun ds nb => ?_, f, _, ps, rfl, hm, kp, hb, fun A out st H us vs Q p hr hpin e0 hl r hsp => ?_⟩
  · by_cases e : ds.length = ps.length
    · exact e
    · unfold runB at nb; rw [if_neg e] at nb; exact absurd rfl nb
  have hv : vs.length = ps.length := spD.len _ _ _ _ hsp
  have kin : g.K.In st.heap := e0.mod.kin.keeps fun b o q => (e0.bs b o q).1
  have nol : st.heap.NoLimit := e0.mod.nolimit.keeps fun b o q => (e0.bs b o q).1
  have hk : ∀ y ∈ ps.zip us, sc.names.lookup y.1 = some .local ∨ (sc.names.lookup y.1 = some .cell ∧ ((cellsFrom (st.heap.objs.size + 1) sc.names []).lookup y.1).isSome = true) := by
    rintro ⟨nm, v⟩ hy
    cases S.par nm (List.of_mem_zip hy).1 with
    | inl q => exact .inl q
    | inr q => exact .inr ⟨q, PySem.W.cellsFrom_some _ _ _ (.inl q)⟩
  have bt := hb st us kin (by rw [List.append_nil]; exact hl)
  rw [List.append_nil] at bt
  refine codeAny_call_function hr.depth (kin _ _ lk) rfl S.co S.gen rfl (PySem.W.codeRec_of kin hcd) (bt _ _ _ _ ?_)
  refine wpAny_newFunctionEnv_cells S.kind hk fun env he s1 ic => ?_
  subst he
  refine ⟨nol.keeps ic.toInCall.keep, codeAny_func ?_⟩
  obtain ⟨B, Hs0, rd⟩ := body_read hsp
  have J0 : Inv (CtxQ P w g base N qual sc f cdv A out st H p) [] (L2.start N vs) H s1 := L2H.inv_startH S hpin e0 hv r ic
  refine wpAny_mono ((hbody A out st H p B Hs0).run [] s1 _ H _ J0 rd) (fun fl s' hs => ?_) fun er s' hs => hs
  have out_ : ∀ {σ' : L2.St} {H' : Hp} {v : V} {u : Value}, Inv (CtxQ P w g base N qual sc f cdv A out st H p) [] σ' H' s' → RelV v u → Q v H' → CE out P w H st Q u s' :=
    fun {σ' H' v u} J rv q => ⟨v, H', J.os, J.bare, J.base, J.hok, rv, q⟩
  match fl, hs with
  | .ret u, ⟨v, σ', H', J, rv, q⟩ => exact out_ J rv q
  | .next, ⟨σ', H', J, q⟩ => exact out_ (v := V.non) (u := Value.none) J rfl q
  | .brk, ⟨_, _, _, q⟩ => exact q.elim
  | .cont, ⟨_, _, _, q⟩ => exact q.elim
theorem cx_no {P : Program} {w : World} {out : List PySem.Env} {H : Hp} {s s' : Shared} {u : Value} (h : L2.CX P w out H s (fun _ _ _ => False) u s') : False := by
  obtain ⟨_, _, _, _, _, _, _, _, _, _, _, _, z⟩ := h
  exact z.elim
section
variable {X : Cx} {g : G} {e : Expr} {es : List Expr} {pos p : Pos} {fs : BEnv → Res (List D)} {x : Str} {n k : Nat} {den : List D → Res Cell} {a : Addr} {oe : Obj} {pn : List (Addr × Obj)} {dd : Option Addr} {y : Option D}
/-- called in a suite: the arguments may be asked of the error, the def knows nothing of it -/
theorem se_callQ (no : ∀ a H, ¬ g.xp a H) (F : FnQ X.prog X.w X.base g x n k den) (hK : X.K = g.K) (hM : X.mg = g.mg) (hr : L2H.RoomH k X.A) (hg : Gl (X.suite a ((a, oe) :: pn)) x) (ha : PA (X.suite a ((a, oe) :: pn)) (e :: es) (AR (gX g a dd y) EN fs)) (hdb : (x == ("__debug__" : Str)) = false := by decide)
    (he : starEach (e :: es) X.env = (false, eval e X.env) :: starEach es X.env := by rfl) (hpl : (backTo pos (starEach es X.env)).any (·.1) = false := by rfl) :
    PE (X.suite a ((a, oe) :: pn)) (.Call (.Name x p) (e :: es) [] pos) (ER (gX g a dd y) EN (fun env => must (fs env) fun ds => if noXs ds = true then must (den ds) fun c => .ok c.toD else .bad)) := by
  obtain ⟨f, fd, ps, hn, h1, h2, h3, h4⟩ := F.ex
  refine ⟨fun pins s σ H Q I w => ?_⟩
  obtain ⟨Hs, env, sm, rr, w⟩ := w
  obtain ⟨ds, hds, w⟩ := must_wk w
  refine wpAny_Call_Name_kw (ld_glob I hg (by show X.mg x = _; rw [hM]; exact h1) ?_ hdb)
  refine PySem.W.callWith_K (h₀ := X.base) I.ok.mod.kin (by show PySem.W.keepIn X.K _ = true; rw [hK]; exact h2) (thn (ha.run pos pins s σ H (fun vs H1 => spD g n den vs H1 Q EN) I ?_) fun us s1 ⟨vs, H1, I1, r, q⟩ => ⟨I1.kIn, ?_⟩) he hpl
  · refine ⟨Hs, env, sm, rr, .of_ne hds fun vs H1 Hs1 x1 r1 => ?_⟩
    by_cases hx : noXs ds = true
    · rw [if_pos hx] at w
      have kx : KeepX Hs1 Hs1 := fun _ _ _ _ e => e
      obtain ⟨c, hc, w⟩ := must_wk w
      refine ⟨Hs1, ds, x1.sub, Rs.outX kx r1 hx, F.ar ds (fun z => by rw [z] at hc; cases hc), .of_ne hc fun v H' rt => ?_⟩
      obtain ⟨Hs', x', r'⟩ := rt.toD
      exact w.is_ok v H' Hs' (x1.trans x') (R.inX no r')
    · rw [if_neg hx] at w; exact absurd rfl w.bad
  · have P1 := I1.pin (a, oe) (List.mem_append_left _ List.mem_cons_self)
    have hpin : L2H.PinOk (X.suite a ((a, oe) :: pn)).stack H1 s1 (a, oe) := ⟨P1.1, P1.2.1, fun hm => (List.mem_cons.mp (I1.stkSub a hm)).elim P1.2.2.1 P1.2.2.2.1, P1.2.2.2.2⟩
    have ql : us.length = n := by rw [← r.length]; exact spD.len _ _ _ _ q
    have e0 := I1.env0
    have run := h4 (X.suite a ((a, oe) :: pn)).A (X.suite a ((a, oe) :: pn)).stack s1 H1 us vs Q (a, oe) ⟨hr.dp, hr.un⟩ hpin (by rw [← hK, ← hM]; exact e0) ql r q
    refine wpAny_call (codeAny_mono run fun rs s' hq => ?_)
    match rs, hq with
    | .error er, hq => exact (cx_no hq).elim
    | .ok (.ret u), hq => exact I1.after hq
    | .ok .next, hq => exact hq.elim
    | .ok .brk, hq => exact hq.elim
    | .ok .cont, hq => exact hq.elim
end
def eFnQ (den : List D → Res Cell) (fs : BEnv → Res (List D)) : BEnv → Res D := fun env => must (fs env) fun ds => if noXs ds = true then must (den ds) fun c => .ok c.toD else .bad
@[simp] theorem x_eFnQ {den : List D → Res Cell} {fs : BEnv → Res (List D)} {env : BEnv} : eFnQ den fs env = must (fs env) fun ds => if noXs ds = true then must (den ds) fun c => .ok c.toD else .bad := rfl

/-! ### raise of an own class whose __init__ stores at -/
/-- the promise of such an __init__ -/
def spAt (C : Addr) : Sp := fun vs H Q _ => ∃ (a : Addr) (k : Int), vs = [.ref a, .int k] ∧ H a = some (exo a C none) ∧ ∀ dx, H dx = none → dx ≠ a → Q .non (upd (upd H dx (exd dx [("at", .int k)])) a (exo a C (some dx)))
/-- what the class must have -/
structure AtC (P : Program) (w : World) (base : Heap) (g : G) (c : String) (C : Addr) : Prop where
  hm : g.mg (Str.ofString c) = some (.ref C)
  o : OexC g.K C
  ex : ∃ fI fd ps, PySem.W.findIn g.K (.ref C) "__init__" = some (some (.ref fI)) ∧ PySem.W.typeIn g.K (.ref fI) = some (.type "function") ∧ Binds g.K fd ps [] ∧ FnOk P w g.K g.mg base (L2.CX P w) 1 fI fd ps (spAt C)
/-- what CutError.__init__ is -/
structure CeF (g : G) (D : Addr) : Prop where
  hm : g.mg "CutError" = some (.ref D)
  sp : PySem.W.specialIn g.K (.ref D) "__getattribute__" = some (some (.builtin "type.__getattribute__"))
  ty : PySem.W.typeIn g.K (.ref D) = some (.type "type")
  rd : PySem.W.readsIn g.K D (.type "type") = true
  fi : PySem.W.findCls g.K (.ref D) (.type "type") "__init__" = some (.val (.builtin "ValueError.__init__"))
section
variable {X : Cx} {g : G} {e : Expr} {es : List Expr} {ta : TA} {p1 p2 pos : Pos} {D : Addr}
theorem pe_ceinit {pl : Sem Bool} (c : CeF g D) (hK : X.K = g.K) (hM : X.mg = g.mg) (hg : Gl X "CutError") (ha : PA X (e :: es) ta)
    (hc : eval (.Call (.Attribute (.Name "CutError" p1) "__init__" p2) (e :: es) [] pos) X.env = (do
      let ov ← eval (.Name "CutError" p1) X.env
      standAt p2.atName
      let (f, first) ← holding [ov] (getMethod ov "__init__" pl)
      callWith pos f first (backTo pos (starEach (e :: es) X.env)) (backToKw pos (keywordEach [] X.env))) := by rfl)
    (he : starEach (e :: es) X.env = (false, eval e X.env) :: starEach es X.env := by rfl) (hpl : (backTo pos (starEach es X.env)).any (·.1) = false := by rfl) :
    PE X (.Call (.Attribute (.Name "CutError" p1) "__init__" p2) (e :: es) [] pos) (tVeI X.K ta) := by
  have h1 := c.sp
  have h2 := c.ty
  have h3 := c.rd
  have h4 := c.fi
  rw [← hK] at h1 h2 h3 h4
  refine ⟨fun pins s σ H Q I h => ?_⟩
  refine PySem.W.methodCall_KW (ld_glob I hg (by rw [hM]; exact c.hm) ?_ (by decide)) hc
  obtain ⟨m, fr⟩ := I.fr
  refine PySem.W.method_of_cls fr I.ok.mod.kin h1 (PySem.W.cls_val fr I.ok.mod.kin h2 h3 h4 (by decide +kernel) ?_)
  show wpAny _ _ (callWith pos (Value.builtin "ValueError.__init__") [] _ []) _ _ _
  refine PyProof.Rows.callWith_method1 (thn (ha.run pos pins _ σ H _ (I.tok _) h) fun us s1 hh => ?_) he hpl
  obtain ⟨vs, H1, I1, r1, a, C, ws, ev, hl, T, ea, q⟩ := hh
  subst ev
  cases r1 with
  | @cons _ u0 _ ur ra rw' =>
    cases (show u0 = Value.ref a from ra)
    exact oinit_ok T I1 ea (by rw [← Paired.length rw', sizeLine_eq]; omega) fun s' J => ⟨.non, H1, J, rfl, q⟩
end
/-- its __init__: CutError.__init__(self, 'm'); self.at = at -/
abbrev tAt (K : PySem.W.Frag) (m : Str) : TS := tSeq (tDrop (tVeI K (tCons (tVar 0) (tCons (tC (.str m)) tNil)))) (tOst K "at" (tVar 0) (tVar 1))
theorem at_read {K : PySem.W.Frag} {C : Addr} {m : Str} {vs : List V} {H : Hp} {Q : VK} {E : XK} (o : OexC K C) (hno : PySem.W.findIn K (.ref C) "at" = some none) (h : spAt C vs H Q E) : tAt K m { nx := fun _ H' => Q .non H', rt := Q } (L2.start ["self", "at"] vs) H := by
  obtain ⟨a, k, rfl, ha, q⟩ := h
  refine ⟨.ref a, rfl, a, C, [.str m], rfl, (by show 1 ≤ 1000; decide), o, ha, ?_⟩
  exact ⟨.int k, rfl, .ref a, rfl, a, C, rfl, o, hno, .inl ⟨ha, fun dx h1 h2 => q dx h1 h2⟩⟩
theorem at_fn {P : Program} {w : World} {base : Heap} {g : G} {qual : Str} {st : Stmt} {f C : Addr} {fd : FuncData} {m : Str} (F : Fun g.K "__init__" qual st f fd) (S : FnScope ["self", "at"] ["self", "at"] (defScope st)) (o : OexC g.K C) (hno : PySem.W.findIn g.K (.ref C) "at" = some none)
    (hbody : ∀ (cdv : Value) (A : Around) (outer : List PySem.Env) (sh : Shared) (H : Hp) (E : XK), PSs (cxOf (L2.CX P w) P w g.K g.mg base ["self", "at"] qual (defScope st) f cdv A outer sh H E) (defBody st) (tAt g.K m)) : FnOk P w g.K g.mg base (L2.CX P w) 1 f fd ["self", "at"] (spAt C) :=
  F.okX S (fun vs H Q E h => by
    obtain ⟨a, k, rfl, _⟩ := h
    rfl) fun cdv A outer sh H vs Q E hr h => ⟨_, hbody cdv A outer sh H E, at_read o hno h⟩
def rAt (c : String) : D → Res Fl
  | .int k => .exc c (some (.int k))
  | _ => .bad
def sRaiseA (c : String) (f : BEnv → Res D) : Env → Res Fl := fun env => must (f env.borrow) (rAt c)
@[simp] theorem x_sRaiseA {c : String} {f : BEnv → Res D} {env : Env} : sRaiseA c f env = must (f env.borrow) (rAt c) := rfl
@[simp] theorem x_rAt {c : String} {k : Int} : rAt c (.int k) = .exc c (some (.int k)) := rfl
theorem ss_raiseA {X : Cx} {g : G} {E : XK} {B Hs0 : Hp} {c : String} {C : Addr} {e : Expr} {p pos pos' : Pos} {f : BEnv → Res D} (A : AtC X.prog X.w X.base g c C) (hK : X.K = g.K) (hM : X.mg = g.mg) (hc : X.calm = true) (hr : Room 2 X.A) (tk : Takes X (fun cls d _ H => E cls d H)) (hg : Gl X (Str.ofString c)) (he : PE X e (ER g EN f))
    (hdb : (Str.ofString c == ("__debug__" : Str)) = false := by decide) (hst : starEach [e] X.env = (false, eval e X.env) :: starEach [] X.env := by rfl) (hpl : (backTo pos (starEach [] X.env)).any (·.1) = false := by rfl) :
    PS X (.Raise (some (.Call (.Name (Str.ofString c) p) [e] [] pos)) none pos') (SR g E B Hs0 (sRaiseA c f)) := by
  obtain ⟨fI, fd, ps, h1, h2, h3, h4⟩ := A.ex
  have o := A.o
  rw [← hK] at h1 h2 h3 h4 o
  rw [← hM] at h4
  refine PS_mono (ps_raise hc tk (pmk_oex o h1 h2 h4 hr h3 .nil (fun _ _ _ _ _ _ _ z => (cx_no z).elim) hg (by rw [hM]; exact A.hm) (pa_cons he pa_nil hst) hdb hst hpl)) fun Z σ H w => ?_
  obtain ⟨Hs, env, r, w⟩ := w
  obtain ⟨d, hd, w⟩ := must_wk w
  refine ⟨Hbor Hs H σ env, env.borrow, r.hb_sub, r.borrow, .of_ne hd fun v H1 Hs1 x1 r1 => ?_⟩
  cases r1 with
  | int k =>
    refine ⟨(by show 1 ≤ 1000; decide), fun a na => ?_⟩
    show spAt C (.ref a :: ([V.int k] ++ [])) _ _ _
    refine ⟨a, k, rfl, upd_same, fun dx hdx ne => ⟨rfl, dx, _, upd_same, (by rw [upd_ne ne, upd_same]), ?_, ?_⟩⟩
    · rw [upd_ne ne] at hdx; exact hdx
    · rw [upd_ne ne] at hdx
      refine w.exc c (some (.int k)) rfl (.ref C) (some dx) _ (fun b u e => ?_) ⟨C, A.hm, rfl, dx, .int k, rfl, upd_same, .int k⟩
      have e1 : H1 b = some u := x1.same _ _ (r.keep _ _ e)
      have n1 : b ≠ a := ne_of_none e1 na
      have n2 : b ≠ dx := ne_of_none e1 hdx
      rw [upd_ne n2, del_ne n1, upd_ne n1, upd_ne n2, upd_ne n1]
      exact e1
  | _ => exact absurd rfl w.bad
end PL

set_option Elab.async false
set_option linter.all false
set_option maxRecDepth 100000
set_option maxHeartbeats 1000000
namespace PL
open PySem PySem.Spec PyProof.Rows L2
/-! ### what stands at the top: texts, tuples of whole numbers -/
section
variable {X : Cx} {g : G} {E : XK} {x y : Str} {p : Pos} {is : List Int}
theorem se_gs (hi : ∃ u, g.mg x = some u ∧ RelV (.str y) u) (hM : X.mg = g.mg) (hg : Gl X x) (hd : (x == ("__debug__" : Str)) = false := by decide) : PE X (.Name x p) (ER g E (eC (.str y))) := by
  obtain ⟨u, h1, h2⟩ := hi
  exact se_c (pe_glob hg (by rw [hM]; exact h1) h2 hd) fun _ => .str y
def TupC (g : G) (x : Str) (is : List Int) : Prop := ∃ a, g.mg x = some (.ref a) ∧ ∃ o its n, List.lookup a g.K = some o ∧ o.cls = Value.type "tuple" ∧ o.data = Data.seq its n ∧ its.size ≤ sizeLine ∧ Vals (is.map V.int) its.toList
theorem se_gt (hi : TupC g x is) (hM : X.mg = g.mg) (hg : Gl X x) (hd : (x == ("__debug__" : Str)) = false := by decide) : PE X (.Name x p) (ER g E (eC (.tup (is.map D.int)))) := by
  obtain ⟨a, h1, h2⟩ := hi
  exact se_c (pe_glob (v := .ref a) hg (by rw [hM]; exact h1) rfl hd) fun _ => .tup (.inr h2) (Rs.ints _)
theorem tupC_2 {a : Addr} {i j : Int} {t1 t2 : Tok} {od : Option Addr} {n : Nat} {sl : Array (Option Value)} (h1 : g.mg x = some (.ref a)) (h2 : List.lookup a g.K = some ⟨.type "tuple", od, .seq #[.int i t1, .int j t2] n, sl⟩) : TupC g x [i, j] :=
  ⟨a, h1, _, _, n, h2, rfl, rfl, by show 2 ≤ sizeLine; rw [sizeLine_eq]; omega, .cons ⟨t1, rfl⟩ (.cons ⟨t2, rfl⟩ .nil)⟩
end
/-! ### list(range(..)), tuple(range(..)) -/
def RngS (j : Int) : Prop := -1000000 ≤ j ∧ j ≤ 1000000
theorem rngS_rg {j : Int} (h : RngS j) : RgOk 0 j := by
  obtain ⟨a, b⟩ := h
  exact ⟨by omega, by omega, by omega, by omega, by omega⟩
open Classical in
noncomputable def rngS (d : D) : Res (List D) := match d with
  | .int j => if RngS j then .ok (rngD 0 j.toNat) else .bad
  | _ => .bad
noncomputable def oRg1 (f : BEnv → Res D) : BEnv → Res (List D) := fun env => f env >>= rngS
noncomputable def eRg1 (f : BEnv → Res D) : BEnv → Res D := fun env => f env >>= rngS >>= fun l => .ok (.tup l)
theorem x_rngSN {n : Nat} (h : n ≤ 1000000) : rngS (.int (n : Int)) = .ok (rngD 0 n) := by
  unfold rngS
  have : RngS (n : Int) := ⟨by omega, by omega⟩
  simp only [if_pos this, Int.toNat_natCast]
@[simp] theorem x_oRg1 {f : BEnv → Res D} {env : BEnv} : oRg1 f env = (f env >>= rngS) := rfl
@[simp] theorem x_eRg1 {f : BEnv → Res D} {env : BEnv} : eRg1 f env = (f env >>= rngS >>= fun l => .ok (.tup l)) := rfl
theorem rgV_rs {g : G} {H : Hp} {j : Int} : Rs g H (rgV 0 j) (rngD 0 j.toNat) := by
  have e1 : rgV 0 j = ((List.range j.toNat).map fun (i : Nat) => (0 : Int) + (i : Int)).map V.int := by
    unfold rgV
    rw [List.map_map, Int.sub_zero]
    rfl
  have e2 : rngD 0 j.toNat = ((List.range j.toNat).map fun (i : Nat) => (0 : Int) + (i : Int)).map D.int := by
    unfold rngD
    rw [List.map_map]
    rfl
  rw [e1, e2]
  exact Rs.ints _
section
variable {X : Cx} {g : G} {E : XK} {a : Expr} {f : BEnv → Res D} {p p2 pos pos2 : Pos}
theorem eo_listRg (hc : X.calm = true) (hg : Gl X "list") (hm : X.mg "list" = none) (hg2 : Gl X "range") (hm2 : X.mg "range" = none) (ha : PE X a (ER g E f)) (na : starEach [a] X.env = (false, eval a X.env) :: starEach [] X.env := by rfl)
    (nb : starEach [.Call (.Name "range" p) [a] [] pos] X.env = (false, eval (.Call (.Name "range" p) [a] [] pos) X.env) :: starEach [] X.env := by rfl) : PE X (.Call (.Name "list" p2) [.Call (.Name "range" p) [a] [] pos] [] pos2) (EO g E (oRg1 f)) :=
  PE_mono (pe_listRg hc hg hm (prg_1 hg2 hm2 ha na) nb) fun σ H Q ⟨Hs, env, s, rr, w⟩ => by
    refine ⟨Hs, env, s, rr, w.bind.mono (Same.refl _) fun d wd v H' Hs' x r => ?_⟩
    cases r with
    | int j =>
      refine ⟨j, rfl, ?_⟩
      by_cases h : RngS j
      · have e : rngS (.int j) = .ok (rngD 0 j.toNat) := by unfold rngS; simp only [if_pos h]
        rw [e] at wd
        have L : LandsO g Hs H Q _ := wd.is_ok
        exact ⟨rngS_rg h, fun q nq => lands_own (L.ext x) x.sub nq rgV_rs⟩
      · have e : rngS (.int j) = .bad := by unfold rngS; simp only [if_neg h]
        rw [e] at wd
        exact absurd rfl wd.bad
    | _ => exact absurd rfl wd.bad
theorem se_tupRg (hc : X.calm = true) (hg : Gl X "tuple") (hm : X.mg "tuple" = none) (hg2 : Gl X "range") (hm2 : X.mg "range" = none) (ha : PE X a (ER g E f)) (na : starEach [a] X.env = (false, eval a X.env) :: starEach [] X.env := by rfl)
    (nb : starEach [.Call (.Name "range" p) [a] [] pos] X.env = (false, eval (.Call (.Name "range" p) [a] [] pos) X.env) :: starEach [] X.env := by rfl) : PE X (.Call (.Name "tuple" p2) [.Call (.Name "range" p) [a] [] pos] [] pos2) (ER g E (eRg1 f)) :=
  PE_mono (pe_tupRg hc hg hm (prg_1 hg2 hm2 ha na) nb) fun σ H Q ⟨Hs, env, s, rr, w⟩ => by
    have w : Wk g E H (f env >>= fun d => rngS d >>= fun l => Res.ok (D.tup l)) (Lands g Hs H Q) := by
      have := w
      unfold eRg1 at this
      rw [res_assoc] at this
      exact this
    refine ⟨Hs, env, s, rr, w.bind.mono (Same.refl _) fun d wd v H' Hs' x r => ?_⟩
    cases r with
    | int j =>
      refine ⟨j, rfl, ?_⟩
      by_cases h : RngS j
      · have e : rngS (.int j) = .ok (rngD 0 j.toNat) := by unfold rngS; simp only [if_pos h]
        rw [e] at wd
        have L := wd.is_ok
        refine ⟨rngS_rg h, fun q nq => L _ _ _ (x.trans (Ext.new1 x.sub nq)) (.tup (.inl (.inl upd_same)) rgV_rs)⟩
      · have e : rngS (.int j) = .bad := by unfold rngS; simp only [if_neg h]
        rw [e] at wd
        exact absurd rfl wd.bad
    | _ => exact absurd rfl wd.bad
end
/-! ### a, b = e, where e borrows -/
def sUnpB (p : Pat) (f : BEnv → Res D) : Env → Res Fl := fun env => f env.borrow >>= fun d => if noLst d = true then must (p d) fun as => .ok (.nx (setAllE env as)) else .bad
theorem ss_unpB {X : Cx} {g : G} {E : XK} {B Hs0 : Hp} {tg e : Expr} {p : Pat} {f : BEnv → Res D} {pos : Pos} (he : PE X e (ER g E f)) (hg : PG X tg (GA g p)) (hs : swapsWithSole [tg] e pos.line X.env = pure false := by rfl) (hw : swappedStores [tg] e X.env = pure none := by rfl) (h1 : (assignEach [tg] X.env).map (·.2) = [assign tg X.env] := by rfl) : PS X (.Assign [tg] e pos) (SR g E B Hs0 (sUnpB p f)) :=
  PS_mono (ps_asg he hg hs hw h1) fun D σ H w => bor_then (kd := fun d env => must (p d) fun as => .ok (.nx (setAllE env as))) w fun Hs env d v H r q w => by
    obtain ⟨as, ha, w⟩ := must_wk w
    exact ⟨Hs, d, as, r.sub, q, ha, fun vas ra => nx_end w (r.setAll ra)⟩
@[simp] theorem x_sUnpB {p : Pat} {f : BEnv → Res D} {s : Env} : sUnpB p f s = (f s.borrow >>= fun d => if noLst d = true then must (p d) fun as => .ok (.nx (setAllE s as)) else .bad) := rfl
/-! ### min, max of a list -/
def minD : List D → Res D
  | [.lst l] => match intsD l with
    | some (n :: ns) => .ok (.int (ns.foldl min n))
    | _ => .bad
  | _ => .bad
def maxD : List D → Res D
  | [.lst l] => match intsD l with
    | some (n :: ns) => .ok (.int (ns.foldl max n))
    | _ => .bad
  | _ => .bad
theorem foldl_min : ∀ (l : List Int) (a : Int), l.foldl min a ∈ a :: l ∧ ∀ y ∈ a :: l, l.foldl min a ≤ y
  | [], a => ⟨by simp, fun y hy => by simp at hy; rw [hy, List.foldl_nil]; exact Int.le_refl _⟩
  | b :: l, a => by
    obtain ⟨h1, h2⟩ := foldl_min l (min a b)
    have m := h2 (min a b) (by simp)
    rw [List.foldl_cons]
    refine ⟨?_, fun y hy => ?_⟩
    · rcases List.mem_cons.mp h1 with e | e
      · rw [e]
        by_cases h : a ≤ b
        · rw [Int.min_eq_left h]; simp
        · rw [Int.min_eq_right (by omega)]; simp
      · simp [e]
    · rcases List.mem_cons.mp hy with e | hy
      · subst e; omega
      · rcases List.mem_cons.mp hy with e | hy
        · subst e; omega
        · exact h2 y (by simp [hy])
theorem foldl_max : ∀ (l : List Int) (a : Int), l.foldl max a ∈ a :: l ∧ ∀ y ∈ a :: l, y ≤ l.foldl max a
  | [], a => ⟨by simp, fun y hy => by simp at hy; rw [hy, List.foldl_nil]; exact Int.le_refl _⟩
  | b :: l, a => by
    obtain ⟨h1, h2⟩ := foldl_max l (max a b)
    have m := h2 (max a b) (by simp)
    rw [List.foldl_cons]
    refine ⟨?_, fun y hy => ?_⟩
    · rcases List.mem_cons.mp h1 with e | e
      · rw [e]
        by_cases h : a ≤ b
        · rw [Int.max_eq_right h]; simp
        · rw [Int.max_eq_left (by omega)]; simp
      · simp [e]
    · rcases List.mem_cons.mp hy with e | hy
      · subst e; omega
      · rcases List.mem_cons.mp hy with e | hy
        · subst e; omega
        · exact h2 y (by simp [hy])
theorem cd_min {g : G} : CallD g (rMin g.K) minD := by
  intro Hs H vs ds Q s r E w
  unfold minD at w
  split at w
  · rename_i l
    obtain ⟨⟩ | ⟨r, r0⟩ := r
    cases r0
    cases r with
    | lst h q =>
      cases e : intsD l with
      | none => rw [e] at w; exact absurd rfl w.bad
      | some ns =>
        rw [e] at w
        cases ns with
        | nil => exact absurd rfl w.bad
        | cons n ns =>
          have ev := ints_of q e
          subst ev
          refine ⟨_, n :: ns, rfl, SqL.of (s _ _ h), Nat.succ_pos _, fun m h1 h2 => ?_⟩
          obtain ⟨f1, f2⟩ := foldl_min ns n
          have : m = ns.foldl min n := by
            have a := h2 _ f1
            have b := f2 m h1
            omega
          rw [this]
          exact w.is_ok _ _ _ (Ext.refl s) (.int _)
  · exact absurd rfl w.bad
theorem cd_max {g : G} : CallD g (rMax g.K) maxD := by
  intro Hs H vs ds Q s r E w
  unfold maxD at w
  split at w
  · rename_i l
    obtain ⟨⟩ | ⟨r, r0⟩ := r
    cases r0
    cases r with
    | lst h q =>
      cases e : intsD l with
      | none => rw [e] at w; exact absurd rfl w.bad
      | some ns =>
        rw [e] at w
        cases ns with
        | nil => exact absurd rfl w.bad
        | cons n ns =>
          have ev := ints_of q e
          subst ev
          refine ⟨_, n :: ns, rfl, SqL.of (s _ _ h), Nat.succ_pos _, fun m h1 h2 => ?_⟩
          obtain ⟨f1, f2⟩ := foldl_max ns n
          have : m = ns.foldl max n := by
            have a := h2 _ f1
            have b := f2 m h1
            omega
          rw [this]
          exact w.is_ok _ _ _ (Ext.refl s) (.int _)
  · exact absurd rfl w.bad
theorem intsD_map : ∀ ns : List Int, intsD (ns.map D.int) = some ns
  | [] => rfl
  | n :: ns => by
    show (intsD (ns.map D.int)).map (n :: ·) = _
    rw [intsD_map ns]
    rfl
theorem x_min {n : Int} {ns : List Int} : minD [.lst ((n :: ns).map D.int)] = .ok (.int (ns.foldl min n)) := by
  have e := intsD_map (n :: ns)
  unfold minD
  generalize (n :: ns).map D.int = l at *
  simp only [e]
theorem x_max {n : Int} {ns : List Int} : maxD [.lst ((n :: ns).map D.int)] = .ok (.int (ns.foldl max n)) := by
  have e := intsD_map (n :: ns)
  unfold maxD
  generalize (n :: ns).map D.int = l at *
  simp only [e]
/-! ### a walk along an own list, which is hidden meanwhile -/
mutual
def noE : D → Bool
  | .exn => false
  | .tup l => noEs l
  | .lst l => noEs l
  | .cut _ l => noEs l
  | _ => true
def noEs : List D → Bool
  | [] => true
  | d :: ds => noE d && noEs ds
end
def gP (g : G) (a : Addr) : G := { g with xp := fun b _ => b = a, xk := fun _ _ _ _ h => h }
section
variable {g : G} {H : Hp} {q : Addr → Hp → Prop} {hq : ∀ (a : Addr) (H H' : Hp), (∀ b o, (∀ ys, o ≠ HO.lst ys) → H b = some o → H' b = some o) → q a H → q a H'}
mutual
theorem R.chgX : ∀ {v : V} {d : D}, R g H v d → noE d = true → R { g with xp := q, xk := hq } H v d
  | _, _, .non, _ => .non
  | _, _, .bl b, _ => .bl b
  | _, _, .int i, _ => .int i
  | _, _, .str x, _ => .str x
  | _, .tup l, .tup h r, e =>
    have e' : noEs l = true := by simpa [noE] using e
    .tup h (Rs.chgX r e')
  | _, .lst l, .lst h r, e =>
    have e' : noEs l = true := by simpa [noE] using e
    .lst h (Rs.chgX r e')
  | _, _, .scr h, _ => .scr h
  | _, .cut n l, .cut h k r, e =>
    have e' : noEs l = true := by simpa [noE] using e
    .cut h k (Rs.chgX r e')
  | _, _, .dic h, _ => .dic h
  | _, _, .exn h, e => absurd e (by simp [noE])
theorem Rs.chgX : ∀ {vs : List V} {ds : List D}, Rs g H vs ds → noEs ds = true → Rs { g with xp := q, xk := hq } H vs ds
  | _, _, .nil, _ => .nil
  | _, d :: ds, .cons h r, e =>
    have e' : noE d = true ∧ noEs ds = true := by simpa [noEs] using e
    .cons (R.chgX h e'.1) (Rs.chgX r e'.2)
end
end
theorem R.inP {g : G} {H : Hp} {v : V} {d : D} {a : Addr} (r : R g H v d) (e : noE d = true) : R (gP g a) H v d := r.chgX e
theorem Rs.inP {g : G} {H : Hp} {v : List V} {d : List D} {a : Addr} (r : Rs g H v d) (e : noEs d = true) : Rs (gP g a) H v d := r.chgX e
theorem R.outP {g : G} {H : Hp} {v : V} {d : D} {a : Addr} (r : R (gP g a) H v d) (e : noE d = true) : R g H v d := R.chgX (g := gP g a) (q := g.xp) (hq := g.xk) r e
theorem Rs.outP {g : G} {H : Hp} {v : List V} {d : List D} {a : Addr} (r : Rs (gP g a) H v d) (e : noEs d = true) : Rs g H v d := Rs.chgX (g := gP g a) (q := g.xp) (hq := g.xk) r e
def noC : Option Cell → Bool
  | none => true
  | some (.val d) => noE d
  | some (.own l) => noEs l
def noEnv : Env → Bool
  | [] => true
  | c :: r => noC c && noEnv r
theorem noEnv_get : ∀ {env : Env} {i : Nat} {c : Cell}, noEnv env = true → env[i]? = some (some c) → noC (some c) = true
  | [], _, _, _, e => by simp at e
  | c :: r, 0, z, h, e => by
    have h : noC c = true ∧ noEnv r = true := by simpa [noEnv] using h
    have : c = some z := by simpa using e
    rw [← this]; exact h.1
  | c :: r, i + 1, _, h, e => by
    have h : noC c = true ∧ noEnv r = true := by simpa [noEnv] using h
    exact noEnv_get (i := i) h.2 (by simpa using e)
def backP (i : Nat) (l : List D) : Fl → Res Fl
  | .nx e => match e[i]? with
    | some (some (.val .exn)) => if noEnv (e.set i none) = true then .ok (.nx (e.set i (some (.own l)))) else .bad
    | _ => .bad
  | _ => .bad
def sForP (i : Nat) (p : Pat) (s : Env → Res Fl) : Env → Res Fl := fun env => ownAt env i fun l => if noEs l = true ∧ noEnv env = true then must (forD p s l (env.set i (some (.val .exn)))) (backP i l) else .bad
section
variable {g : G} {B Hs0 Hs H : Hp} {σ : L2.St} {env : Env} {i : Nat} {l : List D} {a : Addr} {vs : List V}
theorem StR.hide (r : StR g B Hs0 Hs H σ env) (e : env[i]? = some (some (.own l))) (ea : σ[i]? = some (some (.ref a))) (hH : H a = some (.lst vs)) (hE : noEnv env = true) : StR (gP g a) (upd B a (.lst vs)) Hs0 Hs H σ (env.set i (some (.val .exn))) where
  keep := fun b o q => by
    by_cases hb : b = a
    · subst hb; rw [upd_same] at q; cases q; exact hH
    · rw [upd_ne hb] at q; exact r.keep b o q
  sub0 := r.sub0
  sub := r.sub
  new := fun b o q => by
    rcases r.new b o q with z | z
    · exact .inl z
    · right
      rw [upd_ne]
      · exact z
      · rintro rfl
        rw [(r.root ⟨i, l, e, ea⟩).1] at q; cases q
  len := by rw [List.length_set, r.len]
  val := fun j d q => by
    rcases set_get q with ⟨rfl, z⟩ | ⟨n, q⟩
    · cases z
      exact ⟨_, ea, .exn rfl⟩
    · obtain ⟨v, h1, h2⟩ := r.val j d q
      exact ⟨v, h1, h2.inP (noEnv_get hE q)⟩
  own := fun j m q => by
    rcases set_get q with ⟨rfl, z⟩ | ⟨n, q⟩
    · cases z
    · obtain ⟨b, us, h1, h2, h3, h4, h5⟩ := r.own j m q
      refine ⟨b, us, h1, h2, ?_, h4, h5.inP (noEnv_get hE q)⟩
      rw [upd_ne]
      · exact h3
      · rintro rfl
        exact r.dis i j l m b (Ne.symm n) e q ea h1
  dis := fun j k m1 m2 b n e1 e2 p1 p2 => by
    rcases set_get e1 with ⟨rfl, z⟩ | ⟨_, e1⟩
    · cases z
    · rcases set_get e2 with ⟨rfl, z⟩ | ⟨_, e2⟩
      · cases z
      · exact r.dis j k m1 m2 b n e1 e2 p1 p2
theorem StR.back {Hs' H' : Hp} {σ' : L2.St} {e : Env} (r : StR g B Hs0 Hs H σ env) (h1 : Hs a = none) (h2 : B a = none) (h5 : Rs g Hs vs l) (sm : Same Hs Hs')
    (r' : StR (gP g a) (upd B a (.lst vs)) Hs0 Hs' H' σ' e) (he : e[i]? = some (some (.val .exn))) (hn : noEnv (e.set i none) = true) : StR g B Hs0 Hs' H' σ' (e.set i (some (.own l))) := by
  have hi : i < e.length := (List.getElem?_eq_some_iff.mp he).1
  have get : ∀ {j : Nat} {c : Cell}, j ≠ i → e[j]? = some (some c) → noC (some c) = true := fun {j c} n q => noEnv_get hn (by rw [List.getElem?_set_ne (Ne.symm n)]; exact q)
  have hr : σ'[i]? = some (some (.ref a)) := by
    obtain ⟨v, q1, q2⟩ := r'.val i _ he
    cases q2 with
    | exn h => cases h; exact q1
  have ha : Hs' a = none := by
    cases q : Hs' a with
    | none => rfl
    | some o =>
      rcases r'.new a o q with z | z
      · have := r.sub0 _ _ z
        rw [h1] at this; cases this
      · rw [upd_same] at z; cases z
  have hH : H' a = some (.lst vs) := r'.keep _ _ upd_same
  refine ⟨fun b o q => r'.keep b o (by rw [upd_ne (ne_of_none q h2)]; exact q), r'.sub0, r'.sub, fun b o q => ?_, by rw [List.length_set, r'.len], fun j d q => ?_, fun j m q => ?_, fun j k m1 m2 b n e1 e2 p1 p2 => ?_⟩
  · rcases r'.new b o q with z | z
    · exact .inl z
    · right
      by_cases hb : b = a
      · subst hb; exact h2
      · rw [upd_ne hb] at z; exact z
  · rcases set_get q with ⟨rfl, z⟩ | ⟨n, q⟩
    · cases z
    · obtain ⟨v, q1, q2⟩ := r'.val j d q
      exact ⟨v, q1, q2.outP (get n q)⟩
  · rcases set_get q with ⟨rfl, z⟩ | ⟨n, q⟩
    · cases z
      exact ⟨a, vs, hr, ha, h2, hH, h5.mono sm⟩
    · obtain ⟨b, us, q1, q2, q3, q4, q5⟩ := r'.own j m q
      refine ⟨b, us, q1, q2, ?_, q4, q5.outP (get n q)⟩
      by_cases hb : b = a
      · subst hb; exact h2
      · rw [upd_ne hb] at q3; exact q3
  · rcases set_get e1 with ⟨rfl, z⟩ | ⟨n1, f1⟩
    · rcases set_get e2 with ⟨rfl, z⟩ | ⟨n2, e2⟩
      · exact n rfl
      · cases z
        obtain ⟨c, us, q1, q2, q3, q4, q5⟩ := r'.own k m2 e2
        rw [hr] at p1
        have : a = b := by simpa using p1
        subst this
        rw [p2] at q1
        have : a = c := by simpa using q1
        subst this
        rw [upd_same] at q3; cases q3
    · rcases set_get e2 with ⟨rfl, z⟩ | ⟨n2, e2⟩
      · cases z
        obtain ⟨c, us, q1, q2, q3, q4, q5⟩ := r'.own j m1 f1
        rw [hr] at p2
        have : a = b := by simpa using p2
        subst this
        rw [p1] at q1
        have : a = c := by simpa using q1
        subst this
        rw [upd_same] at q3; cases q3
      · exact r'.dis j k m1 m2 b n f1 e2 p1 p2
end
section
variable {X : Cx} {g : G} {E : XK} {B Hs0 : Hp} {tg iter : Expr} {body : List Stmt} {pos : Pos} {p : Pat} {s : Env → Res Fl} {i : Nat}
theorem turnsP {l : List D} {vs : List V} {a : Addr} {Hs1 : Hp} {Z : Ends} {σ : L2.St} {H : Hp} {env : Env} (hB : B a = some (.lst vs)) (rl : Rs g Hs1 vs l) (r : StR g B Hs0 Hs1 H σ env) (w : Wk g E B (forD p s l env) (SLand g B Hs0 Hs1 Z)) :
    ∃ W : Nat → Nat → L2.St → Hp → Prop, (∃ m, W 0 m σ H) ∧ ∀ i m σ H, W i m σ H →
      ((Itl g.K a).stop i H ∧ Z.nx σ H) ∨ ((Itl g.K a).go i H ∧ ∃ N : L2.St → Hp → Prop, (∀ σ' H', N σ' H' → ∃ m', m' < m ∧ W (i + 1) m' σ' H') ∧ ∀ x H', (Itl g.K a).yld i H x H' → GA g p x σ H' fun σ2 H2 => SR g E B Hs0 s { Z with nx := N, ct := N, bk := Z.nx } σ2 H2) := by
  refine ⟨fun i m σ H => ∃ Hs env, Same Hs1 Hs ∧ m = l.length - i ∧ StR g B Hs0 Hs H σ env ∧ Wk g E B (forD p s (l.drop i) env) (SLand g B Hs0 Hs Z), ⟨_, Hs1, env, Same.refl _, rfl, r, w⟩, ?_⟩
  rintro i m σ H ⟨Hs, env, sm, rfl, r, w⟩
  have hq : SqL g.K H a vs := SqL.of (r.keep _ _ hB)
  by_cases hi : i < l.length
  · right
    obtain ⟨v, h1, h2⟩ := rl.get (List.getElem?_eq_getElem hi)
    refine ⟨⟨vs, v, hq, h1⟩, fun σ' H' => ∃ Hs env, Same Hs1 Hs ∧ StR g B Hs0 Hs H' σ' env ∧ Wk g E B (forD p s (l.drop (i + 1)) env) (SLand g B Hs0 Hs Z), fun σ' H' ⟨Hs, env, a, b, c⟩ => ⟨l.length - (i + 1), by omega, Hs, env, a, rfl, b, c⟩, fun x H' ⟨e1, e2⟩ => ?_⟩
    subst e1
    have := e2 vs hq
    rw [h1] at this
    cases this
    rw [List.drop_eq_getElem_cons hi] at w
    obtain ⟨as, hp, w⟩ := must_wk w
    refine ⟨Hs, _, as, r.sub, h2.mono sm, hp, fun vas ra => ⟨Hs, _, r.setAll ra, w.bind.mono (Same.refl _) fun fl wf => ?_⟩⟩
    cases fl with
    | nx e => exact fun σ' H' Hs' s' r' => ⟨Hs', e, sm.trans s', r', wf.mono (Same.refl _) fun _ l => l.mono s'⟩
    | ct e => exact fun σ' H' Hs' s' r' => ⟨Hs', e, sm.trans s', r', wf.mono (Same.refl _) fun _ l => l.mono s'⟩
    | bk e => exact wf.is_ok
    | rt c => exact wf.is_ok
  · left
    have hd : l.drop i = [] := List.drop_of_length_le (Nat.not_lt.mp hi)
    rw [hd] at w
    exact ⟨⟨vs, hq, by rw [rl.length]; exact Nat.not_lt.mp hi⟩, w.is_ok σ H Hs (Same.refl _) r⟩
theorem ss_forP (hp : PassesOwn (model X.prog X.w) X.A X.env X.xe) (hc : X.calm = true) (hK : X.K = g.K) (ho : PE X iter (tVar i)) (hg : ∀ a, PG X tg (GA (gP g a) p)) (hb : ∀ a B', PSs X body (SR (gP g a) E B' Hs0 s))
    (hs : ∀ x, foldedSetIterable iter X.env x = pure x := by intro _; rfl) : PS X (.For tg iter body [] pos) (SR g E B Hs0 (sForP i p s)) := by
  have hg' : PG X tg (fun v σ H Q => ∃ a, GA (gP g a) p v σ H Q) := ⟨fun pins s σ H v u Q I r ⟨a, w⟩ => (hg a).run pins s σ H v u Q I r w⟩
  have hb' : PSs X body (fun D σ H => ∃ a B', SR (gP g a) E B' Hs0 s D σ H) := ⟨fun pins s σ H D I ⟨a, B', w⟩ => (hb a B').run pins s σ H D I w⟩
  refine PS_mono (ps_for hp hc (pi_list ho) hg' hb' hs) fun Z σ H ⟨Hs, env, r, w⟩ => ?_
  obtain ⟨l, hl, w⟩ := ownAt_wk w
  obtain ⟨a, vs, h1, h2, h3, h4, h5⟩ := r.own i l hl
  obtain ⟨⟨hE1, hE2⟩, fl, hf, w⟩ : (noEs l = true ∧ noEnv env = true) ∧ ∃ fl, forD p s l (env.set i (some (.val .exn))) = .ok fl ∧ Wk g E B (backP i l fl) (SLand g B Hs0 Hs Z) := by
    by_cases h : noEs l = true ∧ noEnv env = true
    · rw [if_pos h] at w
      exact ⟨h, must_wk w⟩
    · rw [if_neg h] at w; exact absurd rfl w.bad
  refine ⟨.ref a, h1, a, rfl, ⟨vs, SqL.of h4⟩, ?_⟩
  have w2 : Wk (gP g a) E (upd B a (.lst vs)) (forD p s l (env.set i (some (.val .exn)))) (SLand (gP g a) (upd B a (.lst vs)) Hs0 Hs Z) := by
    rw [hf]
    refine .of_ok ?_
    cases fl with
    | nx e =>
      have w : Wk g E B (match e[i]? with
        | some (some (.val .exn)) => if noEnv (e.set i none) = true then Res.ok (Fl.nx (e.set i (some (.own l)))) else .bad
        | _ => .bad) (SLand g B Hs0 Hs Z) := w
      split at w
      · rename_i he
        obtain ⟨hn, L⟩ := wk_if w
        exact fun σ' H' Hs' sm r' => L σ' H' Hs' sm (r.back h2 h3 h5 sm r' he hn)
      · exact absurd rfl w.bad
    | _ => exact absurd rfl w.bad
  obtain ⟨W, h0, st⟩ := turnsP upd_same (h5.inP hE1) (r.hide hl h1 h4 hE2) w2
  refine ⟨W, h0, fun j m σ H hw => ?_⟩
  rw [hK]
  rcases st j m σ H hw with z | ⟨z1, N, z2, z3⟩
  · exact .inl z
  · exact .inr ⟨z1, N, z2, fun x H' y => ⟨a, by
      obtain ⟨Hs2, d, as, q1, q2, q3, q4⟩ := z3 x H' y
      exact ⟨Hs2, d, as, q1, q2, q3, fun vas ra => ⟨a, _, q4 vas ra⟩⟩⟩⟩
end
@[simp] theorem x_noE_i {z : Int} : noE (.int z) = true := by simp [noE]
@[simp] theorem x_noE_b {z : Bool} : noE (.bl z) = true := by simp [noE]
@[simp] theorem x_noE_n : noE .non = true := by simp [noE]
@[simp] theorem x_noE_s {z : Str} : noE (.str z) = true := by simp [noE]
@[simp] theorem x_noE_r {z : List Int} : noE (.scr z) = true := by simp [noE]
@[simp] theorem x_noE_t {z : List D} : noE (.tup z) = noEs z := by simp [noE]
@[simp] theorem x_noE_l {z : List D} : noE (.lst z) = noEs z := by simp [noE]
@[simp] theorem x_noE_c {n : Int} {z : List D} : noE (.cut n z) = noEs z := by simp [noE]
@[simp] theorem x_noEs_n : noEs [] = true := by simp [noEs]
@[simp] theorem x_noEs_c {d : D} {z : List D} : noEs (d :: z) = (noE d && noEs z) := by simp [noEs]
theorem noEs_ints : ∀ z : List Int, noEs (z.map D.int) = true
  | [] => by simp
  | _ :: z => by simp [noEs_ints z]
@[simp] theorem x_noEs_a : ∀ {y z : List D}, noEs (y ++ z) = (noEs y && noEs z)
  | [], z => by simp
  | d :: y, z => by simp [x_noEs_a (y := y), Bool.and_assoc]
theorem noEs_all {l : List D} : (∀ d ∈ l, noE d = true) → noEs l = true := by
  induction l with
  | nil => intro _; simp
  | cons d l ih => intro h; simp [h d (by simp), ih fun x hx => h x (by simp [hx])]
@[simp] theorem x_sForP {i : Nat} {p : Pat} {s : Env → Res Fl} {env : Env} : sForP i p s env = ownAt env i fun l => if noEs l = true ∧ noEnv env = true then must (forD p s l (env.set i (some (.val .exn)))) (backP i l) else .bad := rfl
@[simp] theorem x_noEnv_n : noEnv [] = true := rfl
@[simp] theorem x_noEnv_c {c : Option Cell} {r : Env} : noEnv (c :: r) = (noC c && noEnv r) := rfl
@[simp] theorem x_noC_n : noC none = true := rfl
@[simp] theorem x_noC_v {d : D} : noC (some (.val d)) = noE d := rfl
@[simp] theorem x_noC_o {l : List D} : noC (some (.own l)) = noEs l := rfl
end PL

set_option Elab.async false
set_option linter.all false
set_option maxRecDepth 100000
set_option maxHeartbeats 1000000
namespace PL
open PySem PySem.Spec PyProof.Rows L2
/-! ### in, of a tuple of flat things -/
def flatD : D → Bool
  | .non => true
  | .bl _ => true
  | .int _ => true
  | .str _ => true
  | _ => false
def flV : D → V
  | .bl b => .bl b
  | .int i => .int i
  | .str s => .str s
  | _ => .non
theorem flV_of {g : G} {H : Hp} {v : V} {d : D} (r : R g H v d) (h : flatD d = true) : v = flV d ∧ flatV v = true := by
  cases r with
  | non => exact ⟨rfl, rfl⟩
  | bl b => exact ⟨rfl, rfl⟩
  | int b => exact ⟨rfl, rfl⟩
  | str b => exact ⟨rfl, rfl⟩
  | _ => exact absurd h (by simp [flatD])
theorem flVs_of {g : G} {H : Hp} : ∀ {vs : List V} {ds : List D}, Rs g H vs ds → ds.all flatD = true → vs = ds.map flV ∧ vs.all flatV = true
  | _, _, .nil, _ => ⟨rfl, rfl⟩
  | _, d :: ds, .cons h r, e => by
    have e : flatD d = true ∧ ds.all flatD = true := by simpa using e
    obtain ⟨a, b⟩ := flV_of h e.1
    obtain ⟨c, f⟩ := flVs_of r e.2
    subst a
    exact ⟨by rw [c]; rfl, by rw [List.all_cons, b, f]; rfl⟩
def inT (a : D) (l : List D) : Bool := inV (flV a) (l.map flV)
def inDT : D → D → Res D
  | a, .tup l => if flatD a = true ∧ l.all flatD = true then .ok (.bl (inT a l)) else .bad
  | a, b => inD a b
def ninDT : D → D → Res D
  | a, .tup l => if flatD a = true ∧ l.all flatD = true then .ok (.bl (!inT a l)) else .bad
  | a, b => ninD a b
abbrev rInDT (K : PySem.W.Frag) : R2 := fun x y H Q => rInD K x y H Q ∨ rIn K false x y H Q
abbrev rNinDT (K : PySem.W.Frag) : R2 := fun x y H Q => rNotInD K x y H Q ∨ rIn K true x y H Q
theorem op_inDT {X : Cx} (hu : X.A.units + 65 < cLine) : OpR X (compareOp .In) (rInDT X.K) := (op_inD hu).or op_in_seq
theorem op_ninDT {X : Cx} (hu : X.A.units + 65 < cLine) : OpR X (compareOp .NotIn) (rNinDT X.K) := (op_notInD hu).or op_notIn_seq
theorem od_inDT {g : G} : OpD g (rInDT g.K) inDT := by
  intro Hs H v u a b Q s r1 r2 E w
  by_cases hb : ∃ l, b = .tup l
  · obtain ⟨l, rfl⟩ := hb
    obtain ⟨⟨h1, h2⟩, L⟩ := wk_if (show Wk g E H (if flatD a = true ∧ l.all flatD = true then Res.ok (D.bl (inT a l)) else .bad) (Lands g Hs H Q) from w)
    cases r2 with
    | tup h q =>
      obtain ⟨e1, f1⟩ := flV_of r1 h1
      obtain ⟨e2, f2⟩ := flVs_of q h2
      subst e1 e2
      exact .inr ⟨_, _, rfl, .inr (SameT s h), f1, f2, L _ _ _ (Ext.refl s) (.bl _)⟩
  · have e : inDT a b = inD a b := by
      unfold inDT
      split
      · rename_i l
        exact absurd ⟨l, rfl⟩ hb
      · rfl
    rw [e] at w
    exact .inl (od_in Hs H v u a b Q s r1 r2 E w)
theorem od_ninDT {g : G} : OpD g (rNinDT g.K) ninDT := by
  intro Hs H v u a b Q s r1 r2 E w
  by_cases hb : ∃ l, b = .tup l
  · obtain ⟨l, rfl⟩ := hb
    obtain ⟨⟨h1, h2⟩, L⟩ := wk_if (show Wk g E H (if flatD a = true ∧ l.all flatD = true then Res.ok (D.bl (!inT a l)) else .bad) (Lands g Hs H Q) from w)
    cases r2 with
    | tup h q =>
      obtain ⟨e1, f1⟩ := flV_of r1 h1
      obtain ⟨e2, f2⟩ := flVs_of q h2
      subst e1 e2
      exact .inr ⟨_, _, rfl, .inr (SameT s h), f1, f2, L _ _ _ (Ext.refl s) (.bl _)⟩
  · have e : ninDT a b = ninD a b := by
      unfold ninDT
      split
      · rename_i l
        exact absurd ⟨l, rfl⟩ hb
      · rfl
    rw [e] at w
    exact .inl (od_nin Hs H v u a b Q s r1 r2 E w)
@[simp] theorem x_inDT_t {a : D} {l : List D} : inDT a (.tup l) = if flatD a = true ∧ l.all flatD = true then .ok (.bl (inT a l)) else .bad := rfl
@[simp] theorem x_inDT_l {a : D} {l : List D} : inDT a (.lst l) = inD a (.lst l) := rfl
@[simp] theorem x_ninDT_t {a : D} {l : List D} : ninDT a (.tup l) = if flatD a = true ∧ l.all flatD = true then .ok (.bl (!inT a l)) else .bad := rfl
@[simp] theorem x_ninDT_l {a : D} {l : List D} : ninDT a (.lst l) = ninD a (.lst l) := rfl
@[simp] theorem x_flatD_i {i : Int} : flatD (.int i) = true := rfl
@[simp] theorem x_flatD_s {i : Str} : flatD (.str i) = true := rfl
@[simp] theorem x_flatD_n : flatD .non = true := rfl
@[simp] theorem x_flatD_b {b : Bool} : flatD (.bl b) = true := rfl
@[simp] theorem x_inT_n {a : D} : inT a [] = false := rfl
@[simp] theorem x_inT_c {a d : D} {l : List D} : inT a (d :: l) = (eqV (flV d) (flV a) || inT a l) := rfl
@[simp] theorem x_eqV_ii {i j : Int} : eqV (flV (.int i)) (flV (.int j)) = (i == j) := rfl
@[simp] theorem x_eqV_ss {i j : Str} : eqV (flV (.str i)) (flV (.str j)) = (i == j) := rfl
theorem flatD_ints : ∀ ns : List Int, (ns.map D.int).all flatD = true
  | [] => rfl
  | _ :: ns => by rw [List.map_cons, List.all_cons, flatD_ints ns]; rfl
theorem inT_ints {i : Int} : ∀ ns : List Int, inT (.int i) (ns.map D.int) = decide (i ∈ ns)
  | [] => by simp
  | n :: ns => by
    have e : (n == i) = decide (i = n) := by
      by_cases h : n = i
      · subst h; simp
      · simp [h, Ne.symm h]
    simp [inT_ints ns, e]
/-! ### a comprehension within one -/
def relS (scope sc0 : Scope) : Scope := { scope with names := scope.names.map fun (n, k) => if (k == .free && sc0.kind == .function && sc0.names.lookup n == some .cell) then (n, .cell) else (n, k) }
theorem blkOk_rel {N : List Str} {scope inner sc0 : Scope} {env : PySem.Env} {cl : List (Str × Addr)} {C : Addr} {own : List (Str × Nat)} (e : env.scope = sc0) (h : blkC N (relS scope sc0) inner own = true) : BlkOk N (compEnvC scope cl C env).scope inner own := by
  subst e
  exact blkOk_by h
end PL

set_option Elab.async false
set_option linter.all false
set_option maxRecDepth 100000
namespace PL
open PySem PySem.Spec PyProof.Rows L2
/-! sorted(xs), a list of tuples of ints, of any length -/
/-! ### the order -/
def lexI : List Int → List Int → Bool
  | [], [] => false
  | [], _ :: _ => true
  | _ :: _, [] => false
  | x :: r, y :: t => decide (x < y) || (!decide (y < x) && lexI r t)
def leI (a b : List Int) : Prop := lexI b a = false
abbrev KO : KeyOrd := PyProof.Rows.listOrd PyProof.Rows.itemOrd
def kyI (l : List Int) : List (Int ⊕ List Nat) := l.map Sum.inl
theorem lexI_eq : ∀ a b : List Int, PyProof.Rows.lexLt PyProof.Rows.itemOrd (kyI a) (kyI b) = lexI a b
  | [], [] => rfl
  | [], _ :: _ => rfl
  | _ :: _, [] => rfl
  | x :: r, y :: t => by
    have ih := lexI_eq r t
    show (decide (x < y) || (!decide (y < x) && PyProof.Rows.lexLt PyProof.Rows.itemOrd (kyI r) (kyI t))) = _
    rw [ih]; rfl
theorem leI_kle {a b : List Int} : leI a b ↔ KO.kle (kyI a) (kyI b) := by
  show lexI b a = false ↔ PyProof.Rows.lexLt PyProof.Rows.itemOrd (kyI b) (kyI a) = false
  rw [lexI_eq]
theorem leI_refl (a : List Int) : leI a a := leI_kle.mpr (KeyOrd.kle_refl _)
theorem leI_trans {a b c : List Int} (h : leI a b) (k : leI b c) : leI a c := leI_kle.mpr (KeyOrd.kle_trans (leI_kle.mp h) (leI_kle.mp k))
theorem kyI_inj : ∀ {a b : List Int}, kyI a = kyI b → a = b
  | [], [], _ => rfl
  | [], _ :: _, h => by cases h
  | _ :: _, [], h => by cases h
  | x :: a, y :: b, h => by
    have h : Sum.inl x :: kyI a = Sum.inl y :: kyI b := h
    injection h with h1 h2
    injection h1 with h1
    rw [h1, kyI_inj h2]
theorem leI_anti {a b : List Int} (h : leI a b) (k : leI b a) : a = b := kyI_inj (KeyOrd.kle_antisymm (leI_kle.mp h) (leI_kle.mp k))
theorem leI_total (a b : List Int) : leI a b ∨ leI b a := by
  cases h : lexI b a
  · exact .inl h
  · refine .inr (leI_kle.mpr (KeyOrd.klt_asymm ?_))
    show PyProof.Rows.lexLt PyProof.Rows.itemOrd (kyI b) (kyI a) = true
    rw [lexI_eq, h]
/-! ### one order only -/
theorem srt_uniq {α : Type} {le : α → α → Prop} (anti : ∀ {a b}, le a b → le b a → a = b) : ∀ {l m : List α}, l.Perm m → l.Pairwise le → m.Pairwise le → l = m
  | [], m, p, _, _ => by rw [p.nil_eq]
  | a :: l, m, p, hl, hm => by
    cases m with
    | nil => exact absurd p.symm.nil_eq (by simp)
    | cons b m =>
      have ab : a = b := by
        rcases List.mem_cons.mp (p.mem_iff.mp List.mem_cons_self) with e | e
        · exact e
        rcases List.mem_cons.mp (p.symm.mem_iff.mp List.mem_cons_self) with e' | e'
        · exact e'.symm
        exact anti ((List.pairwise_cons.mp hl).1 b e') ((List.pairwise_cons.mp hm).1 a e)
      subst ab
      rw [srt_uniq anti p.cons_inv (List.pairwise_cons.mp hl).2 (List.pairwise_cons.mp hm).2]
def insS (x : List Int) : List (List Int) → List (List Int)
  | [] => [x]
  | y :: l => if lexI y x then y :: insS x l else x :: y :: l
def sortS : List (List Int) → List (List Int)
  | [] => []
  | x :: l => insS x (sortS l)
theorem insS_perm (x : List Int) : ∀ l, (insS x l).Perm (x :: l)
  | [] => List.Perm.refl _
  | y :: l => by
    unfold insS
    split
    · exact ((insS_perm x l).cons y).trans (List.Perm.swap _ _ _)
    · exact List.Perm.refl _
theorem sortS_perm : ∀ l, (sortS l).Perm l
  | [] => List.Perm.refl _
  | x :: l => (insS_perm x (sortS l)).trans ((sortS_perm l).cons x)
theorem insS_srt (x : List Int) : ∀ {l}, l.Pairwise leI → (insS x l).Pairwise leI
  | [], _ => List.pairwise_singleton _ _
  | y :: l, h => by
    obtain ⟨h1, h2⟩ := List.pairwise_cons.mp h
    unfold insS
    split
    · rename_i q
      have yx : leI y x := leI_kle.mpr (KeyOrd.klt_asymm (by
        show PyProof.Rows.lexLt PyProof.Rows.itemOrd (kyI y) (kyI x) = true
        rw [lexI_eq, q]))
      refine List.pairwise_cons.mpr ⟨fun z hz => ?_, insS_srt x h2⟩
      rcases List.mem_cons.mp ((insS_perm x l).mem_iff.mp hz) with e | e
      · rw [e]; exact yx
      · exact h1 z e
    · rename_i q
      have xy : leI x y := by
        show lexI y x = false
        simpa using q
      refine List.pairwise_cons.mpr ⟨fun z hz => ?_, h⟩
      rcases List.mem_cons.mp hz with e | e
      · rw [e]; exact xy
      · exact leI_trans xy (h1 z e)
theorem sortS_srt : ∀ l, (sortS l).Pairwise leI
  | [] => List.Pairwise.nil
  | x :: l => insS_srt x (sortS_srt l)
theorem sortS_uniq {l m : List (List Int)} (p : l.Perm m) (h : l.Pairwise leI) : l = sortS m := srt_uniq (le := leI) leI_anti (p.trans (sortS_perm m).symm) h (sortS_srt m)
/-! ### the call -/
theorem tupItems_ints : ∀ {ns : List Int} {us : List Value} {i : Nat}, Vals (ns.map V.int) us → PyProof.Rows.tupItems (fun _ => false) i us = some (kyI ns)
  | [], _, _, .nil => rfl
  | n :: ns, _, i, .cons r t => by
    obtain ⟨tk, rfl⟩ := r
    show (if false = true then none else (PyProof.Rows.tupItems (fun _ => false) (i + 1) _).map (Sum.inl n :: ·)) = _
    rw [tupItems_ints t]; rfl
section
variable {X : Cx} {pins : List (Addr × Obj)} {σ : L2.St} {H : Hp} {s : Shared}
theorem tupI_key (I : Inv X pins σ H s) {t : Addr} {ns : List Int} (h : SqT X.K H t (ns.map V.int)) : PyProof.Rows.G.tupKeyC s.heap (fun _ => false) (.ref t) = some (kyI ns) := by
  obtain ⟨its, r, ⟨o, ho, hc, n, hd⟩, _⟩ := I.tuple h
  exact PyProof.Rows.G.tupKeyC_of ho hc hd (tupItems_ints (by simpa using r))
theorem tupI_first (I : Inv X pins σ H s) {t : Addr} {ns : List Int} (h : SqT X.K H t (ns.map V.int)) (hn : ns ≠ []) : ∃ f, PyProof.Rows.TupOf s.heap (fun _ => false) (.ref t) f := by
  obtain ⟨its, r, ⟨o, ho, hc, n, hd⟩, _⟩ := I.tuple h
  cases ns with
  | nil => exact absurd rfl hn
  | cons z ns =>
    cases r with
    | cons r0 r =>
      obtain ⟨tk, rfl⟩ := r0
      exact ⟨.int z tk, t, o, _, n, rfl, ho, hc, hd, by simp, fun _ => ⟨z, tk, rfl⟩, fun e => absurd e (by decide)⟩
theorem tups_of : ∀ {vs : List Value}, (∀ v ∈ vs, ∃ f, PyProof.Rows.TupOf s.heap (fun _ => false) v f) → ∃ fs, PyProof.Rows.TupsOf s.heap (fun _ => false) vs fs
  | [], _ => ⟨[], .nil⟩
  | v :: vs, h => by
    obtain ⟨f, hf⟩ := h v List.mem_cons_self
    obtain ⟨fs, hfs⟩ := tups_of fun u hu => h u (List.mem_cons_of_mem _ hu)
    exact ⟨f :: fs, .cons hf hfs⟩
/-- sorted(xs), xs a list of tuples of ints -/
def rSortI (K : PySem.W.Frag) : List V → Hp → VK → Prop := fun vs H Q => ∃ (a : Addr) (xs : List V), vs = [V.ref a] ∧ SqL K H a xs ∧ (∀ x ∈ xs, ∃ ns, TupI K H x ns ∧ (xs.length ≤ 1 ∨ ns ≠ [])) ∧
  ∀ (ys : List V) (p : Addr), ys.Perm xs → ys.Pairwise (fun x y => ∀ n m, TupI K H x n → TupI K H y m → leI n m) → H p = none → Q (.ref p) (upd H p (.lst ys))
theorem cr_sortI : CallR X (.builtin "sorted") (rSortI X.K) := by
  intro pins s σ H vs us Q I r h
  obtain ⟨a, xs, rfl, hs, hx, q⟩ := h
  obtain ⟨its, rv, hl, hz⟩ := I.list hs
  rw [Vals.ref1 r]
  obtain ⟨e1, e2⟩ := bkV_refs rv fun x m => by
    obtain ⟨ns, ⟨t, e, _⟩, _⟩ := hx x m
    exact ⟨t, e⟩
  have lx : xs.length = its.length := rv.length
  have back : ∀ v ∈ its, ∃ t ns, v = .ref t ∧ SqT X.K H t (ns.map V.int) ∧ (xs.length ≤ 1 ∨ ns ≠ []) := fun v hv => by
    obtain ⟨t, rfl⟩ := e2 v hv
    have hm : V.ref t ∈ xs := by
      rw [e1]
      exact List.mem_map.mpr ⟨_, hv, rfl⟩
    obtain ⟨ns, ⟨t', e, ht⟩, hn⟩ := hx _ hm
    cases e
    exact ⟨t, ns, rfl, ht, hn⟩
  have hk : ∀ v, v ∈ its → ∃ l, PyProof.Rows.G.tupKeyC s.heap (fun _ => false) v = some l := fun v hv => by
    obtain ⟨t, ns, rfl, ht, _⟩ := back v hv
    exact ⟨_, tupI_key I ht⟩
  have hL : its.length ≤ sizeLine := by rw [← lx]; exact hz
  refine PyProof.Rows.G.sortedG (κ := PyProof.Rows.G.tupKindC s.heap (fun _ => false)) (kd := tuples' true) hl.isList (PyProof.Rows.G.tupKeys hk) (fun s₂ k => PyProof.Rows.G.tupC_ltAt (s := s₂) true k) (fun h2 A E s₂ Q k hq => ?_) hL fun st' pm so _ => ?_
  · obtain ⟨fs, hf⟩ := tups_of (s := s) (vs := its) fun v hv => by
      obtain ⟨t, ns, rfl, ht, hn⟩ := back v hv
      exact tupI_first I ht (hn.resolve_left (by omega))
    exact PyProof.Rows.tup_kind (s := s₂) (by rw [PyProof.Rows.G.TupsOf.length hf]; omega) (PyProof.Rows.G.TupsOf.keep k hf) hq
  · have pl : (arrOf st').toList.Perm (its.zip its) := by
      have e := Array.perm_iff_toList_perm.mp pm
      rw [pairsOf_toList] at e
      exact e
    have ko : KeysOf (PyProof.Rows.G.tupKindC s.heap (fun _ => false)) (arrOf st') := fun p hp => hk p.1 (mem_zip_self (pl.mem_iff.mp hp)).2
    have so : SortedToK (PyProof.Rows.G.tupKindC s.heap (fun _ => false)) (arrOf st') (arrOf st').size := by rw [pm.size_eq]; exact so
    have pw := keyLe_of_sorted ko so
    obtain ⟨out, hout⟩ : ∃ out, (arrOf st').map (·.2) = out := ⟨_, rfl⟩
    have ol : out.toList = (arrOf st').toList.map (·.2) := by rw [← hout]; simp
    have h1 : out.toList.Perm its := by
      rw [ol]
      have := pl.map (·.2)
      rwa [show (its.zip its).map (·.2) = its from List.map_snd_zip (Nat.le_refl _)] at this
    rw [hout]
    obtain ⟨ep, he'⟩ := PyProof.Rows.sortedAll_at s.heap its out
    have h3 : ∀ u ∈ out.toList, ∃ a, u = Value.ref a := fun u hu => by
      obtain ⟨t, ns, e, _⟩ := back u (h1.mem_iff.mp hu)
      exact ⟨t, e⟩
    have hp : (out.toList.map bkV).Perm xs := by
      rw [e1]
      exact h1.map bkV
    have hlen : (out.toList.map bkV).length ≤ sizeLine := by
      rw [hp.length_eq]
      exact hz
    refine ⟨.ref _, upd H (s.heap.objs.size + 1) (.lst (out.toList.map bkV)), I.laid (t' := s.toks) (fun _ _ => PyProof.Rows.sortedAll_old) (Nat.le_succ _) ⟨hlen, out.toList, ep, bkV_vals h3, he'⟩, rfl, q _ _ hp ?_ (I.hok.fresh (Nat.le_succ _))⟩
    rw [List.pairwise_map, ol, List.pairwise_map]
    refine List.Pairwise.imp_of_mem (fun {p q} mp mq hpq n m hn hm => ?_) pw
    obtain ⟨t, et, ht⟩ := hn
    obtain ⟨t', et', ht'⟩ := hm
    obtain ⟨x, y, kx, ky, hle⟩ := hpq
    have ep1 : p.1 = p.2 := (mem_zip_self (pl.mem_iff.mp mp)).1
    have eq1 : q.1 = q.2 := (mem_zip_self (pl.mem_iff.mp mq)).1
    rw [ep1, bkV_ref et] at kx
    rw [eq1, bkV_ref et'] at ky
    have kx : PyProof.Rows.G.tupKeyC s.heap (fun _ => false) (.ref t) = some x := kx
    have ky : PyProof.Rows.G.tupKeyC s.heap (fun _ => false) (.ref t') = some y := ky
    rw [tupI_key I ht] at kx
    rw [tupI_key I ht'] at ky
    cases kx
    cases ky
    exact leI_kle.mpr hle
end
/-! ### as data -/
def itsD : List D → Option (List Int)
  | [] => some []
  | .int z :: l => (itsD l).map (z :: ·)
  | _ => none
def tupsD : List D → Option (List (List Int))
  | [] => some []
  | .tup l :: r => match itsD l, tupsD r with
    | some ns, some nss => some (ns :: nss)
    | _, _ => none
  | _ => none
theorem itsD_eq : ∀ {l : List D} {ns : List Int}, itsD l = some ns → l = ns.map D.int
  | [], _, h => by cases h; rfl
  | .int z :: l, ns, h => by
    unfold itsD at h
    cases e : itsD l with
    | none => rw [e] at h; cases h
    | some ms => rw [e] at h; cases h; rw [itsD_eq e]; rfl
  | .non :: _, _, h => by cases h
  | .bl _ :: _, _, h => by cases h
  | .str _ :: _, _, h => by cases h
  | .tup _ :: _, _, h => by cases h
  | .lst _ :: _, _, h => by cases h
  | .scr _ :: _, _, h => by cases h
  | .cut _ _ :: _, _, h => by cases h
  | .dic :: _, _, h => by cases h
  | .exn :: _, _, h => by cases h
def sT (ns : List Int) : D := .tup (ns.map D.int)
theorem tupsD_eq : ∀ {l : List D} {nss : List (List Int)}, tupsD l = some nss → l = nss.map sT
  | [], _, h => by cases h; rfl
  | .tup l :: r, nss, h => by
    unfold tupsD at h
    cases e : itsD l with
    | none => rw [e] at h; cases h
    | some ms =>
      cases e2 : tupsD r with
      | none => rw [e, e2] at h; cases h
      | some mss => rw [e, e2] at h; cases h; rw [itsD_eq e, tupsD_eq e2]; rfl
  | .non :: _, _, h => by cases h
  | .bl _ :: _, _, h => by cases h
  | .str _ :: _, _, h => by cases h
  | .int _ :: _, _, h => by cases h
  | .lst _ :: _, _, h => by cases h
  | .scr _ :: _, _, h => by cases h
  | .cut _ _ :: _, _, h => by cases h
  | .dic :: _, _, h => by cases h
  | .exn :: _, _, h => by cases h
theorem itsD_ints : ∀ ns : List Int, itsD (ns.map D.int) = some ns
  | [] => rfl
  | n :: ns => by
    show (itsD (ns.map D.int)).map (n :: ·) = _
    rw [itsD_ints ns]; rfl
theorem tupsD_sT : ∀ nss : List (List Int), tupsD (nss.map sT) = some nss
  | [] => rfl
  | ns :: nss => by
    show (match itsD (ns.map D.int), tupsD (nss.map sT) with | some ns, some nss => some (ns :: nss) | _, _ => none) = _
    rw [itsD_ints, tupsD_sT nss]
def sortOk (nss : List (List Int)) : Bool := decide (nss.length ≤ 1) || nss.all fun ns => !(ns == [])
def sortedO : List D → Res (List D)
  | [.lst l] => match tupsD l with
    | some nss => if sortOk nss = true then .ok ((sortS nss).map sT) else .bad
    | none => .bad
  | _ => .bad
theorem x_sortedO {nss : List (List Int)} (h : nss.length ≤ 1 ∨ ∀ ns ∈ nss, ns ≠ []) : sortedO [.lst (nss.map sT)] = .ok ((sortS nss).map sT) := by
  unfold sortedO
  have : sortOk nss = true := by
    unfold sortOk
    rcases h with h | h
    · simp [h]
    · have : (nss.all fun ns => !(ns == [])) = true := List.all_eq_true.mpr fun ns hns => by simpa using h ns hns
      rw [this, Bool.or_true]
  simp only [tupsD_sT, this, if_true]
theorem perm_back {α β : Type} (f : α → β) : ∀ {zs : List α} {ys : List β}, ys.Perm (zs.map f) → ∃ zs' : List α, ys = zs'.map f ∧ zs'.Perm zs
  | [], ys, p => ⟨[], by simpa using p.symm.nil_eq.symm, List.Perm.refl _⟩
  | z :: zs, ys, p => by
    have hm : f z ∈ ys := p.mem_iff.mpr (by simp)
    obtain ⟨a, b, rfl⟩ := List.append_of_mem hm
    have p2 : (a ++ b).Perm (zs.map f) := (List.perm_middle.symm.trans (by simpa using p)).cons_inv
    obtain ⟨w, hw, pw⟩ := perm_back f p2
    obtain ⟨w1, w2, rfl, h1, h2⟩ := List.map_eq_append_iff.mp hw.symm
    exact ⟨w1 ++ z :: w2, by simp [h1, h2], List.perm_middle.trans (pw.cons z)⟩
theorem rs_ints_eq {g : G} {H : Hp} : ∀ {vs : List V} {ns : List Int}, Rs g H vs (ns.map D.int) → vs = ns.map V.int
  | _, [], .nil => rfl
  | _, _ :: _, .cons r t => by
    cases r
    rw [rs_ints_eq t]; rfl
theorem rs_zip {g : G} {H : Hp} : ∀ {vs : List V} {nss : List (List Int)}, Rs g H vs (nss.map sT) → (vs.zip nss).map (·.1) = vs ∧ (vs.zip nss).map (·.2) = nss ∧ ∀ p ∈ vs.zip nss, R g H p.1 (sT p.2)
  | _, [], .nil => ⟨rfl, rfl, fun _ h => absurd h (by simp)⟩
  | _, _ :: _, .cons r t => by
    obtain ⟨a, b, c⟩ := rs_zip t
    refine ⟨by simp [a], by simp [b], fun p hp => ?_⟩
    rcases List.mem_cons.mp hp with e | e
    · rw [e]; exact r
    · exact c p e
theorem zip_rs {g : G} {H : Hp} : ∀ {zs : List (V × List Int)}, (∀ p ∈ zs, R g H p.1 (sT p.2)) → Rs g H (zs.map (·.1)) ((zs.map (·.2)).map sT)
  | [], _ => .nil
  | p :: zs, h => .cons (h p List.mem_cons_self) (zip_rs fun q hq => h q (List.mem_cons_of_mem _ hq))
theorem r_tupI {g : G} {H : Hp} {v : V} {ns : List Int} (r : R g H v (sT ns)) : TupI g.K H v ns := by
  cases r with
  | tup h q => exact ⟨_, rfl, rs_ints_eq q ▸ h⟩
section
variable {X : Cx} {g : G} {E : XK} {e : Expr} {es : List Expr} {fs : BEnv → Res (List D)} {p pos : Pos}
theorem eo_sorted (hK : X.K = g.K) (hg : Gl X "sorted") (hm : X.mg "sorted" = none) (ha : PA X (e :: es) (AR g E fs))
    (he : starEach (e :: es) X.env = (false, eval e X.env) :: starEach es X.env := by rfl) (hpl : (backTo pos (starEach es X.env)).any (·.1) = false := by rfl) : PE X (.Call (.Name "sorted" p) (e :: es) [] pos) (EO g E (eCallO sortedO fs)) :=
  PE_mono (pe_callB cr_sortI hg hm (by decide +kernel) ha (by decide) (by decide) he hpl) fun σ H Q w => ar_thenO (r := rSortI X.K) (fun Hs H vs ds Q s r w => by
    unfold sortedO at w
    split at w
    · rename_i l
      obtain ⟨⟩ | ⟨r, r0⟩ := r
      cases r0
      cases e : tupsD l with
      | none => rw [e] at w; exact absurd rfl w.bad
      | some nss =>
        rw [e] at w
        obtain ⟨hok, l'⟩ := wk_if w
        have el := tupsD_eq e
        subst el
        cases r with
        | lst h q =>
          rename_i a us
          obtain ⟨z1, z2, z3⟩ := rs_zip q
          have lu : us.length = nss.length := by rw [q.length, List.length_map]
          refine ⟨a, us, rfl, hK ▸ s.seq (SqL.of h), fun x hx => ?_, fun ys b pm pw nb => ?_⟩
          · rw [← z1] at hx
            obtain ⟨p, hp, rfl⟩ := List.mem_map.mp hx
            refine ⟨p.2, ?_, ?_⟩
            · obtain ⟨t, et, ht⟩ := r_tupI (z3 p hp)
              exact ⟨t, et, hK ▸ SameT s ht⟩
            · rcases Bool.or_eq_true_iff.mp hok with k | k
              · exact .inl (by rw [lu]; exact of_decide_eq_true k)
              · refine .inr ?_
                have : p.2 ∈ nss := by rw [← z2]; exact List.mem_map.mpr ⟨p, hp, rfl⟩
                simpa using List.all_eq_true.mp k _ this
          · rw [← z1] at pm
            obtain ⟨zs, rfl, pz⟩ := perm_back (fun p : V × List Int => p.1) pm
            have z4 : ∀ p ∈ zs, R g Hs p.1 (sT p.2) := fun p hp => z3 p (pz.mem_iff.mp hp)
            have es : zs.map (·.2) = sortS nss := by
              refine sortS_uniq (by rw [← z2]; exact pz.map _) ?_
              rw [List.pairwise_map] at pw ⊢
              refine List.Pairwise.imp_of_mem (fun {p q} mp mq hpq => ?_) pw
              obtain ⟨t, et, ht⟩ := r_tupI (z4 p mp)
              obtain ⟨t', et', ht'⟩ := r_tupI (z4 q mq)
              exact hpq _ _ ⟨t, et, hK ▸ SameT s ht⟩ ⟨t', et', hK ▸ SameT s ht'⟩
            have rr := zip_rs z4
            rw [es] at rr
            exact lands_own l' s nb rr
    · exact absurd rfl w.bad) w
end
end PL

set_option Elab.async false
set_option linter.all false
set_option maxRecDepth 100000
namespace PL
open PySem PySem.Spec PyProof.Rows L2
/-! xs.index(x): the first place of an equal one -/
def idxD (l : List D) (b : D) : Res D := if eqOks 59 l = true ∧ eqOk 60 b = true then (match l.findIdx? (fun z => deq z b) with | some j => .ok (.int (j : Nat)) | none => .bad) else .bad
def eIdx (f h : BEnv → Res D) : BEnv → Res D := fun env => f env >>= fun a => match a with
  | .lst l => h env >>= fun b => idxD l b
  | _ => .bad
@[simp] theorem x_eIdx {f h : BEnv → Res D} {env : BEnv} : eIdx f h env = (f env >>= fun a => match a with
  | .lst l => h env >>= fun b => idxD l b
  | _ => .bad) := rfl
theorem wk_if' {α : Type} {g : G} {E : XK} {H : Hp} {c : Prop} [Decidable c] {r : Res α} {P : α → Prop} (w : Wk g E H (if c then r else .bad) P) : c ∧ Wk g E H r P := by
  by_cases h : c
  · rw [if_pos h] at w; exact ⟨h, w⟩
  · rw [if_neg h] at w; exact absurd rfl w.bad
theorem toPys_map : ∀ l : List D, toPys l = l.map toPy
  | [] => rfl
  | d :: l => by
    show toPy d :: toPys l = _
    rw [toPys_map l]; rfl
section
variable {X : Cx} {g : G} {E : XK} {o e : Expr} {f h : BEnv → Res D} {apos cpos : Pos}
theorem se_index (hK : X.K = g.K) (hu : X.A.units + 65 < cLine) (ho : PE X o (ER g E f)) (he : PE X e (ER g E h))
    (hbase : attributeBase o "index" X.env (eval o X.env) = eval o X.env := by rfl)
    (hfew : ((backTo cpos (starEach [e] X.env)).all (fun x => !x.1) && (backToKw cpos (keywordEach [] X.env)).all (fun x => x.1.isSome)
      && decide (([e] : List Expr).length + ([] : List Keyword).length + (if ([] : List Keyword).isEmpty then 0 else 1) < 30)) = true := by rfl)
    (hline : (apos.endLine == cpos.line) = true := by rfl) (hst : starEach [e] X.env = (false, eval e X.env) :: starEach [] X.env := by rfl) (hplain : (backTo cpos (starEach [] X.env)).any (·.1) = false := by rfl) :
    PE X (.Call (.Attribute o "index" apos) [e] [] cpos) (ER g E (eIdx f h)) :=
  PE_mono (pe_bm PySem.F.plainAttrs_list PySem.F.slot_list_index PySem.F.type_list_index (mt_indexD hu) ho (pa_cons he pa_nil hst) hbase hfew hline hst hplain) fun σ H Q w => by
    obtain ⟨Hs, env, s, rr, w⟩ := w
    refine ⟨Hs, env, s, rr, w.bind.mono (Same.refl _) fun a wa v H1 Hs1 x1 r1 => ?_⟩
    cases a with
    | lst l =>
      have wa : Wk g E H (h env >>= fun b => idxD l b) (Lands g Hs H Q) := wa
      cases r1 with
      | lst q r =>
        rename_i p vs
        refine ⟨.inl ⟨rfl, vs, by rw [hK]; exact x1.sub.seq (SqL.of q)⟩, Hs1, env, x1.sub, rr.mono x1.up, wa.bind.mono x1.same fun b wb u H2 Hs2 x2 r2 => ?_⟩
        have r1 : R g Hs1 (.ref p) (.lst l) := .lst q r
        unfold idxD at wb
        obtain ⟨⟨h1, h2⟩, wb⟩ := wk_if' wb
        obtain ⟨d1, s1⟩ := shaped_of ((r1.mono x2.up).mono x2.sub) (show eqOk 60 (.lst l) = true by simp [h1])
        obtain ⟨d2, s2⟩ := shaped_of (r2.mono x2.sub) h2
        cases hj : l.findIdx? (fun z => deq z b) with
        | none => rw [hj] at wb; exact absurd rfl wb.bad
        | some j =>
          rw [hj] at wb
          obtain ⟨k1, k2, k3⟩ := List.findIdx?_eq_some_iff_getElem.mp hj
          refine ⟨p, u, toPy b, toPys l, j, toPy l[j], rfl, rfl, by rw [hK]; exact d1, by rw [hK]; exact d2, s1, s2, by rw [toPys_map]; simp [k1], k2, fun m z' hm hz => ?_, ?_⟩
          · rw [toPys_map] at hz
            have hml : m < l.length := by omega
            have e : toPy l[m] = z' := by simpa [hml] using hz
            rw [← e]
            have := k3 m hm
            simpa [deq] using this
          · exact wb.is_ok _ H2 Hs2 (x1.trans x2) (.int _)
    | _ => exact absurd rfl wa.bad
end
end PL

set_option Elab.async false
set_option linter.all false
set_option maxRecDepth 100000
set_option maxHeartbeats 4000000
namespace HT
open PySem PySem.Spec PyProof.Rows L2
/-! t[::-1] of a tuple -/
section
variable {prog : Program} {w : World} {A : Around} {E : Value → Shared → Prop} {s : Shared}
theorem sliceApplied_rev {sl : Addr} {vs : Value} {n : Nat} {Q : Int × Int × Nat → Shared → Prop} (hs : s.heap.IsSliceOf sl .none .none vs) (ps : IsPart vs (some (-1)))
    (h : Q ((n : Int) - 1, -1, n) s) : wpAny (model prog w) A (Builtin.Slice.sliceApplied (.ref sl) (pure (n : Int))) Q E s := by
  obtain ⟨os, hos, hcs, hds⟩ := id hs
  unfold Builtin.Slice.sliceApplied Builtin.Slice.sliceFields
  refine wpAny_bind (wpAny_bind (wpAny_field hos hds (x := .none) rfl (wpAny_bind (wpAny_field hos hds (x := .none) rfl (wpAny_bind (wpAny_field hos hds (x := vs) rfl (wpAny_pure ?_)))))))
  refine wpAny_bind (slicePart_ ps ?_)
  show wpAny _ _ (if ((-1 : Int) == 0) = true then _ else _) _ _ s
  rw [if_neg (by decide)]
  refine wpAny_bind (slicePart_none (wpAny_bind (slicePart_none (wpAny_bind (wpAny_pure ?_)))))
  have e1 : Builtin.Slice.sliceAdjust none none (-1) (n : Int) = ((n : Int) - 1, -1) := by
    unfold Builtin.Slice.sliceAdjust
    simp
  show wpAny _ _ (match Builtin.Slice.sliceAdjust none none (-1) (n : Int) with | (lo, hi) => pure (lo, (-1 : Int), Builtin.Slice.slicePlaces lo hi (-1))) _ _ s
  rw [e1]
  have e2 : Builtin.Slice.slicePlaces ((n : Int) - 1) (-1) (-1) = n := by
    unfold Builtin.Slice.slicePlaces
    have h1 : ¬ ((-1 : Int) > 0) := by omega
    simp only [h1, if_false]
    split
    · have : (n : Int) - 1 - -1 - 1 = (n : Int) - 1 := by omega
      rw [this]
      have : (- -1 : Int) = 1 := by decide
      rw [this, Int.ediv_one]
      omega
    · omega
  show wpAny _ _ (pure ((n : Int) - 1, (-1 : Int), Builtin.Slice.slicePlaces ((n : Int) - 1) (-1) (-1))) _ _ s
  rw [e2]
  exact wpAny_pure h
theorem fm_congr {α β : Type} {f h : α → Option β} : ∀ l : List α, (∀ x ∈ l, f x = h x) → l.filterMap f = l.filterMap h
  | [], _ => rfl
  | x :: l, k => by
    rw [List.filterMap_cons, List.filterMap_cons, k x List.mem_cons_self, fm_congr l fun y hy => k y (List.mem_cons_of_mem _ hy)]
theorem pick_rev (xs : Array Value) : ((List.range xs.size).filterMap fun (m : Nat) => xs[((xs.size : Int) - 1 + (m : Int) * -1).toNat]?).toArray = xs.toList.reverse.toArray := by
  have e : (List.range xs.size).filterMap (fun (m : Nat) => xs[((xs.size : Int) - 1 + (m : Int) * -1).toNat]?) = ((List.range xs.size).map fun k => xs.size - 1 - k).filterMap (xs[·]?) := by
    rw [List.filterMap_map]
    apply fm_congr
    intro m hm
    have := List.mem_range.mp hm
    have e : ((xs.size : Int) - 1 + (m : Int) * -1).toNat = xs.size - 1 - m := by omega
    show xs[((xs.size : Int) - 1 + (m : Int) * -1).toNat]? = xs[xs.size - 1 - m]?
    rw [e]
  rw [e, PySem.W.krv_range, List.filterMap_reverse, PySem.W.krv_all]
theorem getItem_tuple_rev {t sl : Addr} {items : Array Value} {vs : Value} {Q : Value → Shared → Prop} (ht : IsTup s.heap t items) (hs : s.heap.IsSliceOf sl .none .none vs) (ps : IsPart vs (some (-1)))
    (h : Q (.ref s.heap.objs.size) { s with heap := s.heap.push { cls := .type "tuple", data := .seq items.toList.reverse.toArray } })
    (hsz : items.size ≤ sizeLine) : wpAny (model prog w) A (getItem (.ref t) (.ref sl)) Q E s := by
  have htake : sizeOk (.seq items.toList.reverse.toArray) := by
    show items.toList.reverse.toArray.size ≤ sizeLine
    rw [List.size_toArray, List.length_reverse, Array.length_toList]
    omega
  obtain ⟨os, hos, hcs, hds⟩ := id hs
  have hTs : s.TypeIs (.ref sl) "slice" := ⟨os, hos, hcs⟩
  unfold getItem
  try with_reducible refine wpAny_holding ?_
  first | refine wpAny_bind (wpAny_pure ?_) | skip
  refine wpAny_bind (wpAny_sequenceKey ht.typeIs (by decide) ?_)
  refine wpAny_bind (wpAny_callSpecial?_slot (name := Str.ofString "__getitem__") ht.typeIs PyProof.Rows.slot_tuple_getitem
    (wpAny_call_entry PyProof.Rows.slot_tuple_getitem ht.typeIs entry_tuple_getitem ?_ (args_tuple_getitem _ _)))
  show wpAny _ _ (Builtin.Tuple.tupleItemsOf (.ref t) >>= _) _ _ s
  refine wpAny_bind (tupleItemsOf_ ht ?_)
  refine wpAny_bind (wpAny_typeOf hTs ?_)
  rw [if_pos (by decide)]
  refine wpAny_bind (sliceApplied_rev hs ps ?_)
  have hno : ¬ (((items.size : Int) - 1 == 0 && (-1 : Int) == 1 && items.size == items.size) = true) := by
    intro q
    rw [Bool.and_eq_true, Bool.and_eq_true] at q
    exact absurd q.1.2 (by decide)
  show wpAny _ _ (if ((items.size : Int) - 1 == 0 && (-1 : Int) == 1 && items.size == items.size) = true then _ else _) _ _ s
  rw [if_neg hno, pick_rev]
  first
    | exact wpAny_bind (m := Builtin.Tuple.tupleExact _) (wpAny_newObj_type (wpAny_pure ⟨_, rfl, wpAny_pure h⟩) htake)
    | exact wpAny_bind (m := Builtin.Tuple.tupleExact _) (wpAny_newObj_type (wpAny_bind (wpAny_pure (wpAny_pure ⟨_, rfl, wpAny_pure h⟩))) htake)
    | exact wpAny_bind (wpAny_bind (m := Builtin.Tuple.tupleExact _) (wpAny_newObj_type (wpAny_pure (wpAny_pure ⟨_, rfl, wpAny_pure h⟩)) htake))
    | exact wpAny_bind (wpAny_bind (m := Builtin.Tuple.tupleExact _) (wpAny_newObj_type (wpAny_pure ⟨_, rfl, wpAny_pure h⟩) htake))
end
end HT
namespace PL
open PySem PySem.Spec PyProof.Rows L2
def tRevA (K : PySem.W.Frag) (te : TE) : TE := fun σ H Q => te σ H fun x H1 => ∃ a xs, x = .ref a ∧ ((SqL K H1 a xs ∧ ∀ p, H1 p = none → Q (.ref p) (upd H1 p (.lst xs.reverse))) ∨ (SqT K H1 a xs ∧ ∀ p, H1 p = none → Q (.ref p) (upd H1 p (.tup xs.reverse))))
def revD : D → Res D
  | .lst l => .ok (.lst l.reverse)
  | .tup l => .ok (.tup l.reverse)
  | _ => .bad
def eRev (f : BEnv → Res D) : BEnv → Res D := fun env => f env >>= revD
@[simp] theorem x_eRev {f : BEnv → Res D} {env : BEnv} : eRev f env = (f env >>= revD) := rfl
@[simp] theorem x_revL {l : List D} : revD (.lst l) = .ok (.lst l.reverse) := rfl
@[simp] theorem x_revT {l : List D} : revD (.tup l) = .ok (.tup l.reverse) := rfl
section
variable {X : Cx} {g : G} {E : XK} {e : Expr} {f : BEnv → Res D} {te : TE} {k : Nat} {p1 p2 p3 pos : Pos}
theorem pe_revA (he : PE X e te) : PE X (.Subscript e (.Slice none none (some (.UnaryOp .USub (.Constant (.int 1) k p1) p2)) p3) pos) (tRevA X.K te) := by
  refine ⟨fun pins s σ H Q I h => ?_⟩
  refine Subscript_ (thn (he.run pins s σ H _ I h) fun v s1 ⟨x, H1, I1, r1, q1⟩ => ?_)
  obtain ⟨a, xs, ex, q1⟩ := q1
  subst ex
  cases r1
  have hst : PO X (some (.UnaryOp .USub (.Constant (.int 1) k p1) p2)) (tPart (tUn (rU fun i => .int (-i)) (tC (.int 1)))) := po_some (pe_un un_neg pe_int)
  refine wpAny_Slice (thn (po_none.run pins s1 σ H1 (fun o H2 => o = none ∧ H2 = H1) I1 ⟨rfl, rfl⟩) fun vl s2 ⟨l, H2, I2, pl, el, e2⟩ => ?_)
  subst el e2
  refine thn (po_none.run pins s2 σ H2 (fun o H3 => o = none ∧ H3 = H2) I2 ⟨rfl, rfl⟩) fun vu s3 ⟨u, H3, I3, pu, eu, e3⟩ => ?_
  subst eu e3
  refine thn (hst.run pins s3 σ H3 (fun o H4 => o = some (-1) ∧ H4 = H3) I3 ⟨1, rfl, -1, rfl, rfl, rfl⟩) fun vs s4 ⟨o, H4, I4, ps, eo, e4⟩ => ?_
  subst eo e4
  have I5 : Inv X pins σ H4 { s4 with heap := s4.heap.push { cls := .type "slice", data := .fields #[vl, vu, vs] } } := I4.kept (t' := s4.toks) fun b ob q => Heap.get?_push_of_some _ q
  show wpAny (model X.prog X.w) X.A (subscriptTail e (.Slice none none (some (.UnaryOp .USub (.Constant (.int 1) k p1) p2)) p3) (.ref a) (.ref s4.heap.objs.size)) (EP X pins σ Q) X.xe { s4 with heap := s4.heap.push { cls := .type "slice", data := .fields #[vl, vu, vs] } }
  rcases q1 with ⟨hx, q⟩ | ⟨hx, q⟩
  · obtain ⟨its, r, ht, hz⟩ := I5.list hx
    have hlen := r.length
    refine tail_any (ops := [.ref a, .ref s4.heap.objs.size]) ht.isList.typeIs (PySem.slot_list_getitem.lookup) ?_ (by with_unfolding_all rfl)
    refine wpAny_getItem_list_slice ht.isList (Heap.IsSliceOf.new _ vl vu vs) pl pu ps (by decide) ?_ (by rw [List.size_toArray]; omega)
    rw [PySem.W.krv_pick]
    refine ⟨.ref _, _, I5.laid (t' := s4.toks) (o := .lst xs.reverse) (fun b ob q => Heap.get?_push_of_some _ q) (Nat.le_refl _) ?_, rfl, q _ (I5.hok.fresh (Nat.le_refl _))⟩
    exact ⟨by rw [List.length_reverse]; exact hz, _, 0, r.reverse, Heap.get?_push_size _ rfl⟩
  · obtain ⟨its, r, ht, hz⟩ := I5.tuple hx
    have hlen : its.toArray.size = xs.length := by rw [List.size_toArray]; exact r.length.symm
    cases pl
    cases pu
    refine tail_any (ops := [.ref a, .ref s4.heap.objs.size]) ht.typeIs (PyProof.Rows.slot_tuple_getitem.lookup) ?_ (by with_unfolding_all rfl)
    refine HT.getItem_tuple_rev ht (Heap.IsSliceOf.new _ .none .none vs) ps ?_ (by rw [hlen]; exact hz)
    refine ⟨.ref _, _, I5.laid (t' := s4.toks) (o := .tup xs.reverse) (fun b ob q => Heap.get?_push_of_some _ q) (Nat.le_refl _) ?_, rfl, q _ (I5.hok.fresh (Nat.le_refl _))⟩
    exact ⟨by rw [List.length_reverse]; exact hz, _, r.reverse, IsTup.new _ _⟩
theorem Rs.rev {H : Hp} : ∀ {vs : List V} {ds : List D}, Rs g H vs ds → Rs g H vs.reverse ds.reverse
  | _, _, .nil => .nil
  | _, _, .cons a r => by
    rw [List.reverse_cons, List.reverse_cons]
    exact (Rs.rev r).append (.cons a .nil)
theorem se_rev (hK : X.K = g.K) (he : PE X e (ER g E f)) : PE X (.Subscript e (.Slice none none (some (.UnaryOp .USub (.Constant (.int 1) k p1) p2)) p3) pos) (ER g E (eRev f)) :=
  PE_mono (pe_revA he) fun σ H Q ⟨Hs, env, s, rr, w⟩ => by
    refine ⟨Hs, env, s, rr, w.bind.mono (Same.refl _) fun d wd v H1 Hs1 x r => ?_⟩
    rw [hK]
    cases r with
    | lst h q =>
      exact ⟨_, _, rfl, .inl ⟨SqL.of (x.sub _ _ h), fun p np => wd.is_ok _ _ _ (x.trans (Ext.new1 x.sub np)) (.lst upd_same (q.rev.mono (same_upd (x.sub.free np))))⟩⟩
    | tup h q =>
      exact ⟨_, _, rfl, .inr ⟨SameT x.sub h, fun p np => wd.is_ok _ _ _ (x.trans (Ext.new1 x.sub np)) (.tup (.inl (.inl upd_same)) (q.rev.mono (same_upd (x.sub.free np))))⟩⟩
    | _ => exact absurd rfl wd.bad
end
end PL

set_option Elab.async false
set_option linter.all false
set_option maxRecDepth 100000
namespace PL
open PySem PySem.Spec PyProof.Rows L2
/-! x.clear(), of a list of the def's own -/
section
variable {X : Cx} {g : G} {E : XK} {B Hs0 : Hp} {i : Nat} {o e : Expr} {f h : BEnv → Res D} {apos cpos pos : Pos}
def sClr (i : Nat) : Env → Res Fl := fun env => ownAt env i fun _ => .ok (.nx (env.set i (some (.own []))))
@[simp] theorem x_sClr {s : Env} : sClr i s = ownAt s i fun _ => .ok (.nx (s.set i (some (.own [])))) := rfl
theorem ss_clr (ho : PE X o (tVar i)) (hbase : attributeBase o "clear" X.env (eval o X.env) = eval o X.env := by rfl) (hline : (apos.endLine == cpos.line) = true := by rfl)
    (hs : swapsWith (.Call (.Attribute o "clear" apos) [] [] cpos) none pos.line X.env = pure false := by rfl) :
    PS X (.Expr (.Call (.Attribute o "clear" apos) [] [] cpos) pos) (SR g E B Hs0 (sClr i)) :=
  PS_mono (ps_expr (pe_bm0 PySem.F.plainAttrs_list PySem.F.slot_list_clear PySem.F.type_list_clear mt_clear ho hbase hline) hs) fun Z σ H w => by
    obtain ⟨Hs, env, r, w⟩ := w
    obtain ⟨l, hl, w⟩ := ownAt_wk w
    obtain ⟨a, vs, h1, h2, h3, h4, h5⟩ := r.own i l hl
    refine ⟨.ref a, h1, .inl ⟨rfl, vs, SqL.of h4⟩, ?_⟩
    exact ⟨a, vs, rfl, rfl, h4, w.is_ok _ _ Hs (Same.refl _) (r.chg hl h1 .nil)⟩
/-! xs.count(n), of whole numbers -/
def cntD (l : List D) (b : D) : Res D := match intsD l, b with
  | some ns, .int k => .ok (.int (ns.count k : Nat))
  | _, _ => .bad
def eCnt (f h : BEnv → Res D) : BEnv → Res D := fun env => f env >>= fun a => match a with
  | .lst l => h env >>= fun b => cntD l b
  | _ => .bad
@[simp] theorem x_eCnt {f h : BEnv → Res D} {env : BEnv} : eCnt f h env = (f env >>= fun a => match a with
  | .lst l => h env >>= fun b => cntD l b
  | _ => .bad) := rfl
theorem x_cnt {ns : List Int} {k : Int} : cntD (ns.map D.int) (.int k) = .ok (.int (ns.count k : Nat)) := by
  unfold cntD
  rw [intsD_map]
theorem se_count (hK : X.K = g.K) (ho : PE X o (ER g E f)) (he : PE X e (ER g E h))
    (hbase : attributeBase o "count" X.env (eval o X.env) = eval o X.env := by rfl)
    (hfew : ((backTo cpos (starEach [e] X.env)).all (fun x => !x.1) && (backToKw cpos (keywordEach [] X.env)).all (fun x => x.1.isSome)
      && decide (([e] : List Expr).length + ([] : List Keyword).length + (if ([] : List Keyword).isEmpty then 0 else 1) < 30)) = true := by rfl)
    (hline : (apos.endLine == cpos.line) = true := by rfl) (hst : starEach [e] X.env = (false, eval e X.env) :: starEach [] X.env := by rfl) (hplain : (backTo cpos (starEach [] X.env)).any (·.1) = false := by rfl) :
    PE X (.Call (.Attribute o "count" apos) [e] [] cpos) (ER g E (eCnt f h)) :=
  PE_mono (pe_bm PySem.F.plainAttrs_list PySem.F.slot_list_count PySem.F.type_list_count mt_lcount ho (pa_cons he pa_nil hst) hbase hfew hline hst hplain) fun σ H Q w => by
    obtain ⟨Hs, env, s, rr, w⟩ := w
    refine ⟨Hs, env, s, rr, w.bind.mono (Same.refl _) fun a wa v H1 Hs1 x1 r1 => ?_⟩
    cases a with
    | lst l =>
      have wa : Wk g E H (h env >>= fun b => cntD l b) (Lands g Hs H Q) := wa
      cases r1 with
      | lst q r =>
        rename_i p vs
        refine ⟨.inl ⟨rfl, vs, by rw [hK]; exact x1.sub.seq (SqL.of q)⟩, Hs1, env, x1.sub, rr.mono x1.up, wa.bind.mono x1.same fun b wb u H2 Hs2 x2 r2 => ?_⟩
        unfold cntD at wb
        cases hi : intsD l with
        | none => rw [hi] at wb; exact absurd rfl wb.bad
        | some ns =>
          rw [hi] at wb
          cases r2 with
          | int k =>
            have ev := ints_of r hi
            subst ev
            refine ⟨p, ns, k, rfl, rfl, by rw [hK]; exact x2.sub.seq (x2.up.seq (SqL.of q)), ?_⟩
            exact wb.is_ok _ H2 Hs2 (x1.trans x2) (.int _)
          | _ => exact absurd rfl wb.bad
    | _ => exact absurd rfl wa.bad
end
end PL
namespace PL
open PySem PySem.Spec PyProof.Rows L2
/-! sorted(xs), of whole numbers -/
def srtI (ns : List Int) : List Int := ns.mergeSort (fun a b => decide (a ≤ b))
theorem srtI_uniq : ∀ {a b : List Int}, a.Perm b → a.Pairwise (· ≤ ·) → b.Pairwise (· ≤ ·) → a = b
  | [], b, p, _, _ => by simpa using p.nil_eq
  | x :: a, [], p, _, _ => by simpa using p.symm.nil_eq
  | x :: a, y :: b, p, ha, hb => by
    obtain ⟨a1, a2⟩ := List.pairwise_cons.mp ha
    obtain ⟨b1, b2⟩ := List.pairwise_cons.mp hb
    have hx : x ∈ y :: b := p.mem_iff.mp List.mem_cons_self
    have hy : y ∈ x :: a := p.mem_iff.mpr List.mem_cons_self
    have e : x = y := by
      rcases List.mem_cons.mp hx with h | h
      · exact h
      · rcases List.mem_cons.mp hy with h2 | h2
        · exact h2.symm
        · have := b1 x h
          have := a1 y h2
          omega
    subst e
    rw [srtI_uniq p.cons_inv a2 b2]
theorem srtI_perm (ns : List Int) : (srtI ns).Perm ns := List.mergeSort_perm _ _
theorem srtI_pw (ns : List Int) : (srtI ns).Pairwise (· ≤ ·) := by
  have := List.pairwise_mergeSort (le := fun a b : Int => decide (a ≤ b)) (fun a b c h1 h2 => by
    have h1 := of_decide_eq_true h1
    have h2 := of_decide_eq_true h2
    exact decide_eq_true (Int.le_trans h1 h2)) (fun a b => by
    rcases Int.le_total a b with h | h
    · simp [h]
    · simp [h]) ns
  exact this.imp fun h => of_decide_eq_true h
theorem srtI_of {a b : List Int} (p : a.Perm b) (ha : a.Pairwise (· ≤ ·)) : srtI b = a := srtI_uniq ((srtI_perm b).trans p.symm) (srtI_pw b) ha
def sortIO : List D → Res (List D)
  | [.lst l] => match intsD l with
    | some ns => .ok ((srtI ns).map D.int)
    | none => .bad
  | _ => .bad
theorem x_sortIO {ns : List Int} : sortIO [.lst (ns.map D.int)] = .ok ((srtI ns).map D.int) := by
  have e := intsD_map ns
  unfold sortIO
  generalize ns.map D.int = l at *
  simp only [e]
section
variable {X : Cx} {g : G} {E : XK} {e : Expr} {es : List Expr} {fs : BEnv → Res (List D)} {p pos : Pos}
theorem eo_sortI (hK : X.K = g.K) (hg : Gl X "sorted") (hm : X.mg "sorted" = none) (ha : PA X (e :: es) (AR g E fs))
    (he : starEach (e :: es) X.env = (false, eval e X.env) :: starEach es X.env := by rfl) (hpl : (backTo pos (starEach es X.env)).any (·.1) = false := by rfl) : PE X (.Call (.Name "sorted" p) (e :: es) [] pos) (EO g E (eCallO sortIO fs)) :=
  PE_mono (pe_callB cr_sortedI hg hm (by decide +kernel) ha (by decide) (by decide) he hpl) fun σ H Q w => ar_thenO (r := rSortedI X.K) (fun Hs H vs ds Q s r w => by
    unfold sortIO at w
    split at w
    · rename_i l
      obtain ⟨⟩ | ⟨r, r0⟩ := r
      cases r0
      cases e : intsD l with
      | none => rw [e] at w; exact absurd rfl w.bad
      | some ns =>
        rw [e] at w
        cases r with
        | lst h q =>
          rename_i a us
          have ev := ints_of q e
          subst ev
          refine ⟨a, ns, rfl, hK ▸ s.seq (SqL.of h), fun ys b pm pw nb => ?_⟩
          have es : srtI ns = ys := srtI_of pm pw
          have w : Wk g E H (.ok ((srtI ns).map D.int)) (LandsO g Hs H Q) := w
          rw [es] at w
          exact lands_own w.is_ok s nb (Rs.ints _)
    · exact absurd rfl w.bad) w
end
end PL

set_option Elab.async false
set_option linter.all false
set_option maxRecDepth 100000
namespace PL
open PySem PySem.Spec PyProof.Rows L2
/-! calls within a walk along an own list that is hidden meanwhile -/
def gdF (den : List D → Res Cell) : List D → Res Cell := fun ds => if noEs ds = true then (match den ds with
  | .ok c => if noC (some c) = true then .ok c else .bad
  | .exc c none => .exc c none
  | _ => .bad) else .bad
theorem RetR.inP {g : G} {B Hs0 H' : Hp} {v : V} {c : Cell} {a : Addr} (r : RetR g B Hs0 H' v c) (h : noC (some c) = true) : RetR (gP g a) B Hs0 H' v c := by
  cases c with
  | val d =>
    obtain ⟨Hs', x, q⟩ := r
    exact ⟨Hs', x, q.inP h⟩
  | own l =>
    obtain ⟨b, vs, Hs', e, x, h1, h2, h3, h4⟩ := r
    exact ⟨b, vs, Hs', e, x, h1, h2, h3, h4.inP h⟩
theorem Fn.toP {P : Program} {w : World} {base : Heap} {g : G} {x : Str} {n k : Nat} {den : List D → Res Cell} (F : Fn P w base g x n k den) (a : Addr) : Fn P w base (gP g a) x n k (gdF den) := by
  obtain ⟨f, fd, ps, hn, p1, p2, p3, d⟩ := F.ex
  refine ⟨fun ds nb => F.ar ds fun q => nb ?_, f, fd, ps, hn, p1, p2, p3, d.imp fun vs H Q E ⟨Hs, ds, s, r, e, wk⟩ => ?_⟩
  · unfold gdF; rw [q]; split <;> rfl
  · unfold gdF at wk
    obtain ⟨hE, wk⟩ := wk_if' wk
    refine ⟨Hs, ds, s, r.outP hE, e, ?_⟩
    cases hd : den ds with
    | ok c =>
      rw [hd] at wk
      obtain ⟨hc, z⟩ := wk_if wk
      exact .of_ok fun v H' rr => z v H' (rr.inP hc)
    | exc c y =>
      rw [hd] at wk
      cases y with
      | none =>
        refine ⟨fun a q => (nomatch q), fun c' x' q C o H' sm ex => ?_, fun q => (nomatch q)⟩
        cases q
        exact wk.exc c none rfl C o H' sm ex
      | some d => exact absurd rfl wk.bad
    | bad =>
      rw [hd] at wk
      exact absurd rfl wk.bad
end PL

set_option Elab.async false
set_option linter.all false
set_option maxRecDepth 100000
set_option maxHeartbeats 1000000
namespace PL
open PySem PySem.Spec PyProof.Rows L2
/-! a def that is handed the error within an except suite -/
abbrev CtxE (P : Program) (w : World) (g : G) (base : Heap) (N : List Str) (qual : Str) (sc : Scope) (f : Addr) (cd : Value) (A : Around) (out : List PySem.Env) (s : Shared) (H : Hp) (a : Addr) (oe : Obj) : Cx :=
  (cxOf (L2.CX P w) P w g.K g.mg base N qual sc f cd A out s H EN).suite a [(a, oe)]
structure FnE (P : Program) (w : World) (base : Heap) (g : G) (cs : List String) (x : Str) (k : Nat) (den : String → Option D → List D → Res Cell) : Prop where
  ar : ∀ kk y ds, den kk y ds ≠ .bad → ds.length = 1
  ex : ∃ f fd ps, ps.length = 1 ∧ g.mg x = some (.ref f) ∧ PySem.W.keepIn g.K (.ref f) = true ∧ Binds g.K fd ps [] ∧
    ∀ kk ∈ cs, ∀ (a : Addr) (oe : Obj) (C : Addr) (d : Option Addr) (y : Option D), g.mg (Str.ofString kk) = some (.ref C) → Zc (.ref C) d oe → (∃ vs, oe.data = .fields vs) →
    ∀ (A : Around) (out : List PySem.Env) (s : Shared) (H : Hp) (us : List Value) (vs : List V) (Q : VK), L2H.RoomH k A → L2H.PinOk out H s (a, oe) → Env0 P w g.K g.mg base (A.mark (some (.ref a))) out s H → us.length = 1 → Vals vs us → spD (gX g a d y) 1 (den kk y) vs H Q EN →
      codeAny (model P w) (A.mark (some (.ref a))) (.call (.ref f) ⟨us, []⟩) (CR (L2.CX P w) out P w H s Q EN) s
theorem RoomH_units {k : Nat} {A : Around} (r : L2H.RoomH k A) : A.units + 64 < cLine := by have := r.un; omega
theorem RoomH_65 {k : Nat} {A : Around} (r : L2H.RoomH k A) : A.units + 65 < cLine := by have := r.un; omega
theorem defE_ok {P : Program} {w : World} {base : Heap} {g : G} {cs : List String} {x qual : Str} {f : Addr} {params : Arguments} {body : List Stmt} {sc : Scope} {dV kV doc pm cdv ct oc : Value} {an od : Option Addr} {osl : Array (Option Value)} {N : List Str} {p1 : Str} {k : Nat} {s : String → Option D → Env → Res Fl}
    (lk : g.K.lookup f = some ⟨oc, od, .func (PySem.W.fnOf x qual params body sc dV kV doc pm an cdv ct), osl⟩) (hcd : PySem.W.codeIn g.K cdv qual = true) (S : FnScope N [p1] sc) (hm : g.mg x = some (.ref f)) (kp : PySem.W.keepIn g.K (.ref f) = true)
    (hb : Binds g.K (PySem.W.fnOf x qual params body sc dV kV doc pm an cdv ct) [p1] [])
    (hbody : ∀ kk ∈ cs, ∀ (a : Addr) (oe : Obj) (C : Addr) (d : Option Addr) (y : Option D), g.mg (Str.ofString kk) = some (.ref C) → Zc (.ref C) d oe → (∃ vs, oe.data = .fields vs) →
      ∀ (A : Around) (out : List PySem.Env) (sh : Shared) (H : Hp) (B Hs0 : Hp), L2H.RoomH k (A.deeper (envOfC qual sc sh.heap.objs.size f cdv)) → PSs (CtxE P w g base N qual sc f cdv A out sh H a oe) body (SR (gX g a d y) EN B Hs0 (s kk y))) : FnE P w base g cs x (k + 1) (fun kk y => runB N.length 1 (s kk y)) := by
  refine ⟨fun kk y ds nb => ?_, f, _, [p1], rfl, hm, kp, hb, fun kk hk a oe C d y hC hz hv A out st H us vs Q hr hpin e0 hl r hsp => ?_⟩
  · by_cases e : ds.length = 1
    · exact e
    · unfold runB at nb; rw [if_neg e] at nb; exact absurd rfl nb
  have hvl : vs.length = 1 := spD.len _ _ _ _ hsp
  have kin : g.K.In st.heap := e0.mod.kin.keeps fun b o q => (e0.bs b o q).1
  have nol : st.heap.NoLimit := e0.mod.nolimit.keeps fun b o q => (e0.bs b o q).1
  have hk2 : ∀ y ∈ [p1].zip us, sc.names.lookup y.1 = some .local ∨ (sc.names.lookup y.1 = some .cell ∧ ((cellsFrom (st.heap.objs.size + 1) sc.names []).lookup y.1).isSome = true) := by
    rintro ⟨nm, v⟩ hy
    cases S.par nm (List.of_mem_zip hy).1 with
    | inl q => exact .inl q
    | inr q => exact .inr ⟨q, PySem.W.cellsFrom_some _ _ _ (.inl q)⟩
  have bt := hb st us kin (by rw [List.append_nil]; exact hl)
  rw [List.append_nil] at bt
  refine codeAny_call_function hr.depth (kin _ _ lk) rfl S.co S.gen rfl (PySem.W.codeRec_of kin hcd) (bt _ _ _ _ ?_)
  refine wpAny_newFunctionEnv_cells S.kind hk2 fun env he s1 ic => ?_
  subst he
  refine ⟨nol.keeps ic.toInCall.keep, codeAny_func ?_⟩
  obtain ⟨B, Hs0, rd⟩ := body_read hsp
  have J0 : Inv (CtxQ P w g base N qual sc f cdv (A.mark (some (.ref a))) out st H (a, oe)) [] (L2.start N vs) H s1 := L2H.inv_startH S hpin e0 hvl r ic
  have J1 : Inv (CtxE P w g base N qual sc f cdv A out st H a oe) [] (L2.start N vs) H s1 :=
    ⟨⟨J0.ok.mod, J0.ok.kind, J0.ok.glob, J0.ok.blt, J0.ok.above, J0.ok.inj, J0.ok.has, J0.ok.cab, (fun z => absurd (show false = true from z) Bool.false_ne_true), J0.ok.frames, J0.ok.stk, J0.ok.exf, J0.ok.bs, J0.ok.bsz, J0.ok.noex, J0.ok.exfs, J0.ok.funs, J0.ok.frf⟩,
      J0.os, J0.bare, J0.base, J0.loc, J0.cell, J0.free, J0.freeC, J0.pin, J0.hok, J0.len⟩
  have hb2 := hbody kk hk a oe C d y hC hz hv A out st H B Hs0 (hr.deeper _)
  refine wpAny_mono (hb2.run [] s1 _ H _ J1 rd) (fun fl s' hs => ?_) fun er s' hs => (False.elim hs)
  have out_ : ∀ {σ' : L2.St} {H' : Hp} {v : V} {u : Value}, Inv (CtxE P w g base N qual sc f cdv A out st H a oe) [] σ' H' s' → RelV v u → Q v H' → CE out P w H st Q u s' :=
    fun {σ' H' v u} J rv q => ⟨v, H', J.os, J.bare, J.base, J.hok, rv, q⟩
  match fl, hs with
  | .ret u, ⟨v, σ', H', J, rv, q⟩ => exact out_ J rv q
  | .next, ⟨σ', H', J, q⟩ => exact out_ (v := V.non) (u := Value.none) J rfl q
  | .brk, ⟨_, _, _, q⟩ => exact q.elim
  | .cont, ⟨_, _, _, q⟩ => exact q.elim
section
variable {X : Cx} {g : G} {e : Expr} {pos p : Pos} {fs : BEnv → Res (List D)} {x : Str} {k : Nat} {cs : List String} {den : String → Option D → List D → Res Cell} {a : Addr} {oe : Obj} {pn : List (Addr × Obj)} {dd : Option Addr} {y : Option D} {kk : String} {C : Addr}
theorem se_callE (F : FnE X.prog X.w X.base g cs x k den) (hk : kk ∈ cs) (hC : g.mg (Str.ofString kk) = some (.ref C)) (hz : Zc (.ref C) dd oe) (hv : ∃ vs, oe.data = .fields vs) (hK : X.K = g.K) (hM : X.mg = g.mg) (hr : L2H.RoomH k X.A) (hg : Gl (X.suite a ((a, oe) :: pn)) x)
    (ha : PA (X.suite a ((a, oe) :: pn)) [e] (AR (gX g a dd y) EN fs)) (hdb : (x == ("__debug__" : Str)) = false := by decide)
    (he : starEach [e] X.env = (false, eval e X.env) :: starEach [] X.env := by rfl) (hpl : (backTo pos (starEach [] X.env)).any (·.1) = false := by rfl) :
    PE (X.suite a ((a, oe) :: pn)) (.Call (.Name x p) [e] [] pos) (ER (gX g a dd y) EN (eFn (den kk y) fs)) := by
  obtain ⟨f, fd, ps, hn, h1, h2, h3, h4⟩ := F.ex
  refine ⟨fun pins s σ H Q I w => ?_⟩
  obtain ⟨Hs, env, sm, rr, w⟩ := w
  unfold eFn at w
  rw [res_assoc] at w
  refine wpAny_Call_Name_kw (ld_glob I hg (by show X.mg x = _; rw [hM]; exact h1) ?_ hdb)
  refine PySem.W.callWith_K (h₀ := X.base) I.ok.mod.kin (by show PySem.W.keepIn X.K _ = true; rw [hK]; exact h2) (thn (ha.run pos pins s σ H (fun vs H1 => spD (gX g a dd y) 1 (den kk y) vs H1 Q EN) I ?_) fun us s1 ⟨vs, H1, I1, r, q⟩ => ⟨I1.kIn, ?_⟩) he hpl
  · refine ⟨Hs, env, sm, rr, w.bind.mono (Same.refl _) fun ds wd vs H1 Hs1 x1 r1 => ?_⟩
    refine ⟨Hs1, ds, x1.sub, r1, F.ar kk y ds fun z => wd.bad (by rw [z]; rfl), wd.bind.mono x1.same fun c wc v H' rt => ?_⟩
    obtain ⟨Hs', x', r'⟩ := rt.toD
    exact wc.is_ok v H' Hs' (x1.trans x') r'
  · have P1 := I1.pin (a, oe) (List.mem_append_left _ List.mem_cons_self)
    have hpin : L2H.PinOk (X.suite a ((a, oe) :: pn)).stack H1 s1 (a, oe) := ⟨P1.1, P1.2.1, fun hm => (List.mem_cons.mp (I1.stkSub a hm)).elim P1.2.2.1 P1.2.2.2.1, P1.2.2.2.2⟩
    have ql : us.length = 1 := by rw [← r.length]; exact spD.len _ _ _ _ q
    have e0 := I1.env0
    have run := h4 kk hk a oe C dd y hC hz hv X.A (X.suite a ((a, oe) :: pn)).stack s1 H1 us vs Q hr hpin (by rw [← hK, ← hM]; exact e0) ql r q
    refine wpAny_call (codeAny_mono run fun rs s' hq => ?_)
    match rs, hq with
    | .error er, hq => exact (cx_no hq).elim
    | .ok (.ret u), hq => exact I1.after hq
    | .ok .next, hq => exact hq.elim
    | .ok .brk, hq => exact hq.elim
    | .ok .cont, hq => exact hq.elim
end
/-! in a try's body: an if that returns, ahead of others -/
def rtO : Fl → Res Fl
  | .rt c => .ok (.rt c)
  | _ => .bad
def sIfR (p : BEnv → Res Bool) (s t : Env → Res Fl) : Env → Res Fl := fun env => must (p env.borrow) fun b => if b = true then s env >>= rtO else t env
@[simp] theorem x_sIfR {p : BEnv → Res Bool} {s t : Env → Res Fl} {env : Env} : sIfR p s t env = must (p env.borrow) fun b => if b = true then s env >>= rtO else t env := rfl
@[simp] theorem x_rtO {c : Cell} : rtO (.rt c) = .ok (.rt c) := rfl
section
variable {X : Cx} {g : G} {W : WX} {B Hs0 : Hp} {c : Expr} {a rest : List Stmt} {pos : Pos} {pt : BEnv → Res Bool} {s t : Env → Res Fl}
theorem bw_ifR (hc : PT X c (TR g EN pt)) (ha : PSs X a (BR g W B Hs0 s)) (hr : PSs X rest (BR g W B Hs0 t)) : PSs X (.If c a [] pos :: rest) (BR g W B Hs0 (sIfR pt s t)) :=
  PSs_mono (pss_cons (ps_if hc ha pss_nil) hr) fun D σ H ⟨Hs, env, H1, r, s1, w⟩ => by
    obtain ⟨b, hb, w⟩ := must_wk w
    refine ⟨Hbor Hs H σ env, env.borrow, r.hb_sub, r.borrow, .of_ne hb fun H' Hs' x => ?_⟩
    have r' := r.same x.same
    cases b with
    | true =>
      have w : Wk g (WE W σ) H1 (s env >>= rtO) (SLand g B Hs0 Hs D) := by simpa using w
      refine iteT ⟨Hs, env, H1, r', s1.trans x.same, w.bind.mono (Same.refl _) fun fl wf => ?_⟩
      cases fl with
      | rt c => exact wf.is_ok
      | nx e => exact absurd rfl wf.bad
      | bk e => exact absurd rfl wf.bad
      | ct e => exact absurd rfl wf.bad
    | false => exact iteF (show BR g W B Hs0 t D σ H' from ⟨Hs, env, H1, r', s1.trans x.same, by simpa using w⟩)
end
end PL
namespace L2
open PySem PySem.Spec PyProof.Rows
section
variable {X : Cx}
def rCountD (K : PySem.W.Frag) : V → List V → Hp → VK → Prop := fun x xs H Q => ∃ (a : Addr) (y : V) (d : PyData) (ds : List PyData), x = V.ref a ∧ xs = [y] ∧ Dp K H (V.ref a) (.list ds) ∧ Dp K H y d ∧
  SeqAt.shaped (.list ds) = true ∧ SeqAt.shaped d = true ∧ Q (.int ((ds.countP fun z => PyData.eqv z d : Nat) : Int)) H
theorem mt_countD (hu : X.A.units + 65 < cLine) : MtR X "list.count" (rCountD X.K) := by
  intro pins s σ H x xs v us Q I rx rxs h
  obtain ⟨a, y, d, ds, rfl, rfl, hl, hy, sl, sd, q⟩ := h
  cases rx
  cases rxs with
  | cons ry rt =>
    rename_i uy ut
    cases rt
    obtain ⟨bs, r1⟩ := Dp.reads I d y uy hy ry
    have hxs : PyData.canLayAll0 ds = true := SeqAt.canLay_of_shaped sl
    have hroom : X.A.units + 1 + min (PyData.depthAll ds) d.depth < cLine := room_in_shaped sd hu
    cases hl with
    | lst hs ha =>
      obtain ⟨its, rv, ⟨⟨cls, dd, data, sls⟩, n, ho, hc, hdn, hdt⟩, hlen⟩ := I.list hs
      simp only at hc hdt
      subst hc hdt
      obtain ⟨as, h4⟩ := Dp.readsAll I ds _ its ha rv
      have hmap : its.map (SeqAt.readOf s.heap) = ds := SeqAt.readsAll_map ds its as hxs h4
      refine call_meets PySem.F.slot_list_count ⟨_, ho, rfl⟩ PySem.F.entry_list_count (PySem.F.args_list_count_2 _ _)
        (SeqAt.list_countAt a its.toArray n dd sls uy (fun u => PyData.eqv (SeqAt.readOf s.heap u) d)) ⟨ho, SeqAt.items_eqAt (vs := its.toArray) (show ReadsAll s.heap its.toArray.toList ds as from h4) r1 hxs (SeqAt.canLay_of_shaped sd) hroom, ?_⟩
      have ec : its.toArray.toList.countP (fun u => PyData.eqv (SeqAt.readOf s.heap u) d) = ds.countP fun z => PyData.eqv z d := by
        rw [← hmap, List.countP_map]
        rfl
      refine ⟨.int ((ds.countP fun z => PyData.eqv z d : Nat) : Int), H, I.tok _, ⟨s.toks, ?_⟩, q⟩
      show Value.int ((its.toArray.toList.countP (fun u => PyData.eqv (SeqAt.readOf s.heap u) d) : Nat) : Int) s.toks = _
      rw [ec]
end
end L2
namespace PL
open PySem PySem.Spec PyProof.Rows L2
/-! xs.count(x), of data of any depth -/
def cntX (l : List D) (b : D) : Res D := if eqOks 59 l = true ∧ eqOk 60 b = true then .ok (.int ((l.countP fun z => deq z b : Nat) : Int)) else .bad
def eCntX (f h : BEnv → Res D) : BEnv → Res D := fun env => f env >>= fun a => match a with
  | .lst l => h env >>= fun b => cntX l b
  | _ => .bad
@[simp] theorem x_eCntX {f h : BEnv → Res D} {env : BEnv} : eCntX f h env = (f env >>= fun a => match a with
  | .lst l => h env >>= fun b => cntX l b
  | _ => .bad) := rfl
section
variable {X : Cx} {g : G} {E : XK} {o e : Expr} {f h : BEnv → Res D} {apos cpos : Pos}
theorem se_countX (hK : X.K = g.K) (hu : X.A.units + 65 < cLine) (ho : PE X o (ER g E f)) (he : PE X e (ER g E h))
    (hbase : attributeBase o "count" X.env (eval o X.env) = eval o X.env := by rfl)
    (hfew : ((backTo cpos (starEach [e] X.env)).all (fun x => !x.1) && (backToKw cpos (keywordEach [] X.env)).all (fun x => x.1.isSome)
      && decide (([e] : List Expr).length + ([] : List Keyword).length + (if ([] : List Keyword).isEmpty then 0 else 1) < 30)) = true := by rfl)
    (hline : (apos.endLine == cpos.line) = true := by rfl) (hst : starEach [e] X.env = (false, eval e X.env) :: starEach [] X.env := by rfl) (hplain : (backTo cpos (starEach [] X.env)).any (·.1) = false := by rfl) :
    PE X (.Call (.Attribute o "count" apos) [e] [] cpos) (ER g E (eCntX f h)) :=
  PE_mono (pe_bm PySem.F.plainAttrs_list PySem.F.slot_list_count PySem.F.type_list_count (mt_countD hu) ho (pa_cons he pa_nil hst) hbase hfew hline hst hplain) fun σ H Q w => by
    obtain ⟨Hs, env, s, rr, w⟩ := w
    refine ⟨Hs, env, s, rr, w.bind.mono (Same.refl _) fun a wa v H1 Hs1 x1 r1 => ?_⟩
    cases a with
    | lst l =>
      have wa : Wk g E H (h env >>= fun b => cntX l b) (Lands g Hs H Q) := wa
      cases r1 with
      | lst q r =>
        rename_i p vs
        refine ⟨.inl ⟨rfl, vs, by rw [hK]; exact x1.sub.seq (SqL.of q)⟩, Hs1, env, x1.sub, rr.mono x1.up, wa.bind.mono x1.same fun b wb u H2 Hs2 x2 r2 => ?_⟩
        have r1 : R g Hs1 (.ref p) (.lst l) := .lst q r
        unfold cntX at wb
        obtain ⟨⟨h1, h2⟩, wb⟩ := wk_if' wb
        obtain ⟨d1, s1⟩ := shaped_of ((r1.mono x2.up).mono x2.sub) (show eqOk 60 (.lst l) = true by simp [h1])
        obtain ⟨d2, s2⟩ := shaped_of (r2.mono x2.sub) h2
        refine ⟨p, u, toPy b, toPys l, rfl, rfl, by rw [hK]; exact d1, by rw [hK]; exact d2, s1, s2, ?_⟩
        have ec : (toPys l).countP (fun z => PyData.eqv z (toPy b)) = l.countP fun z => deq z b := by
          rw [toPys_map, List.countP_map]
          rfl
        rw [ec]
        exact wb.is_ok _ H2 Hs2 (x1.trans x2) (.int _)
    | _ => exact absurd rfl wa.bad
end
end PL
namespace PL
open PySem PySem.Spec PyProof.Rows L2
/-! a text so often -/
def mulS : D → D → Res D
  | .str x, .int n => if n ≤ 1000 ∧ -1000 ≤ n ∧ x.length ≤ 1000 then .ok (.str (PySem.Txt.mul x n)) else .bad
  | _, _ => .bad
theorem x_mulS {x : Str} {n : Int} (h : n ≤ 1000 ∧ -1000 ≤ n ∧ x.length ≤ 1000) : mulS (.str x) (.int n) = .ok (.str (PySem.Txt.mul x n)) := if_pos h
theorem mulOk_small {x : Str} {n : Int} (h1 : n ≤ 1000) (h2 : -1000 ≤ n) (h3 : x.length ≤ 1000) : PySem.MulOk x n := by
  refine ⟨?_, fun h _ => ?_, fun h _ => ?_⟩
  · simp only [Bool.or_eq_false_iff, decide_eq_false_iff_not]
    constructor
    · have : (2 : Int) ^ 63 = 9223372036854775808 := by decide
      omega
    · have : (2 : Int) ^ 63 = 9223372036854775808 := by decide
      omega
  · have e : (2 : Int) ^ 63 - 1 = 9223372036854775807 := by decide
    rw [e]
    have : (x.length : Int) ≤ 9223372036854775807 / n := (Int.le_ediv_iff_mul_le (by omega)).mpr (by
      have : (x.length : Int) * n ≤ 1000 * 1000 := Int.mul_le_mul (by omega) h1 (by omega) (by decide)
      omega)
    omega
  · have m : x.length * n.toNat ≤ 1000 * 1000 := Nat.mul_le_mul h3 (by omega)
    unfold Builtin.Str.tooLong
    rw [sizeLine_eq]
    refine decide_eq_false ?_
    omega
theorem op_mulS {X : Cx} : OpR X (binaryOp .Mult) (fun x y H Q => ∃ i n, x = .str i ∧ y = .int n ∧ PySem.MulOk i n ∧ Q (.str (PySem.Txt.mul i n)) H) := by
  intro pins s σ H x y v u Q I rx ry h
  obtain ⟨i, n, rfl, rfl, hok, q⟩ := h
  obtain ⟨t, rfl⟩ := rx
  obtain ⟨t', rfl⟩ := ry
  exact PySem.SB.mul hok fun t2 k => ⟨.str (PySem.Txt.mul i n), H, I.tok k, ⟨_, rfl⟩, q⟩
theorem od_mulS {g : G} : OpD g (fun x y H Q => ∃ i n, x = .str i ∧ y = .int n ∧ PySem.MulOk i n ∧ Q (.str (PySem.Txt.mul i n)) H) mulS := by
  intro Hs H v u a b Q s r1 r2 E w
  cases r1 with
  | str i =>
    cases r2 with
    | int n =>
      obtain ⟨⟨h1, h2, h3⟩, q⟩ := wk_if' (show Wk g E H (if n ≤ 1000 ∧ -1000 ≤ n ∧ i.length ≤ 1000 then Res.ok (.str (PySem.Txt.mul i n)) else .bad) (Lands g Hs H Q) from w)
      exact ⟨i, n, rfl, rfl, mulOk_small h1 h2 h3, q.is_ok _ _ _ (Ext.refl s) (.str _)⟩
    | _ => exact absurd rfl w.bad
  | _ => exact absurd rfl w.bad
/-! what comes behind may be left untold -/
theorem sss_bad {X : Cx} {g : G} {E : XK} {B Hs0 : Hp} {st : List Stmt} : PSs X st (SR g E B Hs0 sBad) := ⟨fun _ _ _ _ _ _ w => by
  obtain ⟨_, _, _, w⟩ := w
  exact absurd rfl w.bad⟩
end PL
namespace PL
open PySem PySem.Spec PyProof.Rows L2
theorem RoomE_units {k : Nat} {A : Around} {h : Option Value} (r : L2H.RoomH k A) : (A.mark h).units + 64 < cLine := RoomH_units ⟨r.dp, r.un⟩
theorem RoomE_65 {k : Nat} {A : Around} {h : Option Value} (r : L2H.RoomH k A) : (A.mark h).units + 65 < cLine := RoomH_65 ⟨r.dp, r.un⟩
end PL

set_option Elab.async false
set_option linter.all false
set_option maxRecDepth 100000
set_option maxHeartbeats 4000000
namespace K08
open PySem PySem.Spec PyProof.Rows L2 PL
/-- less than 2 ^ n in size -/
def Bd (n : Nat) (x : Int) : Prop := x.natAbs < 2 ^ n
theorem Bd.log {n : Nat} {x : Int} (h : Bd n x) : x.natAbs.log2 ≤ n := by
  unfold Bd at h
  by_cases h0 : x.natAbs = 0
  · rw [h0]; exact Nat.zero_le _
  · exact Nat.le_of_lt ((Nat.log2_lt h0).mpr h)
theorem mulOk_of {m n : Nat} {x y : Int} (hx : Bd m x) (hy : Bd n y) (h : m + n < 100000000) : mulOk x y = true := by
  have a := hx.log
  have b := hy.log
  exact decide_eq_true (by omega)
theorem divOk_of {n : Nat} {x y : Int} (h0 : y ≠ 0) (hy : Bd n y) (h : n < 9000) : divOk x y = true := by
  unfold divOk
  have e : Builtin.divisionGoesByPylong x y = false := PyProof.noPylong_of_log2 (by have := hy.log; omega)
  rw [e]
  simp [h0]
theorem Bd.mono {m n : Nat} {x : Int} (hx : Bd m x) (h : m ≤ n) : Bd n x := Nat.lt_of_lt_of_le hx (Nat.pow_le_pow_right (by decide) h)
theorem Bd.mul {m n : Nat} {x y : Int} (hx : Bd m x) (hy : Bd n y) : Bd (m + n) (x * y) := by
  unfold Bd at *
  rw [Int.natAbs_mul, Nat.pow_add]
  exact Nat.mul_lt_mul'' hx hy
theorem Bd.add {m : Nat} {x y : Int} (hx : Bd m x) (hy : Bd m y) : Bd (m + 1) (x + y) := by
  unfold Bd at *
  have := Int.natAbs_add_le x y
  have e : 2 ^ (m + 1) = 2 ^ m + 2 ^ m := by rw [Nat.pow_succ]; omega
  omega
theorem Bd.neg {m : Nat} {x : Int} (hx : Bd m x) : Bd m (-x) := by
  unfold Bd at *
  rwa [Int.natAbs_neg]
theorem bd_bits {z : Int} (h : Builtin.Int.intBits z ≤ 1048576) : Bd 1048576 z := by
  unfold Builtin.Int.intBits at h
  unfold Bd
  by_cases h0 : z = 0
  · subst h0; exact Nat.pow_pos (by decide)
  · have h1 : z.natAbs ≠ 0 := by omega
    have h2 : z.natAbs.log2 < 1048576 := by
      revert h
      simp [h0]
      omega
    exact (Nat.log2_lt h1).mp h2
theorem divOk_big {x y : Int} (hx : Bd 13000 x) (h0 : y ≠ 0) : divOk x y = true := by
  unfold divOk
  have e : Builtin.divisionGoesByPylong x y = false := by
    have hl := hx.log
    unfold Builtin.divisionGoesByPylong
    have hd : (if x == 0 then 0 else x.natAbs.log2 / 30 + 1) ≤ 450 := by split <;> omega
    simp only [Bool.and_eq_false_iff, decide_eq_false_iff_not]
    generalize (if x == 0 then 0 else x.natAbs.log2 / 30 + 1) = a at *
    generalize (if y == 0 then 0 else y.natAbs.log2 / 30 + 1) = b at *
    omega
  rw [e]
  simp [h0]
theorem Bd.sub {m : Nat} {x y : Int} (hx : Bd m x) (hy : Bd m y) : Bd (m + 1) (x - y) := by
  rw [Int.sub_eq_add_neg]
  exact hx.add hy.neg
/-- a fraction as data -/
def qD (q : Rat) : D := .tup [.int q.num, .int (q.den : Int)]
theorem qD_eq (q : Rat) : qD q = .tup [.int q.num, .int (q.den : Int)] := rfl
/-- top and bottom below 2 ^ n -/
def QB (n : Nat) (q : Rat) : Prop := Bd n q.num ∧ Bd n (q.den : Int)
theorem QB.mono {m n : Nat} {q : Rat} (h : QB m q) (k : m ≤ n) : QB n q := ⟨h.1.mono k, h.2.mono k⟩
theorem QB.divInt {m n : Nat} {t b : Int} (ht : Bd m t) (hb : Bd n b) (h0 : b ≠ 0) (k : Nat) (k1 : m ≤ k) (k2 : n ≤ k) : QB k (Rat.divInt t b) := by
  constructor
  · have : (Rat.divInt t b).num.natAbs ≤ t.natAbs := by
      rw [Rat.num_divInt]
      refine Nat.le_trans (Int.natAbs_ediv_le_natAbs _ _) ?_
      rw [Int.natAbs_mul, Int.natAbs_sign_of_ne_zero h0, Nat.one_mul]
      exact Nat.le_refl _
    have := ht.mono k1
    unfold Bd at *
    omega
  · have : ((Rat.divInt t b).den : Int).natAbs ≤ b.natAbs := by
      rw [Rat.den_divInt, if_neg h0]
      simp
      exact Nat.div_le_self _ _
    have := hb.mono k2
    unfold Bd at *
    omega
theorem den_ne (q : Rat) : (q.den : Int) ≠ 0 := by have := q.den_pos; omega
theorem QB.add {m n : Nat} {p q : Rat} (hp : QB m p) (hq : QB n q) : QB (m + n + 1) (p + q) := by
  rw [Rat.add_def', ← Rat.divInt_ofNat]
  have b1 : Bd (m + n + 1) (p.num * q.den + q.num * p.den) := (hp.1.mul hq.2).add ((hq.1.mul hp.2).mono (by omega))
  have b2 : Bd (m + n) ((p.den * q.den : Nat) : Int) := by rw [Int.natCast_mul]; exact hp.2.mul hq.2
  exact QB.divInt b1 b2 (by rw [Int.natCast_mul]; exact Int.mul_ne_zero (den_ne p) (den_ne q)) _ (by omega) (by omega)
theorem QB.neg {m : Nat} {p : Rat} (hp : QB m p) : QB m (-p) := ⟨show Bd m (-p.num) from hp.1.neg, hp.2⟩
theorem QB.sub {m n : Nat} {p q : Rat} (hp : QB m p) (hq : QB n q) : QB (m + n + 1) (p - q) := by
  rw [Rat.sub_eq_add_neg]
  exact hp.add hq.neg
theorem QB.mul {m n : Nat} {p q : Rat} (hp : QB m p) (hq : QB n q) : QB (m + n) (p * q) := by
  rw [Rat.mul_def', ← Rat.divInt_ofNat]
  have b2 : Bd (m + n) ((p.den * q.den : Nat) : Int) := by rw [Int.natCast_mul]; exact hp.2.mul hq.2
  exact QB.divInt (hp.1.mul hq.1) b2 (by rw [Int.natCast_mul]; exact Int.mul_ne_zero (den_ne p) (den_ne q)) _ (by omega) (by omega)
theorem QB.inv {m : Nat} {p : Rat} (hp : QB m p) (h0 : p ≠ 0) : QB m p⁻¹ := by
  have pn : p.num ≠ 0 := fun e => h0 (Rat.num_eq_zero.mp e)
  have : p⁻¹ = Rat.divInt p.den p.num := by rw [← Rat.inv_divInt, Rat.num_divInt_den]
  rw [this]
  exact QB.divInt hp.2 hp.1 pn _ (Nat.le_refl _) (Nat.le_refl _)
theorem QB.div {m n : Nat} {p q : Rat} (hp : QB m p) (hq : QB n q) (h0 : q ≠ 0) : QB (m + n) (p / q) := by
  rw [Rat.div_def]
  exact hp.mul (hq.inv h0)

section
variable {α β : Type}
theorem comp_gen {enc : α → D} {P : α → Prop} {p : Pat} {f : BEnv → Res D} {env : BEnv} : ∀ (l : List D), (∀ d ∈ l, ∃ as x, p d = .ok as ∧ f (setAllB env as) = .ok (enc x) ∧ P x) → ∃ xs : List α, compD p cTrue f env l = .ok (xs.map enc) ∧ xs.length = l.length ∧ ∀ x ∈ xs, P x
  | [], _ => ⟨[], rfl, rfl, fun x h => absurd h List.not_mem_nil⟩
  | d :: l, h => by
    obtain ⟨as, x, h1, h2, h3⟩ := h d List.mem_cons_self
    obtain ⟨xs, e, hl, hp⟩ := comp_gen l fun d hd => h d (List.mem_cons_of_mem _ hd)
    refine ⟨x :: xs, ?_, by simp [hl], ?_⟩
    · unfold compD
      rw [h1, must_ok]
      simp [cTrue, h2, e]
    · intro y hy
      rcases List.mem_cons.mp hy with rfl | hy
      · exact h3
      · exact hp y hy
theorem comp_map {dec : β → D} {enc : α → D} (k : β → α) {p : Pat} {f : BEnv → Res D} {env : BEnv} : ∀ (l : List β), (∀ b ∈ l, ∃ as, p (dec b) = .ok as ∧ f (setAllB env as) = .ok (enc (k b))) → compD p cTrue f env (l.map dec) = .ok ((l.map k).map enc)
  | [], _ => rfl
  | b :: l, h => by
    obtain ⟨as, h1, h2⟩ := h b List.mem_cons_self
    have e := comp_map k (dec := dec) (enc := enc) l fun d hd => h d (List.mem_cons_of_mem _ hd)
    rw [List.map_cons]
    unfold compD
    rw [h1, must_ok]
    simp only [List.map_map] at e
    simp [cTrue, h2, e]
theorem x_comp {vs : List Nat} {it : BEnv → Res (List D)} {p : Pat} {c : BEnv → Res Bool} {f : BEnv → Res D} {env : BEnv} : oComp vs it p c f env = (it env >>= fun l => if l.length ≤ 1000000 then compD p c f (wipeB env vs) l else .bad) := rfl
@[simp] theorem x_wipe_nil {env : BEnv} : wipeB env [] = env := rfl
@[simp] theorem x_wipe_cons {env : BEnv} {i : Nat} {r : List Nat} : wipeB env (i :: r) = (wipeB env r).set i none := rfl
theorem mem_rng {lo : Int} {n : Nat} {d : D} (h : d ∈ rngD lo n) : ∃ i : Nat, i < n ∧ d = .int (lo + i) := by
  unfold rngD at h
  obtain ⟨i, hi, e⟩ := List.mem_map.mp h
  exact ⟨i, List.mem_range.mp hi, e.symm⟩
@[simp] theorem rng_len {lo : Int} {n : Nat} : (rngD lo n).length = n := by unfold rngD; rw [List.length_map, List.length_range]
@[simp] theorem enum_len {l : List D} : (enumD l).length = l.length := by unfold enumD; simp
theorem mem_enum {l : List D} {d : D} (h : d ∈ enumD l) : ∃ i v, i < l.length ∧ v ∈ l ∧ d = .tup [.int (i : Nat), v] := by
  unfold enumD at h
  obtain ⟨i, hi, e⟩ := List.mem_mapIdx.mp h
  exact ⟨i, l[i], hi, List.getElem_mem hi, e.symm⟩
@[simp] theorem x_enum1 {f : BEnv → Res D} {env : BEnv} : enum1D (aCons f aNil) env = (f env >>= fun d => seqD d >>= fun l => .ok (enumD l)) := by
  unfold enum1D aCons aNil
  cases f env <;> rfl
theorem bls_map : ∀ bs : List Bool, blsD (bs.map D.bl) = some bs
  | [] => rfl
  | b :: bs => by
    show (blsD (bs.map D.bl)).map (b :: ·) = _
    rw [bls_map bs]
    rfl
theorem all_bls {bs : List Bool} : allD [.lst (bs.map D.bl)] = .ok (.bl (bs.all id)) := by
  show (match blsD (bs.map D.bl) with | some bs => Res.ok (D.bl (bs.all id)) | none => .bad) = _
  rw [bls_map]
theorem ints_map : ∀ bs : List Int, intsD (bs.map D.int) = some bs
  | [] => rfl
  | b :: bs => by
    show (intsD (bs.map D.int)).map (b :: ·) = _
    rw [ints_map bs]
    rfl
theorem sum_ints {bs : List Int} : sumD [.lst (bs.map D.int)] = .ok (.int bs.sum) := by
  show (match intsD (bs.map D.int) with | some ns => Res.ok (D.int ns.sum) | none => .bad) = _
  rw [ints_map]
theorem pair_map {γ δ : Type} {e1 : γ → D} {e2 : δ → D} : ∀ (l : List γ) (m : List δ), pair2 (l.map e1) (m.map e2) = (l.zip m).map fun p => .tup [e1 p.1, e2 p.2]
  | [], _ => by simp [pair2]
  | _ :: _, [] => by simp [pair2]
  | a :: l, b :: m => by
    have := pair_map (e1 := e1) (e2 := e2) l m
    simp [pair2] at this ⊢
    exact this
theorem at_last {l : List D} {d : D} : atD (l ++ [d]) (-1) = .ok d := by
  unfold atD ixN
  have e : (-1 + ((l.length : Int) + 1)).toNat = l.length := by omega
  rw [if_neg (by decide), if_pos (by simp; omega)]
  simp [e]
@[simp] theorem rep_one {d : D} {n : Nat} : (List.replicate n [d]).flatten = List.replicate n d := by simp
theorem at_map {enc : α → D} {l : List α} {k : Nat} (h : k < l.length) : atD (l.map enc) (k : Int) = .ok (enc l[k]) := by
  rw [y_atn, List.getElem?_map, List.getElem?_eq_getElem h]
  rfl
/-- some item, by a number that is in reach -/
theorem at_some {enc : α → D} {l : List α} {z : Int} (h0 : 0 ≤ z) (h : z < l.length) : ∃ x ∈ l, atD (l.map enc) z = .ok (enc x) := by
  have hz : z = ((z.toNat : Nat) : Int) := by omega
  have hk : z.toNat < l.length := by omega
  refine ⟨l[z.toNat], List.getElem_mem hk, ?_⟩
  have := at_map (enc := enc) hk
  rw [← hz] at this
  exact this
end
def setIx (s : PL.Env) (i : Nat) (l : List D) (d : D) : D → Res Fl
  | .int k => match ixN l.length k with
    | some j => .ok (.nx (s.set i (some (.own (l.set j d)))))
    | none => .bad
  | _ => .bad
theorem setIx_i {s : PL.Env} {i j : Nat} {l : List D} {d : D} {k : Int} (h : ixN l.length k = some j) : setIx s i l d (.int k) = .ok (.nx (s.set i (some (.own (l.set j d))))) := by
  unfold setIx
  simp only [h]
@[simp] theorem x_sIx {i : Nat} {fi f : BEnv → Res D} {s : PL.Env} : sIx i fi f s = (f s.clean >>= fun d => ownAt s i fun l => fi s.borrow >>= setIx s i l d) := by
  unfold sIx
  congr 1
@[simp] theorem x_sIxB {i : Nat} {fi f : BEnv → Res D} {s : PL.Env} : sIxB i fi f s = (f s.borrow >>= fun d => if noLst d = true then (ownAt s i fun l => fi s.borrow >>= setIx s i l d) else .bad) := by
  unfold sIxB
  congr 1
@[simp] theorem y_listO_t {l : List D} : listO [.tup l] = .ok l := rfl
@[simp] theorem y_listO_l {l : List D} : listO [.lst l] = .ok l := rfl
@[simp] theorem y_listO_s {l : List Int} : listO [.scr l] = .ok (l.map D.int) := rfl
theorem bd64 {x : Int} (h1 : -18446744073709551616 < x) (h2 : x < 18446744073709551616) : Bd 64 x := by
  unfold Bd
  have e : (2 : Nat) ^ 64 = 18446744073709551616 := by decide
  rw [e]
  omega
theorem mul64 {x y : Int} (a : -18446744073709551616 < x) (b : x < 18446744073709551616) (c : -18446744073709551616 < y) (d : y < 18446744073709551616) : mulOk x y = true := mulOk_of (bd64 a b) (bd64 c d) (by decide)
theorem fm {a b : Int} (h : 0 < b) : 0 ≤ a.fmod b ∧ a.fmod b < b := by
  rw [Int.fmod_eq_emod_of_nonneg _ (by omega)]
  exact ⟨Int.emod_nonneg _ (by omega), Int.emod_lt_of_pos _ h⟩
theorem Bd.fdiv {n : Nat} {x y : Int} (h : Bd n x) : Bd n (x.fdiv y) := by
  unfold Bd at *
  have := Int.natAbs_fdiv_le_natAbs x y
  omega

theorem for_chk {p : Pat} {s : PL.Env → Res Fl} {r : Cell} (c : Nat → Bool) (I : PL.Env → Prop) : ∀ (l : List D) (env : PL.Env) (k : Nat), I env →
    (∀ (i : Nat) (hi : i < l.length) (env : PL.Env), I env → ∃ as, p l[i] = .ok as ∧ ((c (k + i) = true ∧ ∃ env', s (setAllE env as) = .ok (.nx env') ∧ I env') ∨ (c (k + i) = false ∧ s (setAllE env as) = .ok (.rt r)))) →
    (∃ env', forD p s l env = .ok (.nx env') ∧ I env' ∧ ∀ i, i < l.length → c (k + i) = true) ∨ (forD p s l env = .ok (.rt r) ∧ ∃ i, i < l.length ∧ c (k + i) = false)
  | [], env, k, h0, _ => .inl ⟨env, rfl, h0, fun i h => absurd h (Nat.not_lt_zero _)⟩
  | d :: ds, env, k, h0, hs => by
    obtain ⟨as, hp, h1⟩ := hs 0 (by simp) env h0
    have hp : p d = .ok as := hp
    rw [x_for_cons, hp, must_ok]
    rcases h1 with ⟨hc, e1, h1, h2⟩ | ⟨hc, h1⟩
    · rw [h1]
      have := for_chk (p := p) (s := s) (r := r) c I ds e1 (k + 1) h2 (fun i hi env hI => by
        obtain ⟨as, a, b⟩ := hs (i + 1) (by simpa using hi) env hI
        exact ⟨as, by simpa using a, by rwa [show k + 1 + i = k + (i + 1) by omega]⟩)
      rcases this with ⟨e2, h3, h4, h5⟩ | ⟨h3, i, hi, h4⟩
      · refine .inl ⟨e2, h3, h4, fun i hi => ?_⟩
        cases i with
        | zero => exact hc
        | succ i => have := h5 i (by simpa using hi); rwa [show k + 1 + i = k + (i + 1) by omega] at this
      · exact .inr ⟨h3, i + 1, by simpa using hi, by rwa [show k + 1 + i = k + (i + 1) by omega] at h4⟩
    · rw [h1]
      exact .inr ⟨rfl, 0, by simp, hc⟩
theorem comp_filter {dec : α → D} {p : Pat} {c : BEnv → Res Bool} {f : BEnv → Res D} {env : BEnv} (b : α → Bool) : ∀ (l : List α), (∀ x ∈ l, ∃ as, p (dec x) = .ok as ∧ c (setAllB env as) = .ok (b x) ∧ f (setAllB env as) = .ok (dec x)) → compD p c f env (l.map dec) = .ok ((l.filter b).map dec)
  | [], _ => rfl
  | x :: l, h => by
    obtain ⟨as, h1, h2, h3⟩ := h x List.mem_cons_self
    have e := comp_filter b (dec := dec) l fun d hd => h d (List.mem_cons_of_mem _ hd)
    rw [List.map_cons]
    unfold compD
    rw [h1, must_ok, h2, must_ok]
    cases hb : b x with
    | true => simp [h3, e, hb]
    | false => simp [e, hb]

theorem seq_nx {s t : PL.Env → Res Fl} {env e1 : PL.Env} (h : s env = .ok (.nx e1)) : sSeq s t env = t e1 := by
  rw [x_seq, h]
  rfl
theorem run_rt {N n : Nat} {s : PL.Env → Res Fl} {ds : List D} {c : Cell} (hl : ds.length = n) (h : s (startE N ds) = .ok (.rt c)) : runB N n s ds = .ok c := by
  rw [run_eq hl, h]
  rfl

theorem for_exc {p : Pat} {s : PL.Env → Res Fl} {c : String} {x : Option D} (I : Nat → PL.Env → Prop) : ∀ (l : List D) (m : Nat) (hm : m < l.length) (env : PL.Env) (k : Nat), I k env →
    (∀ (i : Nat) (hi : i < l.length) (env : PL.Env), i < m → I (k + i) env → ∃ as env', p l[i] = .ok as ∧ s (setAllE env as) = .ok (.nx env') ∧ I (k + i + 1) env') →
    (∀ (env : PL.Env), I (k + m) env → ∃ as, p (l[m]'hm) = .ok as ∧ s (setAllE env as) = .exc c x) → forD p s l env = .exc c x
  | [], m, hm, _, _, _, _, _ => absurd hm (Nat.not_lt_zero _)
  | d :: ds, 0, hm, env, k, h0, hs, he => by
    obtain ⟨as, h1, h2⟩ := he env h0
    have h1 : p d = .ok as := h1
    rw [x_for_cons, h1, must_ok, h2]
    rfl
  | d :: ds, m + 1, hm, env, k, h0, hs, he => by
    obtain ⟨as, e1, h1, h2, h3⟩ := hs 0 (by simp) env (Nat.succ_pos m) h0
    have h1 : p d = .ok as := h1
    rw [x_for_cons, h1, must_ok, h2]
    exact for_exc I ds m (by simpa using hm) e1 (k + 1) h3 (fun i hi env hm hI => by
      obtain ⟨as, e', a, b, c⟩ := hs (i + 1) (by simpa using hi) env (by omega) (by rwa [show k + (i + 1) = k + 1 + i by omega])
      exact ⟨as, e', by simpa using a, b, by rwa [show k + 1 + i + 1 = k + (i + 1) + 1 by omega]⟩) (fun env hI => by
      obtain ⟨as, a, b⟩ := he env (by rwa [show k + (m + 1) = k + 1 + m by omega])
      exact ⟨as, by simpa using a, b⟩)
theorem forR_exc {p : Pat} {s : PL.Env → Res Fl} {c : String} {x : Option D} {n : Nat} (I : Nat → PL.Env → Prop) (m : Nat) (hm : m < n) (env : PL.Env) (h0 : I 0 env)
    (hs : ∀ (i : Nat), i < m → ∀ (env : PL.Env), I i env → ∃ as env', p (.int i) = .ok as ∧ s (setAllE env as) = .ok (.nx env') ∧ I (i + 1) env')
    (he : ∀ (env : PL.Env), I m env → ∃ as, p (.int m) = .ok as ∧ s (setAllE env as) = .exc c x) : forD p s (rngD 0 n) env = .exc c x := by
  have e : ∀ (i : Nat) (hi : i < (rngD 0 n).length), (rngD 0 n)[i] = .int i := fun i hi => by simp [rngD]
  refine for_exc I (rngD 0 n) m (by rw [rng_len]; exact hm) env 0 h0 (fun i hi env h hI => ?_) (fun env hI => ?_)
  · rw [e]
    simpa using hs i h env (by simpa using hI)
  · rw [e]
    exact he env (by simpa using hI)
theorem seq_exc {s t : PL.Env → Res Fl} {env : PL.Env} {c : String} {x : Option D} (h : s env = .exc c x) : sSeq s t env = .exc c x := by
  rw [x_seq, h]
  rfl
theorem run_exc {N n : Nat} {s : PL.Env → Res Fl} {ds : List D} {c : String} {x : Option D} (hl : ds.length = n) (h : s (startE N ds) = .exc c x) : runB N n s ds = .exc c x := by
  rw [run_eq hl, h]
  rfl
theorem run_nx {N n : Nat} {s : PL.Env → Res Fl} {ds : List D} {e : PL.Env} (hl : ds.length = n) (h : s (startE N ds) = .ok (.nx e)) : runB N n s ds = .ok (.val .non) := by
  rw [run_eq hl, h]
  rfl
theorem qD_int (z : Int) : qD (z : Rat) = .tup [.int z, .int 1] := rfl
theorem QB.int {n : Nat} {z : Int} (h : Bd n z) (h0 : 0 < n) : QB n (z : Rat) := ⟨h, by
  show Bd n (((z : Rat).den : Nat) : Int)
  unfold Bd
  have : (z : Rat).den = 1 := rfl
  rw [this]
  have : 2 ^ 1 ≤ 2 ^ n := Nat.pow_le_pow_right (by decide) h0
  show 1 < 2 ^ n
  omega⟩
theorem divInt_1 (z : Int) : Rat.divInt z 1 = (z : Rat) := by
  rw [← Rat.num_divInt_den (z : Rat)]
  rfl
theorem eqOks_q (k : Nat) (qs : List Rat) : eqOks (k + 1) (qs.map qD) = true := by
  induction qs with
  | nil => simp
  | cons q qs ih => simp [qD_eq] at ih ⊢; exact ih
theorem noLst_q (qs : List Rat) : noLst (.tup (qs.map qD)) = true := by
  simp only [noLst]
  induction qs with
  | nil => simp [noLsts]
  | cons q qs ih => simp [noLsts, qD_eq, noLst] at ih ⊢; exact ih
/-- spots, as data -/
def spL (S : List (List Rat)) : List D := S.map fun qs => .tup (qs.map qD)
theorem eqOk_sp (S : List (List Rat)) : eqOks 59 (spL S) = true := by
  induction S with
  | nil => simp [spL]
  | cons q qs ih =>
    have e := eqOks_q 57 q
    simp only [spL, List.map_cons, eqOks_cons, eqOk_t] at ih ⊢
    simp [e, ih]
structure SpOk (n : Nat) (S : List (List Rat)) : Prop where
  d1 : 1 ≤ n
  d3 : n ≤ 3
  l1 : 1 ≤ S.length
  l8 : S.length ≤ 8
  len : ∀ qs ∈ S, qs.length = n
  bd : ∀ qs ∈ S, ∀ q ∈ qs, QB 200 q
theorem snoc_of {n : Nat} {ds : List Int} (h : ds.length = n + 1) : ∃ cs c, ds = cs ++ [c] ∧ cs.length = n := by
  refine ⟨ds.take n, ds[n], ?_, by simp; omega⟩
  have := List.take_succ_eq_append_getElem (l := ds) (i := n) (by omega)
  rw [← this, List.take_of_length_le (by omega)]
def ctD (p : List Int × Int) : D := .tup ((p.1 ++ [p.2]).map D.int)
structure CtOk (n : Nat) (p : List Int × Int) : Prop where
  len : p.1.length = n
  bc : Bd 200 p.2
  bs : ∀ z ∈ p.1, Bd 200 z
def full (p : List Int × Int) : List Int := p.1 ++ [p.2]
/-- the same spots: crosswise alike -/
def sameB (u v : List Int) : Bool := decide (∀ k, k < u.length → ∀ j, j < k → u.getD k 0 * v.getD j 0 = u.getD j 0 * v.getD k 0)
theorem sameB_symm {u v : List Int} (h : u.length = v.length) : sameB u v = sameB v u := by
  unfold sameB
  refine decide_eq_decide.mpr ⟨fun q k hk j hj => ?_, fun q k hk j hj => ?_⟩
  · have := q k (by omega) j hj
    rw [Int.mul_comm (v.getD k 0), Int.mul_comm (v.getD j 0)]
    exact this.symm
  · have := q k (by omega) j hj
    rw [Int.mul_comm (u.getD k 0), Int.mul_comm (u.getD j 0)]
    exact this.symm
theorem at_getD {l : List Int} {k : Nat} (h : k < l.length) : atD (l.map D.int) (k : Int) = .ok (.int (l.getD k 0)) := by
  rw [at_map h]
  simp [h]
theorem bd_getD {l : List Int} {n k : Nat} (h : ∀ z ∈ l, Bd n z) (hn : k < l.length) : Bd n (l.getD k 0) := by
  have : l.getD k 0 = l[k] := by simp [hn]
  rw [this]
  exact h _ (List.getElem_mem hn)
/-- the cuts of a cutting -/
structure CsOk (n : Nat) (C : List (List Int × Int)) : Prop where
  d1 : 1 ≤ n
  d3 : n ≤ 3
  l7 : C.length ≤ 7
  ok : ∀ p ∈ C, CtOk n p
  nz : ∀ p ∈ C, p.1 ≠ List.replicate n 0
  pw : C.Pairwise fun p q => sameB (full p) (full q) = false
theorem full_len {n : Nat} {p : List Int × Int} (h : CtOk n p) : (full p).length = n + 1 := by simp [full, h.len]
theorem full_bd {n : Nat} {p : List Int × Int} (h : CtOk n p) : ∀ z ∈ full p, Bd 300 z := by
  intro z hz
  rcases List.mem_append.mp hz with q | q
  · exact (h.bs z q).mono (by decide)
  · rw [List.mem_singleton.mp q]; exact h.bc.mono (by decide)
theorem ctD_full (p : List Int × Int) : ctD p = .tup ((full p).map D.int) := rfl
theorem noLsts_i : ∀ zs : List Int, noLsts (zs.map D.int) = true
  | [] => by simp [noLsts]
  | z :: zs => by simp [noLsts, noLst, noLsts_i zs]
theorem noLst_ct (p : List Int × Int) : noLst (ctD p) = true := by
  unfold ctD
  simp only [noLst]
  exact noLsts_i _
theorem noLsts_ct : ∀ C : List (List Int × Int), noLsts (C.map ctD) = true
  | [] => by simp [noLsts]
  | p :: C => by simp [noLsts, noLst_ct p, noLsts_ct C]
theorem eqOks_ct : ∀ (C : List (List Int × Int)) (k : Nat), eqOks (k + 1) (C.map ctD) = true
  | [], k => by simp
  | p :: C, k => by
    have e := eqOks_ints (n := k) (p.1 ++ [p.2])
    have h := eqOks_ct C k
    simp only [List.map_cons, eqOks_cons, h, Bool.and_true]
    unfold ctD
    rw [eqOk_t]
    simp only [Nat.add_sub_cancel]
    rw [e]
    simp
theorem deqs_ct : ∀ C : List (List Int × Int), deqs (C.map ctD) (C.map ctD) = true
  | [] => by simp
  | p :: C => by
    have e := deqs_ints (p.1 ++ [p.2]) (p.1 ++ [p.2])
    have h := deqs_ct C
    simp only [List.map_cons, deqs_cc, h, Bool.and_true]
    unfold ctD
    rw [deq_tt, e]
    simp
/-- a cutting, as data -/
def kD (n : Nat) (C : List (List Int × Int)) : D := .cut n (C.map ctD)
theorem noLst_k (n : Nat) (C : List (List Int × Int)) : noLst (kD n C) = true := by
  unfold kD
  simp only [noLst]
  exact noLsts_ct C
/-- a cut of a cutting -/
structure CuOk (n : Nat) (p : List Int × Int) : Prop where
  ct : CtOk n p
  nz : p.1 ≠ List.replicate n 0
  b92 : Bd 86 p.2 ∧ ∀ z ∈ p.1, Bd 86 z
theorem b200 {z : Int} (a : -1000000000000000000000000 ≤ z) (b : z ≤ 1000000000000000000000000) : Bd 86 z := by
  refine Bd.mono (m := 80) ?_ (by decide)
  unfold Bd
  have e : (2 : Nat) ^ 80 = 1208925819614629174706176 := by decide
  rw [e]
  omega
theorem nz_map {n : Nat} {zs : List Int} {far : Int} (hf : far ≠ 0) (h : zs ≠ List.replicate n 0) (hl : zs.length = n) : zs.map (fun z => z * far) ≠ List.replicate n 0 := by
  intro e
  refine h (List.eq_replicate_iff.mpr ⟨hl, fun z hz => ?_⟩)
  have : z * far ∈ List.replicate n 0 := by rw [← e]; exact List.mem_map_of_mem hz
  have := (List.mem_replicate.mp this).2
  rcases Int.mul_eq_zero.mp this with h | h
  · exact h
  · exact absurd h hf
def sgI (x : Int) : Int := (if 0 < x then 1 else 0) - (if x < 0 then 1 else 0)
theorem sgI_eq {a b d u : Int} (h : a * d = b * u) (hd : 0 < d) (hu : 0 < u) : sgI a = sgI b := by
  have h1 : 0 < a ↔ 0 < b := by
    constructor
    · intro x
      have := Int.mul_pos x hd
      rw [h] at this
      exact Int.pos_of_mul_pos_left this hu
    · intro x
      have := Int.mul_pos x hu
      rw [← h] at this
      exact Int.pos_of_mul_pos_left this hd
  have h2 : a < 0 ↔ b < 0 := by
    constructor
    · intro x
      have := Int.mul_neg_of_neg_of_pos x hd
      rw [h] at this
      exact Int.neg_of_mul_neg_left this hu
    · intro x
      have := Int.mul_neg_of_neg_of_pos x hu
      rw [← h] at this
      exact Int.neg_of_mul_neg_left this hd
  unfold sgI
  simp only [h1, h2]
theorem sgI_le {x : Int} : -1 ≤ sgI x ∧ sgI x ≤ 1 := by
  unfold sgI
  repeat' split
  all_goals omega
def cutB (n : Nat) (cs : List Int) : Bool := decide (cs.length = n + 1) && !(cs.take n == List.replicate n 0)
def wr (c : Int) (L : List (Int × Rat)) : Rat := L.foldl (fun a p => a + (p.1 : Rat) * p.2) (-(c : Rat))
def sds (C : List (List Int × Int)) (qs : List Rat) : List Int := C.map fun p => sgI (wr p.2 (p.1.zip qs)).num

/-! ### rows of wants -/
inductive Kd where
  | st | lo | eq
  deriving DecidableEq
def kS : Kd → Str
  | .st => ">"
  | .lo => ">="
  | .eq => "="
structure Row where
  nums : List Int
  c : Int
  kd : Kd
  ws : List Int
def Row.n (r : Row) (k : Nat) : Int := r.nums.getD k 0
def Row.w (r : Row) (k : Nat) : Int := r.ws.getD k 0
abbrev Raw := List Int × Int × Kd
def rowD (r : Row) : D := .tup [.tup (r.nums.map D.int), .int r.c, .str (kS r.kd), .tup (r.ws.map D.int)]
def rawD (r : Raw) : D := .tup [.tup (r.1.map D.int), .int r.2.1, .str (kS r.2.2)]
theorem kS_eq (k : Kd) : eqD (.str (kS k)) (.str "=") = .ok (.bl (decide (k = .eq))) := by
  rw [eqD_ok (by simp only [eqOk_s]; cases k <;> decide +kernel) (by simp only [eqOk_s]; decide +kernel), deq_s]
  cases k <;> rfl
theorem kS_st (k : Kd) : eqD (.str (kS k)) (.str ">") = .ok (.bl (decide (k = .st))) := by
  rw [eqD_ok (by simp only [eqOk_s]; cases k <;> decide +kernel) (by simp only [eqOk_s]; decide +kernel), deq_s]
  cases k <;> rfl
theorem kS_lo (k : Kd) : eqD (.str (kS k)) (.str ">=") = .ok (.bl (decide (k = .lo))) := by
  rw [eqD_ok (by simp only [eqOk_s]; cases k <;> decide +kernel) (by simp only [eqOk_s]; decide +kernel), deq_s]
  cases k <;> rfl
theorem kS_in (a b : Kd) : inT (.str ">") [.str (kS a), .str (kS b)] = decide (a = .st ∨ b = .st) := by cases a <;> cases b <;> rfl
structure RB (b n m : Nat) (r : Row) : Prop where
  ln : r.nums.length = n
  lw : r.ws.length = m
  bn : ∀ z ∈ r.nums, Bd b z
  bc : Bd b r.c
  bw : ∀ z ∈ r.ws, Bd b z
theorem RB.mono {b b' n m : Nat} {r : Row} (h : RB b n m r) (k : b ≤ b') : RB b' n m r := ⟨h.ln, h.lw, fun z hz => (h.bn z hz).mono k, h.bc.mono k, fun z hz => (h.bw z hz).mono k⟩
theorem Bd.zero {b : Nat} : Bd b 0 := by
  unfold Bd
  exact Nat.pow_pos (by decide)
theorem RB.bnk {b n m : Nat} {r : Row} (h : RB b n m r) (k : Nat) : Bd b (r.n k) := by
  unfold Row.n
  by_cases hk : k < r.nums.length
  · exact bd_getD h.bn hk
  · rw [List.getD_eq_getElem?_getD, List.getElem?_eq_none (by omega)]
    exact Bd.zero
theorem RB.at_n {b n m : Nat} {r : Row} (h : RB b n m r) {k : Nat} (hk : k < n) : atD (r.nums.map D.int) (k : Int) = .ok (.int (r.n k)) := at_getD (by rw [h.ln]; exact hk)
/-- so often the one, so often the other, in least numbers -/
structure Mix (u v : Int) (a o r : Row) : Prop where
  ex : ∃ s : Int, 0 < s ∧ (∀ k, s * r.n k = u * a.n k + v * o.n k) ∧ s * r.c = u * a.c + v * o.c ∧ ∀ k, s * r.w k = u * a.w k + v * o.w k
theorem getD_map0 {f : Int → Int} {l : List Int} {k : Nat} (h : f 0 = 0) : (l.map f).getD k 0 = f (l.getD k 0) := by
  by_cases hk : k < l.length
  · simp [hk]
  · simp [hk, h]
theorem getD_zip0 {u v : Int} : ∀ {a o : List Int} {k : Nat}, a.length = o.length → ((a.zip o).map fun p => u * p.1 + v * p.2).getD k 0 = u * a.getD k 0 + v * o.getD k 0
  | [], [], k, _ => by simp
  | [], _ :: _, _, h => absurd h (by simp)
  | _ :: _, [], _, h => absurd h (by simp)
  | x :: a, y :: o, 0, _ => by simp
  | x :: a, y :: o, k + 1, h => by
    have := getD_zip0 (u := u) (v := v) (a := a) (o := o) (k := k) (by simpa using h)
    simpa using this
theorem fdiv_exact {s z : Int} (h : s ∣ z) : s * z.fdiv s = z := Int.mul_fdiv_cancel' h
theorem Bd.mix {b : Nat} {u v x y : Int} (hu : Bd b u) (hv : Bd b v) (hx : Bd b x) (hy : Bd b y) : Bd (2 * b + 1) (u * x + v * y) := ((hu.mul hx).add (hv.mul hy)).mono (by omega)
/-- each turn hands back some -/
inductive F2 {α β : Type} (Q : α → β → Prop) : List α → List β → Prop
  | nil : F2 Q [] []
  | cons {x : α} {y : β} {l : List α} {m : List β} (h : Q x y) (r : F2 Q l m) : F2 Q (x :: l) (y :: m)
theorem F2.left {α β : Type} {Q : α → β → Prop} {l : List α} {m : List β} (h : F2 Q l m) : ∀ x ∈ l, ∃ y ∈ m, Q x y := by
  induction h with
  | nil => intro x hx; exact absurd hx List.not_mem_nil
  | cons q _ ih =>
    intro x hx
    rcases List.mem_cons.mp hx with e | e
    · subst e; exact ⟨_, List.mem_cons_self, q⟩
    · obtain ⟨y, hy, hq⟩ := ih x e
      exact ⟨y, List.mem_cons_of_mem _ hy, hq⟩
theorem F2.right {α β : Type} {Q : α → β → Prop} {l : List α} {m : List β} (h : F2 Q l m) : ∀ y ∈ m, ∃ x ∈ l, Q x y := by
  induction h with
  | nil => intro x hx; exact absurd hx List.not_mem_nil
  | cons q _ ih =>
    intro x hx
    rcases List.mem_cons.mp hx with e | e
    · subst e; exact ⟨_, List.mem_cons_self, q⟩
    · obtain ⟨y, hy, hq⟩ := ih x e
      exact ⟨y, List.mem_cons_of_mem _ hy, hq⟩
theorem F2.len {α β : Type} {Q : α → β → Prop} {l : List α} {m : List β} (h : F2 Q l m) : l.length = m.length := by
  induction h with
  | nil => rfl
  | cons _ _ ih => simp [ih]
theorem for_grows {α β : Type} {dec : α → D} {p : Pat} {s : PL.Env → Res Fl} {w N : Nat} (Q : α → List β → Prop) (I : List β → PL.Env → Prop) : ∀ (l : List α) (F : List β) (env : PL.Env), I F env → F.length + l.length * w ≤ N →
    (∀ x ∈ l, ∀ F env, I F env → F.length + w ≤ N → ∃ ys as env', p (dec x) = .ok as ∧ s (setAllE env as) = .ok (.nx env') ∧ ys.length ≤ w ∧ Q x ys ∧ I (F ++ ys) env') →
    ∃ Gs env', forD p s (l.map dec) env = .ok (.nx env') ∧ I (F ++ Gs.flatten) env' ∧ F2 Q l Gs ∧ Gs.flatten.length ≤ l.length * w
  | [], F, env, h0, _, _ => ⟨[], env, rfl, by simpa using h0, .nil, by simp⟩
  | x :: l, F, env, h0, hN, hs => by
    have e : (x :: l).length * w = l.length * w + w := by rw [List.length_cons, Nat.succ_mul]
    obtain ⟨ys, as, e1, h1, h2, h3, h4, h5⟩ := hs x List.mem_cons_self F env h0 (by omega)
    obtain ⟨Gs, e2, g1, g2, g3, g4⟩ := for_grows Q I l (F ++ ys) e1 h5 (by rw [List.length_append]; omega) fun y hy => hs y (List.mem_cons_of_mem _ hy)
    refine ⟨ys :: Gs, e2, ?_, by rw [List.flatten_cons, ← List.append_assoc]; exact g2, .cons h4 g3, by rw [List.flatten_cons, List.length_append]; omega⟩
    rw [List.map_cons, x_for_cons, h1, must_ok, h2]
    exact g1
theorem for_find {p : Pat} {s : PL.Env → Res Fl} (c : Nat → Bool) (r : Nat → Cell) (I : PL.Env → Prop) : ∀ (l : List D) (env : PL.Env) (k : Nat), I env →
    (∀ (i : Nat) (hi : i < l.length) (env : PL.Env), I env → ∃ as, p l[i] = .ok as ∧ ((c (k + i) = false ∧ ∃ env', s (setAllE env as) = .ok (.nx env') ∧ I env') ∨ (c (k + i) = true ∧ s (setAllE env as) = .ok (.rt (r (k + i)))))) →
    (∃ env', forD p s l env = .ok (.nx env') ∧ I env' ∧ ∀ i, i < l.length → c (k + i) = false) ∨ (∃ i, i < l.length ∧ forD p s l env = .ok (.rt (r (k + i))) ∧ c (k + i) = true)
  | [], env, k, h0, _ => .inl ⟨env, rfl, h0, fun i h => absurd h (Nat.not_lt_zero _)⟩
  | d :: ds, env, k, h0, hs => by
    obtain ⟨as, hp, h1⟩ := hs 0 (by simp) env h0
    have hp : p d = .ok as := hp
    rw [x_for_cons, hp, must_ok]
    rcases h1 with ⟨hc, e1, h1, h2⟩ | ⟨hc, h1⟩
    · rw [h1]
      have := for_find (p := p) (s := s) c r I ds e1 (k + 1) h2 (fun i hi env hI => by
        obtain ⟨as, a, b⟩ := hs (i + 1) (by simpa using hi) env hI
        exact ⟨as, by simpa using a, by rwa [show k + 1 + i = k + (i + 1) by omega]⟩)
      rcases this with ⟨e2, h3, h4, h5⟩ | ⟨i, hi, h3, h4⟩
      · refine .inl ⟨e2, h3, h4, fun i hi => ?_⟩
        cases i with
        | zero => exact hc
        | succ i => have := h5 i (by simpa using hi); rwa [show k + 1 + i = k + (i + 1) by omega] at this
      · rw [show k + 1 + i = k + (i + 1) by omega] at h3 h4
        exact .inr ⟨i + 1, by simpa using hi, h3, h4⟩
    · rw [h1]
      exact .inr ⟨0, by simp, rfl, hc⟩

/-! ### what rows ask of a spot -/
def val (r : Row) (x : Nat → Rat) : Rat := (r.n 0 : Rat) * x 0 + (r.n 1 : Rat) * x 1 + (r.n 2 : Rat) * x 2 - (r.c : Rat)
def holds (r : Row) (x : Nat → Rat) : Prop := match r.kd with
  | .st => 0 < val r x
  | .lo => 0 ≤ val r x
  | .eq => val r x = 0
def upx (x : Nat → Rat) (v : Nat) (t : Rat) : Nat → Rat := fun k => if k = v then t else x k
theorem upx_same {x : Nat → Rat} {v : Nat} {t : Rat} : upx x v t v = t := if_pos rfl
theorem upx_ne {x : Nat → Rat} {v k : Nat} {t : Rat} (h : k ≠ v) : upx x v t k = x k := if_neg h
theorem val_upx {r : Row} {x : Nat → Rat} {v : Nat} {t : Rat} (hv : v < 3) : val r (upx x v t) = val r x + (r.n v : Rat) * (t - x v) := by
  unfold val
  have : v = 0 ∨ v = 1 ∨ v = 2 := by omega
  rcases this with rfl | rfl | rfl
  · rw [upx_same, upx_ne (by decide), upx_ne (by decide)]; grind
  · rw [upx_same, upx_ne (by decide), upx_ne (by decide)]; grind
  · rw [upx_same, upx_ne (by decide), upx_ne (by decide)]; grind
theorem Mix.val {u t : Int} {a o r : Row} (h : Mix u t a o r) : ∃ s : Rat, 0 < s ∧ ∀ x, s * val r x = (u : Rat) * val a x + (t : Rat) * val o x := by
  obtain ⟨s, s0, hn, hc, _⟩ := h.ex
  refine ⟨(s : Rat), Rat.intCast_pos.mpr s0, fun x => ?_⟩
  have e0 : (s : Rat) * r.n 0 = u * a.n 0 + t * o.n 0 := by have := hn 0; exact_mod_cast this
  have e1 : (s : Rat) * r.n 1 = u * a.n 1 + t * o.n 1 := by have := hn 1; exact_mod_cast this
  have e2 : (s : Rat) * r.n 2 = u * a.n 2 + t * o.n 2 := by have := hn 2; exact_mod_cast this
  have e3 : (s : Rat) * r.c = u * a.c + t * o.c := by exact_mod_cast hc
  unfold K08.val
  grind
theorem pos_of {s u a b : Rat} (hs : 0 < s) (hu : 0 < u) (h : s * a = u * b) (ha : 0 < a) : 0 < b := by
  have h1 : 0 < s * a := Rat.mul_pos hs ha
  by_cases q : 0 < b
  · exact q
  · have := Rat.mul_nonneg (a := u) (b := -b) (by grind) (by grind)
    grind
theorem nn_of {s u a b : Rat} (hs : 0 < s) (hu : 0 < u) (h : s * a = u * b) (ha : 0 ≤ a) : 0 ≤ b := by
  by_cases q : 0 ≤ b
  · exact q
  · have h1 := Rat.mul_nonneg (a := s) (b := a) (by grind) ha
    have := Rat.mul_pos (a := u) (b := -b) hu (by grind)
    grind
theorem z_of {s u a b : Rat} (hs : 0 < s) (hu : 0 < u) (h : s * a = u * b) (ha : a = 0) : b = 0 := by
  subst ha
  have : u * b = 0 := by grind
  rcases Rat.mul_eq_zero.mp this with q | q
  · grind
  · exact q
/-- with an equal one -/
structure Wb (own : Row) (v : Nat) (r r' : Row) : Prop where
  z : r'.n v = 0
  k : r'.kd = r.kd
  h : r' = r ∨ ∃ u t, 0 < u ∧ Mix u t r own r'
theorem Wb.holds {own r r' : Row} {v : Nat} {x : Nat → Rat} (h : Wb own v r r') (ho : val own x = 0) (hr : K08.holds r' x) : K08.holds r x := by
  rcases h.h with e | ⟨u, t, u0, m⟩
  · rw [e] at hr; exact hr
  · obtain ⟨s, s0, hm⟩ := m.val
    have e := hm x
    rw [ho] at e
    have e : s * val r' x = (u : Rat) * val r x := by grind
    have u0 : 0 < (u : Rat) := Rat.intCast_pos.mpr u0
    unfold K08.holds at hr ⊢
    rw [h.k] at hr
    cases hk : r.kd with
    | st => rw [hk] at hr; exact pos_of s0 u0 e hr
    | lo => rw [hk] at hr; exact nn_of s0 u0 e hr
    | eq => rw [hk] at hr; exact z_of s0 u0 e hr
/-- one from below with one from above -/
structure Wp (v : Nat) (low high r' : Row) : Prop where
  z : r'.n v = 0
  k : r'.kd = if low.kd = .st ∨ high.kd = .st then .st else .lo
  h : Mix (-high.n v) (low.n v) low high r'
/-- where a row comes to just nought, going along v alone -/
def ed (r : Row) (v : Nat) (x : Nat → Rat) : Rat := x v - val r x / (r.n v : Rat)
theorem val_ed {r : Row} {v : Nat} {x : Nat → Rat} {t : Rat} (hv : v < 3) (h0 : r.n v ≠ 0) : val r (upx x v t) = (r.n v : Rat) * (t - ed r v x) := by
  rw [val_upx hv]
  unfold ed
  have : (r.n v : Rat) ≠ 0 := fun e => h0 (by exact_mod_cast e)
  grind
theorem Wp.ed {low high r' : Row} {v : Nat} {x : Nat → Rat} (h : Wp v low high r') (hv : v < 3) (l0 : 0 < low.n v) (h0 : high.n v < 0) (hr : K08.holds r' x) :
    ed low v x ≤ ed high v x ∧ ((low.kd = .st ∨ high.kd = .st) → ed low v x < ed high v x) := by
  obtain ⟨s, s0, hm⟩ := h.h.val
  have e := hm x
  have l1 : 0 < (low.n v : Rat) := Rat.intCast_pos.mpr l0
  have h1 : 0 < -(high.n v : Rat) := by
    have : 0 < ((-high.n v : Int) : Rat) := Rat.intCast_pos.mpr (by omega)
    rwa [Rat.intCast_neg] at this
  have a1 : val low x = (low.n v : Rat) * (x v - K08.ed low v x) := by
    unfold K08.ed
    grind
  have a2 : val high x = (high.n v : Rat) * (x v - K08.ed high v x) := by
    unfold K08.ed
    grind
  generalize K08.ed low v x = el at *
  generalize K08.ed high v x = eh at *
  have p := Rat.mul_pos l1 h1
  have e2 : s * val r' x = ((low.n v : Rat) * -(high.n v : Rat)) * (eh - el) := by
    rw [e, a1, a2, Rat.intCast_neg]
    grind
  unfold K08.holds at hr
  rw [h.k] at hr
  by_cases q : low.kd = .st ∨ high.kd = .st
  · rw [if_pos q] at hr
    have := pos_of s0 p e2 hr
    exact ⟨by grind, fun _ => by grind⟩
  · rw [if_neg q] at hr
    have := nn_of s0 p e2 hr
    exact ⟨by grind, fun z => absurd z q⟩
/-- the greatest edge from below, the least from above -/
def LowS (L : List Row) (v : Nat) (x : Nat → Rat) : Option Rat → Prop
  | none => ∀ r ∈ L, ¬ 0 < r.n v
  | some q => (∃ r ∈ L, 0 < r.n v ∧ ed r v x = q) ∧ ∀ r ∈ L, 0 < r.n v → ed r v x ≤ q
def HighS (L : List Row) (v : Nat) (x : Nat → Rat) : Option Rat → Prop
  | none => ∀ r ∈ L, ¬ r.n v < 0
  | some q => (∃ r ∈ L, r.n v < 0 ∧ ed r v x = q) ∧ ∀ r ∈ L, r.n v < 0 → q ≤ ed r v x
def chs : Option Rat → Option Rat → Rat
  | none, none => 0
  | none, some h => h - 1
  | some l, none => l + 1
  | some l, some h => (l + h) / 2
theorem pairs_hold {L L' : List Row} {v : Nat} {x : Nat → Rat} {lo hi : Option Rat} (hv : v < 3) (ne : ∀ r ∈ L, ¬ (r.kd = .eq ∧ r.n v ≠ 0))
    (z : ∀ r ∈ L, r.n v = 0 → r ∈ L') (p : ∀ low ∈ L, ∀ high ∈ L, 0 < low.n v → high.n v < 0 → ∃ r' ∈ L', Wp v low high r') (hL' : ∀ r ∈ L', holds r x) (hl : LowS L v x lo) (hh : HighS L v x hi) :
    ∀ r ∈ L, holds r (upx x v (chs lo hi)) := by
  have le : ∀ low ∈ L, ∀ high ∈ L, 0 < low.n v → high.n v < 0 → ed low v x ≤ ed high v x ∧ ((low.kd = .st ∨ high.kd = .st) → ed low v x < ed high v x) := fun low h1 high h2 h3 h4 => by
    obtain ⟨r', q1, q2⟩ := p low h1 high h2 h3 h4
    exact q2.ed hv h3 h4 (hL' r' q1)
  intro r hr
  rcases Int.lt_trichotomy (r.n v) 0 with h | h | h
  · -- from above
    have n0 : r.n v ≠ 0 := by omega
    have t : chs lo hi ≤ ed r v x ∧ (r.kd = .st → chs lo hi < ed r v x) := by
      cases hi with
      | none => exact absurd h (hh r hr)
      | some q =>
        obtain ⟨⟨r1, m1, m2, m3⟩, hq⟩ := hh
        have a := hq r hr h
        cases lo with
        | none => exact ⟨by unfold chs; grind, fun _ => by unfold chs; grind⟩
        | some l =>
          obtain ⟨⟨r2, k1, k2, k3⟩, hl'⟩ := hl
          have b := le r2 k1 r hr k2 h
          have c := le r2 k1 r1 m1 k2 m2
          refine ⟨by unfold chs; grind, fun e => ?_⟩
          have := b.2 (.inr e)
          unfold chs
          grind
    have e := val_ed (x := x) (t := chs lo hi) hv n0
    have h' : 0 < -(r.n v : Rat) := by
      have : 0 < ((-r.n v : Int) : Rat) := Rat.intCast_pos.mpr (by omega)
      rwa [Rat.intCast_neg] at this
    unfold holds
    cases hk : r.kd with
    | st =>
      have := Rat.mul_pos h' (show 0 < ed r v x - chs lo hi by have := t.2 hk; grind)
      show 0 < val r _
      rw [e]; grind
    | lo =>
      have := Rat.mul_nonneg (show 0 ≤ -(r.n v : Rat) by grind) (show 0 ≤ ed r v x - chs lo hi by have := t.1; grind)
      show 0 ≤ val r _
      rw [e]; grind
    | eq => exact absurd ⟨hk, n0⟩ (ne r hr)
  · -- without
    have q := hL' r (z r hr h)
    have e := val_upx (r := r) (x := x) (t := chs lo hi) hv
    rw [h] at e
    have e : val r (upx x v (chs lo hi)) = val r x := by rw [e]; grind
    unfold holds at q ⊢
    rw [e]
    exact q
  · -- from below
    have n0 : r.n v ≠ 0 := by omega
    have t : ed r v x ≤ chs lo hi ∧ (r.kd = .st → ed r v x < chs lo hi) := by
      cases lo with
      | none => exact absurd h (hl r hr)
      | some q =>
        obtain ⟨⟨r1, m1, m2, m3⟩, hq⟩ := hl
        have a := hq r hr h
        cases hi with
        | none => exact ⟨by unfold chs; grind, fun _ => by unfold chs; grind⟩
        | some l =>
          obtain ⟨⟨r2, k1, k2, k3⟩, hl'⟩ := hh
          have b := le r hr r2 k1 h k2
          have c := le r1 m1 r2 k1 m2 k2
          refine ⟨by unfold chs; grind, fun e => ?_⟩
          have := b.2 (.inl e)
          unfold chs
          grind
    have e := val_ed (x := x) (t := chs lo hi) hv n0
    have h' : 0 < (r.n v : Rat) := Rat.intCast_pos.mpr h
    unfold holds
    cases hk : r.kd with
    | st =>
      have := Rat.mul_pos h' (show 0 < chs lo hi - ed r v x by have := t.2 hk; grind)
      show 0 < val r _
      rw [e]; grind
    | lo =>
      have := Rat.mul_nonneg (show 0 ≤ (r.n v : Rat) by grind) (show 0 ≤ chs lo hi - ed r v x by have := t.1; grind)
      show 0 ≤ val r _
      rw [e]; grind
    | eq => exact absurd ⟨hk, n0⟩ (ne r hr)
theorem eq_holds {L L' : List Row} {v : Nat} {x : Nat → Rat} {own : Row} (hv : v < 3) (ho : own.kd = .eq) (h0 : own.n v ≠ 0) (f : ∀ r ∈ L, r = own ∨ ∃ r' ∈ L', Wb own v r r') (hL' : ∀ r ∈ L', holds r x) :
    ∀ r ∈ L, holds r (upx x v (ed own v x)) := by
  have eo : val own (upx x v (ed own v x)) = 0 := by rw [val_ed hv h0]; grind
  intro r hr
  rcases f r hr with e | ⟨r', h1, h2⟩
  · rw [e]; unfold holds; rw [ho]; exact eo
  · refine h2.holds eo ?_
    have q := hL' r' h1
    have e := val_upx (r := r') (x := x) (t := ed own v x) hv
    rw [h2.z] at e
    have e : val r' (upx x v (ed own v x)) = val r' x := by rw [e]; grind
    unfold holds at q ⊢
    rw [e]
    exact q
/-! ### what went into a row -/
def sm : (Nat → Int) → Nat → Int
  | _, 0 => 0
  | f, m + 1 => sm f m + f m
theorem sm_congr {f g : Nat → Int} : ∀ {m : Nat}, (∀ k, k < m → f k = g k) → sm f m = sm g m
  | 0, _ => rfl
  | m + 1, h => by
    show sm f m + f m = sm g m + g m
    rw [sm_congr (fun k hk => h k (by omega)), h m (by omega)]
theorem sm_lin {u t : Int} {f g : Nat → Int} : ∀ {m : Nat}, sm (fun k => u * f k + t * g k) m = u * sm f m + t * sm g m
  | 0 => by simp [sm]
  | m + 1 => by
    show sm _ m + _ = u * (sm f m + f m) + t * (sm g m + g m)
    rw [sm_lin]
    grind
theorem sm_mul {s : Int} {f : Nat → Int} {m : Nat} : sm (fun k => s * f k) m = s * sm f m := by
  have := sm_lin (u := s) (t := 0) (f := f) (g := f) (m := m)
  simpa using this
def rawAt (R : List Raw) (i : Nat) : Raw := R.getD i ([], 0, .lo)
/-- a row is made of those rows, so often each -/
structure Of (R : List Raw) (r : Row) : Prop where
  lw : r.ws.length = R.length
  n : ∀ k, r.n k = sm (fun i => r.w i * (rawAt R i).1.getD k 0) R.length
  c : r.c = sm (fun i => r.w i * (rawAt R i).2.1) R.length
  nn : ∀ i, i < R.length → (rawAt R i).2.2 ≠ .eq → 0 ≤ r.w i
  eq : r.kd = .eq → ∀ i, i < R.length → (rawAt R i).2.2 ≠ .eq → r.w i = 0
  st : r.kd = .st → ∃ i, i < R.length ∧ (rawAt R i).2.2 = .st ∧ 0 < r.w i
theorem Of.comb {R : List Raw} {a o r : Row} {u t : Int} (ha : Of R a) (ho : Of R o) (h : Mix u t a o r) (l : r.ws.length = R.length) : (∀ k, r.n k = sm (fun i => r.w i * (rawAt R i).1.getD k 0) R.length) ∧ r.c = sm (fun i => r.w i * (rawAt R i).2.1) R.length := by
  obtain ⟨s, s0, hn, hc, hw⟩ := h.ex
  have key : ∀ (f : Nat → Int), s * sm (fun i => r.w i * f i) R.length = u * sm (fun i => a.w i * f i) R.length + t * sm (fun i => o.w i * f i) R.length := fun f => by
    rw [← sm_mul, ← sm_lin]
    refine sm_congr fun k _ => ?_
    have := hw k
    grind
  refine ⟨fun k => ?_, ?_⟩
  · have e := key fun i => (rawAt R i).1.getD k 0
    rw [← ha.n k, ← ho.n k, ← hn k] at e
    exact (Int.eq_of_mul_eq_mul_left (by omega) e).symm
  · have e := key fun i => (rawAt R i).2.1
    rw [← ha.c, ← ho.c, ← hc] at e
    exact (Int.eq_of_mul_eq_mul_left (by omega) e).symm
theorem nn_int {s z : Int} (hs : 0 < s) (h : 0 ≤ s * z) : 0 ≤ z := by
  rcases Int.lt_or_le z 0 with q | q
  · have := Int.mul_neg_of_pos_of_neg hs q
    omega
  · exact q
theorem pos_int {s z : Int} (hs : 0 < s) (h : 0 < s * z) : 0 < z := by
  rcases Int.lt_or_le 0 z with q | q
  · exact q
  · have := Int.mul_nonpos_of_nonneg_of_nonpos (Int.le_of_lt hs) q
    omega
theorem Wb.of {R : List Raw} {own r r' : Row} {v : Nat} (h : Wb own v r r') (hr : Of R r) (ho : Of R own) (hk : own.kd = .eq) (l : r'.ws.length = R.length) : Of R r' := by
  rcases h.h with e | ⟨u, t, u0, m⟩
  · rw [e]; exact hr
  · obtain ⟨hn, hc⟩ := hr.comb ho m l
    obtain ⟨s, s0, _, _, hw⟩ := m.ex
    have w1 : ∀ i, i < R.length → (rawAt R i).2.2 ≠ .eq → s * r'.w i = u * r.w i := fun i hi hq => by
      rw [hw, ho.eq hk i hi hq]; omega
    refine ⟨l, hn, hc, fun i hi hq => ?_, fun e i hi hq => ?_, fun e => ?_⟩
    · have := w1 i hi hq
      have p := Int.mul_nonneg (Int.le_of_lt u0) (hr.nn i hi hq)
      exact nn_int s0 (by omega)
    · have := w1 i hi hq
      rw [hr.eq (h.k ▸ e) i hi hq] at this
      rcases Int.mul_eq_zero.mp (show s * r'.w i = 0 by omega) with q | q
      · omega
      · exact q
    · obtain ⟨i, hi, hq, hp⟩ := hr.st (h.k ▸ e)
      have := w1 i hi (by rw [hq]; decide)
      have p := Int.mul_pos u0 hp
      exact ⟨i, hi, hq, pos_int s0 (by omega)⟩
theorem Wp.of {R : List Raw} {low high r' : Row} {v : Nat} (h : Wp v low high r') (l0 : 0 < low.n v) (h0 : high.n v < 0) (hl : Of R low) (hh : Of R high) (l : r'.ws.length = R.length) : Of R r' := by
  obtain ⟨hn, hc⟩ := hl.comb hh h.h l
  obtain ⟨s, s0, _, _, hw⟩ := h.h.ex
  have nn : ∀ i, i < R.length → (rawAt R i).2.2 ≠ .eq → 0 ≤ r'.w i := fun i hi hq => by
    have := hw i
    have p := Int.mul_nonneg (show 0 ≤ -high.n v by omega) (hl.nn i hi hq)
    have q := Int.mul_nonneg (Int.le_of_lt l0) (hh.nn i hi hq)
    exact nn_int s0 (by omega)
  refine ⟨l, hn, hc, nn, fun e => ?_, fun e => ?_⟩
  · rw [h.k] at e
    split at e <;> cases e
  · rw [h.k] at e
    split at e
    · rename_i q
      rcases q with q | q
      · obtain ⟨i, hi, hq, hp⟩ := hl.st q
        have a := hw i
        have p := Int.mul_pos (show 0 < -high.n v by omega) hp
        have b := Int.mul_nonneg (Int.le_of_lt l0) (hh.nn i hi (by rw [hq]; decide))
        exact ⟨i, hi, hq, pos_int s0 (by omega)⟩
      · obtain ⟨i, hi, hq, hp⟩ := hh.st q
        have a := hw i
        have p := Int.mul_pos l0 hp
        have b := Int.mul_nonneg (show 0 ≤ -high.n v by omega) (hl.nn i hi (by rw [hq]; decide))
        exact ⟨i, hi, hq, pos_int s0 (by omega)⟩
    · cases e
def unitL (m k : Nat) : List Int := (List.range m).map fun j => if k = j then 1 else 0
def startL (R : List Raw) : List Row := R.mapIdx fun k r => ⟨r.1, r.2.1, r.2.2, unitL R.length k⟩
theorem unitL_get {m k j : Nat} : (unitL m k).getD j 0 = if k = j ∧ j < m then 1 else 0 := by
  unfold unitL
  by_cases h : j < m
  · simp [h]
  · simp [h]
theorem sm_unit {f : Nat → Int} {k : Nat} : ∀ {m : Nat}, sm (fun i => (if k = i then 1 else 0) * f i) m = if k < m then f k else 0
  | 0 => by simp [sm]
  | m + 1 => by
    show sm _ m + _ = _
    rw [sm_unit]
    by_cases h : k < m
    · have h1 : k ≠ m := by omega
      have h2 : k < m + 1 := by omega
      simp [h, h1, h2]
    · by_cases h1 : k = m
      · subst h1; simp
      · have h2 : ¬ k < m + 1 := by omega
        simp [h, h1, h2]
theorem start_of {R : List Raw} : ∀ r ∈ startL R, Of R r := by
  intro r hr
  obtain ⟨k, hk, rfl⟩ := List.mem_mapIdx.mp hr
  have w : ∀ i, i < R.length → Row.w ⟨R[k].1, R[k].2.1, R[k].2.2, unitL R.length k⟩ i = if k = i then 1 else 0 := fun i hi => by
    show (unitL R.length k).getD i 0 = _
    rw [unitL_get]
    simp [hi]
  have e : rawAt R k = R[k] := by unfold rawAt; simp [hk]
  have key : ∀ f : Nat → Int, sm (fun i => Row.w ⟨R[k].1, R[k].2.1, R[k].2.2, unitL R.length k⟩ i * f i) R.length = f k := fun f => by
    rw [sm_congr (g := fun i => (if k = i then 1 else 0) * f i) (fun i hi => by rw [w i hi]), sm_unit, if_pos hk]
  refine ⟨by simp [unitL], fun j => ?_, ?_, fun i hi _ => ?_, fun hq i hi hn => ?_, fun hq => ⟨k, hk, by rw [e]; exact hq, ?_⟩⟩
  · rw [key fun i => (rawAt R i).1.getD j 0, e]
    rfl
  · rw [key fun i => (rawAt R i).2.1, e]
  · rw [w i hi]; split <;> omega
  · rw [w i hi, if_neg]
    rintro rfl
    rw [e] at hn
    exact hn hq
  · rw [w k hk, if_pos rfl]; omega
/-- a paper that no spot keeps all rows -/
structure Paper (R : List Raw) (ws : List Int) : Prop where
  len : ws.length = R.length
  nn : ∀ i, i < R.length → (rawAt R i).2.2 ≠ .eq → 0 ≤ ws.getD i 0
  n : ∀ k, k < 3 → sm (fun i => ws.getD i 0 * (rawAt R i).1.getD k 0) R.length = 0
  c : 0 < sm (fun i => ws.getD i 0 * (rawAt R i).2.1) R.length ∨ (sm (fun i => ws.getD i 0 * (rawAt R i).2.1) R.length = 0 ∧ ∃ i, i < R.length ∧ (rawAt R i).2.2 = .st ∧ 0 < ws.getD i 0)
def badR (r : Row) : Bool := decide ((r.kd = .st ∧ 0 ≤ r.c) ∨ (r.kd = .lo ∧ 0 < r.c) ∨ (r.kd = .eq ∧ r.c ≠ 0))
def papR (r : Row) : List Int := if r.kd = .eq ∧ r.c < 0 then r.ws.map fun z => -z else r.ws
theorem paper_of {R : List Raw} {r : Row} (h : Of R r) (z : ∀ k, k < 3 → r.n k = 0) (hb : badR r = true) : Paper R (papR r) := by
  have hb := of_decide_eq_true hb
  unfold papR
  by_cases q : r.kd = .eq ∧ r.c < 0
  · rw [if_pos q]
    have w : ∀ i, (r.ws.map fun z => -z).getD i 0 = -r.w i := fun i => getD_map0 (f := fun z => -z) (by simp)
    have key : ∀ f : Nat → Int, sm (fun i => (r.ws.map fun z => -z).getD i 0 * f i) R.length = -sm (fun i => r.w i * f i) R.length := fun f => by
      have := sm_mul (s := -1) (f := fun i => r.w i * f i) (m := R.length)
      rw [sm_congr (g := fun i => -1 * (r.w i * f i)) (fun i _ => by rw [w]; grind), this]
      omega
    refine ⟨by simp [h.lw], fun i hi hn => ?_, fun k hk => ?_, .inl ?_⟩
    · rw [w, h.eq q.1 i hi hn]; omega
    · rw [key, ← h.n, z k hk]; rfl
    · rw [key, ← h.c]; omega
  · rw [if_neg q]
    refine ⟨h.lw, h.nn, fun k hk => ?_, ?_⟩
    · have := h.n k
      rw [z k hk] at this
      exact this.symm
    · have hc := h.c
      unfold Row.w at hc
      rw [← hc]
      rcases hb with ⟨a, b⟩ | ⟨a, b⟩ | ⟨a, b⟩
      · rcases Int.lt_or_le 0 r.c with p | p
        · exact .inl p
        · obtain ⟨i, h1, h2, h3⟩ := h.st a
          exact .inr ⟨by omega, i, h1, h2, h3⟩
      · exact .inl b
      · left
        have : ¬ r.c < 0 := fun x => q ⟨a, x⟩
        omega
theorem fine_holds {r : Row} {x : Nat → Rat} (z : ∀ k, k < 3 → r.n k = 0) (hb : badR r = false) : holds r x := by
  have hb := of_decide_eq_false hb
  have e : val r x = -(r.c : Rat) := by
    unfold val
    rw [z 0 (by decide), z 1 (by decide), z 2 (by decide)]
    grind
  unfold holds
  cases hk : r.kd with
  | st =>
    show 0 < val r x
    have : r.c < 0 := by rcases Int.lt_or_le r.c 0 with p | p; exact p; exact absurd (.inl ⟨hk, p⟩) hb
    have : 0 < ((-r.c : Int) : Rat) := Rat.intCast_pos.mpr (by omega)
    rw [e, ← Rat.intCast_neg]; exact this
  | lo =>
    show 0 ≤ val r x
    have : r.c ≤ 0 := by rcases Int.lt_or_le 0 r.c with p | p; exact absurd (.inr (.inl ⟨hk, p⟩)) hb; exact p
    have : 0 ≤ ((-r.c : Int) : Rat) := Rat.intCast_nonneg.mpr (by omega)
    rw [e, ← Rat.intCast_neg]; exact this
  | eq =>
    show val r x = 0
    have : r.c = 0 := by
      by_cases p : r.c = 0
      · exact p
      · exact absurd (.inr (.inr ⟨hk, p⟩)) hb
    rw [e, this]; rfl
/-- the rows ahead of each part's going -/
inductive Steps (n m : Nat) : Nat → List Nat → List Row → List (Nat × List Row) → List Row → Prop
  | nil {b : Nat} {L : List Row} (hb : ∀ r ∈ L, RB b n m r) : Steps n m b [] L [] L
  | eq {b v : Nat} {vs : List Nat} {L L' left : List Row} {st : List (Nat × List Row)} {own : Row} (hb : ∀ r ∈ L, RB b n m r) (ho : own ∈ L) (hk : own.kd = .eq) (h0 : own.n v ≠ 0)
      (f : ∀ r ∈ L, r = own ∨ ∃ r' ∈ L', Wb own v r r') (w : ∀ r' ∈ L', ∃ r ∈ L, Wb own v r r') (s : Steps n m (2 * b + 1) vs L' st left) : Steps n m b (v :: vs) L ((v, [own]) :: st) left
  | pr {b v : Nat} {vs : List Nat} {L L' left : List Row} {st : List (Nat × List Row)} (hb : ∀ r ∈ L, RB b n m r) (ne : ∀ r ∈ L, ¬ (r.kd = .eq ∧ r.n v ≠ 0))
      (z : ∀ r ∈ L, r.n v = 0 → r ∈ L') (p : ∀ low ∈ L, ∀ high ∈ L, 0 < low.n v → high.n v < 0 → ∃ r' ∈ L', Wp v low high r')
      (w : ∀ r' ∈ L', (r' ∈ L ∧ r'.n v = 0) ∨ ∃ low ∈ L, ∃ high ∈ L, 0 < low.n v ∧ high.n v < 0 ∧ Wp v low high r') (s : Steps n m (2 * b + 1) vs L' st left) : Steps n m b (v :: vs) L ((v, L) :: st) left
theorem Steps.bd {n m b : Nat} {vs : List Nat} {L left : List Row} {st : List (Nat × List Row)} (h : Steps n m b vs L st left) : ∀ r ∈ L, RB b n m r := by cases h <;> assumption
theorem Steps.of {n b : Nat} {R : List Raw} {vs : List Nat} {L left : List Row} {st : List (Nat × List Row)} (h : Steps n R.length b vs L st left) : (∀ r ∈ L, Of R r) → ∀ r ∈ left, Of R r := by
  induction h with
  | nil _ => exact fun k => k
  | eq hb ho hk h0 f w s ih =>
    intro k
    refine ih fun r' hr' => ?_
    obtain ⟨r, h1, h2⟩ := w r' hr'
    exact h2.of (k r h1) (k _ ho) hk (s.bd r' hr').lw
  | pr hb ne z p w s ih =>
    intro k
    refine ih fun r' hr' => ?_
    rcases w r' hr' with ⟨h1, _⟩ | ⟨low, h1, high, h2, h3, h4, h5⟩
    · exact k r' h1
    · exact h5.of h3 h4 (k _ h1) (k _ h2) (s.bd r' hr').lw
/-- what is gone stays gone -/
theorem mix_zero {u t : Int} {a o r : Row} {k : Nat} (h : Mix u t a o r) (ha : a.n k = 0) (ho : o.n k = 0) : r.n k = 0 := by
  obtain ⟨s, s0, hn, _⟩ := h.ex
  have := hn k
  rw [ha, ho] at this
  rcases Int.mul_eq_zero.mp (show s * r.n k = 0 by omega) with q | q
  · omega
  · exact q
theorem Steps.gone {n m b : Nat} {vs : List Nat} {L left : List Row} {st : List (Nat × List Row)} (h : Steps n m b vs L st left) : ∀ P : Nat → Prop, (∀ k, P k → ∀ r ∈ L, r.n k = 0) → ∀ k, P k ∨ k ∈ vs → ∀ r ∈ left, r.n k = 0 := by
  induction h with
  | nil _ => exact fun P k j hj r hr => k j (hj.resolve_right List.not_mem_nil) r hr
  | @eq b v vs L L' left st own hb ho hk h0 f w s ih =>
    intro P k j hj
    refine ih (fun k => P k ∨ k = v) (fun i hi r' hr' => ?_) j (by
      rcases hj with h | h
      · exact .inl (.inl h)
      · rcases List.mem_cons.mp h with e | e
        · exact .inl (.inr e)
        · exact .inr e)
    obtain ⟨r, h1, h2⟩ := w r' hr'
    rcases hi with hi | hi
    · rcases h2.h with e | ⟨u, t, _, mm⟩
      · rw [e]; exact k i hi r h1
      · exact mix_zero mm (k i hi r h1) (k i hi _ ho)
    · rw [hi]; exact h2.z
  | @pr b v vs L L' left st hb ne z p w s ih =>
    intro P k j hj
    refine ih (fun k => P k ∨ k = v) (fun i hi r' hr' => ?_) j (by
      rcases hj with h | h
      · exact .inl (.inl h)
      · rcases List.mem_cons.mp h with e | e
        · exact .inl (.inr e)
        · exact .inr e)
    rcases w r' hr' with ⟨h1, h2⟩ | ⟨low, h1, high, h2, h3, h4, h5⟩
    · rcases hi with hi | hi
      · exact k i hi r' h1
      · rw [hi]; exact h2
    · rcases hi with hi | hi
      · exact mix_zero h5.h (k i hi _ h1) (k i hi _ h2)
      · rw [hi]; exact h5.z
def holdsR (r : Raw) (x : Nat → Rat) : Prop := holds ⟨r.1, r.2.1, r.2.2, []⟩ x
theorem start_holds {R : List Raw} {x : Nat → Rat} (h : ∀ r ∈ startL R, holds r x) : ∀ r ∈ R, holdsR r x := by
  intro r hr
  obtain ⟨i, hi, rfl⟩ := List.getElem_of_mem hr
  have := h ⟨R[i].1, R[i].2.1, R[i].2.2, unitL R.length i⟩ (List.mem_mapIdx.mpr ⟨i, hi, rfl⟩)
  exact this
/-- no spot keeps what a paper speaks of -/
theorem smR_nn {f : Nat → Rat} : ∀ {m : Nat}, (∀ k, k < m → 0 ≤ f k) → 0 ≤ ((List.range m).map f).sum
  | 0, _ => by simp
  | m + 1, h => by
    rw [List.range_succ, List.map_append, List.sum_append]
    have a := smR_nn (f := f) (m := m) (fun k hk => h k (by omega))
    have b := h m (by omega)
    simp
    grind
theorem Paper.no {R : List Raw} {ws : List Int} (p : Paper R ws) {x : Nat → Rat} (h : ∀ r ∈ R, holdsR r x) : False := by
  have key : ∀ m, m ≤ R.length → ((List.range m).map fun i => (ws.getD i 0 : Rat) * val ⟨(rawAt R i).1, (rawAt R i).2.1, (rawAt R i).2.2, []⟩ x).sum =
      (sm (fun i => ws.getD i 0 * (rawAt R i).1.getD 0 0) m : Rat) * x 0 + (sm (fun i => ws.getD i 0 * (rawAt R i).1.getD 1 0) m : Rat) * x 1 + (sm (fun i => ws.getD i 0 * (rawAt R i).1.getD 2 0) m : Rat) * x 2 - (sm (fun i => ws.getD i 0 * (rawAt R i).2.1) m : Rat) := by
    intro m
    induction m with
    | zero => intro _; simp [sm]; grind
    | succ m ih =>
      intro hm
      rw [List.range_succ, List.map_append, List.sum_append, ih (by omega)]
      simp only [sm, List.map_cons, List.map_nil, List.sum_cons, List.sum_nil, Rat.intCast_add, Rat.intCast_mul]
      have ev : val ⟨(rawAt R m).1, (rawAt R m).2.1, (rawAt R m).2.2, []⟩ x = ((rawAt R m).1.getD 0 0 : Rat) * x 0 + ((rawAt R m).1.getD 1 0 : Rat) * x 1 + ((rawAt R m).1.getD 2 0 : Rat) * x 2 - ((rawAt R m).2.1 : Rat) := rfl
      rw [ev]
      grind
  have k := key R.length (Nat.le_refl _)
  rw [p.n 0 (by decide), p.n 1 (by decide), p.n 2 (by decide)] at k
  have nn : ∀ i, i < R.length → 0 ≤ (ws.getD i 0 : Rat) * val ⟨(rawAt R i).1, (rawAt R i).2.1, (rawAt R i).2.2, []⟩ x := fun i hi => by
    have e : rawAt R i = R[i] := by unfold rawAt; simp [hi]
    have hr : holdsR (rawAt R i) x := by rw [e]; exact h _ (List.getElem_mem hi)
    unfold holdsR holds at hr
    cases hk : (rawAt R i).2.2 with
    | st =>
      simp only [hk] at hr ⊢
      exact Rat.mul_nonneg (Rat.intCast_nonneg.mpr (p.nn i hi (by rw [hk]; decide))) (by grind)
    | lo =>
      simp only [hk] at hr ⊢
      exact Rat.mul_nonneg (Rat.intCast_nonneg.mpr (p.nn i hi (by rw [hk]; decide))) hr
    | eq =>
      simp only [hk] at hr ⊢
      rw [hr]
      grind
  have s0 := smR_nn nn
  rw [k] at s0
  rcases p.c with c | ⟨c, i, hi, hk, hw⟩
  · have : 0 < ((sm (fun i => ws.getD i 0 * (rawAt R i).2.1) R.length : Int) : Rat) := Rat.intCast_pos.mpr c
    grind
  · rw [c] at k
    have e : rawAt R i = R[i] := by unfold rawAt; simp [hi]
    have hr : holdsR (rawAt R i) x := by rw [e]; exact h _ (List.getElem_mem hi)
    unfold holdsR holds at hr
    simp only [hk] at hr
    have q := Rat.mul_pos (Rat.intCast_pos.mpr hw) hr
    -- one of the sum is above nought
    have tot : ∀ m, m ≤ R.length → i < m → 0 < ((List.range m).map fun i => (ws.getD i 0 : Rat) * val ⟨(rawAt R i).1, (rawAt R i).2.1, (rawAt R i).2.2, []⟩ x).sum := by
      intro m
      induction m with
      | zero => intro _ h; omega
      | succ m ih =>
        intro hm him
        rw [List.range_succ, List.map_append, List.sum_append]
        simp only [List.map_cons, List.map_nil, List.sum_cons, List.sum_nil]
        by_cases him' : i < m
        · have a := ih (by omega) him'
          have b := nn m (by omega)
          grind
        · have : i = m := by omega
          subst this
          have a := smR_nn (m := i) (fun k hk => nn k (by omega))
          rw [hk]
          grind
    have := tot R.length (Nat.le_refl _) hi
    rw [k] at this
    grind

/-! ### bounds of fractions, finer -/
def QN (m n : Nat) (q : Rat) : Prop := Bd m q.num ∧ Bd n (q.den : Int)
theorem QN.qb {m n k : Nat} {q : Rat} (h : QN m n q) (h1 : m ≤ k) (h2 : n ≤ k) : QB k q := ⟨h.1.mono h1, h.2.mono h2⟩
theorem QN.mono {m n m' n' : Nat} {q : Rat} (h : QN m n q) (h1 : m ≤ m') (h2 : n ≤ n') : QN m' n' q := ⟨h.1.mono h1, h.2.mono h2⟩
theorem QN.divInt {m n : Nat} {t b : Int} (ht : Bd m t) (hb : Bd n b) (h0 : b ≠ 0) : QN m n (Rat.divInt t b) := by
  constructor
  · have : (Rat.divInt t b).num.natAbs ≤ t.natAbs := by
      rw [Rat.num_divInt]
      refine Nat.le_trans (Int.natAbs_ediv_le_natAbs _ _) ?_
      rw [Int.natAbs_mul, Int.natAbs_sign_of_ne_zero h0, Nat.one_mul]
      exact Nat.le_refl _
    unfold Bd at *
    omega
  · have : ((Rat.divInt t b).den : Int).natAbs ≤ b.natAbs := by
      rw [Rat.den_divInt, if_neg h0]
      simp
      exact Nat.div_le_self _ _
    unfold Bd at *
    omega
theorem QN.add {m n m' n' k : Nat} {p q : Rat} (hp : QN m n p) (hq : QN m' n' q) (h1 : m + n' ≤ k) (h2 : m' + n ≤ k) : QN (k + 1) (n + n') (p + q) := by
  rw [Rat.add_def', ← Rat.divInt_ofNat]
  have b1 : Bd (k + 1) (p.num * q.den + q.num * p.den) := ((hp.1.mul hq.2).mono h1).add ((hq.1.mul hp.2).mono h2)
  have b2 : Bd (n + n') ((p.den * q.den : Nat) : Int) := by rw [Int.natCast_mul]; exact hp.2.mul hq.2
  exact QN.divInt b1 b2 (by rw [Int.natCast_mul]; exact Int.mul_ne_zero (den_ne p) (den_ne q))
theorem QN.neg {m n : Nat} {p : Rat} (hp : QN m n p) : QN m n (-p) := ⟨show Bd m (-p.num) from hp.1.neg, hp.2⟩
theorem QN.sub {m n m' n' k : Nat} {p q : Rat} (hp : QN m n p) (hq : QN m' n' q) (h1 : m + n' ≤ k) (h2 : m' + n ≤ k) : QN (k + 1) (n + n') (p - q) := by
  rw [Rat.sub_eq_add_neg]
  exact hp.add hq.neg h1 h2
theorem QN.imul {b m n : Nat} {z : Int} {p : Rat} (hz : Bd b z) (hp : QN m n p) : QN (b + m) n ((z : Rat) * p) := by
  have e : (z : Rat) * p = Rat.divInt (z * p.num) p.den := by
    have : p = Rat.divInt p.num p.den := (Rat.num_divInt_den p).symm
    rw [Rat.mul_def', ← Rat.divInt_ofNat]
    simp
  rw [e]
  exact QN.divInt (hz.mul hp.1) hp.2 (den_ne p)
theorem QN.idiv {b m n : Nat} {z : Int} {p : Rat} (hz : Bd b z) (h0 : z ≠ 0) (hp : QN m n p) : QN m (b + n) (p / (z : Rat)) := by
  have e : p / (z : Rat) = Rat.divInt p.num (p.den * z) := by
    have h1 : (z : Rat) ≠ 0 := fun e => h0 (by exact_mod_cast e)
    have h2 : ((p.den : Int) : Rat) ≠ 0 := fun e => den_ne p (by exact_mod_cast e)
    have hp : p = (p.num : Rat) / ((p.den : Int) : Rat) := by rw [← Rat.divInt_eq_div]; exact (Rat.num_divInt_den p).symm
    rw [Rat.divInt_eq_div, Rat.intCast_mul]
    generalize hn : (p.num : Rat) = a at *
    generalize hd : ((p.den : Int) : Rat) = d at *
    rw [hp]
    grind
  rw [e]
  exact QN.divInt hp.1 (by have := hp.2.mul hz; rwa [Nat.add_comm] at this) (Int.mul_ne_zero (den_ne p) h0)
theorem QN.int {b : Nat} {z : Int} (hz : Bd b z) : QN b 1 (z : Rat) := ⟨hz, by
  show Bd 1 (((z : Rat).den : Nat) : Int)
  rw [Rat.den_intCast]
  unfold Bd
  decide⟩
theorem QB.qn {m : Nat} {q : Rat} (h : QB m q) : QN m m q := h
theorem QB.zero {n : Nat} (h : 0 < n) : QB n 0 := by
  constructor
  · show Bd n 0
    exact Bd.zero
  · show Bd n 1
    unfold Bd
    show 1 < 2 ^ n
    exact Nat.one_lt_two_pow (by omega)

/-! ### sums of cuts, each so often -/
def tot (C : List (List Int × Int)) (ws : List Int) (k : Nat) : Int := ((ws.zip C).map fun q => q.1 * (full q.2).getD k 0).sum
def badW (L : List (Int × Int)) : Bool := L.any fun q => decide (q.1 * q.2 < 0)
def pushW (L : List (Int × Int)) : Bool := L.any fun q => decide (0 < q.1 * q.2)
def noneB (n : Nat) (C : List (List Int × Int)) (gs ws : List Int) : Bool := !badW (ws.zip gs) && ((((List.range n).map (tot C ws)) == List.replicate n 0) && (decide (0 < tot C ws n) || (tot C ws n == 0 && pushW (ws.zip gs))))
theorem bd1_sg {g : Int} (g1 : -1 ≤ g) (g2 : g ≤ 1) : Bd 1 g := by
  unfold Bd
  have : g.natAbs < 2 := by omega
  simpa using this
def ratD (q : Int × Int) : D := .tup [.int q.1, .int q.2]
theorem comp_fil {α : Type} {dec : α → D} {enc : α → D} {p : Pat} {c : BEnv → Res Bool} {f : BEnv → Res D} {env : BEnv} (b : α → Bool) : ∀ (l : List α), (∀ x ∈ l, ∃ as, p (dec x) = .ok as ∧ c (setAllB env as) = .ok (b x) ∧ f (setAllB env as) = .ok (enc x)) → compD p c f env (l.map dec) = .ok ((l.filter b).map enc)
  | [], _ => rfl
  | x :: l, h => by
    obtain ⟨as, h1, h2, h3⟩ := h x List.mem_cons_self
    have e := comp_fil b (dec := dec) (enc := enc) l fun d hd => h d (List.mem_cons_of_mem _ hd)
    rw [List.map_cons]
    unfold compD
    rw [h1, must_ok, h2, must_ok]
    cases hb : b x with
    | true => simp [h3, e, hb]
    | false => simp [e, hb]
theorem totsD {n : Nat} {C : List (List Int × Int)} {ws : List Int} : ((List.range (n + 1)).map (tot C ws)).map D.int = ((List.range n).map (tot C ws)).map D.int ++ [.int (tot C ws n)] := by simp [List.range_succ]
def lD (l : List Int) : D := .lst (l.map D.int)
theorem wr_succ {c : Int} {L : List (Int × Rat)} {k : Nat} (h : k < L.length) : wr c (L.take (k + 1)) = wr c (L.take k) + (L[k].1 : Rat) * L[k].2 := by
  unfold wr
  rw [List.take_succ_eq_append_getElem h, List.foldl_append]
  rfl
theorem zip_snoc {α β : Type} {c : α} : ∀ {cs : List α} {qs : List β}, cs.length = qs.length → (cs ++ [c]).zip qs = cs.zip qs
  | [], [], _ => rfl
  | a :: cs, b :: qs, h => by
    have := zip_snoc (c := c) (cs := cs) (qs := qs) (by simpa using h)
    simp [this]
/-- all rows of so many of some kinds -/
def allS (ks : List Int) : Nat → List (List Int)
  | 0 => [[]]
  | m + 1 => (allS ks m).flatMap fun s => ks.map fun k => s ++ [k]
theorem flat_len {α β : Type} {f : α → List β} {c : Nat} : ∀ l : List α, (∀ x ∈ l, (f x).length = c) → (l.flatMap f).length = l.length * c
  | [], _ => by simp
  | x :: l, h => by
    rw [List.flatMap_cons, List.length_append, h x List.mem_cons_self, flat_len l fun y hy => h y (List.mem_cons_of_mem _ hy), List.length_cons, Nat.succ_mul]
    omega
theorem allS_len {ks : List Int} : ∀ m, (allS ks m).length = ks.length ^ m
  | 0 => rfl
  | m + 1 => by
    show ((allS ks m).flatMap _).length = _
    rw [flat_len (c := ks.length) _ (fun x _ => by simp), allS_len m, Nat.pow_succ]
theorem mem_allS {ks : List Int} : ∀ {m : Nat} {s : List Int}, s ∈ allS ks m ↔ s.length = m ∧ ∀ g ∈ s, g ∈ ks
  | 0, s => by
    show s ∈ [[]] ↔ _
    constructor
    · intro h
      rw [List.mem_singleton.mp h]
      exact ⟨rfl, fun g hg => absurd hg List.not_mem_nil⟩
    · rintro ⟨h, _⟩
      rw [List.length_eq_zero_iff.mp h]
      exact List.mem_singleton.mpr rfl
  | m + 1, s => by
    show s ∈ (allS ks m).flatMap _ ↔ _
    rw [List.mem_flatMap]
    constructor
    · rintro ⟨t, ht, hs⟩
      obtain ⟨k, hk, rfl⟩ := List.mem_map.mp hs
      obtain ⟨a, b⟩ := mem_allS.mp ht
      refine ⟨by simp [a], fun g hg => ?_⟩
      rcases List.mem_append.mp hg with q | q
      · exact b g q
      · rw [List.mem_singleton.mp q]; exact hk
    · rintro ⟨a, b⟩
      have hne : s ≠ [] := by intro e; rw [e] at a; simp at a
      refine ⟨s.dropLast, mem_allS.mpr ⟨by simp [a], fun g hg => b g (List.dropLast_subset s hg)⟩, ?_⟩
      exact List.mem_map.mpr ⟨s.getLast hne, b _ (List.getLast_mem hne), List.dropLast_concat_getLast hne⟩
def sD (s : List Int) : D := .tup (s.map D.int)
theorem eqs_paper : eqD (.str "paper") (.str "paper") = .ok (.bl true) := by rw [eqD_ok (by simp only [eqOk_s]; decide +kernel) (by simp only [eqOk_s]; decide +kernel), deq_s]; rfl
theorem eqs_spotp : eqD (.str "spot") (.str "paper") = .ok (.bl false) := by rw [eqD_ok (by simp only [eqOk_s]; decide +kernel) (by simp only [eqOk_s]; decide +kernel), deq_s]; rfl
theorem eqs_spot : eqD (.str "spot") (.str "spot") = .ok (.bl true) := by rw [eqD_ok (by simp only [eqOk_s]; decide +kernel) (by simp only [eqOk_s]; decide +kernel), deq_s]; rfl
theorem eqs_papers : eqD (.str "paper") (.str "spot") = .ok (.bl false) := by rw [eqD_ok (by simp only [eqOk_s]; decide +kernel) (by simp only [eqOk_s]; decide +kernel), deq_s]; rfl

/-! ### signs that some spot has -/
def CsB (b : Nat) (C : List (List Int × Int)) : Prop := ∀ p ∈ C, Bd b p.2 ∧ ∀ z ∈ p.1, Bd b z
theorem CsOk.b200 {n : Nat} {C : List (List Int × Int)} (h : CsOk n C) : CsB 200 C := fun p hp => ⟨(h.ok p hp).bc, (h.ok p hp).bs⟩
def Feas (n : Nat) (C : List (List Int × Int)) (gs : List Int) : Prop := ∃ S : List Rat, S.length = n ∧ sds (C.take gs.length) S = gs
noncomputable def feB (n : Nat) (C : List (List Int × Int)) (gs : List Int) : Bool := @decide (Feas n C gs) (Classical.propDecidable _)
theorem feB_iff {n : Nat} {C : List (List Int × Int)} {gs : List Int} : feB n C gs = true ↔ Feas n C gs := by
  unfold feB
  exact @decide_eq_true_iff _ (Classical.propDecidable _)
theorem feB_not {n : Nat} {C : List (List Int × Int)} {gs : List Int} : feB n C gs = false ↔ ¬ Feas n C gs := by
  unfold feB
  exact @decide_eq_false_iff_not _ (Classical.propDecidable _)
theorem sds_take {C : List (List Int × Int)} {S : List Rat} {k : Nat} : sds (C.take k) S = (sds C S).take k := by
  unfold sds
  rw [List.map_take]
theorem feB_pre {n : Nat} {C : List (List Int × Int)} {s t : List Int} (h : feB n C (s ++ t) = true) : feB n C s = true := by
  obtain ⟨S, h1, h2⟩ := feB_iff.mp h
  refine feB_iff.mpr ⟨S, h1, ?_⟩
  rw [sds_take] at h2 ⊢
  have := congrArg (List.take s.length) h2
  rw [List.take_take, List.take_left' rfl] at this
  rwa [Nat.min_eq_left (by simp)] at this
theorem feB_sds {n : Nat} {C : List (List Int × Int)} {S : List Rat} (h : S.length = n) : feB n C (sds C S) = true := by
  refine feB_iff.mpr ⟨S, h, ?_⟩
  have : (sds C S).length = C.length := by simp [sds]
  rw [this, List.take_length]
theorem sds_rg {C : List (List Int × Int)} {S : List Rat} : ∀ g ∈ sds C S, -1 ≤ g ∧ g ≤ 1 := fun g hg => by
  unfold sds at hg
  obtain ⟨p, _, rfl⟩ := List.mem_map.mp hg
  exact sgI_le

/-! ### all rows, in order -/
def ltI (a b : List Int) : Prop := lexI a b = true
theorem lex_asymm {a b : List Int} (h : lexI a b = true) : lexI b a = false := by
  have : KO.klt (kyI a) (kyI b) := by
    show PyProof.Rows.lexLt PyProof.Rows.itemOrd (kyI a) (kyI b) = true
    rw [lexI_eq, h]
  exact leI_kle.mpr (KeyOrd.klt_asymm this)
theorem lex_app : ∀ {a b u v : List Int}, a.length = b.length → lexI a b = true → lexI (a ++ u) (b ++ v) = true
  | [], [], _, _, _, h => by cases h
  | [], _ :: _, _, _, l, _ => by simp at l
  | _ :: _, [], _, _, l, _ => by simp at l
  | x :: a, y :: b, u, v, l, h => by
    have h : (decide (x < y) || (!decide (y < x) && lexI a b)) = true := h
    show (decide (x < y) || (!decide (y < x) && lexI (a ++ u) (b ++ v))) = true
    rcases Bool.or_eq_true_iff.mp h with c | c
    · rw [c]; rfl
    · obtain ⟨c1, c2⟩ := Bool.and_eq_true_iff.mp c
      rw [c1, lex_app (by simpa using l) c2]; simp
theorem lex_same : ∀ {a : List Int} {x y : Int}, x < y → lexI (a ++ [x]) (a ++ [y]) = true
  | [], x, y, h => by simp [lexI, h]
  | z :: a, x, y, h => by
    show (decide (z < z) || (!decide (z < z) && lexI (a ++ [x]) (a ++ [y]))) = true
    rw [lex_same h]; simp
theorem allS_srt {ks : List Int} (hk : ks.Pairwise (· < ·)) : ∀ m, (allS ks m).Pairwise ltI
  | 0 => List.pairwise_singleton _ _
  | m + 1 => by
    show ((allS ks m).flatMap _).Pairwise _
    refine List.pairwise_flatMap.mpr ⟨fun s _ => ?_, ?_⟩
    · rw [List.pairwise_map]
      exact hk.imp fun h => lex_same h
    · refine List.Pairwise.imp_of_mem (fun {s t} hs ht h x hx y hy => ?_) (allS_srt hk m)
      obtain ⟨k, _, rfl⟩ := List.mem_map.mp hx
      obtain ⟨k', _, rfl⟩ := List.mem_map.mp hy
      exact lex_app (by rw [(mem_allS.mp hs).1, (mem_allS.mp ht).1]) h
theorem flat_fil {α β : Type} {f : α → List β} {p : β → Bool} {q : α → Bool} : ∀ (l : List α), (∀ s ∈ l, q s = false → (f s).filter p = []) → (l.flatMap f).filter p = (l.filter q).flatMap fun s => (f s).filter p
  | [], _ => rfl
  | s :: l, h => by
    rw [List.flatMap_cons, List.filter_append, flat_fil l fun t ht => h t (List.mem_cons_of_mem _ ht), List.filter_cons]
    cases hq : q s with
    | true => simp
    | false => simp [h s List.mem_cons_self hq]
/-- the rows of the first cuts that some spot has -/
noncomputable def preS (ks : List Int) (n : Nat) (C : List (List Int × Int)) (k : Nat) : List (List Int) := (allS ks k).filter (feB n C)
theorem preS_succ {ks : List Int} {n : Nat} {C : List (List Int × Int)} {k : Nat} : preS ks n C (k + 1) = (preS ks n C k).flatMap fun s => (ks.map fun g => s ++ [g]).filter (feB n C) := by
  show ((allS ks k).flatMap fun s => ks.map fun g => s ++ [g]).filter (feB n C) = _
  refine flat_fil _ fun s _ hs => ?_
  refine List.filter_eq_nil_iff.mpr fun t ht => ?_
  obtain ⟨g, _, rfl⟩ := List.mem_map.mp ht
  intro e
  rw [feB_pre e] at hs
  cases hs
theorem preS_srt {ks : List Int} {n : Nat} {C : List (List Int × Int)} {k : Nat} (hk : ks.Pairwise (· < ·)) : (preS ks n C k).Pairwise leI := (List.Pairwise.filter _ (allS_srt hk k)).imp fun h => lex_asymm h
theorem preS_sort {ks : List Int} {n : Nat} {C : List (List Int × Int)} {k : Nat} (hk : ks.Pairwise (· < ·)) : sortS (preS ks n C k) = preS ks n C k := (sortS_uniq (List.Perm.refl _) (preS_srt hk)).symm
theorem mem_preS {ks : List Int} {n : Nat} {C : List (List Int × Int)} {k : Nat} {s : List Int} : s ∈ preS ks n C k ↔ (s.length = k ∧ ∀ g ∈ s, g ∈ ks) ∧ feB n C s = true := by
  unfold preS
  rw [List.mem_filter, mem_allS]
theorem preS_len {ks : List Int} {n : Nat} {C : List (List Int × Int)} {k : Nat} (h3 : ks.length ≤ 3) (h7 : k ≤ 7) : (preS ks n C k).length ≤ 2187 := by
  refine Nat.le_trans (List.length_filter_le _ _) ?_
  rw [allS_len]
  exact Nat.le_trans (Nat.pow_le_pow_left h3 k) (Nat.pow_le_pow_right (by decide) h7)
noncomputable abbrev landsL (n : Nat) (C : List (List Int × Int)) : List (List Int) := preS [-1, 1] n C C.length
@[simp] theorem x_sAppO {i : Nat} {f : BEnv → Res (List D)} {s : PL.Env} : sAppO i f s = ownAt s i fun l => f s.borrow >>= fun d => if noLsts d = true then (if l.length < 1000000 then .ok (.nx (s.set i (some (.own (l ++ [.lst d]))))) else .bad) else .bad := rfl
theorem noLst_sD (s : List Int) : noLst (sD s) = true := noLsts_i s
theorem noLsts_sD : ∀ L : List (List Int), noLsts (L.map sD) = true
  | [] => rfl
  | s :: L => by
    show (noLst (sD s) && noLsts (L.map sD)) = true
    rw [noLst_sD, noLsts_sD L]; rfl
theorem eqOks_sD (k : Nat) : ∀ L : List (List Int), eqOks (k + 1) (L.map sD) = true
  | [] => by simp
  | s :: L => by
    have e := eqOks_ints (n := k) s
    have h := eqOks_sD k L
    simp only [List.map_cons, eqOks_cons, h, Bool.and_true]
    unfold sD
    rw [eqOk_t]
    simp only [Nat.add_sub_cancel]
    simp [e]
theorem deqs_sD : ∀ L M : List (List Int), deqs (L.map sD) (M.map sD) = (L == M)
  | [], [] => by simp
  | [], _ :: _ => by simp
  | _ :: _, [] => by simp
  | s :: L, t :: M => by
    have e := deqs_ints s t
    have h := deqs_sD L M
    simp only [List.map_cons, deqs_cc, h]
    unfold sD
    rw [deq_tt, e]
    by_cases q : s = t
    · by_cases r : L = M <;> simp [q, r]
    · simp [q]
theorem for_fil {α : Type} {dec : α → D} {p : Pat} {s : PL.Env → Res Fl} {N : Nat} (b : α → Bool) (J : List D → PL.Env → Prop) : ∀ (l : List α) (F : List D) (env : PL.Env), J F env → F.length + l.length ≤ N →
    (∀ x ∈ l, ∀ F env, J F env → F.length < N → ∃ as env', p (dec x) = .ok as ∧ s (setAllE env as) = .ok (.nx env') ∧ J (F ++ (if b x = true then [dec x] else [])) env') →
    ∃ env', forD p s (l.map dec) env = .ok (.nx env') ∧ J (F ++ (l.filter b).map dec) env'
  | [], F, env, h0, _, _ => ⟨env, rfl, by simpa using h0⟩
  | x :: l, F, env, h0, hN, hs => by
    rw [List.length_cons] at hN
    obtain ⟨as, e1, h1, h2, h3⟩ := hs x List.mem_cons_self F env h0 (by omega)
    have hl : (F ++ (if b x = true then [dec x] else [])).length + l.length ≤ N := by
      rw [List.length_append]
      split <;> simp <;> omega
    obtain ⟨e2, g1, g2⟩ := for_fil b J l _ e1 h3 hl fun y hy => hs y (List.mem_cons_of_mem _ hy)
    refine ⟨e2, ?_, ?_⟩
    · rw [List.map_cons, x_for_cons, h1, must_ok, h2]
      exact g1
    · rw [List.filter_cons]
      cases hb : b x with
      | true => simpa [hb] using g2
      | false => simpa [hb] using g2
theorem cs_pre {n k : Nat} {C : List (List Int × Int)} (h : CsOk n C) : CsOk n (C.take k) := by
  have sub := List.take_sublist k C
  exact ⟨h.d1, h.d3, Nat.le_trans sub.length_le h.l7, fun p hp => h.ok p (sub.subset hp), fun p hp => h.nz p (sub.subset hp), h.pw.sublist sub⟩
theorem feB_take {n k : Nat} {C : List (List Int × Int)} {s : List Int} (h : s.length ≤ k) : feB n (C.take k) s = feB n C s := by
  have e : Feas n (C.take k) s ↔ Feas n C s := by
    unfold Feas
    rw [List.take_take, Nat.min_eq_left h]
  by_cases q : Feas n C s
  · rw [feB_iff.mpr q, feB_iff.mpr (e.mpr q)]
  · rw [feB_not.mpr q, feB_not.mpr fun z => q (e.mp z)]
theorem preS_take {ks : List Int} {n k : Nat} {C : List (List Int × Int)} : preS ks n (C.take k) k = preS ks n C k := by
  unfold preS
  refine List.filter_congr fun s hs => feB_take (Nat.le_of_eq (mem_allS.mp hs).1)
theorem preS_0 {ks : List Int} {n : Nat} {C : List (List Int × Int)} : preS ks n C 0 = [[]] := by
  have : feB n C [] = true := feB_iff.mpr ⟨List.replicate n 0, by simp, rfl⟩
  unfold preS
  show ([[]] : List (List Int)).filter _ = _
  rw [List.filter_cons, if_pos this]; rfl
theorem nes_spot : neD (.str "spot") (.str "spot") = .ok (.bl false) := by rw [neD_ok (by simp only [eqOk_s]; decide +kernel) (by simp only [eqOk_s]; decide +kernel), deq_s]; rfl
theorem nes_papers : neD (.str "paper") (.str "spot") = .ok (.bl true) := by rw [neD_ok (by simp only [eqOk_s]; decide +kernel) (by simp only [eqOk_s]; decide +kernel), deq_s]; rfl

noncomputable def s_is_whole : PL.Env → Res Fl := (sRet (eAnd (e1 (isiB "int") (eVar 0)) (eNot (e1 (isiB "bool") (eVar 0)))))
noncomputable def d_is_whole : List D → Res Cell := Classical.choose (⟨runB 1 1 s_is_whole, rfl⟩ : ∃ y : List D → Res Cell, y = runB 1 1 s_is_whole)
theorem d_is_whole_eq : d_is_whole = runB 1 1 s_is_whole := Classical.choose_spec (⟨runB 1 1 s_is_whole, rfl⟩ : ∃ y : List D → Res Cell, y = runB 1 1 s_is_whole)
theorem v_is_whole {a : Int} : d_is_whole [.int a] = .ok (.val (.bl true)) := by
  simp [d_is_whole_eq, s_is_whole, start_eq]
def fuel_common_1 : PL.Env → Nat := fun env => natAt env 1 + 1
noncomputable def s_common : PL.Env → Res Fl := (sSeq (sSet 0 (eCall absD (aCons (eVar 0) aNil)))
    (sSeq (sSet 1 (eCall absD (aCons (eVar 1) aNil)))
    (sSeq (sWhile fuel_common_1 (tst (e2 gtD (eVar 1) (eC (.int 0)))) (sPar 0 1 (eVar 1) (e2 modD (eVar 0) (eVar 1))))
    (sRet (eVar 0)))))
noncomputable def d_common : List D → Res Cell := Classical.choose (⟨runB 2 2 s_common, rfl⟩ : ∃ y : List D → Res Cell, y = runB 2 2 s_common)
theorem d_common_eq : d_common = runB 2 2 s_common := Classical.choose_spec (⟨runB 2 2 s_common, rfl⟩ : ∃ y : List D → Res Cell, y = runB 2 2 s_common)
theorem w_common : ∀ (n : Nat) (a b : Nat), b < n → whileD n (tst (e2 gtD (eVar 1) (eC (.int 0)))) (sPar 0 1 (eVar 1) (e2 modD (eVar 0) (eVar 1))) [some (.val (.int a)), some (.val (.int b))] = .ok (.nx [some (.val (.int (Nat.gcd a b))), some (.val (.int 0))]) := by
  intro n
  induction n with
  | zero => intro a b h; omega
  | succ n ih =>
    intro a b h
    rw [x_while_succ]
    by_cases hb : b = 0
    · subst hb
      simp
    · have hb' : 0 < b := by omega
      have e1 : (a : Int).fmod b = (a : Int) % b := Int.fmod_eq_emod_of_nonneg _ (by omega)
      have := ih b (a % b) (by have := Nat.mod_lt a (Nat.pos_of_ne_zero hb); omega)
      rw [Int.natCast_emod] at this
      simp [hb', hb, e1]
      rw [this, Nat.gcd_comm b, ← Nat.gcd_rec, Nat.gcd_comm]
theorem v_common {a b : Int} : d_common [.int a, .int b] = .ok (.val (.int (Int.gcd a b))) := by
  have ha : (if a < 0 then -a else a) = (a.natAbs : Int) := by omega
  have hb : (if b < 0 then -b else b) = (b.natAbs : Int) := by omega
  have := w_common (b.natAbs + 1) a.natAbs b.natAbs (by omega)
  simp [d_common_eq, s_common, start_eq, ha, hb, fuel_common_1, natAt]
  rw [this]
  simp [Int.gcd]
noncomputable def s_made : PL.Env → Res Fl := (sSeq (sIf (tst (e2 eqD (eVar 1) (eC (.int 0)))) (sRaise "NoFraction") sNil)
    (sSeq (sSet 2 (eFn d_common (aCons (eVar 0) (aCons (eVar 1) aNil))))
    (sSeq (sIf (tst (e2 ltD (eVar 1) (eC (.int 0)))) (sSet 2 (e1 negD (eVar 2))) sNil)
    (sRet (eTup (aCons (e2 fdivD (eVar 0) (eVar 2)) (aCons (e2 fdivD (eVar 1) (eVar 2)) aNil)))))))
noncomputable def d_made : List D → Res Cell := Classical.choose (⟨runB 3 2 s_made, rfl⟩ : ∃ y : List D → Res Cell, y = runB 3 2 s_made)
theorem d_made_eq : d_made = runB 3 2 s_made := Classical.choose_spec (⟨runB 3 2 s_made, rfl⟩ : ∃ y : List D → Res Cell, y = runB 3 2 s_made)
theorem v_made0 {t : Int} : d_made [.int t, .int 0] = .exc "NoFraction" none := by
  simp [d_made_eq, s_made, start_eq]
theorem v_made {t b : Int} (hb : b ≠ 0) (ht : Bd 13000 t) (hbb : Bd 13000 b) : d_made [.int t, .int b] = .ok (.val (qD (Rat.divInt t b))) := by
  have hg : 0 < Int.gcd t b := Int.gcd_pos_of_ne_zero_right t hb
  have g0 : (Int.gcd t b : Int) ≠ 0 := by omega
  have g1 : -(Int.gcd t b : Int) ≠ 0 := by omega
  have dt : (Int.gcd t b : Int) ∣ t := Int.gcd_dvd_left ..
  have db : (Int.gcd t b : Int) ∣ b := Int.gcd_dvd_right ..
  have k1 := divOk_big (y := (Int.gcd t b : Int)) ht g0
  have k2 := divOk_big (y := (Int.gcd t b : Int)) hbb g0
  have k3 := divOk_big (y := -(Int.gcd t b : Int)) ht g1
  have k4 := divOk_big (y := -(Int.gcd t b : Int)) hbb g1
  unfold qD
  rw [Rat.num_divInt, Rat.den_divInt, if_neg hb, Int.gcd_comm b t]
  by_cases hn : b < 0
  · have e1 : t.fdiv (-(Int.gcd t b : Int)) = b.sign * t / (Int.gcd t b : Int) := by
      rw [Int.sign_eq_neg_one_of_neg hn, Int.fdiv_eq_ediv_of_dvd (Int.neg_dvd.mpr dt), Int.ediv_neg, Int.neg_mul, Int.one_mul, Int.neg_ediv_of_dvd dt]
    have e2 : b.fdiv (-(Int.gcd t b : Int)) = ((b.natAbs / Int.gcd t b : Nat) : Int) := by
      rw [Int.fdiv_eq_ediv_of_dvd (Int.neg_dvd.mpr db), Int.ediv_neg, ← Int.neg_ediv_of_dvd db, Int.natCast_ediv]
      congr 1
      omega
    simp [d_made_eq, s_made, start_eq, v_common, hb, hn, k3, k4, e1, e2]
  · have e1 : t.fdiv (Int.gcd t b : Int) = b.sign * t / (Int.gcd t b : Int) := by
      rw [Int.sign_eq_one_of_pos (by omega), Int.fdiv_eq_ediv_of_dvd dt, Int.one_mul]
    have e2 : b.fdiv (Int.gcd t b : Int) = ((b.natAbs / Int.gcd t b : Nat) : Int) := by
      rw [Int.fdiv_eq_ediv_of_dvd db, Int.natCast_ediv]
      congr 1
      omega
    simp [d_made_eq, s_made, start_eq, v_common, hb, hn, k1, k2, e1, e2]
noncomputable def s_plus : PL.Env → Res Fl := (sRet (eFn d_made (aCons (e2 addD (e2 mulX (e2 ixD (eVar 0) (eC (.int 0))) (e2 ixD (eVar 1) (eC (.int 1)))) (e2 mulX (e2 ixD (eVar 1) (eC (.int 0))) (e2 ixD (eVar 0) (eC (.int 1))))) (aCons (e2 mulX (e2 ixD (eVar 0) (eC (.int 1))) (e2 ixD (eVar 1) (eC (.int 1)))) aNil))))
noncomputable def d_plus : List D → Res Cell := Classical.choose (⟨runB 2 2 s_plus, rfl⟩ : ∃ y : List D → Res Cell, y = runB 2 2 s_plus)
theorem d_plus_eq : d_plus = runB 2 2 s_plus := Classical.choose_spec (⟨runB 2 2 s_plus, rfl⟩ : ∃ y : List D → Res Cell, y = runB 2 2 s_plus)
theorem v_plus {p q : Rat} {m n : Nat} (hp : QB m p) (hq : QB n q) (h : m + n < 13000) : d_plus [qD p, qD q] = .ok (.val (qD (p + q))) := by
  have a1 := mulOk_of hp.1 hq.2 (by omega)
  have a2 := mulOk_of hq.1 hp.2 (by omega)
  have a3 := mulOk_of hp.2 hq.2 (by omega)
  have b1 : Bd (m + n + 1) (p.num * q.den + q.num * p.den) := (hp.1.mul hq.2).add ((hq.1.mul hp.2).mono (by omega))
  have b2 : Bd (m + n) ((p.den : Int) * q.den) := hp.2.mul hq.2
  have nz : (p.den : Int) * q.den ≠ 0 := Int.mul_ne_zero (by have := p.den_pos; omega) (by have := q.den_pos; omega)
  have := v_made nz (b1.mono (by omega)) (b2.mono (by omega))
  rw [Rat.add_def', ← Rat.divInt_ofNat]
  simp [d_plus_eq, s_plus, start_eq, qD_eq, a1, a2, a3, this]
noncomputable def s_minus : PL.Env → Res Fl := (sRet (eFn d_made (aCons (e2 subD (e2 mulX (e2 ixD (eVar 0) (eC (.int 0))) (e2 ixD (eVar 1) (eC (.int 1)))) (e2 mulX (e2 ixD (eVar 1) (eC (.int 0))) (e2 ixD (eVar 0) (eC (.int 1))))) (aCons (e2 mulX (e2 ixD (eVar 0) (eC (.int 1))) (e2 ixD (eVar 1) (eC (.int 1)))) aNil))))
noncomputable def d_minus : List D → Res Cell := Classical.choose (⟨runB 2 2 s_minus, rfl⟩ : ∃ y : List D → Res Cell, y = runB 2 2 s_minus)
theorem d_minus_eq : d_minus = runB 2 2 s_minus := Classical.choose_spec (⟨runB 2 2 s_minus, rfl⟩ : ∃ y : List D → Res Cell, y = runB 2 2 s_minus)
theorem v_minus {p q : Rat} {m n : Nat} (hp : QB m p) (hq : QB n q) (h : m + n < 13000) : d_minus [qD p, qD q] = .ok (.val (qD (p - q))) := by
  have a1 := mulOk_of hp.1 hq.2 (by omega)
  have a2 := mulOk_of hq.1 hp.2 (by omega)
  have a3 := mulOk_of hp.2 hq.2 (by omega)
  have b1 : Bd (m + n + 1) (p.num * q.den - q.num * p.den) := (hp.1.mul hq.2).sub ((hq.1.mul hp.2).mono (by omega))
  have b2 : Bd (m + n) ((p.den : Int) * q.den) := hp.2.mul hq.2
  have nz : (p.den : Int) * q.den ≠ 0 := Int.mul_ne_zero (by have := p.den_pos; omega) (by have := q.den_pos; omega)
  have := v_made nz (b1.mono (by omega)) (b2.mono (by omega))
  rw [Rat.sub_def', ← Rat.divInt_ofNat]
  simp [d_minus_eq, s_minus, start_eq, qD_eq, a1, a2, a3, this]
noncomputable def s_times : PL.Env → Res Fl := (sRet (eFn d_made (aCons (e2 mulX (e2 ixD (eVar 0) (eC (.int 0))) (e2 ixD (eVar 1) (eC (.int 0)))) (aCons (e2 mulX (e2 ixD (eVar 0) (eC (.int 1))) (e2 ixD (eVar 1) (eC (.int 1)))) aNil))))
noncomputable def d_times : List D → Res Cell := Classical.choose (⟨runB 2 2 s_times, rfl⟩ : ∃ y : List D → Res Cell, y = runB 2 2 s_times)
theorem d_times_eq : d_times = runB 2 2 s_times := Classical.choose_spec (⟨runB 2 2 s_times, rfl⟩ : ∃ y : List D → Res Cell, y = runB 2 2 s_times)
theorem v_times {p q : Rat} {m n : Nat} (hp : QB m p) (hq : QB n q) (h : m + n < 13000) : d_times [qD p, qD q] = .ok (.val (qD (p * q))) := by
  have a1 := mulOk_of hp.1 hq.1 (by omega)
  have a3 := mulOk_of hp.2 hq.2 (by omega)
  have b1 : Bd (m + n) (p.num * q.num) := hp.1.mul hq.1
  have b2 : Bd (m + n) ((p.den : Int) * q.den) := hp.2.mul hq.2
  have nz : (p.den : Int) * q.den ≠ 0 := Int.mul_ne_zero (by have := p.den_pos; omega) (by have := q.den_pos; omega)
  have := v_made nz (b1.mono (by omega)) (b2.mono (by omega))
  rw [Rat.mul_def', ← Rat.divInt_ofNat]
  simp [d_times_eq, s_times, start_eq, qD_eq, a1, a3, this]
noncomputable def s_over : PL.Env → Res Fl := (sSeq (sIf (tst (e2 eqD (e2 ixD (eVar 1) (eC (.int 0))) (eC (.int 0)))) (sRaise "NoFraction") sNil)
    (sRet (eFn d_made (aCons (e2 mulX (e2 ixD (eVar 0) (eC (.int 0))) (e2 ixD (eVar 1) (eC (.int 1)))) (aCons (e2 mulX (e2 ixD (eVar 0) (eC (.int 1))) (e2 ixD (eVar 1) (eC (.int 0)))) aNil)))))
noncomputable def d_over : List D → Res Cell := Classical.choose (⟨runB 2 2 s_over, rfl⟩ : ∃ y : List D → Res Cell, y = runB 2 2 s_over)
theorem d_over_eq : d_over = runB 2 2 s_over := Classical.choose_spec (⟨runB 2 2 s_over, rfl⟩ : ∃ y : List D → Res Cell, y = runB 2 2 s_over)
theorem v_over0 {p : Rat} : d_over [qD p, qD 0] = .exc "NoFraction" none := by
  simp [d_over_eq, s_over, start_eq, qD_eq]
theorem v_over {p q : Rat} {m n : Nat} (hp : QB m p) (hq : QB n q) (h : m + n < 13000) (h0 : q ≠ 0) : d_over [qD p, qD q] = .ok (.val (qD (p / q))) := by
  have qn : q.num ≠ 0 := fun e => h0 (Rat.num_eq_zero.mp e)
  have a1 := mulOk_of hp.1 hq.2 (by omega)
  have a3 := mulOk_of hp.2 hq.1 (by omega)
  have b1 : Bd (m + n) (p.num * q.den) := hp.1.mul hq.2
  have b2 : Bd (m + n) ((p.den : Int) * q.num) := hp.2.mul hq.1
  have nz : (p.den : Int) * q.num ≠ 0 := Int.mul_ne_zero (by have := p.den_pos; omega) qn
  have := v_made nz (b1.mono (by omega)) (b2.mono (by omega))
  have e : Rat.divInt (p.num * q.den) ((p.den : Int) * q.num) = p / q := by
    rw [← Rat.divInt_mul_divInt, Rat.num_divInt_den, ← Rat.inv_divInt, Rat.num_divInt_den, Rat.div_def]
  rw [e] at this
  simp [d_over_eq, s_over, start_eq, qD_eq, a1, a3, this, qn]
noncomputable def s_less : PL.Env → Res Fl := (sRet (e2 ltD (e2 mulX (e2 ixD (eVar 0) (eC (.int 0))) (e2 ixD (eVar 1) (eC (.int 1)))) (e2 mulX (e2 ixD (eVar 1) (eC (.int 0))) (e2 ixD (eVar 0) (eC (.int 1))))))
noncomputable def d_less : List D → Res Cell := Classical.choose (⟨runB 2 2 s_less, rfl⟩ : ∃ y : List D → Res Cell, y = runB 2 2 s_less)
theorem d_less_eq : d_less = runB 2 2 s_less := Classical.choose_spec (⟨runB 2 2 s_less, rfl⟩ : ∃ y : List D → Res Cell, y = runB 2 2 s_less)
theorem v_less {p q : Rat} {m n : Nat} (hp : QB m p) (hq : QB n q) (h : m + n < 13000) : d_less [qD p, qD q] = .ok (.val (.bl (decide (p < q)))) := by
  have a1 := mulOk_of hp.1 hq.2 (by omega)
  have a2 := mulOk_of hq.1 hp.2 (by omega)
  have e : decide (p < q) = decide (p.num * q.den < q.num * p.den) := decide_eq_decide.mpr (Rat.lt_iff ..)
  rw [e]
  simp [d_less_eq, s_less, start_eq, qD_eq, a1, a2]
noncomputable def c_is_cut_1 : BEnv → Res D := Classical.choose (⟨(eFn d_is_whole (aCons (eVar 2) aNil)), rfl⟩ : ∃ y : BEnv → Res D, y = (eFn d_is_whole (aCons (eVar 2) aNil)))
theorem c_is_cut_1_eq : c_is_cut_1 = (eFn d_is_whole (aCons (eVar 2) aNil)) := Classical.choose_spec (⟨(eFn d_is_whole (aCons (eVar 2) aNil)), rfl⟩ : ∃ y : BEnv → Res D, y = (eFn d_is_whole (aCons (eVar 2) aNil)))
noncomputable def s_is_cut : PL.Env → Res Fl := (sSeq (sIf (tOrD (tNotD (tst (e1 (isiB "tuple") (eVar 0)))) (tst (e2 neD (eCall lenD (aCons (eVar 0) aNil)) (e2 addD (eVar 1) (eC (.int 1)))))) (sRet (eC (.bl false))) sNil)
    (sRet (eAnd (eCall allD (aCons (lstD (oComp [2] (iSeq (eVar 0)) (pName 2) cTrue c_is_cut_1)) aNil)) (e2 neD (eSl (eVar 0) oNo (oSome (eVar 1))) (e2 mulX (eTup (aCons (eC (.int 0)) aNil)) (eVar 1))))))
noncomputable def d_is_cut : List D → Res Cell := Classical.choose (⟨runB 3 2 s_is_cut, rfl⟩ : ∃ y : List D → Res Cell, y = runB 3 2 s_is_cut)
theorem d_is_cut_eq : d_is_cut = runB 3 2 s_is_cut := Classical.choose_spec (⟨runB 3 2 s_is_cut, rfl⟩ : ∃ y : List D → Res Cell, y = runB 3 2 s_is_cut)
theorem v_is_cut {cs : List Int} {n : Nat} (hn : n ≤ 3) (hc : cs.length ≤ 1000) : d_is_cut [.tup (cs.map D.int), .int n] = .ok (.val (.bl (cutB n cs))) := by
  have k := comp_map (dec := D.int) (enc := D.bl) (p := pName 2) (f := c_is_cut_1) (env := [some (.tup (cs.map D.int)), some (.int n), none]) (fun _ => true) cs (fun b _ => ⟨[(2, .int b)], rfl, by simp [c_is_cut_1_eq, v_is_whole]⟩)
  have a : (cs.map fun _ => true).all id = true := by simp
  have e := all_bls (bs := cs.map fun _ => true)
  rw [a] at e
  have z : List.replicate n (D.int 0) = (List.replicate n 0).map D.int := by simp
  have dq := deqs_ints (cs.take n) (List.replicate n 0)
  have q1 := eqOks_ints (n := 59) (cs.take n)
  have q2 := eqOks_ints (n := 59) (List.replicate n 0)
  have n1 : (n : Int) ≤ 1000 := by omega
  have n2 : -1000000 ≤ (n : Int) := by omega
  have l1 : cs.length ≤ 1000000 := by omega
  rw [List.map_take] at dq q1
  rw [← z] at dq q2
  by_cases h : cs.length = n + 1
  · simp only [List.map_map] at k e
    have l2 : n ≤ 999999 := by omega
    simp [d_is_cut_eq, s_is_cut, start_eq, x_comp, h, k, e, n1, n2, q1, q2, dq, cutB, l2]
  · have h' : ¬ ((cs.length : Int) = (n : Int) + 1) := by omega
    simp [d_is_cut_eq, s_is_cut, start_eq, h, h', cutB]
noncomputable def b_same_spots_1 : PL.Env → Res Fl := Classical.choose (⟨(sIf (tst (e2 neD (e2 mulX (e2 ixD (eVar 0) (eVar 2)) (e2 ixD (eVar 1) (eVar 3))) (e2 mulX (e2 ixD (eVar 0) (eVar 3)) (e2 ixD (eVar 1) (eVar 2))))) (sRet (eC (.bl false))) sNil), rfl⟩ : ∃ y : PL.Env → Res Fl, y = (sIf (tst (e2 neD (e2 mulX (e2 ixD (eVar 0) (eVar 2)) (e2 ixD (eVar 1) (eVar 3))) (e2 mulX (e2 ixD (eVar 0) (eVar 3)) (e2 ixD (eVar 1) (eVar 2))))) (sRet (eC (.bl false))) sNil))
theorem b_same_spots_1_eq : b_same_spots_1 = (sIf (tst (e2 neD (e2 mulX (e2 ixD (eVar 0) (eVar 2)) (e2 ixD (eVar 1) (eVar 3))) (e2 mulX (e2 ixD (eVar 0) (eVar 3)) (e2 ixD (eVar 1) (eVar 2))))) (sRet (eC (.bl false))) sNil) := Classical.choose_spec (⟨(sIf (tst (e2 neD (e2 mulX (e2 ixD (eVar 0) (eVar 2)) (e2 ixD (eVar 1) (eVar 3))) (e2 mulX (e2 ixD (eVar 0) (eVar 3)) (e2 ixD (eVar 1) (eVar 2))))) (sRet (eC (.bl false))) sNil), rfl⟩ : ∃ y : PL.Env → Res Fl, y = (sIf (tst (e2 neD (e2 mulX (e2 ixD (eVar 0) (eVar 2)) (e2 ixD (eVar 1) (eVar 3))) (e2 mulX (e2 ixD (eVar 0) (eVar 3)) (e2 ixD (eVar 1) (eVar 2))))) (sRet (eC (.bl false))) sNil))
noncomputable def b_same_spots_2 : PL.Env → Res Fl := Classical.choose (⟨(sForR (iRng1 (aCons (eVar 2) aNil)) (pName 3) b_same_spots_1), rfl⟩ : ∃ y : PL.Env → Res Fl, y = (sForR (iRng1 (aCons (eVar 2) aNil)) (pName 3) b_same_spots_1))
theorem b_same_spots_2_eq : b_same_spots_2 = (sForR (iRng1 (aCons (eVar 2) aNil)) (pName 3) b_same_spots_1) := Classical.choose_spec (⟨(sForR (iRng1 (aCons (eVar 2) aNil)) (pName 3) b_same_spots_1), rfl⟩ : ∃ y : PL.Env → Res Fl, y = (sForR (iRng1 (aCons (eVar 2) aNil)) (pName 3) b_same_spots_1))
noncomputable def s_same_spots : PL.Env → Res Fl := (sSeq (sForR (iRng1 (aCons (eCall lenD (aCons (eVar 0) aNil)) aNil)) (pName 2) b_same_spots_2)
    (sRet (eC (.bl true))))
noncomputable def d_same_spots : List D → Res Cell := Classical.choose (⟨runB 4 2 s_same_spots, rfl⟩ : ∃ y : List D → Res Cell, y = runB 4 2 s_same_spots)
theorem d_same_spots_eq : d_same_spots = runB 4 2 s_same_spots := Classical.choose_spec (⟨runB 4 2 s_same_spots, rfl⟩ : ∃ y : List D → Res Cell, y = runB 4 2 s_same_spots)
theorem v_same_spots {u v : List Int} (hl : u.length = v.length) (h4 : u.length ≤ 1000) (hu : ∀ z ∈ u, Bd 300 z) (hv : ∀ z ∈ v, Bd 300 z) : d_same_spots [.tup (u.map D.int), .tup (v.map D.int)] = .ok (.val (.bl (sameB u v))) := by
  obtain ⟨U, hU⟩ : ∃ U, u.map D.int = U := ⟨_, rfl⟩
  obtain ⟨V, hV⟩ : ∃ V, v.map D.int = V := ⟨_, rfl⟩
  have lU : U.length = u.length := by rw [← hU, List.length_map]
  have au : ∀ k, k < u.length → atD U (k : Int) = .ok (.int (u.getD k 0)) := fun k h => by rw [← hU]; exact at_getD h
  have av : ∀ k, k < u.length → atD V (k : Int) = .ok (.int (v.getD k 0)) := fun k h => by rw [← hV]; exact at_getD (by omega)
  have inner : ∀ k, k < u.length → ∀ x3 : Option Cell, (∃ x3', forD (pName 3) b_same_spots_1 (rngD 0 k) [some (.val (.tup U)), some (.val (.tup V)), some (.val (.int k)), x3] = .ok (.nx [some (.val (.tup U)), some (.val (.tup V)), some (.val (.int k)), x3']) ∧ ∀ j, j < k → u.getD k 0 * v.getD j 0 = u.getD j 0 * v.getD k 0) ∨
      (forD (pName 3) b_same_spots_1 (rngD 0 k) [some (.val (.tup U)), some (.val (.tup V)), some (.val (.int k)), x3] = .ok (.rt (.val (.bl false))) ∧ ∃ j, j < k ∧ u.getD k 0 * v.getD j 0 ≠ u.getD j 0 * v.getD k 0) := by
    intro k hk x3
    have := for_chk (p := pName 3) (s := b_same_spots_1) (r := .val (.bl false)) (fun j => decide (u.getD k 0 * v.getD j 0 = u.getD j 0 * v.getD k 0)) (fun env => ∃ x3, env = [some (.val (.tup U)), some (.val (.tup V)), some (.val (.int k)), x3]) (rngD 0 k) [some (.val (.tup U)), some (.val (.tup V)), some (.val (.int k)), x3] 0 ⟨_, rfl⟩ (by
      rintro j hj env ⟨x3, rfl⟩
      rw [rng_len] at hj
      have e : (rngD 0 k)[j]'(by rw [rng_len]; exact hj) = .int (j : Int) := by simp [rngD]
      rw [e]
      have a1 := au k hk
      have a2 := av j (by omega)
      have a3 := au j (by omega)
      have a4 := av k hk
      have m1 := mulOk_of (bd_getD hu hk) (bd_getD hv (show j < v.length by omega)) (by decide)
      have m2 := mulOk_of (bd_getD hu (show j < u.length by omega)) (bd_getD hv (show k < v.length by omega)) (by decide)
      refine ⟨_, rfl, ?_⟩
      rw [Nat.zero_add]
      by_cases hq : u.getD k 0 * v.getD j 0 = u.getD j 0 * v.getD k 0
      · refine .inl ⟨decide_eq_true hq, [some (.val (.tup U)), some (.val (.tup V)), some (.val (.int k)), some (.val (.int j))], ?_, _, rfl⟩
        generalize u.getD k 0 = a at *
        generalize v.getD j 0 = b at *
        generalize u.getD j 0 = c at *
        generalize v.getD k 0 = d at *
        simp [b_same_spots_1_eq, a1, a2, a3, a4, m1, m2, hq]
      · refine .inr ⟨decide_eq_false hq, ?_⟩
        generalize u.getD k 0 = a at *
        generalize v.getD j 0 = b at *
        generalize u.getD j 0 = c at *
        generalize v.getD k 0 = d at *
        simp [b_same_spots_1_eq, a1, a2, a3, a4, m1, m2, hq])
    rcases this with ⟨env', h1, ⟨x3', rfl⟩, h2⟩ | ⟨h1, j, hj, h2⟩
    · refine .inl ⟨x3', h1, fun j hj => ?_⟩
      have := h2 j (by rw [rng_len]; exact hj)
      rw [Nat.zero_add] at this
      exact of_decide_eq_true this
    · rw [Nat.zero_add] at h2
      rw [rng_len] at hj
      exact .inr ⟨h1, j, hj, of_decide_eq_false h2⟩
  have outer := for_chk (p := pName 2) (s := b_same_spots_2) (r := .val (.bl false)) (fun k => decide (∀ j, j < k → u.getD k 0 * v.getD j 0 = u.getD j 0 * v.getD k 0)) (fun env => ∃ x2 x3, env = [some (.val (.tup U)), some (.val (.tup V)), x2, x3]) (rngD 0 u.length) [some (.val (.tup U)), some (.val (.tup V)), none, none] 0 ⟨_, _, rfl⟩ (by
    rintro k hk env ⟨x2, x3, rfl⟩
    rw [rng_len] at hk
    have e : (rngD 0 u.length)[k]'(by rw [rng_len]; exact hk) = .int (k : Int) := by simp [rngD]
    rw [e]
    have rk := x_rng1N (n := k) (by omega)
    obtain ⟨L, hL⟩ : ∃ L, rngD 0 k = L := ⟨_, rfl⟩
    refine ⟨_, rfl, ?_⟩
    rw [Nat.zero_add]
    rcases inner k hk x3 with ⟨x3', h1, h2⟩ | ⟨h1, j, hj, h2⟩
    · rw [hL] at rk h1
      refine .inl ⟨decide_eq_true h2, [some (.val (.tup U)), some (.val (.tup V)), some (.val (.int k)), x3'], ?_, _, _, rfl⟩
      simp [b_same_spots_2_eq, rk, h1]
    · rw [hL] at rk h1
      refine .inr ⟨decide_eq_false fun q => h2 (q j hj), ?_⟩
      simp [b_same_spots_2_eq, rk, h1])
  have ru := x_rng1N (n := u.length) (by omega)
  obtain ⟨L, hL⟩ : ∃ L, rngD 0 u.length = L := ⟨_, rfl⟩
  rw [hU, hV]
  rcases outer with ⟨env', h1, ⟨x2, x3, rfl⟩, h2⟩ | ⟨h1, k, hk, h2⟩
  · have hb : sameB u v = true := decide_eq_true fun k hk j hj => by
      have := h2 k (by rw [rng_len]; exact hk)
      rw [Nat.zero_add] at this
      exact of_decide_eq_true this j hj
    rw [hL] at ru h1
    rw [hb]
    simp [d_same_spots_eq, s_same_spots, start_eq, lU, ru, h1]
  · have hb : sameB u v = false := decide_eq_false fun q => by
      rw [rng_len] at hk
      rw [Nat.zero_add] at h2
      exact of_decide_eq_false h2 fun j hj => q k hk j hj
    rw [hL] at ru h1
    rw [hb]
    simp [d_same_spots_eq, s_same_spots, start_eq, lU, ru, h1]
noncomputable def b_check_cuts_1 : PL.Env → Res Fl := Classical.choose (⟨(sIf (tst (eFn d_same_spots (aCons (e2 ixD (eVar 1) (eVar 2)) (aCons (eVar 3) aNil)))) sBad sNil), rfl⟩ : ∃ y : PL.Env → Res Fl, y = (sIf (tst (eFn d_same_spots (aCons (e2 ixD (eVar 1) (eVar 2)) (aCons (eVar 3) aNil)))) sBad sNil))
theorem b_check_cuts_1_eq : b_check_cuts_1 = (sIf (tst (eFn d_same_spots (aCons (e2 ixD (eVar 1) (eVar 2)) (aCons (eVar 3) aNil)))) sBad sNil) := Classical.choose_spec (⟨(sIf (tst (eFn d_same_spots (aCons (e2 ixD (eVar 1) (eVar 2)) (aCons (eVar 3) aNil)))) sBad sNil), rfl⟩ : ∃ y : PL.Env → Res Fl, y = (sIf (tst (eFn d_same_spots (aCons (e2 ixD (eVar 1) (eVar 2)) (aCons (eVar 3) aNil)))) sBad sNil))
noncomputable def b_check_cuts_2 : PL.Env → Res Fl := Classical.choose (⟨(sSeq (sIf (tOrD (tst (e2 geD (eVar 2) (eC (.int 7)))) (tNotD (tst (eFn d_is_cut (aCons (e2 ixD (eVar 1) (eVar 2)) (aCons (eVar 0) aNil)))))) sBad sNil)
    (sFor (iSeq (eSl (eVar 1) oNo (oSome (eVar 2)))) (pName 3) b_check_cuts_1)), rfl⟩ : ∃ y : PL.Env → Res Fl, y = (sSeq (sIf (tOrD (tst (e2 geD (eVar 2) (eC (.int 7)))) (tNotD (tst (eFn d_is_cut (aCons (e2 ixD (eVar 1) (eVar 2)) (aCons (eVar 0) aNil)))))) sBad sNil)
    (sFor (iSeq (eSl (eVar 1) oNo (oSome (eVar 2)))) (pName 3) b_check_cuts_1)))
theorem b_check_cuts_2_eq : b_check_cuts_2 = (sSeq (sIf (tOrD (tst (e2 geD (eVar 2) (eC (.int 7)))) (tNotD (tst (eFn d_is_cut (aCons (e2 ixD (eVar 1) (eVar 2)) (aCons (eVar 0) aNil)))))) sBad sNil)
    (sFor (iSeq (eSl (eVar 1) oNo (oSome (eVar 2)))) (pName 3) b_check_cuts_1)) := Classical.choose_spec (⟨(sSeq (sIf (tOrD (tst (e2 geD (eVar 2) (eC (.int 7)))) (tNotD (tst (eFn d_is_cut (aCons (e2 ixD (eVar 1) (eVar 2)) (aCons (eVar 0) aNil)))))) sBad sNil)
    (sFor (iSeq (eSl (eVar 1) oNo (oSome (eVar 2)))) (pName 3) b_check_cuts_1)), rfl⟩ : ∃ y : PL.Env → Res Fl, y = (sSeq (sIf (tOrD (tst (e2 geD (eVar 2) (eC (.int 7)))) (tNotD (tst (eFn d_is_cut (aCons (e2 ixD (eVar 1) (eVar 2)) (aCons (eVar 0) aNil)))))) sBad sNil)
    (sFor (iSeq (eSl (eVar 1) oNo (oSome (eVar 2)))) (pName 3) b_check_cuts_1)))
noncomputable def s_check_cuts : PL.Env → Res Fl := (sSeq (sIf (tOrD (tNotD (tst (eFn d_is_whole (aCons (eVar 0) aNil)))) (tOrD (tNotD (tst (eChain leD leD (eC (.int 1)) (eVar 0) (eC (.int 3))))) (tNotD (tst (e1 (isiB "list") (eVar 1)))))) sBad sNil)
    (sForR (iRng1 (aCons (eCall lenD (aCons (eVar 1) aNil)) aNil)) (pName 2) b_check_cuts_2))
noncomputable def d_check_cuts : List D → Res Cell := Classical.choose (⟨runB 4 2 s_check_cuts, rfl⟩ : ∃ y : List D → Res Cell, y = runB 4 2 s_check_cuts)
theorem d_check_cuts_eq : d_check_cuts = runB 4 2 s_check_cuts := Classical.choose_spec (⟨runB 4 2 s_check_cuts, rfl⟩ : ∃ y : List D → Res Cell, y = runB 4 2 s_check_cuts)
theorem cc_1 {z : Int} {T : List D} (g1 : 1 ≤ z) (g2 : z ≤ 3) : (sIf (tOrD (tNotD (tst (eFn d_is_whole (aCons (eVar 0) aNil)))) (tOrD (tNotD (tst (eChain leD leD (eC (.int 1)) (eVar 0) (eC (.int 3))))) (tNotD (tst (e1 (isiB "list") (eVar 1)))))) sBad sNil) [some (.val (.int z)), some (.val (.lst T)), none, none] = .ok (.nx [some (.val (.int z)), some (.val (.lst T)), none, none]) := by
  simp [v_is_whole, g1, g2]
theorem cc_2 {z w : Int} {T L : List D} {x2 x3 : Option Cell} {m : Nat} (lC : T.length = m) (hw : (m : Int) = w) (rc : rng1K (.int w) = .ok L) (hfor : forD (pName 2) b_check_cuts_2 L [some (.val (.int z)), some (.val (.lst T)), none, none] = .ok (.nx [some (.val (.int z)), some (.val (.lst T)), x2, x3])) : (sForR (iRng1 (aCons (eCall lenD (aCons (eVar 1) aNil)) aNil)) (pName 2) b_check_cuts_2) [some (.val (.int z)), some (.val (.lst T)), none, none] = .ok (.nx [some (.val (.int z)), some (.val (.lst T)), x2, x3]) := by
  simp [lC, hw, rc, hfor]
theorem cc_3 {z : Int} {T : List D} {x2 x3 : Option Cell} (h1 : (sIf (tOrD (tNotD (tst (eFn d_is_whole (aCons (eVar 0) aNil)))) (tOrD (tNotD (tst (eChain leD leD (eC (.int 1)) (eVar 0) (eC (.int 3))))) (tNotD (tst (e1 (isiB "list") (eVar 1)))))) sBad sNil) [some (.val (.int z)), some (.val (.lst T)), none, none] = .ok (.nx [some (.val (.int z)), some (.val (.lst T)), none, none])) (h2 : (sForR (iRng1 (aCons (eCall lenD (aCons (eVar 1) aNil)) aNil)) (pName 2) b_check_cuts_2) [some (.val (.int z)), some (.val (.lst T)), none, none] = .ok (.nx [some (.val (.int z)), some (.val (.lst T)), x2, x3])) : d_check_cuts [.int z, .lst T] = .ok (.val .non) := by
  rw [d_check_cuts_eq, run_eq (show [D.int z, D.lst T].length = 2 from rfl)]
  have e : startE 4 [D.int z, D.lst T] = [some (.val (.int z)), some (.val (.lst T)), none, none] := rfl
  rw [e]
  unfold s_check_cuts
  rw [x_seq, h1, Res.bind_ok, x_seqK_nx, h2]
  rfl
theorem v_check_cuts {n : Nat} {C : List (List Int × Int)} (h : CsOk n C) : d_check_cuts [.int n, .lst (C.map ctD)] = .ok (.val .non) := by
  have h1 := h.d1
  have h3 := h.d3
  have l7 := h.l7
  have lC : (C.map ctD).length = C.length := by simp
  obtain ⟨env', hfor, x2, x3, rfl⟩ := forR_inv (p := pName 2) (s := b_check_cuts_2) (lo := 0) (n := C.length) (env := [some (.val (.int n)), some (.val (.lst (C.map ctD))), none, none]) (fun _ env => ∃ x2 x3, env = [some (.val (.int n)), some (.val (.lst (C.map ctD))), x2, x3]) ⟨_, _, rfl⟩ (by
    rintro i hi env ⟨x2, x3, rfl⟩
    have oi := h.ok _ (List.getElem_mem hi)
    have ai : atD (C.map ctD) (i : Int) = .ok (ctD C[i]) := at_map hi
    have ic := v_is_cut (cs := full C[i]) (n := n) h3 (by rw [full_len oi]; omega)
    have cb : cutB n (full C[i]) = true := by
      unfold cutB full
      rw [List.take_append_of_le_length (by rw [oi.len]; exact Nat.le_refl _), List.take_of_length_le (by rw [oi.len]; exact Nat.le_refl _)]
      have := h.nz _ (List.getElem_mem hi)
      simp [oi.len, this]
    rw [cb, ← ctD_full] at ic
    have ct : cutL (C.map ctD) none (some (i : Int)) = (C.take i).map ctD := by rw [cutL_to, List.map_take]
    obtain ⟨env1, hf1, y3, rfl⟩ := for_inv (p := pName 3) (s := b_check_cuts_1) (fun _ env => ∃ y3, env = [some (.val (.int n)), some (.val (.lst (C.map ctD))), some (.val (.int i)), y3]) ((C.take i).map ctD) [some (.val (.int n)), some (.val (.lst (C.map ctD))), some (.val (.int i)), x3] 0 ⟨_, rfl⟩ (by
      rintro j hj env ⟨y3, rfl⟩
      have hj' : j < i := by rw [List.length_map, List.length_take] at hj; omega
      have hj2 : j < C.length := by omega
      have e : ((C.take i).map ctD)[j] = ctD C[j] := by simp
      rw [e]
      have oj := h.ok _ (List.getElem_mem hj2)
      have ss := v_same_spots (u := full C[i]) (v := full C[j]) (by rw [full_len oi, full_len oj]) (by rw [full_len oi]; omega) (full_bd oi) (full_bd oj)
      have pq : sameB (full C[i]) (full C[j]) = false := by
        rw [sameB_symm (by rw [full_len oi, full_len oj])]
        exact List.pairwise_iff_getElem.mp h.pw j i hj2 hi hj'
      rw [pq, ← ctD_full, ← ctD_full] at ss
      refine ⟨_, [some (.val (.int n)), some (.val (.lst (C.map ctD))), some (.val (.int i)), some (.val (ctD C[j]))], rfl, .inl ?_, _, rfl⟩
      generalize ctD C[i] = P at *
      generalize ctD C[j] = Q at *
      generalize C.map ctD = T at *
      simp [b_check_cuts_1_eq, ai, ss])
    have i7 : ¬ (7 : Int) ≤ i := by omega
    refine ⟨_, [some (.val (.int n)), some (.val (.lst (C.map ctD))), some (.val (.int i)), y3], rfl, .inl ?_, _, _, rfl⟩
    generalize ctD C[i] = P at *
    generalize (C.take i).map ctD = A at *
    generalize C.map ctD = T at *
    simp [b_check_cuts_2_eq, ai, ic, i7, -cutL_to, ct, hf1])
  have rc := x_rng1N (n := C.length) (by omega)
  obtain ⟨L, hL⟩ : ∃ L, rngD 0 C.length = L := ⟨_, rfl⟩
  rw [hL] at rc hfor
  have g1 : (1 : Int) ≤ (n : Int) := by omega
  have g2 : (n : Int) ≤ 3 := by omega
  generalize C.map ctD = T at *
  generalize hcl : ((C.length : Nat) : Int) = w at *
  generalize (n : Int) = z at *
  exact cc_3 (cc_1 g1 g2) (cc_2 lC hcl rc hfor)
theorem v_make {n : Nat} {C : List (List Int × Int)} (h : CsOk n C) : initD d_check_cuts [.int n, .lst (C.map ctD)] = .ok (kD n C) := by
  have := v_check_cuts h
  unfold kD
  generalize C.map ctD = T at *
  simp [x_initD, this]

noncomputable def s_Cutting_dims : PL.Env → Res Fl := (sRet (e1 wideD (eVar 0)))
noncomputable def d_Cutting_dims : List D → Res Cell := Classical.choose (⟨runB 1 1 s_Cutting_dims, rfl⟩ : ∃ y : List D → Res Cell, y = runB 1 1 s_Cutting_dims)
theorem d_Cutting_dims_eq : d_Cutting_dims = runB 1 1 s_Cutting_dims := Classical.choose_spec (⟨runB 1 1 s_Cutting_dims, rfl⟩ : ∃ y : List D → Res Cell, y = runB 1 1 s_Cutting_dims)
theorem v_dims {n : Nat} {C : List (List Int × Int)} : d_Cutting_dims [kD n C] = .ok (.val (.int n)) := by
  unfold kD
  simp [d_Cutting_dims_eq, s_Cutting_dims, start_eq]
noncomputable def s_Cutting_many : PL.Env → Res Fl := (sRet (eCall lenD (aCons (e1 rowsD (eVar 0)) aNil)))
noncomputable def d_Cutting_many : List D → Res Cell := Classical.choose (⟨runB 1 1 s_Cutting_many, rfl⟩ : ∃ y : List D → Res Cell, y = runB 1 1 s_Cutting_many)
theorem d_Cutting_many_eq : d_Cutting_many = runB 1 1 s_Cutting_many := Classical.choose_spec (⟨runB 1 1 s_Cutting_many, rfl⟩ : ∃ y : List D → Res Cell, y = runB 1 1 s_Cutting_many)
theorem v_many {n : Nat} {C : List (List Int × Int)} : d_Cutting_many [kD n C] = .ok (.val (.int C.length)) := by
  unfold kD
  have h : (C.map ctD).length = C.length := by simp
  generalize C.map ctD = T at *
  simp [d_Cutting_many_eq, s_Cutting_many, start_eq, h]
noncomputable def s_origin : PL.Env → Res Fl := (sRet (e2 mulX (eTup (aCons (eC (.tup [.int 0, .int 1])) aNil)) (eVar 0)))
noncomputable def d_origin : List D → Res Cell := Classical.choose (⟨runB 1 1 s_origin, rfl⟩ : ∃ y : List D → Res Cell, y = runB 1 1 s_origin)
theorem d_origin_eq : d_origin = runB 1 1 s_origin := Classical.choose_spec (⟨runB 1 1 s_origin, rfl⟩ : ∃ y : List D → Res Cell, y = runB 1 1 s_origin)
theorem v_origin {n : Nat} (n3 : n ≤ 3) : d_origin [.int n] = .ok (.val (.tup ((List.replicate n (0 : Rat)).map qD))) := by
  have ms : mulX (.tup [.tup [.int 0, .int 1]]) (.int (n : Int)) = .ok (.tup ((List.replicate n (0 : Rat)).map qD)) := by
    have z : qD 0 = .tup [.int 0, .int 1] := rfl
    show (if -1000000 ≤ (n : Int) ∧ (n : Int) ≤ 1000 ∧ [D.tup [.int 0, .int 1]].length ≤ 1000 then Res.ok (D.tup (List.replicate ((n : Int)).toNat [D.tup [.int 0, .int 1]]).flatten) else .bad) = _
    rw [if_pos ⟨by omega, by omega, by decide⟩, List.map_replicate, z]
    congr 2
    simp
  generalize (List.replicate n (0 : Rat)).map qD = Q at *
  generalize (n : Int) = z at *
  simp [d_origin_eq, s_origin, start_eq, ms]

noncomputable def c_mixed_1 : BEnv → Res D := Classical.choose (⟨(e2 addD (e2 mulX (eVar 1) (eVar 9)) (e2 mulX (eVar 3) (eVar 10))), rfl⟩ : ∃ y : BEnv → Res D, y = (e2 addD (e2 mulX (eVar 1) (eVar 9)) (e2 mulX (eVar 3) (eVar 10))))
theorem c_mixed_1_eq : c_mixed_1 = (e2 addD (e2 mulX (eVar 1) (eVar 9)) (e2 mulX (eVar 3) (eVar 10))) := Classical.choose_spec (⟨(e2 addD (e2 mulX (eVar 1) (eVar 9)) (e2 mulX (eVar 3) (eVar 10))), rfl⟩ : ∃ y : BEnv → Res D, y = (e2 addD (e2 mulX (eVar 1) (eVar 9)) (e2 mulX (eVar 3) (eVar 10))))
noncomputable def c_mixed_2 : BEnv → Res D := Classical.choose (⟨(e2 addD (e2 mulX (eVar 1) (eVar 9)) (e2 mulX (eVar 3) (eVar 10))), rfl⟩ : ∃ y : BEnv → Res D, y = (e2 addD (e2 mulX (eVar 1) (eVar 9)) (e2 mulX (eVar 3) (eVar 10))))
theorem c_mixed_2_eq : c_mixed_2 = (e2 addD (e2 mulX (eVar 1) (eVar 9)) (e2 mulX (eVar 3) (eVar 10))) := Classical.choose_spec (⟨(e2 addD (e2 mulX (eVar 1) (eVar 9)) (e2 mulX (eVar 3) (eVar 10))), rfl⟩ : ∃ y : BEnv → Res D, y = (e2 addD (e2 mulX (eVar 1) (eVar 9)) (e2 mulX (eVar 3) (eVar 10))))
noncomputable def b_mixed_1 : PL.Env → Res Fl := Classical.choose (⟨(sSet 7 (eFn d_common (aCons (eVar 7) (aCons (eVar 8) aNil)))), rfl⟩ : ∃ y : PL.Env → Res Fl, y = (sSet 7 (eFn d_common (aCons (eVar 7) (aCons (eVar 8) aNil)))))
theorem b_mixed_1_eq : b_mixed_1 = (sSet 7 (eFn d_common (aCons (eVar 7) (aCons (eVar 8) aNil)))) := Classical.choose_spec (⟨(sSet 7 (eFn d_common (aCons (eVar 7) (aCons (eVar 8) aNil)))), rfl⟩ : ∃ y : PL.Env → Res Fl, y = (sSet 7 (eFn d_common (aCons (eVar 7) (aCons (eVar 8) aNil)))))
noncomputable def c_mixed_3 : BEnv → Res D := Classical.choose (⟨(e2 fdivD (eVar 9) (eVar 7)), rfl⟩ : ∃ y : BEnv → Res D, y = (e2 fdivD (eVar 9) (eVar 7)))
theorem c_mixed_3_eq : c_mixed_3 = (e2 fdivD (eVar 9) (eVar 7)) := Classical.choose_spec (⟨(e2 fdivD (eVar 9) (eVar 7)), rfl⟩ : ∃ y : BEnv → Res D, y = (e2 fdivD (eVar 9) (eVar 7)))
noncomputable def c_mixed_4 : BEnv → Res D := Classical.choose (⟨(e2 fdivD (eVar 9) (eVar 7)), rfl⟩ : ∃ y : BEnv → Res D, y = (e2 fdivD (eVar 9) (eVar 7)))
theorem c_mixed_4_eq : c_mixed_4 = (e2 fdivD (eVar 9) (eVar 7)) := Classical.choose_spec (⟨(e2 fdivD (eVar 9) (eVar 7)), rfl⟩ : ∃ y : BEnv → Res D, y = (e2 fdivD (eVar 9) (eVar 7)))
noncomputable def s_mixed : PL.Env → Res Fl := (sSeq (sSetL 4 (oComp [9, 10] (zip2D (aCons (e2 ixD (eVar 0) (eC (.int 0))) (aCons (e2 ixD (eVar 2) (eC (.int 0))) aNil))) (pTup (pCons (pName 9) (pCons (pName 10) pNil))) cTrue c_mixed_1))
    (sSeq (sSet 5 (e2 addD (e2 mulX (eVar 1) (e2 ixD (eVar 0) (eC (.int 1)))) (e2 mulX (eVar 3) (e2 ixD (eVar 2) (eC (.int 1))))))
    (sSeq (sSetL 6 (oComp [9, 10] (zip2D (aCons (e2 ixD (eVar 0) (eC (.int 3))) (aCons (e2 ixD (eVar 2) (eC (.int 3))) aNil))) (pTup (pCons (pName 9) (pCons (pName 10) pNil))) cTrue c_mixed_2))
    (sSeq (sSet 7 (eC (.int 0)))
    (sSeq (sFor (iSeq (e2 addD (e2 addD (eVar 4) (eVar 6)) (lstD (oLst (aCons (eVar 5) aNil))))) (pName 8) b_mixed_1)
    (sSeq (sSet 7 (eCall max2D (aCons (eC (.int 1)) (aCons (eVar 7) aNil))))
    (sRet (eTup (aCons (eCall tupleD (aCons (lstD (oComp [9] (iSeq (eVar 4)) (pName 9) cTrue c_mixed_4)) aNil)) (aCons (e2 fdivD (eVar 5) (eVar 7)) (aCons (eCall tupleD (aCons (lstD (oComp [9] (iSeq (eVar 6)) (pName 9) cTrue c_mixed_3)) aNil)) aNil)))))))))))
noncomputable def d_mixed : List D → Res Cell := Classical.choose (⟨runB 11 4 s_mixed, rfl⟩ : ∃ y : List D → Res Cell, y = runB 11 4 s_mixed)
theorem d_mixed_eq : d_mixed = runB 11 4 s_mixed := Classical.choose_spec (⟨runB 11 4 s_mixed, rfl⟩ : ∃ y : List D → Res Cell, y = runB 11 4 s_mixed)
theorem v_mixed {b n m : Nat} {a o : Row} {u v : Int} (ha : RB b n m a) (ho : RB b n m o) (hu : Bd b u) (hv : Bd b v) (n8 : n ≤ 100) (m8 : m ≤ 100) (hb : 2 * b + 1 ≤ 13000) :
    ∃ (ns : List Int) (c : Int) (ws : List Int), d_mixed [rowD a, .int u, rowD o, .int v] = .ok (.val (.tup [.tup (ns.map D.int), .int c, .tup (ws.map D.int)])) ∧ ∀ kd, RB (2 * b + 1) n m ⟨ns, c, kd, ws⟩ ∧ Mix u v a o ⟨ns, c, kd, ws⟩ := by
  have K1 : ∀ (x y : List Int) (env : BEnv), (∀ z ∈ x, Bd b z) → (∀ z ∈ y, Bd b z) → (∃ e0 e2 e4 e5 e6 e7 e8, env = [e0, some (.int u), e2, some (.int v), e4, e5, e6, e7, e8, none, none]) →
      compD (pTup (pCons (pName 9) (pCons (pName 10) pNil))) cTrue c_mixed_1 env (pair2 (x.map D.int) (y.map D.int)) = .ok (((x.zip y).map fun p => u * p.1 + v * p.2).map D.int) := by
    rintro x y env hx hy ⟨e0, e2, e4, e5, e6, e7, e8, rfl⟩
    rw [pair_map]
    refine comp_map (fun p : Int × Int => u * p.1 + v * p.2) (x.zip y) fun p hp => ⟨[(9, .int p.1), (10, .int p.2)], rfl, ?_⟩
    have m1 := mulOk_of hu (hx _ (List.of_mem_zip hp).1) (by omega)
    have m2 := mulOk_of hv (hy _ (List.of_mem_zip hp).2) (by omega)
    simp [c_mixed_1_eq, m1, m2]
  have K2 : c_mixed_2 = c_mixed_1 := by rw [c_mixed_1_eq, c_mixed_2_eq]
  have k1 := K1 a.nums o.nums [some (rowD a), some (.int u), some (rowD o), some (.int v), none, none, none, none, none, none, none] ha.bn ho.bn ⟨_, _, _, _, _, _, _, rfl⟩
  obtain ⟨N, hN⟩ : ∃ N, ((a.nums.zip o.nums).map fun p => u * p.1 + v * p.2) = N := ⟨_, rfl⟩
  obtain ⟨W, hW⟩ : ∃ W, ((a.ws.zip o.ws).map fun p => u * p.1 + v * p.2) = W := ⟨_, rfl⟩
  obtain ⟨c, hc⟩ : ∃ c, u * a.c + v * o.c = c := ⟨_, rfl⟩
  have k2 := K1 a.ws o.ws [some (rowD a), some (.int u), some (rowD o), some (.int v), some (.lst (N.map D.int)), some (.int c), none, none, none, none, none] ha.bw ho.bw ⟨_, _, _, _, _, _, _, rfl⟩
  have lN : N.length = n := by rw [← hN]; simp [ha.ln, ho.ln]
  have lW : W.length = m := by rw [← hW]; simp [ha.lw, ho.lw]
  have bN : ∀ z ∈ N, Bd (2 * b + 1) z := fun z hz => by
    rw [← hN] at hz
    obtain ⟨p, hp, rfl⟩ := List.mem_map.mp hz
    exact hu.mix hv (ha.bn _ (List.of_mem_zip hp).1) (ho.bn _ (List.of_mem_zip hp).2)
  have bW : ∀ z ∈ W, Bd (2 * b + 1) z := fun z hz => by
    rw [← hW] at hz
    obtain ⟨p, hp, rfl⟩ := List.mem_map.mp hz
    exact hu.mix hv (ha.bw _ (List.of_mem_zip hp).1) (ho.bw _ (List.of_mem_zip hp).2)
  have bc : Bd (2 * b + 1) c := by rw [← hc]; exact hu.mix hv ha.bc ho.bc
  have gN : ∀ k, N.getD k 0 = u * a.n k + v * o.n k := fun k => by rw [← hN]; exact getD_zip0 (by rw [ha.ln, ho.ln])
  have gW : ∀ k, W.getD k 0 = u * a.w k + v * o.w k := fun k => by rw [← hW]; exact getD_zip0 (by rw [ha.lw, ho.lw])
  rw [hN] at k1
  rw [hW] at k2
  have mc1 := mulOk_of hu ha.bc (by omega)
  have mc2 := mulOk_of hv ho.bc (by omega)
  -- the share
  obtain ⟨env', hfor, x8, t, rfl, ht0, hdiv⟩ := for_inv (p := pName 8) (s := b_mixed_1) (fun i env => ∃ (x8 : Option Cell) (t : Int), env = [some (.val (rowD a)), some (.val (.int u)), some (.val (rowD o)), some (.val (.int v)), some (.val (.lst (N.map D.int))), some (.val (.int c)), some (.val (.lst (W.map D.int))), some (.val (.int t)), x8, none, none] ∧ 0 ≤ t ∧ ∀ z ∈ (N ++ W ++ [c]).take i, t ∣ z) ((N ++ W ++ [c]).map D.int) [some (.val (rowD a)), some (.val (.int u)), some (.val (rowD o)), some (.val (.int v)), some (.val (.lst (N.map D.int))), some (.val (.int c)), some (.val (.lst (W.map D.int))), some (.val (.int 0)), none, none, none] 0 ⟨_, 0, rfl, Int.le_refl _, fun z hz => by simp at hz⟩ (by
    rintro i hi env ⟨x8, t, rfl, t0, td⟩
    have hi' : i < (N ++ W ++ [c]).length := by simpa using hi
    have e : ((N ++ W ++ [c]).map D.int)[i] = .int (N ++ W ++ [c])[i] := by rw [List.getElem_map]
    rw [e]
    rw [Nat.zero_add] at td
    rw [Nat.zero_add, List.take_succ_eq_append_getElem hi']
    generalize (N ++ W ++ [c])[i] = z at *
    have g := v_common (a := t) (b := z)
    refine ⟨[(8, .int z)], _, rfl, .inl ?_, some (.val (.int z)), (Int.gcd t z : Int), rfl, by omega, ?_⟩
    · generalize N.map D.int = N' at *
      generalize W.map D.int = W' at *
      generalize rowD a = A' at *
      generalize rowD o = O' at *
      simp [b_mixed_1_eq, g]
    · intro y hy
      rcases List.mem_append.mp hy with q | q
      · exact Int.dvd_trans (Int.gcd_dvd_left ..) (td y q)
      · rw [List.mem_singleton.mp q]
        exact Int.gcd_dvd_right ..)
  rw [Nat.zero_add, List.take_of_length_le (by simp)] at hdiv
  obtain ⟨s, hs⟩ : ∃ s, (if t > 1 then t else 1) = s := ⟨_, rfl⟩
  have s1 : 1 ≤ s := by rw [← hs]; split <;> omega
  have sd : ∀ z ∈ N ++ W ++ [c], s ∣ z := fun z hz => by
    rw [← hs]
    split
    · exact hdiv z hz
    · exact Int.one_dvd z
  have s0 : s ≠ 0 := by omega
  have K3 : ∀ (x : List Int) (env : BEnv), (∀ z ∈ x, Bd (2 * b + 1) z) → (∃ e0 e1 e2 e3 e4 e5 e6 e8 e10, env = [e0, e1, e2, e3, e4, e5, e6, some (.int s), e8, none, e10]) →
      compD (pName 9) cTrue c_mixed_3 env (x.map D.int) = .ok ((x.map fun z => z.fdiv s).map D.int) := by
    rintro x env hx ⟨e0, e1, e2, e3, e4, e5, e6, e8, e10, rfl⟩
    refine comp_map (fun z : Int => z.fdiv s) x fun z hz => ⟨[(9, .int z)], rfl, ?_⟩
    have d1 := divOk_big ((hx z hz).mono hb) s0
    simp [c_mixed_3_eq, d1]
  have K4 : c_mixed_4 = c_mixed_3 := by rw [c_mixed_3_eq, c_mixed_4_eq]
  have dc := divOk_big (bc.mono hb) s0
  have k3 := K3 N [some (rowD a), some (.int u), some (rowD o), some (.int v), some (.lst (N.map D.int)), some (.int c), some (.lst (W.map D.int)), some (.int s), Option.map Cell.toD x8, none, none] bN ⟨_, _, _, _, _, _, _, _, _, rfl⟩
  have k4 := K3 W [some (rowD a), some (.int u), some (rowD o), some (.int v), some (.lst (N.map D.int)), some (.int c), some (.lst (W.map D.int)), some (.int s), Option.map Cell.toD x8, none, none] bW ⟨_, _, _, _, _, _, _, _, _, rfl⟩
  refine ⟨N.map fun z => z.fdiv s, c.fdiv s, W.map fun z => z.fdiv s, ?_, fun kd => ⟨⟨by simp [lN], by simp [lW], fun z hz => ?_, bc.fdiv, fun z hz => ?_⟩, ⟨s, by omega, fun k => ?_, ?_, fun k => ?_⟩⟩⟩
  · have l1 : (N.map D.int).length + (W.map D.int).length + 1 ≤ 1000000 := by simp; omega
    have l2 : (N.map D.int).length + (W.map D.int).length ≤ 1000000 := by omega
    have l3 : (N.map D.int).length ≤ 1000000 := by omega
    have l4 : (W.map D.int).length ≤ 1000000 := by omega
    have ea : rowD a = .tup [.tup (a.nums.map D.int), .int a.c, .str (kS a.kd), .tup (a.ws.map D.int)] := rfl
    have eo : rowD o = .tup [.tup (o.nums.map D.int), .int o.c, .str (kS o.kd), .tup (o.ws.map D.int)] := rfl
    have l5 : (pair2 (a.nums.map D.int) (o.nums.map D.int)).length ≤ 1000000 := by rw [pair_map]; simp [ha.ln, ho.ln]; omega
    have l6 : (pair2 (a.ws.map D.int) (o.ws.map D.int)).length ≤ 1000000 := by rw [pair_map]; simp [ha.lw, ho.lw]; omega
    have eT : (N ++ W ++ [c]).map D.int = N.map D.int ++ W.map D.int ++ [.int c] := by simp
    rw [eT, List.append_assoc] at hfor
    rw [d_mixed_eq]
    refine run_rt rfl ?_
    have es : startE 11 [rowD a, .int u, rowD o, .int v] = [some (.val (rowD a)), some (.val (.int u)), some (.val (rowD o)), some (.val (.int v)), none, none, none, none, none, none, none] := rfl
    rw [es]
    unfold s_mixed
    generalize hA : rowD a = A at *
    generalize hO : rowD o = O at *
    have x0 : ixD A (.int 0) = .ok (.tup (a.nums.map D.int)) := by rw [ea]; simp
    have x1 : ixD A (.int 1) = .ok (.int a.c) := by rw [ea]; simp
    have x3 : ixD A (.int 3) = .ok (.tup (a.ws.map D.int)) := by rw [ea]; simp
    have y0 : ixD O (.int 0) = .ok (.tup (o.nums.map D.int)) := by rw [eo]; simp
    have y1 : ixD O (.int 1) = .ok (.int o.c) := by rw [eo]; simp
    have y3 : ixD O (.int 3) = .ok (.tup (o.ws.map D.int)) := by rw [eo]; simp
    clear ea eo hA hO
    generalize a.nums.map D.int = an at *
    generalize o.nums.map D.int = on at *
    generalize a.ws.map D.int = aw at *
    generalize o.ws.map D.int = ow at *
    generalize (N.map fun z => z.fdiv s).map D.int = N2 at *
    generalize (W.map fun z => z.fdiv s).map D.int = W2 at *
    generalize N.map D.int = N1 at *
    generalize W.map D.int = W1 at *
    refine (seq_nx (e1 := [some (.val A), some (.val (.int u)), some (.val O), some (.val (.int v)), some (.val (.lst N1)), none, none, none, none, none, none]) (by simp [x_comp, x0, y0, l5, k1])).trans ?_
    refine (seq_nx (e1 := [some (.val A), some (.val (.int u)), some (.val O), some (.val (.int v)), some (.val (.lst N1)), some (.val (.int c)), none, none, none, none, none]) (by simp [x1, y1, mc1, mc2, hc])).trans ?_
    refine (seq_nx (e1 := [some (.val A), some (.val (.int u)), some (.val O), some (.val (.int v)), some (.val (.lst N1)), some (.val (.int c)), some (.val (.lst W1)), none, none, none, none]) (by rw [K2]; simp [x_comp, x3, y3, l6, k2])).trans ?_
    refine (seq_nx (e1 := [some (.val A), some (.val (.int u)), some (.val O), some (.val (.int v)), some (.val (.lst N1)), some (.val (.int c)), some (.val (.lst W1)), some (.val (.int 0)), none, none, none]) (by simp)).trans ?_
    refine (seq_nx (e1 := [some (.val A), some (.val (.int u)), some (.val O), some (.val (.int v)), some (.val (.lst N1)), some (.val (.int c)), some (.val (.lst W1)), some (.val (.int t)), x8, none, none]) (by simp [l1, l2, hfor])).trans ?_
    refine (seq_nx (e1 := [some (.val A), some (.val (.int u)), some (.val O), some (.val (.int v)), some (.val (.lst N1)), some (.val (.int c)), some (.val (.lst W1)), some (.val (.int s)), x8, none, none]) (by simp; exact hs)).trans ?_
    rw [K4]
    simp [x_comp, l3, l4, k3, k4, dc]
  · obtain ⟨y, hy, rfl⟩ := List.mem_map.mp hz
    exact (bN y hy).fdiv
  · obtain ⟨y, hy, rfl⟩ := List.mem_map.mp hz
    exact (bW y hy).fdiv
  · show s * (N.map fun z => z.fdiv s).getD k 0 = _
    rw [getD_map0 (f := fun z => z.fdiv s) (by simp), ← gN]
    by_cases hk : k < N.length
    · have : N.getD k 0 ∈ N ++ W ++ [c] := by simp [hk]
      exact fdiv_exact (sd _ this)
    · simp [hk]
  · exact (fdiv_exact (sd c (by simp))).trans hc.symm
  · show s * (W.map fun z => z.fdiv s).getD k 0 = _
    rw [getD_map0 (f := fun z => z.fdiv s) (by simp), ← gW]
    by_cases hk : k < W.length
    · have : W.getD k 0 ∈ N ++ W ++ [c] := by simp [hk]
      exact fdiv_exact (sd _ this)
    · simp [hk]

noncomputable def c_with_weights_1 : BEnv → Res D := Classical.choose (⟨(eCall intD (aCons (e2 eqD (eVar 2) (eVar 4)) aNil)), rfl⟩ : ∃ y : BEnv → Res D, y = (eCall intD (aCons (e2 eqD (eVar 2) (eVar 4)) aNil)))
theorem c_with_weights_1_eq : c_with_weights_1 = (eCall intD (aCons (e2 eqD (eVar 2) (eVar 4)) aNil)) := Classical.choose_spec (⟨(eCall intD (aCons (e2 eqD (eVar 2) (eVar 4)) aNil)), rfl⟩ : ∃ y : BEnv → Res D, y = (eCall intD (aCons (e2 eqD (eVar 2) (eVar 4)) aNil)))
noncomputable def b_with_weights_1 : PL.Env → Res Fl := Classical.choose (⟨(sApp 1 (eTup (aCons (eCall tupleD (aCons (e2 ixD (eVar 3) (eC (.int 0))) aNil)) (aCons (e2 ixD (eVar 3) (eC (.int 1))) (aCons (e2 ixD (eVar 3) (eC (.int 2))) (aCons (eCall tupleD (aCons (lstD (oComp [4] (iRng1 (aCons (eCall lenD (aCons (eVar 0) aNil)) aNil)) (pName 4) cTrue c_with_weights_1)) aNil)) aNil)))))), rfl⟩ : ∃ y : PL.Env → Res Fl, y = (sApp 1 (eTup (aCons (eCall tupleD (aCons (e2 ixD (eVar 3) (eC (.int 0))) aNil)) (aCons (e2 ixD (eVar 3) (eC (.int 1))) (aCons (e2 ixD (eVar 3) (eC (.int 2))) (aCons (eCall tupleD (aCons (lstD (oComp [4] (iRng1 (aCons (eCall lenD (aCons (eVar 0) aNil)) aNil)) (pName 4) cTrue c_with_weights_1)) aNil)) aNil)))))))
theorem b_with_weights_1_eq : b_with_weights_1 = (sApp 1 (eTup (aCons (eCall tupleD (aCons (e2 ixD (eVar 3) (eC (.int 0))) aNil)) (aCons (e2 ixD (eVar 3) (eC (.int 1))) (aCons (e2 ixD (eVar 3) (eC (.int 2))) (aCons (eCall tupleD (aCons (lstD (oComp [4] (iRng1 (aCons (eCall lenD (aCons (eVar 0) aNil)) aNil)) (pName 4) cTrue c_with_weights_1)) aNil)) aNil)))))) := Classical.choose_spec (⟨(sApp 1 (eTup (aCons (eCall tupleD (aCons (e2 ixD (eVar 3) (eC (.int 0))) aNil)) (aCons (e2 ixD (eVar 3) (eC (.int 1))) (aCons (e2 ixD (eVar 3) (eC (.int 2))) (aCons (eCall tupleD (aCons (lstD (oComp [4] (iRng1 (aCons (eCall lenD (aCons (eVar 0) aNil)) aNil)) (pName 4) cTrue c_with_weights_1)) aNil)) aNil)))))), rfl⟩ : ∃ y : PL.Env → Res Fl, y = (sApp 1 (eTup (aCons (eCall tupleD (aCons (e2 ixD (eVar 3) (eC (.int 0))) aNil)) (aCons (e2 ixD (eVar 3) (eC (.int 1))) (aCons (e2 ixD (eVar 3) (eC (.int 2))) (aCons (eCall tupleD (aCons (lstD (oComp [4] (iRng1 (aCons (eCall lenD (aCons (eVar 0) aNil)) aNil)) (pName 4) cTrue c_with_weights_1)) aNil)) aNil)))))))
noncomputable def s_with_weights : PL.Env → Res Fl := (sSeq (sOwn 1 (oLst aNil))
    (sSeq (sFor (enum1D (aCons (eVar 0) aNil)) (pTup (pCons (pName 2) (pCons (pName 3) pNil))) b_with_weights_1)
    (sRetV 1)))
noncomputable def d_with_weights : List D → Res Cell := Classical.choose (⟨runB 5 1 s_with_weights, rfl⟩ : ∃ y : List D → Res Cell, y = runB 5 1 s_with_weights)
theorem d_with_weights_eq : d_with_weights = runB 5 1 s_with_weights := Classical.choose_spec (⟨runB 5 1 s_with_weights, rfl⟩ : ∃ y : List D → Res Cell, y = runB 5 1 s_with_weights)
theorem v_with_weights {R : List Raw} (h : R.length ≤ 100) : d_with_weights [.lst (R.map rawD)] = .ok (.own ((startL R).map rowD)) := by
  have lR : (R.map rawD).length = R.length := by simp
  have lS : (startL R).length = R.length := by simp [startL]
  obtain ⟨env', hfor, x2, x3, rfl⟩ := for_inv (p := pTup (pCons (pName 2) (pCons (pName 3) pNil))) (s := b_with_weights_1) (fun i env => ∃ x2 x3 : Option Cell, env = [some (.val (.lst (R.map rawD))), some (.own (((startL R).take i).map rowD)), x2, x3, none]) (enumD (R.map rawD)) [some (.val (.lst (R.map rawD))), some (.own []), none, none, none] 0 ⟨none, none, rfl⟩ (by
    rintro i hi env ⟨x2, x3, rfl⟩
    rw [enum_len, lR] at hi
    have e : (enumD (R.map rawD))[i]'(by rw [enum_len, lR]; exact hi) = .tup [.int i, rawD R[i]] := by simp [enumD]
    have hs : (startL R).take (0 + i + 1) = (startL R).take (0 + i) ++ [⟨R[i].1, R[i].2.1, R[i].2.2, unitL R.length i⟩] := by
      rw [Nat.zero_add, List.take_succ_eq_append_getElem (by rw [lS]; exact hi)]
      simp [startL]
    have la : (((startL R).take (0 + i)).map rowD).length < 1000000 := by simp; omega
    rw [e, hs, List.map_append]
    have kc := comp_map (dec := fun j : Nat => D.int (0 + (j : Int))) (enc := D.int) (p := pName 4) (f := c_with_weights_1) (env := [some (.lst (R.map rawD)), none, some (.int i), some (rawD R[i]), none]) (fun j => if i = j then 1 else 0) (List.range R.length) (fun j hj => ⟨[(4, .int (0 + (j : Int)))], rfl, by
      generalize R.map rawD = T at *
      by_cases q : i = j
      · subst q
        simp [c_with_weights_1_eq]
      · have q' : ¬ (i : Int) = (j : Int) := by omega
        simp [c_with_weights_1_eq, q, q']⟩)
    have e3 : (List.range R.length).map (fun j : Nat => D.int (0 + (j : Int))) = rngD 0 R.length := rfl
    rw [e3] at kc
    have rc := x_rng1N (n := R.length) (by omega)
    have lg : (rngD 0 R.length).length ≤ 1000000 := by simp; omega
    refine ⟨[(2, .int i), (3, rawD R[i])], _, rfl, .inl ?_, some (.val (.int i)), some (.val (rawD R[i])), rfl⟩
    have er : rowD ⟨R[i].1, R[i].2.1, R[i].2.2, unitL R.length i⟩ = .tup [.tup (R[i].1.map D.int), .int R[i].2.1, .str (kS R[i].2.2), .tup ((unitL R.length i).map D.int)] := rfl
    have eu : ((List.range R.length).map fun j => if i = j then (1 : Int) else 0) = unitL R.length i := rfl
    rw [eu] at kc
    rw [List.map_singleton, er]
    have ew : rawD R[i] = .tup [.tup (R[i].1.map D.int), .int R[i].2.1, .str (kS R[i].2.2)] := rfl
    have x0 : ixD (rawD R[i]) (.int 0) = .ok (.tup (R[i].1.map D.int)) := by rw [ew]; simp
    have x1 : ixD (rawD R[i]) (.int 1) = .ok (.int R[i].2.1) := by rw [ew]; simp
    have x2' : ixD (rawD R[i]) (.int 2) = .ok (.str (kS R[i].2.2)) := by rw [ew]; simp
    clear er eu hs e ew
    generalize ((startL R).take (0 + i)).map rowD = F at *
    generalize rawD R[i] = W at *
    generalize (R[i].1.map D.int) = N at *
    generalize R[i].2.1 = C at *
    generalize kS R[i].2.2 = k at *
    generalize (unitL R.length i).map D.int = U at *
    generalize rngD 0 R.length = G at *
    generalize hw : ((R.length : Nat) : Int) = w at *
    generalize R.map rawD = T at *
    simp [b_with_weights_1_eq, x_comp, x0, x1, x2', lR, hw, rc, lg, kc, la])
  rw [Nat.zero_add, List.take_of_length_le (by rw [enum_len, lR, lS]; exact Nat.le_refl _)] at hfor
  have eo : eqOks 59 ([] : List D) = true := by simp
  generalize (startL R).map rowD = S at *
  generalize R.map rawD = T at *
  simp [d_with_weights_eq, s_with_weights, start_eq, hfor]

noncomputable def b_equal_row_1 : PL.Env → Res Fl := Classical.choose (⟨(sIf (tAndD (tst (e2 eqD (e2 ixD (eVar 3) (eC (.int 2))) (eC (.str "=")))) (tst (e2 neD (e2 ixD (e2 ixD (eVar 3) (eC (.int 0))) (eVar 1)) (eC (.int 0))))) (sRet (eVar 2)) sNil), rfl⟩ : ∃ y : PL.Env → Res Fl, y = (sIf (tAndD (tst (e2 eqD (e2 ixD (eVar 3) (eC (.int 2))) (eC (.str "=")))) (tst (e2 neD (e2 ixD (e2 ixD (eVar 3) (eC (.int 0))) (eVar 1)) (eC (.int 0))))) (sRet (eVar 2)) sNil))
theorem b_equal_row_1_eq : b_equal_row_1 = (sIf (tAndD (tst (e2 eqD (e2 ixD (eVar 3) (eC (.int 2))) (eC (.str "=")))) (tst (e2 neD (e2 ixD (e2 ixD (eVar 3) (eC (.int 0))) (eVar 1)) (eC (.int 0))))) (sRet (eVar 2)) sNil) := Classical.choose_spec (⟨(sIf (tAndD (tst (e2 eqD (e2 ixD (eVar 3) (eC (.int 2))) (eC (.str "=")))) (tst (e2 neD (e2 ixD (e2 ixD (eVar 3) (eC (.int 0))) (eVar 1)) (eC (.int 0))))) (sRet (eVar 2)) sNil), rfl⟩ : ∃ y : PL.Env → Res Fl, y = (sIf (tAndD (tst (e2 eqD (e2 ixD (eVar 3) (eC (.int 2))) (eC (.str "=")))) (tst (e2 neD (e2 ixD (e2 ixD (eVar 3) (eC (.int 0))) (eVar 1)) (eC (.int 0))))) (sRet (eVar 2)) sNil))
noncomputable def s_equal_row : PL.Env → Res Fl := (sSeq (sFor (enum1D (aCons (eVar 0) aNil)) (pTup (pCons (pName 2) (pCons (pName 3) pNil))) b_equal_row_1)
    (sRet (eC .non)))
noncomputable def d_equal_row : List D → Res Cell := Classical.choose (⟨runB 4 2 s_equal_row, rfl⟩ : ∃ y : List D → Res Cell, y = runB 4 2 s_equal_row)
theorem d_equal_row_eq : d_equal_row = runB 4 2 s_equal_row := Classical.choose_spec (⟨runB 4 2 s_equal_row, rfl⟩ : ∃ y : List D → Res Cell, y = runB 4 2 s_equal_row)
theorem v_equal_row {n v : Nat} {L : List Row} (hv : v < n) (hL : ∀ r ∈ L, r.nums.length = n) :
    (d_equal_row [.lst (L.map rowD), .int v] = .ok (.val .non) ∧ ∀ r ∈ L, ¬ (r.kd = .eq ∧ r.n v ≠ 0)) ∨ ∃ (i : Nat) (h : i < L.length), d_equal_row [.lst (L.map rowD), .int v] = .ok (.val (.int i)) ∧ L[i].kd = .eq ∧ L[i].n v ≠ 0 := by
  have hc : ∀ i (h : i < L.length), (((L[i]?).map fun r => decide (r.kd = .eq ∧ r.n v ≠ 0)).getD false) = decide (L[i].kd = .eq ∧ L[i].n v ≠ 0) := fun i h => by simp [h]
  have lT : (enumD (L.map rowD)).length = L.length := by simp
  have hf := for_find (p := pTup (pCons (pName 2) (pCons (pName 3) pNil))) (s := b_equal_row_1) (fun i => ((L[i]?).map fun r => decide (r.kd = .eq ∧ r.n v ≠ 0)).getD false) (fun i => .val (.int i)) (fun env => ∃ x2 x3 : Option Cell, env = [some (.val (.lst (L.map rowD))), some (.val (.int v)), x2, x3]) (enumD (L.map rowD)) [some (.val (.lst (L.map rowD))), some (.val (.int v)), none, none] 0 ⟨none, none, rfl⟩ (by
    rintro i hi env ⟨x2, x3, rfl⟩
    rw [lT] at hi
    have e : (enumD (L.map rowD))[i]'(by rw [lT]; exact hi) = .tup [.int i, rowD L[i]] := by simp [enumD]
    rw [e, Nat.zero_add, hc i hi]
    refine ⟨[(2, .int i), (3, rowD L[i])], rfl, ?_⟩
    have hn := hL L[i] (List.getElem_mem hi)
    have a := at_getD (l := L[i].nums) (k := v) (by rw [hn]; exact hv)
    have ew : rowD L[i] = .tup [.tup (L[i].nums.map D.int), .int L[i].c, .str (kS L[i].kd), .tup (L[i].ws.map D.int)] := rfl
    have x0 : ixD (rowD L[i]) (.int 0) = .ok (.tup (L[i].nums.map D.int)) := by rw [ew]; simp
    have x2' : ixD (rowD L[i]) (.int 2) = .ok (.str (kS L[i].kd)) := by rw [ew]; simp
    have ke := kS_eq L[i].kd
    have hz : L[i].nums.getD v 0 = L[i].n v := rfl
    rw [hz] at a
    clear hz ew e hn hc
    generalize rowD L[i] = W at *
    generalize (L[i].nums.map D.int) = N at *
    generalize L[i].n v = z at *
    generalize L[i].kd = k at *
    generalize L.map rowD = T at *
    generalize (v : Int) = v' at *
    generalize (i : Int) = i' at *
    by_cases h1 : k = .eq
    · by_cases h2 : z = 0
      · left
        subst h1 h2
        refine ⟨by simp, [some (.val (.lst T)), some (.val (.int v')), some (.val (.int i')), some (.val W)], ?_, some (.val (.int i')), some (.val W), rfl⟩
        simp [b_equal_row_1_eq, x0, x2', ke, a]
      · right
        subst h1
        refine ⟨by simp [h2], ?_⟩
        simp [b_equal_row_1_eq, x0, x2', ke, a, h2]
    · left
      refine ⟨by simp [h1], [some (.val (.lst T)), some (.val (.int v')), some (.val (.int i')), some (.val W)], ?_, some (.val (.int i')), some (.val W), rfl⟩
      simp [b_equal_row_1_eq, x0, x2', ke, a, h1])
  rw [lT] at hf
  rcases hf with ⟨env', hfor, ⟨x2, x3, rfl⟩, h⟩ | ⟨i, hi, hfor, h⟩
  · left
    refine ⟨?_, fun r hr => ?_⟩
    · generalize L.map rowD = T at *
      generalize (v : Int) = v' at *
      simp [d_equal_row_eq, s_equal_row, start_eq, hfor]
    · obtain ⟨i, hi, rfl⟩ := List.getElem_of_mem hr
      have := h i hi
      rw [Nat.zero_add, hc i hi] at this
      exact of_decide_eq_false this
  · right
    rw [Nat.zero_add] at h hfor
    rw [hc i hi] at h
    refine ⟨i, hi, ?_, of_decide_eq_true h⟩
    generalize L.map rowD = T at *
    generalize (v : Int) = v' at *
    generalize (i : Int) = i' at *
    simp [d_equal_row_eq, s_equal_row, start_eq, hfor]

noncomputable def b_without_by_equal_1 : PL.Env → Res Fl := Classical.choose (⟨(sIf (tst (e2 eqD (e2 ixD (e2 ixD (eVar 5) (eC (.int 0))) (eVar 2)) (eC (.int 0)))) (sApp 4 (eVar 5)) (sSeq (sSet 6 (e1 negD (e2 ixD (e2 ixD (eVar 5) (eC (.int 0))) (eVar 2))))
    (sSeq (sIf (tst (e2 ltD (e2 ixD (e2 ixD (eVar 3) (eC (.int 0))) (eVar 2)) (eC (.int 0)))) (sSet 6 (e2 ixD (e2 ixD (eVar 5) (eC (.int 0))) (eVar 2))) sNil)
    (sSeq (sUnp (pTup (pCons (pName 7) (pCons (pName 8) (pCons (pName 9) pNil)))) (eFn d_mixed (aCons (eVar 5) (aCons (eCall absD (aCons (e2 ixD (e2 ixD (eVar 3) (eC (.int 0))) (eVar 2)) aNil)) (aCons (eVar 3) (aCons (eVar 6) aNil))))))
    (sApp 4 (eTup (aCons (eVar 7) (aCons (eVar 8) (aCons (e2 ixD (eVar 5) (eC (.int 2))) (aCons (eVar 9) aNil)))))))))), rfl⟩ : ∃ y : PL.Env → Res Fl, y = (sIf (tst (e2 eqD (e2 ixD (e2 ixD (eVar 5) (eC (.int 0))) (eVar 2)) (eC (.int 0)))) (sApp 4 (eVar 5)) (sSeq (sSet 6 (e1 negD (e2 ixD (e2 ixD (eVar 5) (eC (.int 0))) (eVar 2))))
    (sSeq (sIf (tst (e2 ltD (e2 ixD (e2 ixD (eVar 3) (eC (.int 0))) (eVar 2)) (eC (.int 0)))) (sSet 6 (e2 ixD (e2 ixD (eVar 5) (eC (.int 0))) (eVar 2))) sNil)
    (sSeq (sUnp (pTup (pCons (pName 7) (pCons (pName 8) (pCons (pName 9) pNil)))) (eFn d_mixed (aCons (eVar 5) (aCons (eCall absD (aCons (e2 ixD (e2 ixD (eVar 3) (eC (.int 0))) (eVar 2)) aNil)) (aCons (eVar 3) (aCons (eVar 6) aNil))))))
    (sApp 4 (eTup (aCons (eVar 7) (aCons (eVar 8) (aCons (e2 ixD (eVar 5) (eC (.int 2))) (aCons (eVar 9) aNil)))))))))))
theorem b_without_by_equal_1_eq : b_without_by_equal_1 = (sIf (tst (e2 eqD (e2 ixD (e2 ixD (eVar 5) (eC (.int 0))) (eVar 2)) (eC (.int 0)))) (sApp 4 (eVar 5)) (sSeq (sSet 6 (e1 negD (e2 ixD (e2 ixD (eVar 5) (eC (.int 0))) (eVar 2))))
    (sSeq (sIf (tst (e2 ltD (e2 ixD (e2 ixD (eVar 3) (eC (.int 0))) (eVar 2)) (eC (.int 0)))) (sSet 6 (e2 ixD (e2 ixD (eVar 5) (eC (.int 0))) (eVar 2))) sNil)
    (sSeq (sUnp (pTup (pCons (pName 7) (pCons (pName 8) (pCons (pName 9) pNil)))) (eFn d_mixed (aCons (eVar 5) (aCons (eCall absD (aCons (e2 ixD (e2 ixD (eVar 3) (eC (.int 0))) (eVar 2)) aNil)) (aCons (eVar 3) (aCons (eVar 6) aNil))))))
    (sApp 4 (eTup (aCons (eVar 7) (aCons (eVar 8) (aCons (e2 ixD (eVar 5) (eC (.int 2))) (aCons (eVar 9) aNil)))))))))) := Classical.choose_spec (⟨(sIf (tst (e2 eqD (e2 ixD (e2 ixD (eVar 5) (eC (.int 0))) (eVar 2)) (eC (.int 0)))) (sApp 4 (eVar 5)) (sSeq (sSet 6 (e1 negD (e2 ixD (e2 ixD (eVar 5) (eC (.int 0))) (eVar 2))))
    (sSeq (sIf (tst (e2 ltD (e2 ixD (e2 ixD (eVar 3) (eC (.int 0))) (eVar 2)) (eC (.int 0)))) (sSet 6 (e2 ixD (e2 ixD (eVar 5) (eC (.int 0))) (eVar 2))) sNil)
    (sSeq (sUnp (pTup (pCons (pName 7) (pCons (pName 8) (pCons (pName 9) pNil)))) (eFn d_mixed (aCons (eVar 5) (aCons (eCall absD (aCons (e2 ixD (e2 ixD (eVar 3) (eC (.int 0))) (eVar 2)) aNil)) (aCons (eVar 3) (aCons (eVar 6) aNil))))))
    (sApp 4 (eTup (aCons (eVar 7) (aCons (eVar 8) (aCons (e2 ixD (eVar 5) (eC (.int 2))) (aCons (eVar 9) aNil)))))))))), rfl⟩ : ∃ y : PL.Env → Res Fl, y = (sIf (tst (e2 eqD (e2 ixD (e2 ixD (eVar 5) (eC (.int 0))) (eVar 2)) (eC (.int 0)))) (sApp 4 (eVar 5)) (sSeq (sSet 6 (e1 negD (e2 ixD (e2 ixD (eVar 5) (eC (.int 0))) (eVar 2))))
    (sSeq (sIf (tst (e2 ltD (e2 ixD (e2 ixD (eVar 3) (eC (.int 0))) (eVar 2)) (eC (.int 0)))) (sSet 6 (e2 ixD (e2 ixD (eVar 5) (eC (.int 0))) (eVar 2))) sNil)
    (sSeq (sUnp (pTup (pCons (pName 7) (pCons (pName 8) (pCons (pName 9) pNil)))) (eFn d_mixed (aCons (eVar 5) (aCons (eCall absD (aCons (e2 ixD (e2 ixD (eVar 3) (eC (.int 0))) (eVar 2)) aNil)) (aCons (eVar 3) (aCons (eVar 6) aNil))))))
    (sApp 4 (eTup (aCons (eVar 7) (aCons (eVar 8) (aCons (e2 ixD (eVar 5) (eC (.int 2))) (aCons (eVar 9) aNil)))))))))))
noncomputable def s_without_by_equal : PL.Env → Res Fl := (sSeq (sSet 3 (e2 ixD (eVar 0) (eVar 1)))
    (sSeq (sOwn 4 (oLst aNil))
    (sSeq (sFor (iSeq (e2 addD (eSl (eVar 0) oNo (oSome (eVar 1))) (eSl (eVar 0) (oSome (e2 addD (eVar 1) (eC (.int 1)))) oNo))) (pName 5) b_without_by_equal_1)
    (sRetV 4))))
noncomputable def d_without_by_equal : List D → Res Cell := Classical.choose (⟨runB 10 3 s_without_by_equal, rfl⟩ : ∃ y : List D → Res Cell, y = runB 10 3 s_without_by_equal)
theorem d_without_by_equal_eq : d_without_by_equal = runB 10 3 s_without_by_equal := Classical.choose_spec (⟨runB 10 3 s_without_by_equal, rfl⟩ : ∃ y : List D → Res Cell, y = runB 10 3 s_without_by_equal)
theorem v_wbe {b n m k v : Nat} {L : List Row} (hk : k < L.length) (hv : v < n) (h0 : L[k].n v ≠ 0) (hL : ∀ r ∈ L, RB b n m r) (n8 : n ≤ 100) (m8 : m ≤ 100) (hb : 2 * b + 1 ≤ 13000) (hN : L.length ≤ 999999) :
    ∃ L' : List Row, d_without_by_equal [.lst (L.map rowD), .int k, .int v] = .ok (.own (L'.map rowD)) ∧ L'.length ≤ L.length ∧ (∀ r' ∈ L', RB (2 * b + 1) n m r') ∧ (∀ r ∈ L, r = L[k] ∨ ∃ r' ∈ L', Wb L[k] v r r') ∧ ∀ r' ∈ L', ∃ r ∈ L, Wb L[k] v r r' := by
  obtain ⟨own, how⟩ : ∃ own, L[k] = own := ⟨_, rfl⟩
  have ho : own ∈ L := how ▸ List.getElem_mem hk
  rw [how] at h0 ⊢
  have bo := hL own ho
  obtain ⟨L0, hL0⟩ : ∃ L0, L.take k ++ L.drop (k + 1) = L0 := ⟨_, rfl⟩
  have sub : ∀ r ∈ L0, r ∈ L := fun r hr => by
    rw [← hL0] at hr
    rcases List.mem_append.mp hr with q | q
    · exact List.mem_of_mem_take q
    · exact List.mem_of_mem_drop q
  have len0 : L0.length + 1 = L.length := by rw [← hL0]; simp; omega
  have all : ∀ r ∈ L, r = own ∨ r ∈ L0 := fun r hr => by
    obtain ⟨i, hi, rfl⟩ := List.getElem_of_mem hr
    rcases Nat.lt_trichotomy i k with q | q | q
    · right
      rw [← hL0]
      exact List.mem_append.mpr (.inl (List.mem_take_iff_getElem.mpr ⟨i, by omega, rfl⟩))
    · subst q; exact .inl how
    · right
      rw [← hL0]
      refine List.mem_append.mpr (.inr (List.mem_drop_iff_getElem.mpr ⟨i - (k + 1), by omega, ?_⟩))
      congr 1
      omega
  have ao := bo.at_n hv
  have xo : ixD (rowD own) (.int 0) = .ok (.tup (own.nums.map D.int)) := by unfold rowD; simp
  obtain ⟨Gs, env', hfor, ⟨x5, x6, x7, x8, x9, rfl⟩, hF, hlen⟩ := for_grows (dec := rowD) (p := pName 5) (s := b_without_by_equal_1) (w := 1) (N := 999999) (fun r ys => ∃ r', ys = [r'] ∧ Wb own v r r' ∧ RB (2 * b + 1) n m r') (fun F env => ∃ x5 x6 x7 x8 x9 : Option Cell, env = [some (.val (.lst (L.map rowD))), some (.val (.int k)), some (.val (.int v)), some (.val (rowD own)), some (.own (F.map rowD)), x5, x6, x7, x8, x9]) L0 [] [some (.val (.lst (L.map rowD))), some (.val (.int k)), some (.val (.int v)), some (.val (rowD own)), some (.own []), none, none, none, none, none] ⟨none, none, none, none, none, rfl⟩ (by simp; omega) (by
    rintro r hr F env ⟨x5, x6, x7, x8, x9, rfl⟩ hN'
    have br := hL r (sub r hr)
    have ar := br.at_n hv
    have xr : ixD (rowD r) (.int 0) = .ok (.tup (r.nums.map D.int)) := by unfold rowD; simp
    have xr2 : ixD (rowD r) (.int 2) = .ok (.str (kS r.kd)) := by unfold rowD; simp
    have la : (F.map rowD).length < 1000000 := by simp; omega
    by_cases hz : r.n v = 0
    · refine ⟨[r], [(5, rowD r)], _, rfl, ?_, by simp, ⟨r, rfl, ⟨hz, rfl, .inl rfl⟩, br.mono (by omega)⟩, some (.val (rowD r)), x6, x7, x8, x9, rfl⟩
      rw [List.map_append, List.map_singleton]
      rw [hz] at ar
      generalize L.map rowD = T at *
      generalize F.map rowD = F' at *
      generalize rowD r = Rr at *
      generalize rowD own = O at *
      generalize r.nums.map D.int = N at *
      generalize (k : Int) = k' at *
      generalize (v : Int) = v' at *
      simp [b_without_by_equal_1_eq, xr, ar, la]
    · -- mixed
      obtain ⟨t, ht, bt⟩ : ∃ t, (if own.n v < 0 then r.n v else -(r.n v)) = t ∧ Bd b t := ⟨_, rfl, by
        split
        · exact br.bnk v
        · exact (br.bnk v).neg⟩
      have bu : Bd b ((own.n v).natAbs : Int) := by have := bo.bnk v; unfold Bd at *; simpa using this
      have eu : (if own.n v < 0 then -(own.n v) else own.n v) = ((own.n v).natAbs : Int) := by omega
      obtain ⟨ns, c, ws, hm, hx⟩ := v_mixed br bo bu bt n8 m8 hb
      obtain ⟨b1, mx⟩ := hx r.kd
      have z1 : Row.n ⟨ns, c, r.kd, ws⟩ v = 0 := by
        obtain ⟨s, s0, hn, _⟩ := mx.ex
        have e := hn v
        have : ((own.n v).natAbs : Int) * r.n v + t * own.n v = 0 := by
          rw [← ht, ← eu]
          split
          · rename_i q; grind
          · rename_i q; grind
        rw [this] at e
        rcases Int.mul_eq_zero.mp e with q | q
        · omega
        · exact q
      refine ⟨[⟨ns, c, r.kd, ws⟩], [(5, rowD r)], [some (.val (.lst (L.map rowD))), some (.val (.int k)), some (.val (.int v)), some (.val (rowD own)), some (.own ((F ++ [(⟨ns, c, r.kd, ws⟩ : Row)]).map rowD)), some (.val (rowD r)), some (.val (.int t)), some (.val (.tup (ns.map D.int))), some (.val (.int c)), some (.val (.tup (ws.map D.int)))], rfl, ?_, by simp, ⟨_, rfl, ⟨z1, rfl, .inr ⟨((own.n v).natAbs : Int), t, by omega, mx⟩⟩, b1⟩, some (.val (rowD r)), some (.val (.int t)), some (.val (.tup (ns.map D.int))), some (.val (.int c)), some (.val (.tup (ws.map D.int))), rfl⟩
      have er : rowD ⟨ns, c, r.kd, ws⟩ = .tup [.tup (ns.map D.int), .int c, .str (kS r.kd), .tup (ws.map D.int)] := rfl
      rw [List.map_append, List.map_singleton, er]
      clear er hx mx b1 z1
      generalize L.map rowD = T at *
      generalize F.map rowD = F' at *
      generalize rowD r = Rr at *
      generalize rowD own = O at *
      generalize r.nums.map D.int = N at *
      generalize own.nums.map D.int = N2 at *
      generalize ns.map D.int = N3 at *
      generalize ws.map D.int = N4 at *
      generalize kS r.kd = kk at *
      generalize (k : Int) = k' at *
      generalize (v : Int) = v' at *
      generalize ((own.n v).natAbs : Int) = u at *
      generalize own.n v = ov at *
      generalize r.n v = rv at *
      by_cases q : ov < 0
      · rw [if_pos q] at ht
        subst ht
        simp [b_without_by_equal_1_eq, xr, xr2, ar, la, hz, xo, ao, q]
        simp [q] at eu
        rw [eu]
        simp [hm, la, xr2]
      · rw [if_neg q] at ht
        subst ht
        simp [b_without_by_equal_1_eq, xr, xr2, ar, la, hz, xo, ao, q]
        simp [q] at eu
        rw [eu]
        simp [hm, la, xr2])
  rw [List.nil_append] at hfor
  refine ⟨Gs.flatten, ?_, by omega, fun r' hr' => ?_, fun r hr => ?_, fun r' hr' => ?_⟩
  · have s1 : cutL (L.map rowD) none (some (k : Int)) = (L.take k).map rowD := by rw [cutL_to, List.map_take]
    have s2 : cutL (L.map rowD) (some ((k : Int) + 1)) none = (L.drop (k + 1)).map rowD := by
      have e : ((k : Int) + 1) = ((k + 1 : Nat) : Int) := by omega
      rw [e, cutL_from, List.map_drop]
    have ak : atD (L.map rowD) (k : Int) = .ok (rowD own) := by rw [at_map hk, how]
    have l1 : ((L.take k).map rowD).length + ((L.drop (k + 1)).map rowD).length ≤ 1000000 := by simp; omega
    rw [← hL0, List.map_append] at hfor
    generalize (L.take k).map rowD = T1 at *
    generalize (L.drop (k + 1)).map rowD = T2 at *
    generalize L.map rowD = T at *
    generalize Gs.flatten.map rowD = G at *
    generalize rowD own = O at *
    generalize (k : Int) = k' at *
    generalize (v : Int) = v' at *
    simp [-cutL_to, -cutL_from, d_without_by_equal_eq, s_without_by_equal, start_eq, ak, s1, s2, l1, hfor]
  · obtain ⟨ys, hy, hr2⟩ := List.mem_flatten.mp hr'
    obtain ⟨r, h1, r2, e, h2, h3⟩ := hF.right ys hy
    subst e
    rw [List.mem_singleton.mp hr2]
    exact h3
  · rcases all r hr with e | e
    · exact .inl e
    · right
      obtain ⟨ys, hy, r2, e2, h2, h3⟩ := hF.left r e
      subst e2
      exact ⟨r2, List.mem_flatten.mpr ⟨_, hy, List.mem_singleton.mpr rfl⟩, h2⟩
  · obtain ⟨ys, hy, hr2⟩ := List.mem_flatten.mp hr'
    obtain ⟨r, h1, r2, e, h2, h3⟩ := hF.right ys hy
    subst e
    rw [List.mem_singleton.mp hr2]
    exact ⟨r, sub r h1, h2⟩

noncomputable def c_without_by_pairs_1 : BEnv → Res D := Classical.choose (⟨(eVar 11), rfl⟩ : ∃ y : BEnv → Res D, y = (eVar 11))
theorem c_without_by_pairs_1_eq : c_without_by_pairs_1 = (eVar 11) := Classical.choose_spec (⟨(eVar 11), rfl⟩ : ∃ y : BEnv → Res D, y = (eVar 11))
noncomputable def i_without_by_pairs_1 : BEnv → Res Bool := Classical.choose (⟨(tst (e2 gtD (e2 ixD (e2 ixD (eVar 11) (eC (.int 0))) (eVar 1)) (eC (.int 0)))), rfl⟩ : ∃ y : BEnv → Res Bool, y = (tst (e2 gtD (e2 ixD (e2 ixD (eVar 11) (eC (.int 0))) (eVar 1)) (eC (.int 0)))))
theorem i_without_by_pairs_1_eq : i_without_by_pairs_1 = (tst (e2 gtD (e2 ixD (e2 ixD (eVar 11) (eC (.int 0))) (eVar 1)) (eC (.int 0)))) := Classical.choose_spec (⟨(tst (e2 gtD (e2 ixD (e2 ixD (eVar 11) (eC (.int 0))) (eVar 1)) (eC (.int 0)))), rfl⟩ : ∃ y : BEnv → Res Bool, y = (tst (e2 gtD (e2 ixD (e2 ixD (eVar 11) (eC (.int 0))) (eVar 1)) (eC (.int 0)))))
noncomputable def c_without_by_pairs_2 : BEnv → Res D := Classical.choose (⟨(eVar 11), rfl⟩ : ∃ y : BEnv → Res D, y = (eVar 11))
theorem c_without_by_pairs_2_eq : c_without_by_pairs_2 = (eVar 11) := Classical.choose_spec (⟨(eVar 11), rfl⟩ : ∃ y : BEnv → Res D, y = (eVar 11))
noncomputable def i_without_by_pairs_2 : BEnv → Res Bool := Classical.choose (⟨(tst (e2 ltD (e2 ixD (e2 ixD (eVar 11) (eC (.int 0))) (eVar 1)) (eC (.int 0)))), rfl⟩ : ∃ y : BEnv → Res Bool, y = (tst (e2 ltD (e2 ixD (e2 ixD (eVar 11) (eC (.int 0))) (eVar 1)) (eC (.int 0)))))
theorem i_without_by_pairs_2_eq : i_without_by_pairs_2 = (tst (e2 ltD (e2 ixD (e2 ixD (eVar 11) (eC (.int 0))) (eVar 1)) (eC (.int 0)))) := Classical.choose_spec (⟨(tst (e2 ltD (e2 ixD (e2 ixD (eVar 11) (eC (.int 0))) (eVar 1)) (eC (.int 0)))), rfl⟩ : ∃ y : BEnv → Res Bool, y = (tst (e2 ltD (e2 ixD (e2 ixD (eVar 11) (eC (.int 0))) (eVar 1)) (eC (.int 0)))))
noncomputable def c_without_by_pairs_3 : BEnv → Res D := Classical.choose (⟨(eVar 11), rfl⟩ : ∃ y : BEnv → Res D, y = (eVar 11))
theorem c_without_by_pairs_3_eq : c_without_by_pairs_3 = (eVar 11) := Classical.choose_spec (⟨(eVar 11), rfl⟩ : ∃ y : BEnv → Res D, y = (eVar 11))
noncomputable def i_without_by_pairs_3 : BEnv → Res Bool := Classical.choose (⟨(tst (e2 eqD (e2 ixD (e2 ixD (eVar 11) (eC (.int 0))) (eVar 1)) (eC (.int 0)))), rfl⟩ : ∃ y : BEnv → Res Bool, y = (tst (e2 eqD (e2 ixD (e2 ixD (eVar 11) (eC (.int 0))) (eVar 1)) (eC (.int 0)))))
theorem i_without_by_pairs_3_eq : i_without_by_pairs_3 = (tst (e2 eqD (e2 ixD (e2 ixD (eVar 11) (eC (.int 0))) (eVar 1)) (eC (.int 0)))) := Classical.choose_spec (⟨(tst (e2 eqD (e2 ixD (e2 ixD (eVar 11) (eC (.int 0))) (eVar 1)) (eC (.int 0)))), rfl⟩ : ∃ y : BEnv → Res Bool, y = (tst (e2 eqD (e2 ixD (e2 ixD (eVar 11) (eC (.int 0))) (eVar 1)) (eC (.int 0)))))
noncomputable def b_without_by_pairs_1 : PL.Env → Res Fl := Classical.choose (⟨(sSeq (sUnp (pTup (pCons (pName 7) (pCons (pName 8) (pCons (pName 9) pNil)))) (eFn d_mixed (aCons (eVar 5) (aCons (e1 negD (e2 ixD (e2 ixD (eVar 6) (eC (.int 0))) (eVar 1))) (aCons (eVar 6) (aCons (e2 ixD (e2 ixD (eVar 5) (eC (.int 0))) (eVar 1)) aNil))))))
    (sSeq (sSet 10 (eC (.str ">=")))
    (sSeq (sIf (tst (e2 inDT (eC (.str ">")) (eTup (aCons (e2 ixD (eVar 5) (eC (.int 2))) (aCons (e2 ixD (eVar 6) (eC (.int 2))) aNil))))) (sSet 10 (eC (.str ">"))) sNil)
    (sApp 4 (eTup (aCons (eVar 7) (aCons (eVar 8) (aCons (eVar 10) (aCons (eVar 9) aNil))))))))), rfl⟩ : ∃ y : PL.Env → Res Fl, y = (sSeq (sUnp (pTup (pCons (pName 7) (pCons (pName 8) (pCons (pName 9) pNil)))) (eFn d_mixed (aCons (eVar 5) (aCons (e1 negD (e2 ixD (e2 ixD (eVar 6) (eC (.int 0))) (eVar 1))) (aCons (eVar 6) (aCons (e2 ixD (e2 ixD (eVar 5) (eC (.int 0))) (eVar 1)) aNil))))))
    (sSeq (sSet 10 (eC (.str ">=")))
    (sSeq (sIf (tst (e2 inDT (eC (.str ">")) (eTup (aCons (e2 ixD (eVar 5) (eC (.int 2))) (aCons (e2 ixD (eVar 6) (eC (.int 2))) aNil))))) (sSet 10 (eC (.str ">"))) sNil)
    (sApp 4 (eTup (aCons (eVar 7) (aCons (eVar 8) (aCons (eVar 10) (aCons (eVar 9) aNil))))))))))
theorem b_without_by_pairs_1_eq : b_without_by_pairs_1 = (sSeq (sUnp (pTup (pCons (pName 7) (pCons (pName 8) (pCons (pName 9) pNil)))) (eFn d_mixed (aCons (eVar 5) (aCons (e1 negD (e2 ixD (e2 ixD (eVar 6) (eC (.int 0))) (eVar 1))) (aCons (eVar 6) (aCons (e2 ixD (e2 ixD (eVar 5) (eC (.int 0))) (eVar 1)) aNil))))))
    (sSeq (sSet 10 (eC (.str ">=")))
    (sSeq (sIf (tst (e2 inDT (eC (.str ">")) (eTup (aCons (e2 ixD (eVar 5) (eC (.int 2))) (aCons (e2 ixD (eVar 6) (eC (.int 2))) aNil))))) (sSet 10 (eC (.str ">"))) sNil)
    (sApp 4 (eTup (aCons (eVar 7) (aCons (eVar 8) (aCons (eVar 10) (aCons (eVar 9) aNil))))))))) := Classical.choose_spec (⟨(sSeq (sUnp (pTup (pCons (pName 7) (pCons (pName 8) (pCons (pName 9) pNil)))) (eFn d_mixed (aCons (eVar 5) (aCons (e1 negD (e2 ixD (e2 ixD (eVar 6) (eC (.int 0))) (eVar 1))) (aCons (eVar 6) (aCons (e2 ixD (e2 ixD (eVar 5) (eC (.int 0))) (eVar 1)) aNil))))))
    (sSeq (sSet 10 (eC (.str ">=")))
    (sSeq (sIf (tst (e2 inDT (eC (.str ">")) (eTup (aCons (e2 ixD (eVar 5) (eC (.int 2))) (aCons (e2 ixD (eVar 6) (eC (.int 2))) aNil))))) (sSet 10 (eC (.str ">"))) sNil)
    (sApp 4 (eTup (aCons (eVar 7) (aCons (eVar 8) (aCons (eVar 10) (aCons (eVar 9) aNil))))))))), rfl⟩ : ∃ y : PL.Env → Res Fl, y = (sSeq (sUnp (pTup (pCons (pName 7) (pCons (pName 8) (pCons (pName 9) pNil)))) (eFn d_mixed (aCons (eVar 5) (aCons (e1 negD (e2 ixD (e2 ixD (eVar 6) (eC (.int 0))) (eVar 1))) (aCons (eVar 6) (aCons (e2 ixD (e2 ixD (eVar 5) (eC (.int 0))) (eVar 1)) aNil))))))
    (sSeq (sSet 10 (eC (.str ">=")))
    (sSeq (sIf (tst (e2 inDT (eC (.str ">")) (eTup (aCons (e2 ixD (eVar 5) (eC (.int 2))) (aCons (e2 ixD (eVar 6) (eC (.int 2))) aNil))))) (sSet 10 (eC (.str ">"))) sNil)
    (sApp 4 (eTup (aCons (eVar 7) (aCons (eVar 8) (aCons (eVar 10) (aCons (eVar 9) aNil))))))))))
noncomputable def b_without_by_pairs_2 : PL.Env → Res Fl := Classical.choose (⟨(sFor (iSeq (eVar 3)) (pName 6) b_without_by_pairs_1), rfl⟩ : ∃ y : PL.Env → Res Fl, y = (sFor (iSeq (eVar 3)) (pName 6) b_without_by_pairs_1))
theorem b_without_by_pairs_2_eq : b_without_by_pairs_2 = (sFor (iSeq (eVar 3)) (pName 6) b_without_by_pairs_1) := Classical.choose_spec (⟨(sFor (iSeq (eVar 3)) (pName 6) b_without_by_pairs_1), rfl⟩ : ∃ y : PL.Env → Res Fl, y = (sFor (iSeq (eVar 3)) (pName 6) b_without_by_pairs_1))
noncomputable def s_without_by_pairs : PL.Env → Res Fl := (sSeq (sSetL 2 (oComp [11] (iSeq (eVar 0)) (pName 11) i_without_by_pairs_1 c_without_by_pairs_1))
    (sSeq (sSetL 3 (oComp [11] (iSeq (eVar 0)) (pName 11) i_without_by_pairs_2 c_without_by_pairs_2))
    (sSeq (sOwn 4 (oComp [11] (iSeq (eVar 0)) (pName 11) i_without_by_pairs_3 c_without_by_pairs_3))
    (sSeq (sFor (iSeq (eVar 2)) (pName 5) b_without_by_pairs_2)
    (sRetV 4)))))
noncomputable def d_without_by_pairs : List D → Res Cell := Classical.choose (⟨runB 12 2 s_without_by_pairs, rfl⟩ : ∃ y : List D → Res Cell, y = runB 12 2 s_without_by_pairs)
theorem d_without_by_pairs_eq : d_without_by_pairs = runB 12 2 s_without_by_pairs := Classical.choose_spec (⟨runB 12 2 s_without_by_pairs, rfl⟩ : ∃ y : List D → Res Cell, y = runB 12 2 s_without_by_pairs)
theorem four_mul (a b : Nat) : 4 * (a * b) ≤ (a + b) * (a + b) := by
  rcases Nat.le_total a b with h | h
  · obtain ⟨d, rfl⟩ := Nat.exists_eq_add_of_le h
    have : (a + (a + d)) * (a + (a + d)) = 4 * (a * (a + d)) + d * d := by grind
    omega
  · obtain ⟨d, rfl⟩ := Nat.exists_eq_add_of_le h
    have : (b + d + b) * (b + d + b) = 4 * ((b + d) * b) + d * d := by grind
    omega
def grow (N : Nat) : Nat := N * N / 4 + N
theorem filter_two {α : Type} (p q : α → Bool) (h : ∀ x, ¬ (p x = true ∧ q x = true)) : ∀ l : List α, (l.filter p).length + (l.filter q).length ≤ l.length
  | [] => by simp
  | x :: l => by
    have ih := filter_two p q h l
    have hx := h x
    cases hp : p x <;> cases hq : q x <;> simp [hp, hq] <;> first | omega | (exact absurd ⟨hp, hq⟩ hx)
theorem v_wbp {b n m v : Nat} {L : List Row} (hv : v < n) (ne : ∀ r ∈ L, ¬ (r.kd = .eq ∧ r.n v ≠ 0)) (hL : ∀ r ∈ L, RB b n m r) (n8 : n ≤ 100) (m8 : m ≤ 100) (hb : 2 * b + 1 ≤ 13000) (hN : grow L.length ≤ 999999) :
    ∃ L' : List Row, d_without_by_pairs [.lst (L.map rowD), .int v] = .ok (.own (L'.map rowD)) ∧ L'.length ≤ grow L.length ∧ (∀ r' ∈ L', RB (2 * b + 1) n m r') ∧ (∀ r ∈ L, r.n v = 0 → r ∈ L') ∧ (∀ low ∈ L, ∀ high ∈ L, 0 < low.n v → high.n v < 0 → ∃ r' ∈ L', Wp v low high r') ∧
      ∀ r' ∈ L', (r' ∈ L ∧ r'.n v = 0) ∨ ∃ low ∈ L, ∃ high ∈ L, 0 < low.n v ∧ high.n v < 0 ∧ Wp v low high r' := by
  have xr : ∀ r : Row, ixD (rowD r) (.int 0) = .ok (.tup (r.nums.map D.int)) := fun r => by unfold rowD; simp
  have xr2 : ∀ r : Row, ixD (rowD r) (.int 2) = .ok (.str (kS r.kd)) := fun r => by unfold rowD; simp
  have LN : L.length ≤ 999999 := by unfold grow at hN; omega
  have lT : (L.map rowD).length ≤ 1000000 := by simp; omega
  have f1 := comp_filter (dec := rowD) (p := pName 11) (c := i_without_by_pairs_1) (f := c_without_by_pairs_1) (env := [some (.lst (L.map rowD)), some (.int v), none, none, none, none, none, none, none, none, none, none]) (fun r => decide (0 < r.n v)) L (fun r hr => ⟨[(11, rowD r)], rfl, by
    have a := (hL r hr).at_n hv
    have x := xr r
    generalize L.map rowD = T at *
    generalize rowD r = R at *
    generalize r.nums.map D.int = N at *
    generalize (v : Int) = v' at *
    simp [i_without_by_pairs_1_eq, x, a], by
    generalize L.map rowD = T at *
    generalize rowD r = R at *
    simp [c_without_by_pairs_1_eq]⟩)
  have f2 := fun (lo : List D) => comp_filter (dec := rowD) (p := pName 11) (c := i_without_by_pairs_2) (f := c_without_by_pairs_2) (env := [some (.lst (L.map rowD)), some (.int v), some (.lst lo), none, none, none, none, none, none, none, none, none]) (fun r => decide (r.n v < 0)) L (fun r hr => ⟨[(11, rowD r)], rfl, by
    have a := (hL r hr).at_n hv
    have x := xr r
    generalize L.map rowD = T at *
    generalize rowD r = R at *
    generalize r.nums.map D.int = N at *
    generalize (v : Int) = v' at *
    simp [i_without_by_pairs_2_eq, x, a], by
    generalize L.map rowD = T at *
    generalize rowD r = R at *
    simp [c_without_by_pairs_2_eq]⟩)
  have f3 := fun (lo hi : List D) => comp_filter (dec := rowD) (p := pName 11) (c := i_without_by_pairs_3) (f := c_without_by_pairs_3) (env := [some (.lst (L.map rowD)), some (.int v), some (.lst lo), some (.lst hi), none, none, none, none, none, none, none, none]) (fun r => r.n v == 0) L (fun r hr => ⟨[(11, rowD r)], rfl, by
    have a := (hL r hr).at_n hv
    have x := xr r
    generalize L.map rowD = T at *
    generalize rowD r = R at *
    generalize r.nums.map D.int = N at *
    generalize (v : Int) = v' at *
    simp [i_without_by_pairs_3_eq, x, a], by
    generalize L.map rowD = T at *
    generalize rowD r = R at *
    simp [c_without_by_pairs_3_eq]⟩)
  obtain ⟨lo, hlo⟩ : ∃ lo, L.filter (fun r => decide (0 < r.n v)) = lo := ⟨_, rfl⟩
  obtain ⟨hi, hhi⟩ : ∃ hi, L.filter (fun r => decide (r.n v < 0)) = hi := ⟨_, rfl⟩
  obtain ⟨ze, hze⟩ : ∃ ze, L.filter (fun r => r.n v == 0) = ze := ⟨_, rfl⟩
  rw [hlo] at f1
  rw [hhi] at f2
  rw [hze] at f3
  have mlo : ∀ r, r ∈ lo ↔ r ∈ L ∧ 0 < r.n v := fun r => by rw [← hlo]; simp
  have mhi : ∀ r, r ∈ hi ↔ r ∈ L ∧ r.n v < 0 := fun r => by rw [← hhi]; simp
  have mze : ∀ r, r ∈ ze ↔ r ∈ L ∧ r.n v = 0 := fun r => by rw [← hze]; simp
  have lsum : lo.length + hi.length ≤ L.length := by
    rw [← hlo, ← hhi]
    exact filter_two _ _ (fun x h => by simp at h; omega) L
  have lze : ze.length ≤ L.length := by rw [← hze]; exact List.length_filter_le _ _
  have lmul : lo.length * hi.length ≤ L.length * L.length / 4 := by
    have a := four_mul lo.length hi.length
    have b := Nat.mul_le_mul lsum lsum
    omega
  have ltot : ze.length + lo.length * hi.length ≤ grow L.length := by unfold grow; omega
  obtain ⟨Gs, env', hfor, ⟨x5, x6, x7, x8, x9, x10, rfl⟩, hF, hlen⟩ := for_grows (dec := rowD) (p := pName 5) (s := b_without_by_pairs_2) (w := hi.length) (N := 999999) (fun low ys => (∀ high ∈ hi, ∃ r' ∈ ys, Wp v low high r') ∧ ∀ r' ∈ ys, (∃ high ∈ hi, Wp v low high r') ∧ RB (2 * b + 1) n m r') (fun F env => ∃ x5 x6 x7 x8 x9 x10 : Option Cell, env = [some (.val (.lst (L.map rowD))), some (.val (.int v)), some (.val (.lst (lo.map rowD))), some (.val (.lst (hi.map rowD))), some (.own (F.map rowD)), x5, x6, x7, x8, x9, x10, none]) lo ze [some (.val (.lst (L.map rowD))), some (.val (.int v)), some (.val (.lst (lo.map rowD))), some (.val (.lst (hi.map rowD))), some (.own (ze.map rowD)), none, none, none, none, none, none, none] ⟨none, none, none, none, none, none, rfl⟩ (by omega) (by
    rintro low hlow F env ⟨x5, x6, x7, x8, x9, x10, rfl⟩ hN'
    obtain ⟨hl1, hl2⟩ := (mlo low).mp hlow
    have bl := hL low hl1
    have al := bl.at_n hv
    have xl := xr low
    have xl2 := xr2 low
    obtain ⟨Gs, env', hfor, ⟨x6, x7, x8, x9, x10, rfl⟩, hF, hlen⟩ := for_grows (dec := rowD) (p := pName 6) (s := b_without_by_pairs_1) (w := 1) (N := 999999) (fun high ys => ∃ r', ys = [r'] ∧ Wp v low high r' ∧ RB (2 * b + 1) n m r') (fun F env => ∃ x6 x7 x8 x9 x10 : Option Cell, env = [some (.val (.lst (L.map rowD))), some (.val (.int v)), some (.val (.lst (lo.map rowD))), some (.val (.lst (hi.map rowD))), some (.own (F.map rowD)), some (.val (rowD low)), x6, x7, x8, x9, x10, none]) hi F [some (.val (.lst (L.map rowD))), some (.val (.int v)), some (.val (.lst (lo.map rowD))), some (.val (.lst (hi.map rowD))), some (.own (F.map rowD)), some (.val (rowD low)), x6, x7, x8, x9, x10, none] ⟨x6, x7, x8, x9, x10, rfl⟩ (by omega) (by
      rintro high hhigh F env ⟨x6, x7, x8, x9, x10, rfl⟩ hN'
      obtain ⟨hh1, hh2⟩ := (mhi high).mp hhigh
      have bh := hL high hh1
      have ah := bh.at_n hv
      have xh := xr high
      have xh2 := xr2 high
      have la : (F.map rowD).length < 1000000 := by simp; omega
      obtain ⟨ns, c, ws, hm, hx⟩ := v_mixed bl bh (bh.bnk v).neg (bl.bnk v) n8 m8 hb
      obtain ⟨kd, hkd⟩ : ∃ kd : Kd, (if low.kd = .st ∨ high.kd = .st then Kd.st else .lo) = kd := ⟨_, rfl⟩
      obtain ⟨b1, mx⟩ := hx kd
      have z1 : Row.n ⟨ns, c, kd, ws⟩ v = 0 := by
        obtain ⟨s, s0, hn, _⟩ := mx.ex
        have e := hn v
        have : -(high.n v) * low.n v + low.n v * high.n v = 0 := by grind
        rw [this] at e
        rcases Int.mul_eq_zero.mp e with q | q
        · omega
        · exact q
      refine ⟨[⟨ns, c, kd, ws⟩], [(6, rowD high)], [some (.val (.lst (L.map rowD))), some (.val (.int v)), some (.val (.lst (lo.map rowD))), some (.val (.lst (hi.map rowD))), some (.own ((F ++ [(⟨ns, c, kd, ws⟩ : Row)]).map rowD)), some (.val (rowD low)), some (.val (rowD high)), some (.val (.tup (ns.map D.int))), some (.val (.int c)), some (.val (.tup (ws.map D.int))), some (.val (.str (kS kd))), none], rfl, ?_, by simp, ⟨_, rfl, ⟨z1, hkd.symm, mx⟩, b1⟩, _, _, _, _, _, rfl⟩
      have er : rowD ⟨ns, c, kd, ws⟩ = .tup [.tup (ns.map D.int), .int c, .str (kS kd), .tup (ws.map D.int)] := rfl
      have ki := kS_in low.kd high.kd
      have ks : (if low.kd = .st ∨ high.kd = .st then (">" : Str) else ">=") = kS kd := by
        rw [← hkd]
        by_cases q : low.kd = .st ∨ high.kd = .st
        · rw [if_pos q, if_pos q]; rfl
        · rw [if_neg q, if_neg q]; rfl
      rw [List.map_append, List.map_singleton, er]
      clear er hx mx b1 z1 hkd
      generalize kS kd = kk at *
      generalize kS low.kd = kl at *
      generalize kS high.kd = kh at *
      generalize L.map rowD = T at *
      generalize lo.map rowD = T1 at *
      generalize hi.map rowD = T2 at *
      generalize F.map rowD = F' at *
      generalize rowD low = Rl at *
      generalize rowD high = Rh at *
      generalize low.nums.map D.int = N at *
      generalize high.nums.map D.int = N2 at *
      generalize ns.map D.int = N3 at *
      generalize ws.map D.int = N4 at *
      generalize (v : Int) = v' at *
      generalize low.n v = lv at *
      generalize high.n v = hv' at *
      by_cases q : low.kd = .st ∨ high.kd = .st
      · rw [if_pos q] at ks
        have ki : inT (.str ">") [.str kl, .str kh] = true := by rw [ki]; exact decide_eq_true q
        subst ks
        simp [-x_inT_c, b_without_by_pairs_1_eq, xl, xl2, xh, xh2, al, ah, hm, la, ki]
      · rw [if_neg q] at ks
        have ki : inT (.str ">") [.str kl, .str kh] = false := by rw [ki]; exact decide_eq_false q
        subst ks
        simp [-x_inT_c, b_without_by_pairs_1_eq, xl, xl2, xh, xh2, al, ah, hm, la, ki])
    refine ⟨Gs.flatten, [(5, rowD low)], [some (.val (.lst (L.map rowD))), some (.val (.int v)), some (.val (.lst (lo.map rowD))), some (.val (.lst (hi.map rowD))), some (.own ((F ++ Gs.flatten).map rowD)), some (.val (rowD low)), x6, x7, x8, x9, x10, none], rfl, ?_, by omega, ⟨fun high hh => ?_, fun r' hr' => ?_⟩, _, _, _, _, _, _, rfl⟩
    · generalize L.map rowD = T at *
      generalize lo.map rowD = T1 at *
      generalize hi.map rowD = T2 at *
      generalize rowD low = Rl at *
      generalize (v : Int) = v' at *
      simp [b_without_by_pairs_2_eq, hfor]
    · obtain ⟨ys, hy, r2, e2, h2, h3⟩ := hF.left high hh
      subst e2
      exact ⟨r2, List.mem_flatten.mpr ⟨_, hy, List.mem_singleton.mpr rfl⟩, h2⟩
    · obtain ⟨ys, hy, hr2⟩ := List.mem_flatten.mp hr'
      obtain ⟨high, h1, r2, e, h2, h3⟩ := hF.right ys hy
      subst e
      rw [List.mem_singleton.mp hr2]
      exact ⟨⟨high, h1, h2⟩, h3⟩)
  refine ⟨ze ++ Gs.flatten, ?_, by rw [List.length_append]; omega, fun r' hr' => ?_, fun r hr hz => ?_, fun low h1 high h2 h3 h4 => ?_, fun r' hr' => ?_⟩
  · generalize (ze ++ Gs.flatten).map rowD = G at *
    generalize ze.map rowD = T3 at *
    generalize lo.map rowD = T1 at *
    generalize hi.map rowD = T2 at *
    generalize L.map rowD = T at *
    generalize (v : Int) = v' at *
    rw [d_without_by_pairs_eq]
    refine run_rt rfl ?_
    have es : startE 12 [D.lst T, .int v'] = [some (.val (.lst T)), some (.val (.int v')), none, none, none, none, none, none, none, none, none, none] := rfl
    rw [es]
    unfold s_without_by_pairs
    refine (seq_nx (e1 := [some (.val (.lst T)), some (.val (.int v')), some (.val (.lst T1)), none, none, none, none, none, none, none, none, none]) (by simp [x_comp, lT, f1])).trans ?_
    refine (seq_nx (e1 := [some (.val (.lst T)), some (.val (.int v')), some (.val (.lst T1)), some (.val (.lst T2)), none, none, none, none, none, none, none, none]) (by simp [x_comp, lT, f2])).trans ?_
    refine (seq_nx (e1 := [some (.val (.lst T)), some (.val (.int v')), some (.val (.lst T1)), some (.val (.lst T2)), some (.own T3), none, none, none, none, none, none, none]) (by simp [x_comp, lT, f3])).trans ?_
    simp [hfor]
  · rcases List.mem_append.mp hr' with q | q
    · exact (hL r' ((mze r').mp q).1).mono (by omega)
    · obtain ⟨ys, hy, hr2⟩ := List.mem_flatten.mp q
      obtain ⟨low, h1, h2, h3⟩ := hF.right ys hy
      exact (h3 r' hr2).2
  · exact List.mem_append.mpr (.inl ((mze r).mpr ⟨hr, hz⟩))
  · obtain ⟨ys, hy, q1, q2⟩ := hF.left low ((mlo low).mpr ⟨h1, h3⟩)
    obtain ⟨r', q3, q4⟩ := q1 high ((mhi high).mpr ⟨h2, h4⟩)
    exact ⟨r', List.mem_append.mpr (.inr (List.mem_flatten.mpr ⟨ys, hy, q3⟩)), q4⟩
  · rcases List.mem_append.mp hr' with q | q
    · exact .inl ((mze r').mp q)
    · obtain ⟨ys, hy, hr2⟩ := List.mem_flatten.mp q
      obtain ⟨low, h1, h2, h3⟩ := hF.right ys hy
      obtain ⟨⟨high, k1, k2⟩, _⟩ := h3 r' hr2
      exact .inr ⟨low, ((mlo low).mp h1).1, high, ((mhi high).mp k1).1, ((mlo low).mp h1).2, ((mhi high).mp k1).2, k2⟩

noncomputable def b_steps_of_1 : PL.Env → Res Fl := Classical.choose (⟨(sSeq (sSet 5 (eFn d_equal_row (aCons (eVar 2) (aCons (eVar 4) aNil))))
    (sIf (tst (e2 isD (eVar 5) (eC .non))) (sSeq (sApp 3 (eTup (aCons (eVar 4) (aCons (eVar 2) aNil))))
    (sSet 2 (eFn d_without_by_pairs (aCons (eVar 2) (aCons (eVar 4) aNil))))) (sSeq (sApp 3 (eTup (aCons (eVar 4) (aCons (lstD (oLst (aCons (e2 ixD (eVar 2) (eVar 5)) aNil))) aNil))))
    (sSet 2 (eFn d_without_by_equal (aCons (eVar 2) (aCons (eVar 5) (aCons (eVar 4) aNil)))))))), rfl⟩ : ∃ y : PL.Env → Res Fl, y = (sSeq (sSet 5 (eFn d_equal_row (aCons (eVar 2) (aCons (eVar 4) aNil))))
    (sIf (tst (e2 isD (eVar 5) (eC .non))) (sSeq (sApp 3 (eTup (aCons (eVar 4) (aCons (eVar 2) aNil))))
    (sSet 2 (eFn d_without_by_pairs (aCons (eVar 2) (aCons (eVar 4) aNil))))) (sSeq (sApp 3 (eTup (aCons (eVar 4) (aCons (lstD (oLst (aCons (e2 ixD (eVar 2) (eVar 5)) aNil))) aNil))))
    (sSet 2 (eFn d_without_by_equal (aCons (eVar 2) (aCons (eVar 5) (aCons (eVar 4) aNil)))))))))
theorem b_steps_of_1_eq : b_steps_of_1 = (sSeq (sSet 5 (eFn d_equal_row (aCons (eVar 2) (aCons (eVar 4) aNil))))
    (sIf (tst (e2 isD (eVar 5) (eC .non))) (sSeq (sApp 3 (eTup (aCons (eVar 4) (aCons (eVar 2) aNil))))
    (sSet 2 (eFn d_without_by_pairs (aCons (eVar 2) (aCons (eVar 4) aNil))))) (sSeq (sApp 3 (eTup (aCons (eVar 4) (aCons (lstD (oLst (aCons (e2 ixD (eVar 2) (eVar 5)) aNil))) aNil))))
    (sSet 2 (eFn d_without_by_equal (aCons (eVar 2) (aCons (eVar 5) (aCons (eVar 4) aNil)))))))) := Classical.choose_spec (⟨(sSeq (sSet 5 (eFn d_equal_row (aCons (eVar 2) (aCons (eVar 4) aNil))))
    (sIf (tst (e2 isD (eVar 5) (eC .non))) (sSeq (sApp 3 (eTup (aCons (eVar 4) (aCons (eVar 2) aNil))))
    (sSet 2 (eFn d_without_by_pairs (aCons (eVar 2) (aCons (eVar 4) aNil))))) (sSeq (sApp 3 (eTup (aCons (eVar 4) (aCons (lstD (oLst (aCons (e2 ixD (eVar 2) (eVar 5)) aNil))) aNil))))
    (sSet 2 (eFn d_without_by_equal (aCons (eVar 2) (aCons (eVar 5) (aCons (eVar 4) aNil)))))))), rfl⟩ : ∃ y : PL.Env → Res Fl, y = (sSeq (sSet 5 (eFn d_equal_row (aCons (eVar 2) (aCons (eVar 4) aNil))))
    (sIf (tst (e2 isD (eVar 5) (eC .non))) (sSeq (sApp 3 (eTup (aCons (eVar 4) (aCons (eVar 2) aNil))))
    (sSet 2 (eFn d_without_by_pairs (aCons (eVar 2) (aCons (eVar 4) aNil))))) (sSeq (sApp 3 (eTup (aCons (eVar 4) (aCons (lstD (oLst (aCons (e2 ixD (eVar 2) (eVar 5)) aNil))) aNil))))
    (sSet 2 (eFn d_without_by_equal (aCons (eVar 2) (aCons (eVar 5) (aCons (eVar 4) aNil)))))))))
noncomputable def s_steps_of : PL.Env → Res Fl := (sSeq (sSet 2 (eFn d_with_weights (aCons (eVar 0) aNil)))
    (sSeq (sOwn 3 (oLst aNil))
    (sSeq (sFor (iSeq (eVar 1)) (pName 4) b_steps_of_1)
    (sRet (eTup (aCons (eVar 3) (aCons (eVar 2) aNil)))))))
noncomputable def d_steps_of : List D → Res Cell := Classical.choose (⟨runB 6 2 s_steps_of, rfl⟩ : ∃ y : List D → Res Cell, y = runB 6 2 s_steps_of)
theorem d_steps_of_eq : d_steps_of = runB 6 2 s_steps_of := Classical.choose_spec (⟨runB 6 2 s_steps_of, rfl⟩ : ∃ y : List D → Res Cell, y = runB 6 2 s_steps_of)
def stD (p : Nat × List Row) : D := .tup [.int p.1, .lst (p.2.map rowD)]
def cap : Nat → Nat → Nat
  | 0, N => N
  | k + 1, N => cap k (grow N)
theorem grow_mono {M N : Nat} (h : M ≤ N) : grow M ≤ grow N := by
  have := Nat.mul_le_mul h h
  unfold grow
  omega
theorem grow_le {N : Nat} : N ≤ grow N := by unfold grow; omega
theorem cap_mono : ∀ {k M N : Nat}, M ≤ N → cap k M ≤ cap k N
  | 0, _, _, h => h
  | k + 1, _, _, h => cap_mono (k := k) (grow_mono h)
theorem cap_le : ∀ {k N : Nat}, N ≤ cap k N
  | 0, _ => Nat.le_refl _
  | k + 1, N => Nat.le_trans grow_le (cap_le (k := k))
theorem steps_loop {n m : Nat} {T O : List D} (n8 : n ≤ 100) (m8 : m ≤ 100) : ∀ (vs : List Nat) (b : Nat) (L : List Row) (S : List D) (x4 x5 : Option Cell), (∀ r ∈ L, RB b n m r) → (∀ v ∈ vs, v < n) → 2 ^ vs.length * (b + 1) ≤ 13001 → cap vs.length L.length ≤ 999999 → S.length + vs.length ≤ 1000 →
    ∃ (L' : List Row) (st : List (Nat × List Row)) (x4' x5' : Option Cell), forD (pName 4) b_steps_of_1 (vs.map fun v => D.int (v : Nat)) [some (.val (.lst T)), some (.val (.lst O)), some (.val (.lst (L.map rowD))), some (.own S), x4, x5] = .ok (.nx [some (.val (.lst T)), some (.val (.lst O)), some (.val (.lst (L'.map rowD))), some (.own (S ++ st.map stD)), x4', x5']) ∧ Steps n m b vs L st L' ∧ L'.length ≤ cap vs.length L.length
  | [], b, L, S, x4, x5, hL, _, _, _, _ => ⟨L, [], x4, x5, by simp, .nil hL, Nat.le_refl _⟩
  | v :: vs, b, L, S, x4, x5, hL, hvs, hb, hc, hS => by
    have hv := hvs v List.mem_cons_self
    have hvs' : ∀ v ∈ vs, v < n := fun u hu => hvs u (List.mem_cons_of_mem _ hu)
    have hb2 : 2 ^ vs.length * (2 * b + 1 + 1) ≤ 13001 := by
      have : 2 ^ (v :: vs).length * (b + 1) = 2 ^ vs.length * (2 * b + 1 + 1) := by
        rw [List.length_cons, Nat.pow_succ, Nat.mul_assoc]
        congr 1
      omega
    have hb3 : 2 * b + 1 ≤ 13000 := by
      have := Nat.mul_le_mul_right (2 * b + 1 + 1) (Nat.one_le_two_pow (n := vs.length))
      omega
    have hc2 : cap vs.length (grow L.length) ≤ 999999 := hc
    have hg : grow L.length ≤ 999999 := Nat.le_trans (cap_le (k := vs.length)) hc2
    have hS2 : S.length + 1 + vs.length ≤ 1000 := by rw [List.length_cons] at hS; omega
    have lS : S.length < 1000000 := by omega
    have es : (v :: vs).map (fun v : Nat => D.int (v : Nat)) = .int v :: vs.map fun v => D.int (v : Nat) := rfl
    rw [es]
    rcases v_equal_row hv (fun r hr => (hL r hr).ln) with ⟨h1, ne⟩ | ⟨k, hk, h1, h2, h3⟩
    · obtain ⟨L1, e1, l1, b1, z1, p1, w1⟩ := v_wbp hv ne hL n8 m8 hb3 hg
      obtain ⟨L', st, x4', x5', hf, hs, hl⟩ := steps_loop (T := T) (O := O) n8 m8 vs (2 * b + 1) L1 (S ++ [stD (v, L)]) (some (.val (.int v))) (some (.val .non)) b1 hvs' hb2 (Nat.le_trans (cap_mono l1) hc2) (by rw [List.length_append]; simpa using hS2)
      refine ⟨L', (v, L) :: st, x4', x5', ?_, .pr hL ne z1 p1 w1 hs, Nat.le_trans hl (cap_mono l1)⟩
      have ed : stD (v, L) = .tup [.int v, .lst (L.map rowD)] := rfl
      have ea : S ++ ((v, L) :: st).map stD = S ++ [stD (v, L)] ++ st.map stD := by simp
      rw [ea]
      rw [x_for_cons]
      have hb : b_steps_of_1 (setAllE [some (.val (.lst T)), some (.val (.lst O)), some (.val (.lst (L.map rowD))), some (.own S), x4, x5] [(4, .int v)]) = .ok (.nx [some (.val (.lst T)), some (.val (.lst O)), some (.val (.lst (L1.map rowD))), some (.own (S ++ [stD (v, L)])), some (.val (.int v)), some (.val .non)]) := by
        rw [ed]
        have ei : isD .non .non = .ok (.bl true) := rfl
        generalize L.map rowD = T1 at *
        generalize L1.map rowD = T2 at *
        generalize (v : Int) = v' at *
        simp [b_steps_of_1_eq, h1, e1, lS, ei]
      rw [x_pName, must_ok, hb]
      exact hf
    · obtain ⟨L1, e1, l1, b1, f1, w1⟩ := v_wbe hk hv h3 hL n8 m8 hb3 (by have := grow_le (N := L.length); omega)
      obtain ⟨L', st, x4', x5', hf, hs, hl⟩ := steps_loop (T := T) (O := O) n8 m8 vs (2 * b + 1) L1 (S ++ [stD (v, [L[k]])]) (some (.val (.int v))) (some (.val (.int k))) b1 hvs' hb2 (Nat.le_trans (cap_mono (Nat.le_trans l1 grow_le)) hc2) (by rw [List.length_append]; simpa using hS2)
      refine ⟨L', (v, [L[k]]) :: st, x4', x5', ?_, .eq hL (List.getElem_mem hk) h2 h3 f1 w1 hs, Nat.le_trans hl (cap_mono (Nat.le_trans l1 grow_le))⟩
      have ed : stD (v, [L[k]]) = .tup [.int v, .lst [rowD L[k]]] := rfl
      have ea : S ++ ((v, [L[k]]) :: st).map stD = S ++ [stD (v, [L[k]])] ++ st.map stD := by simp
      rw [ea]
      rw [x_for_cons]
      have ak : atD (L.map rowD) (k : Int) = .ok (rowD L[k]) := at_map hk
      have hb : b_steps_of_1 (setAllE [some (.val (.lst T)), some (.val (.lst O)), some (.val (.lst (L.map rowD))), some (.own S), x4, x5] [(4, .int v)]) = .ok (.nx [some (.val (.lst T)), some (.val (.lst O)), some (.val (.lst (L1.map rowD))), some (.own (S ++ [stD (v, [L[k]])])), some (.val (.int v)), some (.val (.int k))]) := by
        rw [ed]
        generalize rowD L[k] = Rk at *
        generalize L.map rowD = T1 at *
        generalize L1.map rowD = T2 at *
        generalize (v : Int) = v' at *
        generalize (k : Int) = k' at *
        have ei : isD (.int k') .non = .ok (.bl false) := rfl
        simp [b_steps_of_1_eq, h1, e1, lS, ei, ak]
      rw [x_pName, must_ok, hb]
      exact hf
theorem v_steps_of {n b : Nat} {R : List Raw} {vs : List Nat} (n8 : n ≤ 100) (m8 : R.length ≤ 100) (hR : ∀ r ∈ R, r.1.length = n ∧ (∀ z ∈ r.1, Bd b z) ∧ Bd b r.2.1) (b1 : 1 ≤ b) (hvs : ∀ v ∈ vs, v < n) (hb : 2 ^ vs.length * (b + 1) ≤ 13001) (hc : cap vs.length R.length ≤ 999999) (hl : vs.length ≤ 1000) :
    ∃ (L : List Row) (st : List (Nat × List Row)), d_steps_of [.lst (R.map rawD), .lst (vs.map fun v => D.int (v : Nat))] = .ok (.val (.tup [.lst (st.map stD), .lst (L.map rowD)])) ∧ Steps n R.length b vs (startL R) st L ∧ L.length ≤ 999999 := by
  have lS : (startL R).length = R.length := by simp [startL]
  have hL : ∀ r ∈ startL R, RB b n R.length r := fun r hr => by
    obtain ⟨k, hk, rfl⟩ := List.mem_mapIdx.mp hr
    obtain ⟨h1, h2, h3⟩ := hR R[k] (List.getElem_mem hk)
    refine ⟨h1, by simp [unitL], h2, h3, fun z hz => ?_⟩
    obtain ⟨j, _, rfl⟩ := List.mem_map.mp hz
    refine Bd.mono (m := 1) ?_ b1
    unfold Bd
    split <;> decide
  obtain ⟨L', st, x4, x5, hf, hs, hl⟩ := steps_loop (T := R.map rawD) (O := vs.map fun v => D.int (v : Nat)) n8 m8 vs b (startL R) [] none none hL hvs hb (by rw [lS]; exact hc) (by simpa using hl)
  have w := v_with_weights m8
  rw [List.nil_append] at hf
  refine ⟨L', st, ?_, hs, by rw [lS] at hl; omega⟩
  generalize (startL R).map rowD = S at *
  generalize L'.map rowD = T2 at *
  generalize st.map stD = T3 at *
  generalize R.map rawD = T at *
  generalize vs.map (fun v => D.int (v : Nat)) = O at *
  simp [d_steps_of_eq, s_steps_of, start_eq, w, hf]

noncomputable def c_failing_1 : BEnv → Res D := Classical.choose (⟨(e1 negD (eVar 5)), rfl⟩ : ∃ y : BEnv → Res D, y = (e1 negD (eVar 5)))
theorem c_failing_1_eq : c_failing_1 = (e1 negD (eVar 5)) := Classical.choose_spec (⟨(e1 negD (eVar 5)), rfl⟩ : ∃ y : BEnv → Res D, y = (e1 negD (eVar 5)))
noncomputable def b_failing_1 : PL.Env → Res Fl := Classical.choose (⟨(sSeq (sIf (tOrD (tAndD (tst (e2 eqD (eVar 3) (eC (.str ">")))) (tst (e2 geD (eVar 2) (eC (.int 0))))) (tOrD (tAndD (tst (e2 eqD (eVar 3) (eC (.str ">=")))) (tst (e2 gtD (eVar 2) (eC (.int 0))))) (tAndD (tst (e2 eqD (eVar 3) (eC (.str "=")))) (tst (e2 gtD (eVar 2) (eC (.int 0))))))) (sRetO (eCallO listO (aCons (eVar 4) aNil))) sNil)
    (sIf (tAndD (tst (e2 eqD (eVar 3) (eC (.str "=")))) (tst (e2 ltD (eVar 2) (eC (.int 0))))) (sRetO (oComp [5] (iSeq (eVar 4)) (pName 5) cTrue c_failing_1)) sNil)), rfl⟩ : ∃ y : PL.Env → Res Fl, y = (sSeq (sIf (tOrD (tAndD (tst (e2 eqD (eVar 3) (eC (.str ">")))) (tst (e2 geD (eVar 2) (eC (.int 0))))) (tOrD (tAndD (tst (e2 eqD (eVar 3) (eC (.str ">=")))) (tst (e2 gtD (eVar 2) (eC (.int 0))))) (tAndD (tst (e2 eqD (eVar 3) (eC (.str "=")))) (tst (e2 gtD (eVar 2) (eC (.int 0))))))) (sRetO (eCallO listO (aCons (eVar 4) aNil))) sNil)
    (sIf (tAndD (tst (e2 eqD (eVar 3) (eC (.str "=")))) (tst (e2 ltD (eVar 2) (eC (.int 0))))) (sRetO (oComp [5] (iSeq (eVar 4)) (pName 5) cTrue c_failing_1)) sNil)))
theorem b_failing_1_eq : b_failing_1 = (sSeq (sIf (tOrD (tAndD (tst (e2 eqD (eVar 3) (eC (.str ">")))) (tst (e2 geD (eVar 2) (eC (.int 0))))) (tOrD (tAndD (tst (e2 eqD (eVar 3) (eC (.str ">=")))) (tst (e2 gtD (eVar 2) (eC (.int 0))))) (tAndD (tst (e2 eqD (eVar 3) (eC (.str "=")))) (tst (e2 gtD (eVar 2) (eC (.int 0))))))) (sRetO (eCallO listO (aCons (eVar 4) aNil))) sNil)
    (sIf (tAndD (tst (e2 eqD (eVar 3) (eC (.str "=")))) (tst (e2 ltD (eVar 2) (eC (.int 0))))) (sRetO (oComp [5] (iSeq (eVar 4)) (pName 5) cTrue c_failing_1)) sNil)) := Classical.choose_spec (⟨(sSeq (sIf (tOrD (tAndD (tst (e2 eqD (eVar 3) (eC (.str ">")))) (tst (e2 geD (eVar 2) (eC (.int 0))))) (tOrD (tAndD (tst (e2 eqD (eVar 3) (eC (.str ">=")))) (tst (e2 gtD (eVar 2) (eC (.int 0))))) (tAndD (tst (e2 eqD (eVar 3) (eC (.str "=")))) (tst (e2 gtD (eVar 2) (eC (.int 0))))))) (sRetO (eCallO listO (aCons (eVar 4) aNil))) sNil)
    (sIf (tAndD (tst (e2 eqD (eVar 3) (eC (.str "=")))) (tst (e2 ltD (eVar 2) (eC (.int 0))))) (sRetO (oComp [5] (iSeq (eVar 4)) (pName 5) cTrue c_failing_1)) sNil)), rfl⟩ : ∃ y : PL.Env → Res Fl, y = (sSeq (sIf (tOrD (tAndD (tst (e2 eqD (eVar 3) (eC (.str ">")))) (tst (e2 geD (eVar 2) (eC (.int 0))))) (tOrD (tAndD (tst (e2 eqD (eVar 3) (eC (.str ">=")))) (tst (e2 gtD (eVar 2) (eC (.int 0))))) (tAndD (tst (e2 eqD (eVar 3) (eC (.str "=")))) (tst (e2 gtD (eVar 2) (eC (.int 0))))))) (sRetO (eCallO listO (aCons (eVar 4) aNil))) sNil)
    (sIf (tAndD (tst (e2 eqD (eVar 3) (eC (.str "=")))) (tst (e2 ltD (eVar 2) (eC (.int 0))))) (sRetO (oComp [5] (iSeq (eVar 4)) (pName 5) cTrue c_failing_1)) sNil)))
noncomputable def s_failing : PL.Env → Res Fl := (sSeq (sFor (iSeq (eVar 0)) (pTup (pCons (pName 1) (pCons (pName 2) (pCons (pName 3) (pCons (pName 4) pNil))))) b_failing_1)
    (sRet (eC .non)))
noncomputable def d_failing : List D → Res Cell := Classical.choose (⟨runB 6 1 s_failing, rfl⟩ : ∃ y : List D → Res Cell, y = runB 6 1 s_failing)
theorem d_failing_eq : d_failing = runB 6 1 s_failing := Classical.choose_spec (⟨runB 6 1 s_failing, rfl⟩ : ∃ y : List D → Res Cell, y = runB 6 1 s_failing)
theorem v_failing {L : List Row} (hw : ∀ r ∈ L, r.ws.length ≤ 1000) : (d_failing [.lst (L.map rowD)] = .ok (.val .non) ∧ ∀ r ∈ L, badR r = false) ∨ ∃ r ∈ L, badR r = true ∧ d_failing [.lst (L.map rowD)] = .ok (.own ((papR r).map D.int)) := by
  have hc : ∀ i (h : i < L.length), (((L[i]?).map badR).getD false) = badR L[i] := fun i h => by simp [h]
  have lT : (L.map rowD).length = L.length := by simp
  have hf := for_find (p := pTup (pCons (pName 1) (pCons (pName 2) (pCons (pName 3) (pCons (pName 4) pNil))))) (s := b_failing_1) (fun i => ((L[i]?).map badR).getD false) (fun i => .own ((((L[i]?).map papR).getD []).map D.int)) (fun env => ∃ x1 x2 x3 x4 : Option Cell, env = [some (.val (.lst (L.map rowD))), x1, x2, x3, x4, none]) (L.map rowD) [some (.val (.lst (L.map rowD))), none, none, none, none, none] 0 ⟨none, none, none, none, rfl⟩ (by
    rintro i hi env ⟨x1, x2, x3, x4, rfl⟩
    rw [lT] at hi
    have e : (L.map rowD)[i]'(by rw [lT]; exact hi) = rowD L[i] := by simp
    rw [e, Nat.zero_add, hc i hi]
    have e2 : ((L[i]?).map papR).getD [] = papR L[i] := by simp [hi]
    rw [e2]
    have hl := hw L[i] (List.getElem_mem hi)
    generalize L[i] = r at *
    refine ⟨[(1, .tup (r.nums.map D.int)), (2, .int r.c), (3, .str (kS r.kd)), (4, .tup (r.ws.map D.int))], rfl, ?_⟩
    have k1 := kS_eq r.kd
    have k2 := kS_st r.kd
    have k3 := kS_lo r.kd
    have ng := comp_map (dec := D.int) (enc := D.int) (p := pName 5) (f := c_failing_1) (env := [some (.lst (L.map rowD)), some (.tup (r.nums.map D.int)), some (.int r.c), some (.str (kS r.kd)), some (.tup (r.ws.map D.int)), none]) (fun z => -z) r.ws (fun z _ => ⟨[(5, .int z)], rfl, by
      generalize L.map rowD = T at *
      simp [c_failing_1_eq]⟩)
    have l6 : (r.ws.map D.int).length ≤ 1000000 := by simp; omega
    have l7 : r.ws.length ≤ 1000000 := by omega
    have pr : papR r = if r.kd = .eq ∧ r.c < 0 then r.ws.map fun z => -z else r.ws := rfl
    have br : badR r = decide ((r.kd = .st ∧ 0 ≤ r.c) ∨ (r.kd = .lo ∧ 0 < r.c) ∨ (r.kd = .eq ∧ r.c ≠ 0)) := rfl
    rw [pr, br]
    clear pr br e e2 hc
    have ifw : ∀ p : Prop, [Decidable p] → (if p then r.ws.map fun z => -z else r.ws).map D.int = if p then (r.ws.map fun z => -z).map D.int else r.ws.map D.int := fun p _ => by split <;> rfl
    rw [ifw]
    clear ifw
    generalize hk : kS r.kd = kk at *
    generalize r.nums.map D.int = N at *
    generalize L.map rowD = T at *
    generalize (r.ws.map fun z => -z).map D.int = W' at *
    generalize r.c = c at *
    generalize r.kd = kd at *
    cases kd with
    | st =>
      simp only [reduceCtorEq, decide_false, decide_true] at k1 k2 k3
      by_cases q : 0 ≤ c
      · right
        refine ⟨by simp [q], ?_⟩
        simp [b_failing_1_eq, k2, q]
      · left
        refine ⟨by simp [q], [some (.val (.lst T)), some (.val (.tup N)), some (.val (.int c)), some (.val (.str kk)), some (.val (.tup (r.ws.map D.int))), none], ?_, some (.val (.tup N)), some (.val (.int c)), some (.val (.str kk)), some (.val (.tup (r.ws.map D.int))), rfl⟩
        simp [b_failing_1_eq, k1, k2, k3, q]
    | lo =>
      simp only [reduceCtorEq, decide_false, decide_true] at k1 k2 k3
      by_cases q : 0 < c
      · right
        refine ⟨by simp [q], ?_⟩
        simp [b_failing_1_eq, k1, k2, k3, q]
      · left
        refine ⟨by simp [q], [some (.val (.lst T)), some (.val (.tup N)), some (.val (.int c)), some (.val (.str kk)), some (.val (.tup (r.ws.map D.int))), none], ?_, some (.val (.tup N)), some (.val (.int c)), some (.val (.str kk)), some (.val (.tup (r.ws.map D.int))), rfl⟩
        simp [b_failing_1_eq, k1, k2, k3, q]
    | eq =>
      simp only [reduceCtorEq, decide_false, decide_true] at k1 k2 k3
      by_cases q : 0 < c
      · right
        have q2 : ¬ c < 0 := by omega
        have q3 : c ≠ 0 := by omega
        refine ⟨by simp [q3], ?_⟩
        simp [b_failing_1_eq, k1, k2, k3, q, q2]
      · by_cases q2 : c < 0
        · right
          have q3 : c ≠ 0 := by omega
          refine ⟨by simp [q3], ?_⟩
          simp [b_failing_1_eq, k1, k2, k3, q, q2, x_comp, l6, l7, ng]
        · left
          have q3 : c = 0 := by omega
          refine ⟨by simp [q3], [some (.val (.lst T)), some (.val (.tup N)), some (.val (.int c)), some (.val (.str kk)), some (.val (.tup (r.ws.map D.int))), none], ?_, some (.val (.tup N)), some (.val (.int c)), some (.val (.str kk)), some (.val (.tup (r.ws.map D.int))), rfl⟩
          simp [b_failing_1_eq, k1, k2, k3, q, q2])
  rw [lT] at hf
  rcases hf with ⟨env', hfor, ⟨x1, x2, x3, x4, rfl⟩, h⟩ | ⟨i, hi, hfor, h⟩
  · left
    refine ⟨?_, fun r hr => ?_⟩
    · generalize L.map rowD = T at *
      simp [d_failing_eq, s_failing, start_eq, hfor]
    · obtain ⟨i, hi, rfl⟩ := List.getElem_of_mem hr
      have := h i hi
      rw [Nat.zero_add, hc i hi] at this
      exact this
  · right
    rw [Nat.zero_add] at h hfor
    rw [hc i hi] at h
    have e2 : ((L[i]?).map papR).getD [] = papR L[i] := by simp [hi]
    rw [e2] at hfor
    refine ⟨L[i], List.getElem_mem hi, h, ?_⟩
    generalize L.map rowD = T at *
    generalize (papR L[i]).map D.int = W at *
    simp [d_failing_eq, s_failing, start_eq, hfor]

noncomputable def b_edge_of_1 : PL.Env → Res Fl := Classical.choose (⟨(sIf (tst (e2 neD (eVar 4) (eVar 1))) (sSet 3 (eFn d_minus (aCons (eVar 3) (aCons (eFn d_times (aCons (eTup (aCons (eVar 5) (aCons (eC (.int 1)) aNil))) (aCons (e2 ixD (eVar 2) (eVar 4)) aNil))) aNil)))) sNil), rfl⟩ : ∃ y : PL.Env → Res Fl, y = (sIf (tst (e2 neD (eVar 4) (eVar 1))) (sSet 3 (eFn d_minus (aCons (eVar 3) (aCons (eFn d_times (aCons (eTup (aCons (eVar 5) (aCons (eC (.int 1)) aNil))) (aCons (e2 ixD (eVar 2) (eVar 4)) aNil))) aNil)))) sNil))
theorem b_edge_of_1_eq : b_edge_of_1 = (sIf (tst (e2 neD (eVar 4) (eVar 1))) (sSet 3 (eFn d_minus (aCons (eVar 3) (aCons (eFn d_times (aCons (eTup (aCons (eVar 5) (aCons (eC (.int 1)) aNil))) (aCons (e2 ixD (eVar 2) (eVar 4)) aNil))) aNil)))) sNil) := Classical.choose_spec (⟨(sIf (tst (e2 neD (eVar 4) (eVar 1))) (sSet 3 (eFn d_minus (aCons (eVar 3) (aCons (eFn d_times (aCons (eTup (aCons (eVar 5) (aCons (eC (.int 1)) aNil))) (aCons (e2 ixD (eVar 2) (eVar 4)) aNil))) aNil)))) sNil), rfl⟩ : ∃ y : PL.Env → Res Fl, y = (sIf (tst (e2 neD (eVar 4) (eVar 1))) (sSet 3 (eFn d_minus (aCons (eVar 3) (aCons (eFn d_times (aCons (eTup (aCons (eVar 5) (aCons (eC (.int 1)) aNil))) (aCons (e2 ixD (eVar 2) (eVar 4)) aNil))) aNil)))) sNil))
noncomputable def s_edge_of : PL.Env → Res Fl := (sSeq (sSet 3 (eTup (aCons (e2 ixD (eVar 0) (eC (.int 1))) (aCons (eC (.int 1)) aNil))))
    (sSeq (sFor (enum1D (aCons (e2 ixD (eVar 0) (eC (.int 0))) aNil)) (pTup (pCons (pName 4) (pCons (pName 5) pNil))) b_edge_of_1)
    (sRet (eFn d_over (aCons (eVar 3) (aCons (eTup (aCons (e2 ixD (e2 ixD (eVar 0) (eC (.int 0))) (eVar 1)) (aCons (eC (.int 1)) aNil))) aNil))))))
noncomputable def d_edge_of : List D → Res Cell := Classical.choose (⟨runB 6 3 s_edge_of, rfl⟩ : ∃ y : List D → Res Cell, y = runB 6 3 s_edge_of)
theorem d_edge_of_eq : d_edge_of = runB 6 3 s_edge_of := Classical.choose_spec (⟨runB 6 3 s_edge_of, rfl⟩ : ∃ y : List D → Res Cell, y = runB 6 3 s_edge_of)
/-- the sum of all but one part, so far -/
def lf (r : Row) (v : Nat) (x : Nat → Rat) : Nat → Rat
  | 0 => (r.c : Rat)
  | j + 1 => if j = v then lf r v x j else lf r v x j - (r.n j : Rat) * x j
def lN (r : Row) (v : Nat) (e : Nat → Nat) (b : Nat) : Nat → Nat
  | 0 => b
  | j + 1 => if j = v ∨ r.n j = 0 then lN r v e b j else lN r v e b j + e j + 2
def lM (r : Row) (v : Nat) (e : Nat → Nat) : Nat → Nat
  | 0 => 1
  | j + 1 => if j = v ∨ r.n j = 0 then lM r v e j else lM r v e j + e j
theorem lNM {r : Row} {v : Nat} {e : Nat → Nat} {b : Nat} : ∀ j, b + lM r v e j ≤ lN r v e b j + 1
  | 0 => Nat.le_refl _
  | j + 1 => by
    have := lNM (r := r) (v := v) (e := e) (b := b) j
    unfold lN lM
    split <;> omega
theorem lf_bd {r : Row} {v : Nat} {x : Nat → Rat} {e : Nat → Nat} {b : Nat} (hb : ∀ k, Bd b (r.n k)) (hc : Bd b r.c) : ∀ j, (∀ i, i < j → i ≠ v → r.n i ≠ 0 → QB (e i) (x i)) → QN (lN r v e b j) (lM r v e j) (lf r v x j)
  | 0, _ => QN.int hc
  | j + 1, hx => by
    have ih := lf_bd hb hc j (fun i hi => hx i (by omega))
    unfold lf lN lM
    by_cases h1 : j = v
    · simp only [h1, true_or, if_true]
      rw [h1] at ih
      exact ih
    · by_cases h2 : r.n j = 0
      · simp only [h1, h2, or_true, if_true, if_false]
        have : lf r v x j - ((0 : Int) : Rat) * x j = lf r v x j := by grind
        rw [this]
        exact ih
      · simp only [h1, h2, or_self, if_false]
        have hq := QN.imul (hb j) (hx j (by omega) h1 h2).qn
        have k := lNM (r := r) (v := v) (e := e) (b := b) j
        exact ih.sub hq (k := lN r v e b j + e j + 1) (by omega) (by omega)
def pt (S : List Rat) (k : Nat) : Rat := S.getD k 0
theorem lf_val {r : Row} {v : Nat} {x : Nat → Rat} (hv : v < 3) (hn : ∀ k, 3 ≤ k → r.n k = 0) : lf r v x 3 = (r.n v : Rat) * x v - val r x := by
  have : v = 0 ∨ v = 1 ∨ v = 2 := by omega
  rcases this with rfl | rfl | rfl <;> simp [lf, val] <;> grind
theorem lf_more {r : Row} {v : Nat} {x : Nat → Rat} {n : Nat} (hn : ∀ k, n ≤ k → r.n k = 0) (hv : v < n) : ∀ d, lf r v x (n + d) = lf r v x n
  | 0 => rfl
  | d + 1 => by
    have e : n + d ≠ v := by omega
    have z := hn (n + d) (by omega)
    show (if n + d = v then lf r v x (n + d) else lf r v x (n + d) - (r.n (n + d) : Rat) * x (n + d)) = _
    rw [if_neg e, z, lf_more hn hv d]
    grind
theorem v_edge_of {B n m v : Nat} {r : Row} {S : List Rat} {e : Nat → Nat} {K : Nat} (hr : RB B n m r) (hv : v < n) (n3 : n ≤ 3) (h0 : r.n v ≠ 0) (hS : S.length = n) (hx : ∀ i, i < n → i ≠ v → r.n i ≠ 0 → QB (e i) (pt S i)) (hall : ∀ q ∈ S, QB 12900 q) (hB : B ≤ 3700)
    (hK : ∀ j, j ≤ n → lN r v e B j ≤ K ∧ lM r v e j ≤ K) (hK2 : 2 * K + B + 10 < 13000) :
    d_edge_of [rowD r, .int v, .lst (S.map qD)] = .ok (.val (qD (ed r v (pt S)))) ∧ QN (lN r v e B n) (B + lM r v e n) (ed r v (pt S)) := by
  have hn3 : ∀ k, n ≤ k → r.n k = 0 := fun k hk => by
    unfold Row.n
    rw [List.getD_eq_getElem?_getD, List.getElem?_eq_none (by rw [hr.ln]; exact hk)]
    rfl
  have fin : lf r v (pt S) n / (r.n v : Rat) = ed r v (pt S) := by
    have e1 : lf r v (pt S) n = lf r v (pt S) 3 := by
      have := lf_more (x := pt S) hn3 hv (3 - n)
      rw [show n + (3 - n) = 3 by omega] at this
      exact this.symm
    have : (r.n v : Rat) ≠ 0 := fun e => h0 (by exact_mod_cast e)
    rw [e1, lf_val (by omega) (fun k hk => hn3 k (by omega))]
    unfold ed
    grind
  have bd := lf_bd (x := pt S) (e := e) (v := v) (fun k => hr.bnk k) hr.bc n (fun i hi => hx i hi)
  have hBn := hr.bnk v
  refine ⟨?_, by rw [← fin]; exact bd.idiv hBn h0⟩
  obtain ⟨env', hfor, x4, x5, rfl⟩ := for_inv (p := pTup (pCons (pName 4) (pCons (pName 5) pNil))) (s := b_edge_of_1) (fun j env => ∃ x4 x5 : Option Cell, env = [some (.val (rowD r)), some (.val (.int v)), some (.val (.lst (S.map qD))), some (.val (qD (lf r v (pt S) j))), x4, x5]) (enumD (r.nums.map D.int)) [some (.val (rowD r)), some (.val (.int v)), some (.val (.lst (S.map qD))), some (.val (qD (r.c : Rat))), none, none] 0 ⟨none, none, rfl⟩ (by
    rintro j hj env ⟨x4, x5, rfl⟩
    rw [enum_len, List.length_map] at hj
    have hj' : j < n := by rw [← hr.ln]; exact hj
    have e1 : (enumD (r.nums.map D.int))[j]'(by rw [enum_len, List.length_map]; exact hj) = .tup [.int j, .int (r.n j)] := by simp [enumD, Row.n, hj]
    rw [e1, Nat.zero_add]
    refine ⟨[(4, .int j), (5, .int (r.n j))], _, rfl, .inl ?_, some (.val (.int j)), some (.val (.int (r.n j))), rfl⟩
    by_cases q : j = v
    · have e2 : lf r v (pt S) (j + 1) = lf r v (pt S) j := by
        show (if j = v then _ else _) = _
        rw [if_pos q]
      rw [e2]
      subst q
      generalize qD (lf r j (pt S) j) = Q at *
      generalize rowD r = R at *
      generalize S.map qD = T at *
      generalize (j : Int) = j' at *
      simp [b_edge_of_1_eq]
    · have e2 : lf r v (pt S) (j + 1) = lf r v (pt S) j - (r.n j : Rat) * pt S j := by
        show (if j = v then _ else _) = _
        rw [if_neg q]
      have aS : atD (S.map qD) (j : Int) = .ok (qD (pt S j)) := by
        rw [at_map (by rw [hS]; exact hj')]
        simp [pt, hS, hj']
      have ql := lf_bd (x := pt S) (e := e) (v := v) (fun k => hr.bnk k) hr.bc j (fun i hi => hx i (by omega))
      have k1 := hK j (by omega)
      have qS : QB 12900 (pt S j) := by
        have : pt S j = S[j]'(by rw [hS]; exact hj') := by simp [pt, hS, hj']
        rw [this]
        exact hall _ (List.getElem_mem _)
      have q' : ¬ (j : Int) = (v : Int) := by omega
      have w1 : d_times [.tup [.int (r.n j), .int 1], qD (pt S j)] = .ok (.val (qD ((r.n j : Rat) * pt S j))) ∧ d_minus [qD (lf r v (pt S) j), qD ((r.n j : Rat) * pt S j)] = .ok (.val (qD (lf r v (pt S) (j + 1)))) := by
        rw [e2, ← qD_int]
        by_cases z : r.n j = 0
        · rw [z]
          have e3 : ((0 : Int) : Rat) * pt S j = 0 := by grind
          refine ⟨v_times (QB.int (n := 1) Bd.zero (by decide)) qS (by decide), ?_⟩
          rw [e3]
          exact v_minus (ql.qb (k := K) k1.1 k1.2) (QB.zero (n := 1) (by decide)) (by omega)
        · have qj := hx j hj' q z
          have k2 := hK (j + 1) (by omega)
          have k3 : lM r v e (j + 1) = lM r v e j + e j := by
            show (if j = v ∨ r.n j = 0 then _ else _) = _
            rw [if_neg (by simp [q, z])]
          have k4 : lN r v e B (j + 1) = lN r v e B j + e j + 2 := by
            show (if j = v ∨ r.n j = 0 then _ else _) = _
            rw [if_neg (by simp [q, z])]
          have k5 : 1 ≤ lM r v e j := by
            have : ∀ i, 1 ≤ lM r v e i := fun i => by
              induction i with
              | zero => exact Nat.le_refl _
              | succ i ih => unfold lM; split <;> omega
            exact this j
          refine ⟨v_times (QB.int (n := B + 1) ((hr.bnk j).mono (by omega)) (by omega)) qj (by omega), ?_⟩
          exact v_minus (ql.qb (k := lN r v e B j + lM r v e j) (by omega) (by omega)) ((QN.imul (hr.bnk j) qj.qn).qb (k := B + e j) (by omega) (by omega)) (by omega)
      obtain ⟨w1, w2⟩ := w1
      clear e2 e1 fin bd hx hall
      generalize hA : qD (lf r v (pt S) j) = Q at *
      generalize qD (lf r v (pt S) (j + 1)) = Q2 at *
      generalize qD ((r.n j : Rat) * pt S j) = Q3 at *
      generalize qD (pt S j) = Q4 at *
      generalize rowD r = R at *
      generalize S.map qD = T at *
      generalize (v : Int) = v' at *
      generalize (j : Int) = j' at *
      generalize r.n j = z at *
      simp [b_edge_of_1_eq, q', aS, w1, w2])
  have k1 := hK n (Nat.le_refl _)
  have ov := v_over (bd.qb (k := K) k1.1 k1.2) (QB.int (n := B + 1) (hBn.mono (by omega)) (by omega)) (by omega) (fun e => h0 (by exact_mod_cast e))
  rw [fin, qD_int] at ov
  rw [Nat.zero_add, enum_len, List.length_map, hr.ln] at hfor
  have x0 : ixD (rowD r) (.int 0) = .ok (.tup (r.nums.map D.int)) := by unfold rowD; simp
  have x1 : ixD (rowD r) (.int 1) = .ok (.int r.c) := by unfold rowD; simp
  have av := hr.at_n hv
  rw [qD_int] at hfor
  clear fin bd hx hall hK hn3
  generalize qD (ed r v (pt S)) = Q2 at *
  generalize qD (lf r v (pt S) n) = Q at *
  generalize rowD r = R at *
  generalize S.map qD = T at *
  generalize r.nums.map D.int = N at *
  generalize r.n v = z at *
  generalize r.c = c at *
  generalize (v : Int) = v' at *
  simp [d_edge_of_eq, s_edge_of, start_eq, x0, x1, hfor, av, ov]

noncomputable def b_ends_of_1 : PL.Env → Res Fl := Classical.choose (⟨(sIf (tst (e2 neD (e2 ixD (e2 ixD (eVar 5) (eC (.int 0))) (eVar 1)) (eC (.int 0)))) (sSeq (sSet 6 (eFn d_edge_of (aCons (eVar 5) (aCons (eVar 1) (aCons (eVar 2) aNil)))))
    (sSeq (sIf (tst (e2 eqD (e2 ixD (eVar 5) (eC (.int 2))) (eC (.str "=")))) (sRet (eTup (aCons (eVar 6) (aCons (eVar 6) aNil)))) sNil)
    (sSeq (sIf (tAndD (tst (e2 gtD (e2 ixD (e2 ixD (eVar 5) (eC (.int 0))) (eVar 1)) (eC (.int 0)))) (tOrD (tst (e2 isD (eVar 3) (eC .non))) (tst (eFn d_less (aCons (eVar 3) (aCons (eVar 6) aNil)))))) (sSet 3 (eVar 6)) sNil)
    (sIf (tAndD (tst (e2 ltD (e2 ixD (e2 ixD (eVar 5) (eC (.int 0))) (eVar 1)) (eC (.int 0)))) (tOrD (tst (e2 isD (eVar 4) (eC .non))) (tst (eFn d_less (aCons (eVar 6) (aCons (eVar 4) aNil)))))) (sSet 4 (eVar 6)) sNil)))) sNil), rfl⟩ : ∃ y : PL.Env → Res Fl, y = (sIf (tst (e2 neD (e2 ixD (e2 ixD (eVar 5) (eC (.int 0))) (eVar 1)) (eC (.int 0)))) (sSeq (sSet 6 (eFn d_edge_of (aCons (eVar 5) (aCons (eVar 1) (aCons (eVar 2) aNil)))))
    (sSeq (sIf (tst (e2 eqD (e2 ixD (eVar 5) (eC (.int 2))) (eC (.str "=")))) (sRet (eTup (aCons (eVar 6) (aCons (eVar 6) aNil)))) sNil)
    (sSeq (sIf (tAndD (tst (e2 gtD (e2 ixD (e2 ixD (eVar 5) (eC (.int 0))) (eVar 1)) (eC (.int 0)))) (tOrD (tst (e2 isD (eVar 3) (eC .non))) (tst (eFn d_less (aCons (eVar 3) (aCons (eVar 6) aNil)))))) (sSet 3 (eVar 6)) sNil)
    (sIf (tAndD (tst (e2 ltD (e2 ixD (e2 ixD (eVar 5) (eC (.int 0))) (eVar 1)) (eC (.int 0)))) (tOrD (tst (e2 isD (eVar 4) (eC .non))) (tst (eFn d_less (aCons (eVar 6) (aCons (eVar 4) aNil)))))) (sSet 4 (eVar 6)) sNil)))) sNil))
theorem b_ends_of_1_eq : b_ends_of_1 = (sIf (tst (e2 neD (e2 ixD (e2 ixD (eVar 5) (eC (.int 0))) (eVar 1)) (eC (.int 0)))) (sSeq (sSet 6 (eFn d_edge_of (aCons (eVar 5) (aCons (eVar 1) (aCons (eVar 2) aNil)))))
    (sSeq (sIf (tst (e2 eqD (e2 ixD (eVar 5) (eC (.int 2))) (eC (.str "=")))) (sRet (eTup (aCons (eVar 6) (aCons (eVar 6) aNil)))) sNil)
    (sSeq (sIf (tAndD (tst (e2 gtD (e2 ixD (e2 ixD (eVar 5) (eC (.int 0))) (eVar 1)) (eC (.int 0)))) (tOrD (tst (e2 isD (eVar 3) (eC .non))) (tst (eFn d_less (aCons (eVar 3) (aCons (eVar 6) aNil)))))) (sSet 3 (eVar 6)) sNil)
    (sIf (tAndD (tst (e2 ltD (e2 ixD (e2 ixD (eVar 5) (eC (.int 0))) (eVar 1)) (eC (.int 0)))) (tOrD (tst (e2 isD (eVar 4) (eC .non))) (tst (eFn d_less (aCons (eVar 6) (aCons (eVar 4) aNil)))))) (sSet 4 (eVar 6)) sNil)))) sNil) := Classical.choose_spec (⟨(sIf (tst (e2 neD (e2 ixD (e2 ixD (eVar 5) (eC (.int 0))) (eVar 1)) (eC (.int 0)))) (sSeq (sSet 6 (eFn d_edge_of (aCons (eVar 5) (aCons (eVar 1) (aCons (eVar 2) aNil)))))
    (sSeq (sIf (tst (e2 eqD (e2 ixD (eVar 5) (eC (.int 2))) (eC (.str "=")))) (sRet (eTup (aCons (eVar 6) (aCons (eVar 6) aNil)))) sNil)
    (sSeq (sIf (tAndD (tst (e2 gtD (e2 ixD (e2 ixD (eVar 5) (eC (.int 0))) (eVar 1)) (eC (.int 0)))) (tOrD (tst (e2 isD (eVar 3) (eC .non))) (tst (eFn d_less (aCons (eVar 3) (aCons (eVar 6) aNil)))))) (sSet 3 (eVar 6)) sNil)
    (sIf (tAndD (tst (e2 ltD (e2 ixD (e2 ixD (eVar 5) (eC (.int 0))) (eVar 1)) (eC (.int 0)))) (tOrD (tst (e2 isD (eVar 4) (eC .non))) (tst (eFn d_less (aCons (eVar 6) (aCons (eVar 4) aNil)))))) (sSet 4 (eVar 6)) sNil)))) sNil), rfl⟩ : ∃ y : PL.Env → Res Fl, y = (sIf (tst (e2 neD (e2 ixD (e2 ixD (eVar 5) (eC (.int 0))) (eVar 1)) (eC (.int 0)))) (sSeq (sSet 6 (eFn d_edge_of (aCons (eVar 5) (aCons (eVar 1) (aCons (eVar 2) aNil)))))
    (sSeq (sIf (tst (e2 eqD (e2 ixD (eVar 5) (eC (.int 2))) (eC (.str "=")))) (sRet (eTup (aCons (eVar 6) (aCons (eVar 6) aNil)))) sNil)
    (sSeq (sIf (tAndD (tst (e2 gtD (e2 ixD (e2 ixD (eVar 5) (eC (.int 0))) (eVar 1)) (eC (.int 0)))) (tOrD (tst (e2 isD (eVar 3) (eC .non))) (tst (eFn d_less (aCons (eVar 3) (aCons (eVar 6) aNil)))))) (sSet 3 (eVar 6)) sNil)
    (sIf (tAndD (tst (e2 ltD (e2 ixD (e2 ixD (eVar 5) (eC (.int 0))) (eVar 1)) (eC (.int 0)))) (tOrD (tst (e2 isD (eVar 4) (eC .non))) (tst (eFn d_less (aCons (eVar 6) (aCons (eVar 4) aNil)))))) (sSet 4 (eVar 6)) sNil)))) sNil))
noncomputable def s_ends_of : PL.Env → Res Fl := (sSeq (sSet 3 (eC .non))
    (sSeq (sSet 4 (eC .non))
    (sSeq (sFor (iSeq (eVar 0)) (pName 5) b_ends_of_1)
    (sRet (eTup (aCons (eVar 3) (aCons (eVar 4) aNil)))))))
noncomputable def d_ends_of : List D → Res Cell := Classical.choose (⟨runB 7 3 s_ends_of, rfl⟩ : ∃ y : List D → Res Cell, y = runB 7 3 s_ends_of)
theorem d_ends_of_eq : d_ends_of = runB 7 3 s_ends_of := Classical.choose_spec (⟨runB 7 3 s_ends_of, rfl⟩ : ∃ y : List D → Res Cell, y = runB 7 3 s_ends_of)
def oD : Option Rat → D
  | none => .non
  | some q => qD q
theorem v_ends_eq {own : Row} {v : Nat} {n : Nat} {T : List D} {q : Rat} (hv : v < n) (hl : own.nums.length = n) (hk : own.kd = .eq) (h0 : own.n v ≠ 0) (he : d_edge_of [rowD own, .int v, .lst T] = .ok (.val (qD q))) : d_ends_of [.lst [rowD own], .int v, .lst T] = .ok (.val (.tup [qD q, qD q])) := by
  have x0 : ixD (rowD own) (.int 0) = .ok (.tup (own.nums.map D.int)) := by unfold rowD; simp
  have x2 : ixD (rowD own) (.int 2) = .ok (.str (kS own.kd)) := by unfold rowD; simp
  have av : atD (own.nums.map D.int) (v : Int) = .ok (.int (own.n v)) := at_getD (by rw [hl]; exact hv)
  have k1 := kS_eq own.kd
  rw [hk] at k1 x2
  simp only [decide_true] at k1
  generalize rowD own = R at *
  generalize own.nums.map D.int = N at *
  generalize own.n v = z at *
  generalize (v : Int) = v' at *
  generalize qD q = Q at *
  simp [d_ends_of_eq, s_ends_of, start_eq, x_for_cons, b_ends_of_1_eq, x0, x2, av, h0, he, k1]
theorem lowS_skip {L : List Row} {r : Row} {v : Nat} {x : Nat → Rat} {lo : Option Rat} (h : LowS L v x lo) (hr : ¬ 0 < r.n v) : LowS (L ++ [r]) v x lo := by
  cases lo with
  | none =>
    intro s hs
    rcases List.mem_append.mp hs with q | q
    · exact h s q
    · rw [List.mem_singleton.mp q]; exact hr
  | some a =>
    obtain ⟨⟨s, h1, h2, h3⟩, h4⟩ := h
    refine ⟨⟨s, List.mem_append.mpr (.inl h1), h2, h3⟩, fun s hs hp => ?_⟩
    rcases List.mem_append.mp hs with q | q
    · exact h4 s q hp
    · rw [List.mem_singleton.mp q] at hp; exact absurd hp hr
theorem lowS_new {L : List Row} {r : Row} {v : Nat} {x : Nat → Rat} {lo : Option Rat} (h : LowS L v x lo) (hr : 0 < r.n v) (hl : ∀ q, lo = some q → q < ed r v x) : LowS (L ++ [r]) v x (some (ed r v x)) := by
  refine ⟨⟨r, List.mem_append.mpr (.inr (List.mem_singleton.mpr rfl)), hr, rfl⟩, fun s hs hp => ?_⟩
  rcases List.mem_append.mp hs with q | q
  · cases lo with
    | none => exact absurd hp (h s q)
    | some a =>
      have := h.2 s q hp
      have := hl a rfl
      grind
  · rw [List.mem_singleton.mp q]; grind
theorem lowS_keep {L : List Row} {r : Row} {v : Nat} {x : Nat → Rat} {a : Rat} (h : LowS L v x (some a)) (hl : ¬ a < ed r v x) : LowS (L ++ [r]) v x (some a) := by
  obtain ⟨⟨s, h1, h2, h3⟩, h4⟩ := h
  refine ⟨⟨s, List.mem_append.mpr (.inl h1), h2, h3⟩, fun s hs hp => ?_⟩
  rcases List.mem_append.mp hs with q | q
  · exact h4 s q hp
  · rw [List.mem_singleton.mp q]; grind
theorem highS_skip {L : List Row} {r : Row} {v : Nat} {x : Nat → Rat} {lo : Option Rat} (h : HighS L v x lo) (hr : ¬ r.n v < 0) : HighS (L ++ [r]) v x lo := by
  cases lo with
  | none =>
    intro s hs
    rcases List.mem_append.mp hs with q | q
    · exact h s q
    · rw [List.mem_singleton.mp q]; exact hr
  | some a =>
    obtain ⟨⟨s, h1, h2, h3⟩, h4⟩ := h
    refine ⟨⟨s, List.mem_append.mpr (.inl h1), h2, h3⟩, fun s hs hp => ?_⟩
    rcases List.mem_append.mp hs with q | q
    · exact h4 s q hp
    · rw [List.mem_singleton.mp q] at hp; exact absurd hp hr
theorem highS_new {L : List Row} {r : Row} {v : Nat} {x : Nat → Rat} {lo : Option Rat} (h : HighS L v x lo) (hr : r.n v < 0) (hl : ∀ q, lo = some q → ed r v x < q) : HighS (L ++ [r]) v x (some (ed r v x)) := by
  refine ⟨⟨r, List.mem_append.mpr (.inr (List.mem_singleton.mpr rfl)), hr, rfl⟩, fun s hs hp => ?_⟩
  rcases List.mem_append.mp hs with q | q
  · cases lo with
    | none => exact absurd hp (h s q)
    | some a =>
      have := h.2 s q hp
      have := hl a rfl
      grind
  · rw [List.mem_singleton.mp q]; grind
theorem highS_keep {L : List Row} {r : Row} {v : Nat} {x : Nat → Rat} {a : Rat} (h : HighS L v x (some a)) (hl : ¬ ed r v x < a) : HighS (L ++ [r]) v x (some a) := by
  obtain ⟨⟨s, h1, h2, h3⟩, h4⟩ := h
  refine ⟨⟨s, List.mem_append.mpr (.inl h1), h2, h3⟩, fun s hs hp => ?_⟩
  rcases List.mem_append.mp hs with q | q
  · exact h4 s q hp
  · rw [List.mem_singleton.mp q]; grind
theorem lowS_ed {L : List Row} {v : Nat} {x : Nat → Rat} {q : Rat} (h : LowS L v x (some q)) : ∃ r ∈ L, r.n v ≠ 0 ∧ ed r v x = q := by
  obtain ⟨⟨s, h1, h2, h3⟩, _⟩ := h
  exact ⟨s, h1, by omega, h3⟩
theorem highS_ed {L : List Row} {v : Nat} {x : Nat → Rat} {q : Rat} (h : HighS L v x (some q)) : ∃ r ∈ L, r.n v ≠ 0 ∧ ed r v x = q := by
  obtain ⟨⟨s, h1, h2, h3⟩, _⟩ := h
  exact ⟨s, h1, by omega, h3⟩
theorem v_ends_pr {L : List Row} {v n K : Nat} {T : List D} {x : Nat → Rat} (hv : v < n) (hl : ∀ r ∈ L, r.nums.length = n) (ne : ∀ r ∈ L, ¬ (r.kd = .eq ∧ r.n v ≠ 0)) (hK : 2 * K < 13000)
    (he : ∀ r ∈ L, r.n v ≠ 0 → d_edge_of [rowD r, .int v, .lst T] = .ok (.val (qD (ed r v x))) ∧ QB K (ed r v x)) :
    ∃ lo hi : Option Rat, d_ends_of [.lst (L.map rowD), .int v, .lst T] = .ok (.val (.tup [oD lo, oD hi])) ∧ LowS L v x lo ∧ HighS L v x hi := by
  obtain ⟨env', hfor, lo, hi, x5, x6, rfl, h1, h2⟩ := for_inv (p := pName 5) (s := b_ends_of_1) (fun i env => ∃ (lo hi : Option Rat) (x5 x6 : Option Cell), env = [some (.val (.lst (L.map rowD))), some (.val (.int v)), some (.val (.lst T)), some (.val (oD lo)), some (.val (oD hi)), x5, x6] ∧ LowS (L.take i) v x lo ∧ HighS (L.take i) v x hi) (L.map rowD) [some (.val (.lst (L.map rowD))), some (.val (.int v)), some (.val (.lst T)), some (.val .non), some (.val .non), none, none] 0 ⟨none, none, none, none, rfl, fun r hr => by simp at hr, fun r hr => by simp at hr⟩ (by
    rintro i hi' env ⟨lo, hi, x5, x6, rfl, hlo, hhi⟩
    have hi2 : i < L.length := by simpa using hi'
    have e : (L.map rowD)[i] = rowD L[i] := by rw [List.getElem_map]
    rw [e, Nat.zero_add, List.take_succ_eq_append_getElem hi2]
    rw [Nat.zero_add] at hlo hhi
    have ll := hl L[i] (List.getElem_mem hi2)
    have ne' := ne L[i] (List.getElem_mem hi2)
    have he' := he L[i] (List.getElem_mem hi2)
    have bq : ∀ (l : List Row) (a : Rat), (∀ r ∈ l, r ∈ L) → (LowS l v x (some a) ∨ HighS l v x (some a)) → QB K a := fun l a sub q => by
      rcases q with q | q
      · obtain ⟨s, q1, q2, q3⟩ := lowS_ed q
        rw [← q3]; exact (he s (sub s q1) q2).2
      · obtain ⟨s, q1, q2, q3⟩ := highS_ed q
        rw [← q3]; exact (he s (sub s q1) q2).2
    have bl : ∀ a, lo = some a → QB K a := fun a q => bq _ a (fun r hr => List.mem_of_mem_take hr) (.inl (q ▸ hlo))
    have bh : ∀ a, hi = some a → QB K a := fun a q => bq _ a (fun r hr => List.mem_of_mem_take hr) (.inr (q ▸ hhi))
    clear bq e
    generalize L.take i = L1 at *
    generalize L[i] = r at *
    have x0 : ixD (rowD r) (.int 0) = .ok (.tup (r.nums.map D.int)) := by unfold rowD; simp
    have x2 : ixD (rowD r) (.int 2) = .ok (.str (kS r.kd)) := by unfold rowD; simp
    have av : atD (r.nums.map D.int) (v : Int) = .ok (.int (r.n v)) := at_getD (by rw [ll]; exact hv)
    have k1 := kS_eq r.kd
    have an : isD .non .non = .ok (.bl true) := rfl
    have aq : ∀ q, isD (qD q) .non = .ok (.bl false) := fun _ => rfl
    by_cases z : r.n v = 0
    · refine ⟨[(5, rowD r)], [some (.val (.lst (L.map rowD))), some (.val (.int v)), some (.val (.lst T)), some (.val (oD lo)), some (.val (oD hi)), some (.val (rowD r)), x6], rfl, .inl ?_, lo, hi, _, _, rfl, lowS_skip hlo (by omega), highS_skip hhi (by omega)⟩
      rw [z] at av
      generalize L.map rowD = TT at *
      generalize rowD r = R at *
      generalize r.nums.map D.int = N at *
      generalize (v : Int) = v' at *
      generalize oD lo = a at *
      generalize oD hi = b at *
      simp [b_ends_of_1_eq, x0, av]
    · obtain ⟨e1, b1⟩ := he' z
      have kn : r.kd ≠ .eq := fun q => ne' ⟨q, z⟩
      simp only [decide_eq_false kn] at k1
      by_cases p : 0 < r.n v
      · have p2 : ¬ r.n v < 0 := by omega
        have hH : HighS (L1 ++ [r]) v x hi := highS_skip hhi p2
        cases lo with
        | none =>
          refine ⟨[(5, rowD r)], [some (.val (.lst (L.map rowD))), some (.val (.int v)), some (.val (.lst T)), some (.val (oD (some (ed r v x)))), some (.val (oD hi)), some (.val (rowD r)), some (.val (qD (ed r v x)))], rfl, .inl ?_, some (ed r v x), hi, _, _, rfl, lowS_new hlo p (fun q h => nomatch h), hH⟩
          have o1 : oD (some (ed r v x)) = qD (ed r v x) := rfl
          have o2 : oD none = .non := rfl
          rw [o1, o2]
          generalize L.map rowD = TT at *
          generalize rowD r = R at *
          generalize r.nums.map D.int = N at *
          generalize (v : Int) = v' at *
          generalize qD (ed r v x) = Q at *
          generalize oD hi = b at *
          generalize r.n v = zz at *
          simp [b_ends_of_1_eq, x0, x2, av, z, e1, k1, p, p2, an]
        | some a =>
          have vl := v_less (bl a rfl) b1 (by omega)
          have o2 : oD (some a) = qD a := rfl
          have aq' := aq a
          by_cases w : a < ed r v x
          · refine ⟨[(5, rowD r)], [some (.val (.lst (L.map rowD))), some (.val (.int v)), some (.val (.lst T)), some (.val (oD (some (ed r v x)))), some (.val (oD hi)), some (.val (rowD r)), some (.val (qD (ed r v x)))], rfl, .inl ?_, some (ed r v x), hi, _, _, rfl, lowS_new hlo p (fun q h => by cases h; exact w), hH⟩
            have o1 : oD (some (ed r v x)) = qD (ed r v x) := rfl
            rw [o1, o2]
            rw [decide_eq_true w] at vl
            generalize L.map rowD = TT at *
            generalize rowD r = R at *
            generalize r.nums.map D.int = N at *
            generalize (v : Int) = v' at *
            generalize qD (ed r v x) = Q at *
            generalize qD a = A at *
            generalize oD hi = b at *
            generalize r.n v = zz at *
            simp [b_ends_of_1_eq, x0, x2, av, z, e1, k1, p, p2, aq', vl]
          · refine ⟨[(5, rowD r)], [some (.val (.lst (L.map rowD))), some (.val (.int v)), some (.val (.lst T)), some (.val (oD (some a))), some (.val (oD hi)), some (.val (rowD r)), some (.val (qD (ed r v x)))], rfl, .inl ?_, some a, hi, _, _, rfl, lowS_keep hlo w, hH⟩
            rw [o2]
            rw [decide_eq_false w] at vl
            generalize L.map rowD = TT at *
            generalize rowD r = R at *
            generalize r.nums.map D.int = N at *
            generalize (v : Int) = v' at *
            generalize qD (ed r v x) = Q at *
            generalize qD a = A at *
            generalize oD hi = b at *
            generalize r.n v = zz at *
            simp [b_ends_of_1_eq, x0, x2, av, z, e1, k1, p, p2, aq', vl]
      · have p2 : r.n v < 0 := by omega
        have hH : LowS (L1 ++ [r]) v x lo := lowS_skip hlo p
        cases hi with
        | none =>
          refine ⟨[(5, rowD r)], [some (.val (.lst (L.map rowD))), some (.val (.int v)), some (.val (.lst T)), some (.val (oD lo)), some (.val (oD (some (ed r v x)))), some (.val (rowD r)), some (.val (qD (ed r v x)))], rfl, .inl ?_, lo, some (ed r v x), _, _, rfl, hH, highS_new hhi p2 (fun q h => nomatch h)⟩
          have o1 : oD (some (ed r v x)) = qD (ed r v x) := rfl
          have o2 : oD none = .non := rfl
          rw [o1, o2]
          generalize L.map rowD = TT at *
          generalize rowD r = R at *
          generalize r.nums.map D.int = N at *
          generalize (v : Int) = v' at *
          generalize qD (ed r v x) = Q at *
          generalize oD lo = b at *
          generalize r.n v = zz at *
          simp [b_ends_of_1_eq, x0, x2, av, z, e1, k1, p, p2, an]
        | some a =>
          have vl := v_less b1 (bh a rfl) (by omega)
          have o2 : oD (some a) = qD a := rfl
          have aq' := aq a
          by_cases w : ed r v x < a
          · refine ⟨[(5, rowD r)], [some (.val (.lst (L.map rowD))), some (.val (.int v)), some (.val (.lst T)), some (.val (oD lo)), some (.val (oD (some (ed r v x)))), some (.val (rowD r)), some (.val (qD (ed r v x)))], rfl, .inl ?_, lo, some (ed r v x), _, _, rfl, hH, highS_new hhi p2 (fun q h => by cases h; exact w)⟩
            have o1 : oD (some (ed r v x)) = qD (ed r v x) := rfl
            rw [o1, o2]
            rw [decide_eq_true w] at vl
            generalize L.map rowD = TT at *
            generalize rowD r = R at *
            generalize r.nums.map D.int = N at *
            generalize (v : Int) = v' at *
            generalize qD (ed r v x) = Q at *
            generalize qD a = A at *
            generalize oD lo = b at *
            generalize r.n v = zz at *
            simp [b_ends_of_1_eq, x0, x2, av, z, e1, k1, p, p2, aq', vl]
          · refine ⟨[(5, rowD r)], [some (.val (.lst (L.map rowD))), some (.val (.int v)), some (.val (.lst T)), some (.val (oD lo)), some (.val (oD (some a))), some (.val (rowD r)), some (.val (qD (ed r v x)))], rfl, .inl ?_, lo, some a, _, _, rfl, hH, highS_keep hhi w⟩
            rw [o2]
            rw [decide_eq_false w] at vl
            generalize L.map rowD = TT at *
            generalize rowD r = R at *
            generalize r.nums.map D.int = N at *
            generalize (v : Int) = v' at *
            generalize qD (ed r v x) = Q at *
            generalize qD a = A at *
            generalize oD lo = b at *
            generalize r.n v = zz at *
            simp [b_ends_of_1_eq, x0, x2, av, z, e1, k1, p, p2, aq', vl])
  rw [Nat.zero_add, List.length_map, List.take_length] at h1 h2
  refine ⟨lo, hi, ?_, h1, h2⟩
  generalize L.map rowD = TT at *
  generalize (v : Int) = v' at *
  generalize oD lo = a at *
  generalize oD hi = b at *
  simp [d_ends_of_eq, s_ends_of, start_eq, hfor]

noncomputable def s_chosen : PL.Env → Res Fl := (sSeq (sIf (tAndD (tst (e2 isD (eVar 0) (eC .non))) (tst (e2 isD (eVar 1) (eC .non)))) (sRet (eC (.tup [.int 0, .int 1]))) sNil)
    (sSeq (sIf (tst (e2 isD (eVar 0) (eC .non))) (sRet (eFn d_minus (aCons (eVar 1) (aCons (eTup (aCons (eC (.int 1)) (aCons (eC (.int 1)) aNil))) aNil)))) sNil)
    (sSeq (sIf (tst (e2 isD (eVar 1) (eC .non))) (sRet (eFn d_plus (aCons (eVar 0) (aCons (eTup (aCons (eC (.int 1)) (aCons (eC (.int 1)) aNil))) aNil)))) sNil)
    (sRet (eFn d_over (aCons (eFn d_plus (aCons (eVar 0) (aCons (eVar 1) aNil))) (aCons (eTup (aCons (eC (.int 2)) (aCons (eC (.int 1)) aNil))) aNil)))))))
noncomputable def d_chosen : List D → Res Cell := Classical.choose (⟨runB 2 2 s_chosen, rfl⟩ : ∃ y : List D → Res Cell, y = runB 2 2 s_chosen)
theorem d_chosen_eq : d_chosen = runB 2 2 s_chosen := Classical.choose_spec (⟨runB 2 2 s_chosen, rfl⟩ : ∃ y : List D → Res Cell, y = runB 2 2 s_chosen)
theorem chs_bd {m n : Nat} {lo hi : Option Rat} (h1 : ∀ q, lo = some q → QN m n q) (h2 : ∀ q, hi = some q → QN m n q) : QN (m + n + 2) (2 * n + 2) (chs lo hi) := by
  have o1 : QN 1 1 ((1 : Int) : Rat) := QN.int (by unfold Bd; decide)
  have e1 : ((1 : Int) : Rat) = 1 := rfl
  rw [e1] at o1
  cases lo with
  | none =>
    cases hi with
    | none => exact (QB.zero (n := 1) (by decide)).qn.mono (by omega) (by omega)
    | some h => exact ((h2 h rfl).sub o1 (k := m + n + 1) (by omega) (by omega)).mono (by omega) (by omega)
  | some l =>
    cases hi with
    | none => exact ((h1 l rfl).add o1 (k := m + n + 1) (by omega) (by omega)).mono (by omega) (by omega)
    | some h =>
      have a := (h1 l rfl).add (h2 h rfl) (k := m + n) (by omega) (by omega)
      have b := QN.idiv (b := 2) (z := 2) (by unfold Bd; decide) (by decide) a
      have e : (l + h) / ((2 : Int) : Rat) = chs (some l) (some h) := rfl
      rw [e] at b
      exact b.mono (by omega) (by omega)
theorem v_chosen {K : Nat} {lo hi : Option Rat} (h1 : ∀ q, lo = some q → QB K q) (h2 : ∀ q, hi = some q → QB K q) (hK : 2 * K + 10 < 13000) : d_chosen [oD lo, oD hi] = .ok (.val (qD (chs lo hi))) := by
  have an : isD .non .non = .ok (.bl true) := rfl
  have aq : ∀ q, isD (qD q) .non = .ok (.bl false) := fun _ => rfl
  have o1 : QB 1 ((1 : Int) : Rat) := QB.int (by unfold Bd; decide) (by decide)
  have o2 : QB 2 ((2 : Int) : Rat) := QB.int (by unfold Bd; decide) (by decide)
  have on : oD none = .non := rfl
  have os : ∀ q, oD (some q) = qD q := fun _ => rfl
  cases lo with
  | none =>
    cases hi with
    | none =>
      have e : qD (chs none none) = .tup [.int 0, .int 1] := rfl
      rw [e, on]
      simp [d_chosen_eq, s_chosen, start_eq, an]
    | some h =>
      have w := v_minus (h2 h rfl) o1 (by omega)
      have e : h - ((1 : Int) : Rat) = chs none (some h) := rfl
      rw [e, qD_int] at w
      rw [on, os]
      have aq := aq h
      generalize qD h = Q at *
      generalize qD (chs none (some h)) = Q2 at *
      simp [d_chosen_eq, s_chosen, start_eq, an, aq, w]
  | some l =>
    cases hi with
    | none =>
      have w := v_plus (h1 l rfl) o1 (by omega)
      have e : l + ((1 : Int) : Rat) = chs (some l) none := rfl
      rw [e, qD_int] at w
      rw [on, os]
      have aq := aq l
      generalize qD l = Q at *
      generalize qD (chs (some l) none) = Q2 at *
      simp [d_chosen_eq, s_chosen, start_eq, an, aq, w]
    | some h =>
      have w := v_plus (h1 l rfl) (h2 h rfl) (by omega)
      have w2 := v_over ((h1 l rfl).add (h2 h rfl)) o2 (by omega) (by decide)
      have e : (l + h) / ((2 : Int) : Rat) = chs (some l) (some h) := rfl
      rw [e, qD_int] at w2
      rw [os, os]
      have aq1 := aq l
      have aq2 := aq h
      generalize qD l = Q at *
      generalize qD h = Q' at *
      generalize qD (l + h) = Q3 at *
      generalize qD (chs (some l) (some h)) = Q2 at *
      simp [d_chosen_eq, s_chosen, start_eq, an, aq1, aq2, w, w2]

noncomputable def b_solve_1 : PL.Env → Res Fl := Classical.choose (⟨(sSeq (sUnpB (pTup (pCons (pName 8) (pCons (pName 9) pNil))) (eFn d_ends_of (aCons (eVar 7) (aCons (eVar 6) (aCons (eVar 5) aNil)))))
    (sIx 5 (eVar 6) (eFn d_chosen (aCons (eVar 8) (aCons (eVar 9) aNil))))), rfl⟩ : ∃ y : PL.Env → Res Fl, y = (sSeq (sUnpB (pTup (pCons (pName 8) (pCons (pName 9) pNil))) (eFn d_ends_of (aCons (eVar 7) (aCons (eVar 6) (aCons (eVar 5) aNil)))))
    (sIx 5 (eVar 6) (eFn d_chosen (aCons (eVar 8) (aCons (eVar 9) aNil))))))
theorem b_solve_1_eq : b_solve_1 = (sSeq (sUnpB (pTup (pCons (pName 8) (pCons (pName 9) pNil))) (eFn d_ends_of (aCons (eVar 7) (aCons (eVar 6) (aCons (eVar 5) aNil)))))
    (sIx 5 (eVar 6) (eFn d_chosen (aCons (eVar 8) (aCons (eVar 9) aNil))))) := Classical.choose_spec (⟨(sSeq (sUnpB (pTup (pCons (pName 8) (pCons (pName 9) pNil))) (eFn d_ends_of (aCons (eVar 7) (aCons (eVar 6) (aCons (eVar 5) aNil)))))
    (sIx 5 (eVar 6) (eFn d_chosen (aCons (eVar 8) (aCons (eVar 9) aNil))))), rfl⟩ : ∃ y : PL.Env → Res Fl, y = (sSeq (sUnpB (pTup (pCons (pName 8) (pCons (pName 9) pNil))) (eFn d_ends_of (aCons (eVar 7) (aCons (eVar 6) (aCons (eVar 5) aNil)))))
    (sIx 5 (eVar 6) (eFn d_chosen (aCons (eVar 8) (aCons (eVar 9) aNil))))))
noncomputable def s_solve : PL.Env → Res Fl := (sSeq (sUnp (pTup (pCons (pName 2) (pCons (pName 3) pNil))) (eFn d_steps_of (aCons (eVar 1) (aCons (lstD (oRg1 (eVar 0))) aNil))))
    (sSeq (sSet 4 (eFn d_failing (aCons (eVar 3) aNil)))
    (sSeq (sIf (tst (e2 isntD (eVar 4) (eC .non))) (sRet (eTup (aCons (eC (.str "weights")) (aCons (eVar 4) aNil)))) sNil)
    (sSeq (sOwn 5 (o2 repO (lstD (oLst (aCons (eC (.tup [.int 0, .int 1])) aNil))) (eVar 0)))
    (sSeq (sFor (iRevD (eVar 2)) (pTup (pCons (pName 6) (pCons (pName 7) pNil))) b_solve_1)
    (sRet (eTup (aCons (eC (.str "spot")) (aCons (eCall tupleD (aCons (eVar 5) aNil)) aNil)))))))))
noncomputable def d_solve : List D → Res Cell := Classical.choose (⟨runB 10 2 s_solve, rfl⟩ : ∃ y : List D → Res Cell, y = runB 10 2 s_solve)
theorem d_solve_eq : d_solve = runB 10 2 s_solve := Classical.choose_spec (⟨runB 10 2 s_solve, rfl⟩ : ∃ y : List D → Res Cell, y = runB 10 2 s_solve)
inductive Turns (p : Pat) (s : PL.Env → Res Fl) : List D → PL.Env → PL.Env → Prop
  | nil {env : PL.Env} : Turns p s [] env env
  | cons {d : D} {ds : List D} {as : List (Nat × D)} {env e1 e2 : PL.Env} (hp : p d = .ok as) (hs : s (setAllE env as) = .ok (.nx e1)) (r : Turns p s ds e1 e2) : Turns p s (d :: ds) env e2
theorem Turns.run {p : Pat} {s : PL.Env → Res Fl} {l : List D} {env e : PL.Env} (h : Turns p s l env e) : forD p s l env = .ok (.nx e) := by
  induction h with
  | nil => rfl
  | cons hp hs _ ih => rw [x_for_cons, hp, must_ok, hs]; exact ih
theorem Turns.snoc {p : Pat} {s : PL.Env → Res Fl} {l : List D} {env e : PL.Env} (h : Turns p s l env e) : ∀ {d : D} {as : List (Nat × D)} {e' : PL.Env}, p d = .ok as → s (setAllE e as) = .ok (.nx e') → Turns p s (l ++ [d]) env e' := by
  induction h with
  | nil => exact fun hp hs => .cons hp hs .nil
  | cons hp hs _ ih => exact fun hp' hs' => .cons hp hs (ih hp' hs')
def EE (b : Nat) : Nat → Nat
  | 0 => 58 * b + 110
  | 1 => 20 * b + 36
  | _ => 8 * b + 12
def MM (b : Nat) : Nat → Nat
  | 0 => 29 * b + 52
  | 1 => 10 * b + 15
  | _ => 4 * b + 3
theorem MM_le {b v : Nat} : MM b v ≤ 29 * b + 52 ∧ 2 * MM b v + 4 ≤ EE b v := by
  unfold MM EE
  split <;> simp <;> omega
def lT (r : Row) (v : Nat) (e : Nat → Nat) (i : Nat) : Nat := if i = v ∨ r.n i = 0 then 0 else e i + 2
theorem lN_le {r : Row} {v b : Nat} {e : Nat → Nat} {j : Nat} (h : j ≤ 3) : lN r v e b j ≤ b + lT r v e 0 + lT r v e 1 + lT r v e 2 ∧ lM r v e j ≤ 1 + lT r v e 0 + lT r v e 1 + lT r v e 2 := by
  have st : ∀ j, lN r v e b (j + 1) = lN r v e b j + lT r v e j ∧ lM r v e (j + 1) ≤ lM r v e j + lT r v e j := fun j => by
    by_cases h : j = v ∨ r.n j = 0
    · simp only [lN, lM, lT, if_pos h]; omega
    · simp only [lN, lM, lT, if_neg h]; omega
  have a : lN r v e b 1 = lN r v e b 0 + lT r v e 0 ∧ lM r v e 1 ≤ lM r v e 0 + lT r v e 0 := st 0
  have b' : lN r v e b 2 = lN r v e b 1 + lT r v e 1 ∧ lM r v e 2 ≤ lM r v e 1 + lT r v e 1 := st 1
  have c : lN r v e b 3 = lN r v e b 2 + lT r v e 2 ∧ lM r v e 3 ≤ lM r v e 2 + lT r v e 2 := st 2
  have z1 : lN r v e b 0 = b := rfl
  have z2 : lM r v e 0 = 1 := rfl
  have : j = 0 ∨ j = 1 ∨ j = 2 ∨ j = 3 := by omega
  rcases this with rfl | rfl | rfl | rfl <;> omega
/-- the edges at a stage -/
theorem stage {b0 n m v B : Nat} {r : Row} {S : List Rat} (hr : RB B n m r) (hv : v < n) (n3 : n ≤ 3) (h0 : r.n v ≠ 0) (hS : S.length = n) (hb : B + 1 ≤ 2 ^ v * (b0 + 1)) (b200 : b0 ≤ 200) (gone : ∀ u, u < v → r.n u = 0) (hz : ∀ u, u ≤ v → pt S u = 0) (hE : ∀ u, v < u → u < n → QB (EE b0 u) (pt S u)) :
    d_edge_of [rowD r, .int v, .lst (S.map qD)] = .ok (.val (qD (ed r v (pt S)))) ∧ QN (MM b0 v) (MM b0 v + 1) (ed r v (pt S)) := by
  have hall : ∀ q ∈ S, QB 12900 q := fun q hq => by
    obtain ⟨u, hu, rfl⟩ := List.getElem_of_mem hq
    have e : S[u] = pt S u := by simp [pt, hu]
    rw [e]
    by_cases c : u ≤ v
    · rw [hz u c]; exact QB.zero (by decide)
    · refine (hE u (by omega) (by omega)).mono ?_
      have : u = 1 ∨ u = 2 := by omega
      rcases this with rfl | rfl <;> simp [EE] <;> omega
  have hv3 : v = 0 ∨ v = 1 ∨ v = 2 := by omega
  have hx : ∀ i, i < n → i ≠ v → r.n i ≠ 0 → QB (EE b0 i) (pt S i) := fun i hi hne hnz => by
    rcases Nat.lt_or_gt_of_ne hne with c | c
    · exact absurd (gone i c) hnz
    · exact hE i c hi
  have tv : lT r v (EE b0) v = 0 := by unfold lT; simp
  have tg : ∀ u, u < v → lT r v (EE b0) u = 0 := fun u hu => by unfold lT; simp [gone u hu]
  have tle : ∀ u, lT r v (EE b0) u ≤ EE b0 u + 2 := fun u => by unfold lT; split <;> omega
  have key := fun j (h : j ≤ 3) => lN_le (r := r) (v := v) (b := B) (e := EE b0) h
  have t0 := tle 0
  have t1 := tle 1
  have t2 := tle 2
  have e0 : EE b0 0 = 58 * b0 + 110 := rfl
  have e1 : EE b0 1 = 20 * b0 + 36 := rfl
  have e2 : EE b0 2 = 8 * b0 + 12 := rfl
  have m0 : MM b0 0 = 29 * b0 + 52 := rfl
  have m1 : MM b0 1 = 10 * b0 + 15 := rfl
  have m2 : MM b0 2 = 4 * b0 + 3 := rfl
  have kn := key n n3
  rcases hv3 with rfl | rfl | rfl
  · have hb : B + 1 ≤ b0 + 1 := by simpa using hb
    obtain ⟨w, q⟩ := v_edge_of (K := B + EE b0 1 + EE b0 2 + 5) hr hv n3 h0 hS hx hall (by omega) (fun j hj => by have := key j (by omega); omega) (by omega)
    exact ⟨w, q.mono (by omega) (by omega)⟩
  · have g0 := tg 0 (by decide)
    have hb : B + 1 ≤ 2 * (b0 + 1) := by simpa using hb
    obtain ⟨w, q⟩ := v_edge_of (K := B + EE b0 2 + 3) hr hv n3 h0 hS hx hall (by omega) (fun j hj => by have := key j (by omega); omega) (by omega)
    exact ⟨w, q.mono (by omega) (by omega)⟩
  · have g0 := tg 0 (by decide)
    have g1 := tg 1 (by decide)
    have hb : B + 1 ≤ 4 * (b0 + 1) := by simpa using hb
    obtain ⟨w, q⟩ := v_edge_of (K := B + 1) hr hv n3 h0 hS hx hall (by omega) (fun j hj => by have := key j (by omega); omega) (by omega)
    exact ⟨w, q.mono (by omega) (by omega)⟩
theorem pt_set {S : List Rat} {v : Nat} {t : Rat} (hv : v < S.length) : pt (S.set v t) = upx (pt S) v t := by
  funext k
  unfold pt upx
  by_cases h : k = v
  · subst h; simp [hv]
  · rw [if_neg h, List.getD_eq_getElem?_getD, List.getElem?_set_ne (Ne.symm h), ← List.getD_eq_getElem?_getD]
theorem ixN_n {n v : Nat} (h : v < n) : ixN n (v : Int) = some v := by
  unfold ixN
  rw [if_pos (by omega), if_pos (by omega)]
  simp
abbrev solE (n : Nat) (T X Y : List D) (W : D) (S : List Rat) (x6 x7 x8 x9 : Option Cell) : PL.Env := [some (.val (.int n)), some (.val (.lst T)), some (.val (.lst X)), some (.val (.lst Y)), some (.val W), some (.own (S.map qD)), x6, x7, x8, x9]
theorem noLst_qD (q : Rat) : noLst (qD q) = true := by unfold qD; simp [noLst, noLsts]
theorem noLst_oD (q : Option Rat) : noLst (oD q) = true := by cases q with
  | none => simp [oD, noLst]
  | some q => exact noLst_qD q
theorem sol_turn {n v : Nat} {T X Y Z : List D} {W : D} {S : List Rat} {lo hi : Option Rat} {t : Rat} {x6 x7 x8 x9 : Option Cell} (hv : v < S.length) (h1 : d_ends_of [.lst Z, .int v, .lst (S.map qD)] = .ok (.val (.tup [oD lo, oD hi]))) (h2 : d_chosen [oD lo, oD hi] = .ok (.val (qD t))) :
    b_solve_1 (setAllE (solE n T X Y W S x6 x7 x8 x9) [(6, .int v), (7, .lst Z)]) = .ok (.nx (solE n T X Y W (S.set v t) (some (.val (.int v))) (some (.val (.lst Z))) (some (.val (oD lo))) (some (.val (oD hi))))) := by
  have n1 := noLst_oD lo
  have n2 := noLst_oD hi
  have n3 := noLst_qD t
  have nl : noLst (.tup [oD lo, oD hi]) = true := by simp [noLst, noLsts, n1, n2]
  have lS : (S.map qD).length = S.length := by simp
  have ix := ixN_n hv
  have es : (S.set v t).map qD = (S.map qD).set v (qD t) := by rw [List.map_set]
  unfold solE
  rw [es]
  generalize oD lo = a at *
  generalize oD hi = b at *
  generalize qD t = q at *
  generalize S.map qD = U at *
  generalize hw : (v : Int) = v' at *
  generalize (n : Int) = n' at *
  simp [b_solve_1_eq, h1, nl, h2, n3, sIx, ownAt, lS, ix]
theorem back {b0 n m : Nat} {T X Y : List D} {W : D} (n3 : n ≤ 3) (b200 : b0 ≤ 200) : ∀ (k v b : Nat) (L : List Row) (st : List (Nat × List Row)) (left : List Row), v + k = n → Steps n m b (List.range' v k) L st left → b + 1 ≤ 2 ^ v * (b0 + 1) → (∀ r ∈ L, ∀ u, u < v → r.n u = 0) → (∀ r ∈ left, ∀ x, holds r x) →
    ∃ (S : List Rat) (x6 x7 x8 x9 : Option Cell), S.length = n ∧ Turns (pTup (pCons (pName 6) (pCons (pName 7) pNil))) b_solve_1 (st.reverse.map stD) (solE n T X Y W (List.replicate n 0) none none none none) (solE n T X Y W S x6 x7 x8 x9) ∧ (∀ u, u < v → pt S u = 0) ∧ (∀ u, v ≤ u → u < n → QB (EE b0 u) (pt S u)) ∧ ∀ r ∈ L, holds r (pt S)
  | 0, v, b, L, st, left, hk, hs, hb, gone, fine => by
    cases hs with
    | nil _ =>
      refine ⟨List.replicate n 0, none, none, none, none, by simp, .nil, fun u hu => ?_, fun u h1 h2 => by omega, fun r hr => fine r hr _⟩
      unfold pt
      by_cases h : u < n
      · simp [h]
      · simp [h]
  | k + 1, v, b, L, st, left, hk, hs, hb, gone, fine => by
    have hr : List.range' v (k + 1) = v :: List.range' (v + 1) k := by rw [List.range'_succ]
    rw [hr] at hs
    have hb2 : 2 * b + 1 + 1 ≤ 2 ^ (v + 1) * (b0 + 1) := by
      have : 2 ^ (v + 1) * (b0 + 1) = 2 * (2 ^ v * (b0 + 1)) := by rw [Nat.pow_succ]; grind
      omega
    have hv : v < n := by omega
    cases hs with
    | @eq _ _ _ _ L' _ st' own hB ho hkd h0 f w s =>
      have gone' : ∀ r' ∈ L', ∀ u, u < v + 1 → r'.n u = 0 := fun r' hr' u hu => by
        obtain ⟨r, q1, q2⟩ := w r' hr'
        by_cases c : u = v
        · rw [c]; exact q2.z
        · rcases q2.h with e | ⟨a, t, _, mm⟩
          · rw [e]; exact gone r q1 u (by omega)
          · exact mix_zero mm (gone r q1 u (by omega)) (gone own ho u (by omega))
      obtain ⟨S, x6, x7, x8, x9, hS, tu, z, E, hh⟩ := back n3 b200 k (v + 1) (2 * b + 1) L' st' left (by omega) s hb2 gone' fine
      have hvS : v < S.length := by omega
      have mle := MM_le (b := b0) (v := v)
      obtain ⟨w1, q1⟩ := stage (hB own ho) hv n3 h0 hS hb b200 (gone own ho) (fun u hu => z u (by omega)) (fun u h1 h2 => E u (by omega) h2)
      have en := v_ends_eq hv (hB own ho).ln hkd h0 w1
      have eo : oD (some (ed own v (pt S))) = qD (ed own v (pt S)) := rfl
      rw [← eo] at en
      have qs : ∀ q, some (ed own v (pt S)) = some q → QB (29 * b0 + 55) q := fun q h => by cases h; exact q1.qb (by omega) (by omega)
      have qn : ∀ q, some (ed own v (pt S)) = some q → QN (MM b0 v) (MM b0 v + 1) q := fun q h => by cases h; exact q1
      have ch := v_chosen qs qs (by omega)
      have cb := chs_bd qn qn
      have ce : chs (some (ed own v (pt S))) (some (ed own v (pt S))) = ed own v (pt S) := by unfold chs; grind
      rw [ce] at ch cb
      have tn := sol_turn (n := n) (T := T) (X := X) (Y := Y) (W := W) (x6 := x6) (x7 := x7) (x8 := x8) (x9 := x9) hvS en ch
      refine ⟨S.set v (ed own v (pt S)), some (.val (.int v)), some (.val (.lst [rowD own])), some (.val (oD (some (ed own v (pt S))))), some (.val (oD (some (ed own v (pt S))))), by simp [hS], ?_, fun u hu => ?_, fun u h1 h2 => ?_, ?_⟩
      · rw [List.reverse_cons, List.map_append]
        exact tu.snoc rfl tn
      · rw [pt_set hvS, upx_ne (by omega)]; exact z u (by omega)
      · rw [pt_set hvS]
        by_cases c : u = v
        · rw [c, upx_same]; exact cb.qb (by omega) (by omega)
        · rw [upx_ne c]; exact E u (by omega) h2
      · rw [pt_set hvS]
        exact eq_holds (by omega) hkd h0 f hh
    | @pr _ _ _ _ L' _ st' hB ne z' p w s =>
      have gone' : ∀ r' ∈ L', ∀ u, u < v + 1 → r'.n u = 0 := fun r' hr' u hu => by
        rcases w r' hr' with ⟨q1, q2⟩ | ⟨low, q1, high, q2, _, _, q5⟩
        · by_cases c : u = v
          · rw [c]; exact q2
          · exact gone r' q1 u (by omega)
        · by_cases c : u = v
          · rw [c]; exact q5.z
          · exact mix_zero q5.h (gone low q1 u (by omega)) (gone high q2 u (by omega))
      obtain ⟨S, x6, x7, x8, x9, hS, tu, z, E, hh⟩ := back n3 b200 k (v + 1) (2 * b + 1) L' st' left (by omega) s hb2 gone' fine
      have hvS : v < S.length := by omega
      have stg := fun r (hr : r ∈ L) (h0 : r.n v ≠ 0) => stage (hB r hr) hv n3 h0 hS hb b200 (gone r hr) (fun u hu => z u (by omega)) (fun u h1 h2 => E u (by omega) h2)
      have mle := MM_le (b := b0) (v := v)
      obtain ⟨lo, hi, en, lo1, hi1⟩ := v_ends_pr (K := 29 * b0 + 55) hv (fun r hr => (hB r hr).ln) ne (by omega) (fun r hr h0 => ⟨(stg r hr h0).1, (stg r hr h0).2.qb (by omega) (by omega)⟩)
      have g1 : ∀ q, lo = some q → QN (MM b0 v) (MM b0 v + 1) q := fun q h => by
        obtain ⟨r, k1, k2, k3⟩ := lowS_ed (h ▸ lo1)
        rw [← k3]; exact (stg r k1 k2).2
      have g2 : ∀ q, hi = some q → QN (MM b0 v) (MM b0 v + 1) q := fun q h => by
        obtain ⟨r, k1, k2, k3⟩ := highS_ed (h ▸ hi1)
        rw [← k3]; exact (stg r k1 k2).2
      have ch := v_chosen (K := 29 * b0 + 55) (fun q h => (g1 q h).qb (by omega) (by omega)) (fun q h => (g2 q h).qb (by omega) (by omega)) (by omega)
      have cb : QB (EE b0 v) (chs lo hi) := (chs_bd g1 g2).qb (by omega) (by omega)
      have tn := sol_turn (n := n) (T := T) (X := X) (Y := Y) (W := W) (x6 := x6) (x7 := x7) (x8 := x8) (x9 := x9) hvS en ch
      refine ⟨S.set v (chs lo hi), some (.val (.int v)), some (.val (.lst (L.map rowD))), some (.val (oD lo)), some (.val (oD hi)), by simp [hS], ?_, fun u hu => ?_, fun u h1 h2 => ?_, ?_⟩
      · rw [List.reverse_cons, List.map_append]
        exact tu.snoc rfl tn
      · rw [pt_set hvS, upx_ne (by omega)]; exact z u (by omega)
      · rw [pt_set hvS]
        by_cases c : u = v
        · rw [c, upx_same]; exact cb
        · rw [upx_ne c]; exact E u (by omega) h2
      · rw [pt_set hvS]
        exact pairs_hold (by omega) ne z' p hh lo1 hi1

theorem Steps.left_bd {n m b : Nat} {vs : List Nat} {L left : List Row} {st : List (Nat × List Row)} (h : Steps n m b vs L st left) : ∀ r ∈ left, RB (2 ^ vs.length * (b + 1) - 1) n m r := by
  induction h with
  | nil hb => intro r hr; exact (hb r hr).mono (by simp)
  | @eq b v vs L L' left st own hb ho hk h0 f w s ih =>
    intro r hr
    have e : 2 ^ (v :: vs).length * (b + 1) = 2 ^ vs.length * (2 * b + 1 + 1) := by
      rw [List.length_cons, Nat.pow_succ, Nat.mul_assoc]
      congr 1
      try omega
    rw [e]; exact ih r hr
  | @pr b v vs L L' left st hb ne z p w s ih =>
    intro r hr
    have e : 2 ^ (v :: vs).length * (b + 1) = 2 ^ vs.length * (2 * b + 1 + 1) := by
      rw [List.length_cons, Nat.pow_succ, Nat.mul_assoc]
      congr 1
      try omega
    rw [e]; exact ih r hr
theorem cap_succ {k N : Nat} : cap k N ≤ cap (k + 1) N := cap_mono grow_le
structure RawOk (n b : Nat) (R : List Raw) : Prop where
  ok : ∀ r ∈ R, r.1.length = n ∧ (∀ z ∈ r.1, Bd b z) ∧ Bd b r.2.1
theorem cap12 {n m : Nat} (n3 : n ≤ 3) (m12 : m ≤ 12) : cap n m ≤ 999999 := by
  have h3 : cap 3 12 ≤ 999999 := by decide
  have a : cap n m ≤ cap n 12 := cap_mono m12
  have c0 : cap 0 12 ≤ cap 1 12 := cap_succ
  have c1 : cap 1 12 ≤ cap 2 12 := cap_succ
  have c2 : cap 2 12 ≤ cap 3 12 := cap_succ
  have : n = 0 ∨ n = 1 ∨ n = 2 ∨ n = 3 := by omega
  rcases this with rfl | rfl | rfl | rfl <;> omega
/-- solve: a spot that keeps all rows, or a paper -/
theorem v_solve {n b0 : Nat} {R : List Raw} (n1 : 1 ≤ n) (n3 : n ≤ 3) (b1 : 1 ≤ b0) (b200 : b0 ≤ 200) (hR : RawOk n b0 R) (m12 : R.length ≤ 12) :
    (∃ ws : List Int, d_solve [.int n, .lst (R.map rawD)] = .ok (.val (.tup [.str "weights", .lst (ws.map D.int)])) ∧ Paper R ws ∧ ∀ z ∈ ws, Bd (8 * b0 + 8) z) ∨
    (∃ S : List Rat, d_solve [.int n, .lst (R.map rawD)] = .ok (.val (.tup [.str "spot", .tup (S.map qD)])) ∧ S.length = n ∧ (∀ q ∈ S, QB (58 * b0 + 110) q) ∧ ∀ r ∈ R, holdsR r (pt S)) := by
  have hp : 2 ^ n * (b0 + 1) ≤ 8 * (b0 + 1) := Nat.mul_le_mul_right _ (Nat.pow_le_pow_right (by decide) n3)
  have lr : (List.range' 0 n).length = n := List.length_range'
  obtain ⟨L, st, h1, h2, h3⟩ := v_steps_of (vs := List.range' 0 n) (by omega) (by omega) hR.ok b1 (fun v hv => by
    have := List.mem_range'_1.mp hv
    omega) (by rw [lr]; omega) (by rw [lr]; exact cap12 n3 m12) (by rw [lr]; omega)
  have lb := h2.left_bd
  rw [lr] at lb
  have eo : (List.range' 0 n).map (fun v => D.int (v : Nat)) = rngD 0 n := by
    rw [← List.range_eq_range']
    unfold rngD
    refine List.map_congr_left fun v _ => ?_
    rw [Int.zero_add]
  rw [eo] at h1
  have hrg := x_rngSN (n := n) (by omega)
  have gone := h2.gone (fun k => 3 ≤ k) (fun k hk r hr => by
    have := (h2.bd r hr).ln
    unfold Row.n
    rw [List.getD_eq_getElem?_getD, List.getElem?_eq_none (by omega)]
    rfl)
  have zero : ∀ r ∈ L, ∀ k, r.n k = 0 := fun r hr k => by
    by_cases hk : k < n
    · exact gone k (.inr (List.mem_range'_1.mpr ⟨Nat.zero_le _, by omega⟩)) r hr
    · have := (lb r hr).ln
      unfold Row.n
      rw [List.getD_eq_getElem?_getD, List.getElem?_eq_none (by omega)]
      rfl
  have ofs := h2.of start_of
  have aw : isntD .non .non = .ok (.bl false) := rfl
  have al : ∀ l, isntD (.lst l) .non = .ok (.bl true) := fun _ => rfl
  rcases v_failing (L := L) (fun r hr => by rw [(lb r hr).lw]; omega) with ⟨f1, f2⟩ | ⟨r, hr, f1, f2⟩
  · right
    obtain ⟨S, x6, x7, x8, x9, s1, s2, s3, s4, s5⟩ := back (T := R.map rawD) (X := st.map stD) (Y := L.map rowD) (W := .non) n3 b200 n 0 b0 (startL R) st L (by omega) h2 (by simp) (fun r hr u hu => by omega) (fun r hr x => fine_holds (fun k _ => zero r hr k) (f2 r hr))
    have run := s2.run
    refine ⟨S, ?_, s1, fun q hq => ?_, start_holds s5⟩
    · have e0 : (List.replicate n (0 : Rat)).map qD = List.replicate n (.tup [.int 0, .int 1]) := by rw [List.map_replicate]; rfl
      unfold solE at run
      rw [e0, List.map_reverse] at run
      have k1 : (0 : Int) ≤ (n : Int) := by omega
      have k2 : (n : Int) ≤ 1000 := by omega
      have k3 : (n : Int).toNat = n := by omega
      have rp : List.replicate (n : Int).toNat (D.tup [.int 0, .int 1]) = List.replicate n (D.tup [.int 0, .int 1]) := by rw [k3]
      generalize S.map qD = U at *
      generalize st.map stD = X at *
      generalize L.map rowD = Y at *
      generalize R.map rawD = T at *
      generalize List.replicate n (D.tup [.int 0, .int 1]) = Z at *
      generalize rngD 0 n = G at *
      generalize hw : (n : Int) = n' at *
      rw [d_solve_eq]
      refine run_rt rfl ?_
      have es : startE 10 [D.int n', .lst T] = [some (.val (.int n')), some (.val (.lst T)), none, none, none, none, none, none, none, none] := rfl
      rw [es]
      unfold s_solve
      refine (seq_nx (e1 := [some (.val (.int n')), some (.val (.lst T)), some (.val (.lst X)), some (.val (.lst Y)), none, none, none, none, none, none]) (by simp [hrg, h1])).trans ?_
      refine (seq_nx (e1 := [some (.val (.int n')), some (.val (.lst T)), some (.val (.lst X)), some (.val (.lst Y)), some (.val .non), none, none, none, none, none]) (by simp [f1])).trans ?_
      refine (seq_nx (e1 := [some (.val (.int n')), some (.val (.lst T)), some (.val (.lst X)), some (.val (.lst Y)), some (.val .non), none, none, none, none, none]) (by simp [aw])).trans ?_
      refine (seq_nx (e1 := [some (.val (.int n')), some (.val (.lst T)), some (.val (.lst X)), some (.val (.lst Y)), some (.val .non), some (.own Z), none, none, none, none]) (by simp [k1, k2, rp])).trans ?_
      refine (seq_nx (e1 := [some (.val (.int n')), some (.val (.lst T)), some (.val (.lst X)), some (.val (.lst Y)), some (.val .non), some (.own U), x6, x7, x8, x9]) (by simp [iRevD, run])).trans ?_
      simp
    · obtain ⟨u, hu, rfl⟩ := List.getElem_of_mem hq
      have e : S[u] = pt S u := by simp [pt, hu]
      rw [e]
      refine (s4 u (Nat.zero_le _) (by omega)).mono ?_
      have : u = 0 ∨ u = 1 ∨ u = 2 := by omega
      rcases this with rfl | rfl | rfl <;> simp [EE] <;> omega
  · left
    have pp := paper_of (ofs r hr) (fun k _ => zero r hr k) f1
    refine ⟨papR r, ?_, pp, fun z hz => ?_⟩
    · generalize (papR r).map D.int = W at *
      generalize st.map stD = X at *
      generalize L.map rowD = Y at *
      generalize R.map rawD = T at *
      generalize rngD 0 n = G at *
      generalize (n : Int) = n' at *
      have al := al W
      rw [d_solve_eq]
      refine run_rt rfl ?_
      have es : startE 10 [D.int n', .lst T] = [some (.val (.int n')), some (.val (.lst T)), none, none, none, none, none, none, none, none] := rfl
      rw [es]
      unfold s_solve
      refine (seq_nx (e1 := [some (.val (.int n')), some (.val (.lst T)), some (.val (.lst X)), some (.val (.lst Y)), none, none, none, none, none, none]) (by simp [hrg, h1])).trans ?_
      refine (seq_nx (e1 := [some (.val (.int n')), some (.val (.lst T)), some (.val (.lst X)), some (.val (.lst Y)), some (.val (.lst W)), none, none, none, none, none]) (by simp [f2])).trans ?_
      simp [al]
    · have bw := (lb r hr).bw
      unfold papR at hz
      split at hz
      · obtain ⟨y, hy, rfl⟩ := List.mem_map.mp hz
        exact (bw y hy).neg.mono (by omega)
      · exact (bw z hz).mono (by omega)

/-! ### common numbers -/
def lcmL (l : List Rat) : Nat := l.foldl (fun N q => Nat.lcm N q.den) 1
theorem lcmL_snoc {l : List Rat} {q : Rat} : lcmL (l ++ [q]) = Nat.lcm (lcmL l) q.den := by unfold lcmL; rw [List.foldl_append]; rfl
theorem lcmL_take {l : List Rat} {j : Nat} (h : j < l.length) : lcmL (l.take (j + 1)) = Nat.lcm (lcmL (l.take j)) l[j].den := by
  rw [List.take_succ_eq_append_getElem h, lcmL_snoc]
theorem lcmF_pos : ∀ {l : List Rat} {N : Nat}, 0 < N → 0 < l.foldl (fun N q => Nat.lcm N q.den) N ∧ N ∣ l.foldl (fun N q => Nat.lcm N q.den) N ∧ ∀ q ∈ l, q.den ∣ l.foldl (fun N q => Nat.lcm N q.den) N
  | [], N, h => ⟨h, Nat.dvd_refl _, fun _ h => absurd h List.not_mem_nil⟩
  | q :: l, N, h => by
    obtain ⟨a, b, c⟩ := lcmF_pos (l := l) (N := Nat.lcm N q.den) (Nat.lcm_pos h q.den_pos)
    refine ⟨a, Nat.dvd_trans (Nat.dvd_lcm_left _ _) b, fun r hr => ?_⟩
    rcases List.mem_cons.mp hr with e | e
    · rw [e]; exact Nat.dvd_trans (Nat.dvd_lcm_right _ _) b
    · exact c r e
theorem lcmL_pos {l : List Rat} : 0 < lcmL l := (lcmF_pos (by decide)).1
theorem lcmL_dvd {l : List Rat} {q : Rat} (h : q ∈ l) : q.den ∣ lcmL l := (lcmF_pos (by decide)).2.2 q h
theorem lcmL_pre {l : List Rat} {j : Nat} : lcmL (l.take j) ≤ lcmL l := by
  have e : lcmL l = (l.drop j).foldl (fun N q => Nat.lcm N q.den) (lcmL (l.take j)) := by
    unfold lcmL
    rw [← List.foldl_append, List.take_append_drop]
  have := (lcmF_pos (l := l.drop j) (N := lcmL (l.take j)) lcmL_pos).2.1
  rw [← e] at this
  exact Nat.le_of_dvd lcmL_pos this
theorem lcmL_bd1 {l : List Rat} {q : Rat} {b d : Nat} (h : Bd b (lcmL l : Int)) (hq : Bd d (q.den : Int)) : Bd (b + d) (lcmL (l ++ [q]) : Int) := by
  rw [lcmL_snoc]
  unfold Bd at *
  have h1 : lcmL l < 2 ^ b := by simpa using h
  have h2 : q.den < 2 ^ d := by simpa using hq
  have h3 : Nat.lcm (lcmL l) q.den ≤ lcmL l * q.den := Nat.le_of_dvd (Nat.mul_pos lcmL_pos q.den_pos) (Nat.lcm_dvd (Nat.dvd_mul_right _ _) (Nat.dvd_mul_left _ _))
  have h4 : lcmL l * q.den < 2 ^ (b + d) := by
    rw [Nat.pow_add]
    exact Nat.mul_lt_mul'' h1 h2
  show (Nat.lcm (lcmL l) q.den : Int).natAbs < _
  rw [Int.natAbs_natCast]
  omega
theorem lcmF_bd {d : Nat} : ∀ {l : List Rat} {N b : Nat}, 0 < N → N < 2 ^ b → (∀ q ∈ l, q.den < 2 ^ d) → l.foldl (fun N q => Nat.lcm N q.den) N < 2 ^ (b + d * l.length)
  | [], N, b, _, h, _ => by simpa using h
  | q :: l, N, b, h0, h, hd => by
    have h2 := hd q List.mem_cons_self
    have h3 : Nat.lcm N q.den ≤ N * q.den := Nat.le_of_dvd (Nat.mul_pos h0 q.den_pos) (Nat.lcm_dvd (Nat.dvd_mul_right _ _) (Nat.dvd_mul_left _ _))
    have h4 : N * q.den < 2 ^ (b + d) := by
      rw [Nat.pow_add]
      exact Nat.mul_lt_mul'' h h2
    have ih := lcmF_bd (d := d) (l := l) (N := Nat.lcm N q.den) (b := b + d) (Nat.lcm_pos h0 q.den_pos) (by omega) fun r hr => hd r (List.mem_cons_of_mem _ hr)
    rw [List.length_cons, Nat.mul_add, Nat.mul_one, show b + (d * l.length + d) = b + d + d * l.length by omega]
    exact ih
theorem lcmL_bd {d : Nat} {l : List Rat} (h : ∀ q ∈ l, Bd d (q.den : Int)) : Bd (1 + d * l.length) (lcmL l : Int) := by
  have := lcmF_bd (d := d) (l := l) (N := 1) (b := 1) (by decide) (by decide) fun q hq => by
    have := h q hq
    unfold Bd at this
    rwa [Int.natAbs_natCast] at this
  unfold Bd
  rw [Int.natAbs_natCast]
  exact this
theorem lcm_step {N d : Nat} : ((N : Int) * (d : Int)).fdiv (Int.gcd (N : Int) (d : Int) : Int) = ((Nat.lcm N d : Nat) : Int) := by
  have e : Int.gcd (N : Int) (d : Int) = Nat.gcd N d := by unfold Int.gcd; rw [Int.natAbs_natCast, Int.natAbs_natCast]
  rw [e, Int.fdiv_eq_ediv_of_nonneg _ (by omega)]
  unfold Nat.lcm
  rw [Int.natCast_ediv, Int.natCast_mul]
theorem qnd (q : Rat) : q * ((q.den : Int) : Rat) = (q.num : Rat) := by
  have h := Rat.num_divInt_den q
  rw [Rat.divInt_eq_div] at h
  have d0 : ((q.den : Int) : Rat) ≠ 0 := by
    have := q.den_pos
    have h : ((q.den : Int) : Rat) ≠ ((0 : Int) : Rat) := fun e => by
      have := Rat.intCast_inj.mp e
      omega
    exact h
  generalize ((q.den : Int) : Rat) = d at *
  generalize (q.num : Rat) = n at *
  rw [← h]
  grind
/-- a fraction so often, whole -/
def nm (q : Rat) (N : Nat) : Int := (q * ((N : Int) : Rat)).num
theorem nm_of {q : Rat} {N : Nat} (h : q.den ∣ N) : ∃ t : Nat, N = q.den * t ∧ nm q N = q.num * t ∧ ((nm q N : Int) : Rat) = q * ((N : Int) : Rat) := by
  obtain ⟨t, rfl⟩ := h
  have e : q * (((q.den * t : Nat) : Int) : Rat) = ((q.num * (t : Int) : Int) : Rat) := by
    have := qnd q
    have c : (((q.den * t : Nat) : Int) : Rat) = ((q.den : Int) : Rat) * ((t : Int) : Rat) := by
      rw [Int.natCast_mul, Rat.intCast_mul]
    rw [c, Rat.intCast_mul, ← this]
    grind
  refine ⟨t, rfl, ?_, ?_⟩
  · unfold nm; rw [e]; rfl
  · unfold nm; rw [e]; rfl
theorem nm_eq {q : Rat} {N : Nat} (h : q.den ∣ N) : ((nm q N : Int) : Rat) = q * ((N : Int) : Rat) := (nm_of h).choose_spec.2.2
theorem nm_bd {q : Rat} {N m B : Nat} (h : q.den ∣ N) (hq : Bd m q.num) (hN : Bd B (N : Int)) : Bd (m + B) (nm q N) := by
  obtain ⟨t, h1, h2, _⟩ := nm_of h
  rw [h2]
  refine hq.mul ?_
  unfold Bd at *
  rw [Int.natAbs_natCast] at *
  have : t ≤ N := by
    rw [h1]
    exact Nat.le_mul_of_pos_left _ q.den_pos
  omega
theorem made_nm {q : Rat} {N : Nat} : Rat.divInt (q.num * (N : Int)) (q.den : Int) = q * ((N : Int) : Rat) := by
  rw [Rat.divInt_eq_div, Rat.intCast_mul]
  have := qnd q
  have d0 : ((q.den : Int) : Rat) ≠ 0 := by
    have := q.den_pos
    have h : ((q.den : Int) : Rat) ≠ ((0 : Int) : Rat) := fun e => by
      have := Rat.intCast_inj.mp e
      omega
    exact h
  rw [← this]
  generalize ((q.den : Int) : Rat) = d at *
  grind

/-! ### rows that end in 0: the strict ones all alike, the others equal -/
structure Hom (L : List Row) : Prop where
  c : ∀ r ∈ L, r.c = 0
  k : ∀ r ∈ L, r.kd = .eq ∨ r.kd = .st
  p : ∀ r ∈ L, ∀ r' ∈ L, r.kd = .st → r'.kd = .st → ∃ p q : Int, 0 < p ∧ 0 < q ∧ ∀ k, p * r.n k = q * r'.n k
theorem Wb.lin {own r r' : Row} {v : Nat} (h : Wb own v r r') : ∃ s u t : Int, 0 < s ∧ 0 < u ∧ (∀ k, s * r'.n k = u * r.n k + t * own.n k) ∧ s * r'.c = u * r.c + t * own.c := by
  rcases h.h with e | ⟨u, t, u0, m⟩
  · exact ⟨1, 1, 0, by decide, by decide, fun k => by rw [e]; simp, by rw [e]; simp⟩
  · obtain ⟨s, s0, hn, hc, _⟩ := m.ex
    exact ⟨s, u, t, s0, u0, hn, hc⟩
theorem Hom.eqs {L L' : List Row} {own : Row} {v : Nat} (h : Hom L) (ho : own ∈ L) (h0 : own.n v ≠ 0) (w : ∀ r' ∈ L', ∃ r ∈ L, Wb own v r r') : Hom L' := by
  refine ⟨fun r' hr' => ?_, fun r' hr' => ?_, fun r1' h1' r2' h2' k1 k2 => ?_⟩
  · obtain ⟨r, hr, q⟩ := w r' hr'
    obtain ⟨s, u, t, s0, _, _, hc⟩ := q.lin
    rw [h.c r hr, h.c own ho] at hc
    have hc : s * r'.c = 0 := by simpa using hc
    rcases Int.mul_eq_zero.mp hc with a | a
    · omega
    · exact a
  · obtain ⟨r, hr, q⟩ := w r' hr'
    rw [q.k]; exact h.k r hr
  · obtain ⟨r1, m1, q1⟩ := w r1' h1'
    obtain ⟨r2, m2, q2⟩ := w r2' h2'
    obtain ⟨p, q, p0, q0, e⟩ := h.p r1 m1 r2 m2 (by rw [← q1.k]; exact k1) (by rw [← q2.k]; exact k2)
    obtain ⟨s1, u1, t1, s10, u10, l1, _⟩ := q1.lin
    obtain ⟨s2, u2, t2, s20, u20, l2, _⟩ := q2.lin
    have z1 := l1 v
    rw [q1.z] at z1
    have z2 := l2 v
    rw [q2.z] at z2
    have ev := e v
    have cz : (p * u2 * t1 - q * u1 * t2) * own.n v = 0 := by grind
    have cz : p * u2 * t1 = q * u1 * t2 := by
      rcases Int.mul_eq_zero.mp cz with a | a
      · omega
      · exact absurd a h0
    refine ⟨p * u2 * s1, q * u1 * s2, Int.mul_pos (Int.mul_pos p0 u20) s10, Int.mul_pos (Int.mul_pos q0 u10) s20, fun k => ?_⟩
    have a := l1 k
    have b := l2 k
    have c := e k
    grind
theorem Hom.prs {L L' : List Row} {v : Nat} (h : Hom L) (ne : ∀ r ∈ L, ¬ (r.kd = .eq ∧ r.n v ≠ 0)) (w : ∀ r' ∈ L', (r' ∈ L ∧ r'.n v = 0) ∨ ∃ low ∈ L, ∃ high ∈ L, 0 < low.n v ∧ high.n v < 0 ∧ Wp v low high r') : ∀ r' ∈ L', r' ∈ L ∧ r'.n v = 0 := fun r' hr' => by
  rcases w r' hr' with q | ⟨low, h1, high, h2, l0, h0, _⟩
  · exact q
  · exfalso
    have kl : low.kd = .st := (h.k low h1).resolve_left fun e => ne low h1 ⟨e, by omega⟩
    have kh : high.kd = .st := (h.k high h2).resolve_left fun e => ne high h2 ⟨e, by omega⟩
    obtain ⟨p, q, p0, q0, e⟩ := h.p low h1 high h2 kl kh
    have := e v
    have a : 0 < p * low.n v := Int.mul_pos p0 l0
    have b : q * high.n v < 0 := Int.mul_neg_of_pos_of_neg q0 h0
    omega
theorem Hom.sub {L L' : List Row} (h : Hom L) (s : ∀ r ∈ L', r ∈ L) : Hom L' := ⟨fun r hr => h.c r (s r hr), fun r hr => h.k r (s r hr), fun r hr r' hr' => h.p r (s r hr) r' (s r' hr')⟩
/-- at strict rows with a part not gone, all have it, of one sign -/
theorem Hom.one {L : List Row} {v : Nat} {r r' : Row} (h : Hom L) (ne : ∀ r ∈ L, ¬ (r.kd = .eq ∧ r.n v ≠ 0)) (hr : r ∈ L) (hr' : r' ∈ L) (h0 : r.n v ≠ 0) (ks : r'.kd = .st) : (0 < r.n v ∧ 0 < r'.n v) ∨ (r.n v < 0 ∧ r'.n v < 0) := by
  have kr : r.kd = .st := (h.k r hr).resolve_left fun e => ne r hr ⟨e, h0⟩
  obtain ⟨p, q, p0, q0, e⟩ := h.p r hr r' hr' kr ks
  have e := e v
  rcases Int.lt_trichotomy (r.n v) 0 with a | a | a
  · right
    refine ⟨a, ?_⟩
    have : p * r.n v < 0 := Int.mul_neg_of_pos_of_neg p0 a
    rcases Int.lt_trichotomy (r'.n v) 0 with c | c | c
    · exact c
    · rw [c] at e; simp at e; omega
    · have := Int.mul_pos q0 c; omega
  · exact absurd a h0
  · left
    refine ⟨a, ?_⟩
    have : 0 < p * r.n v := Int.mul_pos p0 a
    rcases Int.lt_trichotomy (r'.n v) 0 with c | c | c
    · have : q * r'.n v < 0 := Int.mul_neg_of_pos_of_neg q0 c; omega
    · rw [c] at e; simp at e; omega
    · exact c
/-- parts that so many times are whole numbers of so many bits -/
def Whl (β : Nat) (x : Nat → Rat) : Prop := ∃ (t : Int) (w : Nat → Int), t ≠ 0 ∧ Bd β t ∧ (∀ u, Bd β (w u)) ∧ ∀ u, (t : Rat) * x u = (w u : Rat)
theorem Whl.mono {β β' : Nat} {x : Nat → Rat} (h : Whl β x) (k : β ≤ β') : Whl β' x := by
  obtain ⟨t, w, h1, h2, h3, h4⟩ := h
  exact ⟨t, w, h1, h2.mono k, fun u => (h3 u).mono k, h4⟩
theorem Whl.qb {β : Nat} {x : Nat → Rat} (h : Whl β x) (u : Nat) : QB β (x u) := by
  obtain ⟨t, w, h1, h2, h3, h4⟩ := h
  have t0 : (t : Rat) ≠ 0 := fun e => h1 (by exact_mod_cast e)
  have e : x u = Rat.divInt (w u) t := by
    rw [Rat.divInt_eq_div, ← h4 u]
    grind
  rw [e]
  exact QB.divInt (h3 u) h2 h1 β (Nat.le_refl _) (Nat.le_refl _)
theorem bd1 : Bd 1 (1 : Int) := by unfold Bd; decide
theorem Whl.zero {β : Nat} {x : Nat → Rat} (hβ : 1 ≤ β) (h : ∀ u, x u = 0) : Whl β x := ⟨1, fun _ => 0, by decide, bd1.mono hβ, fun _ => Bd.zero, fun u => by rw [h u]; simp⟩
def bet (b : Nat) : Nat → Nat
  | 0 => 3 * b + 6
  | 1 => 2 * b + 4
  | _ => 1
theorem bet_pos {b v : Nat} : 1 ≤ bet b v := by
  unfold bet
  split <;> omega
theorem bet_mono {b v : Nat} : bet b (v + 1) ≤ bet b v := by
  have : v = 0 ∨ v = 1 ∨ 2 ≤ v := by omega
  rcases this with rfl | rfl | h
  · show 2 * b + 4 ≤ 3 * b + 6; omega
  · show 1 ≤ 2 * b + 4; omega
  · obtain ⟨d, rfl⟩ : ∃ d, v = 2 + d := ⟨v - 2, by omega⟩
    have e1 : bet b (2 + d) = 1 := by
      rw [Nat.add_comm]; rfl
    have e2 : bet b (2 + d + 1) = 1 := by
      rw [show 2 + d + 1 = d + 1 + 2 by omega]; rfl
    rw [e1, e2]
    exact Nat.le_refl _
theorem ed_lin {r : Row} {v : Nat} {x : Nat → Rat} (hc : r.c = 0) (h0 : r.n v ≠ 0) (hx : x v = 0) : (r.n v : Rat) * ed r v x = -((r.n 0 : Rat) * x 0 + (r.n 1 : Rat) * x 1 + (r.n 2 : Rat) * x 2) := by
  have n0 : (r.n v : Rat) ≠ 0 := fun e => h0 (by exact_mod_cast e)
  unfold ed val
  rw [hc, hx]
  simp
  grind
theorem ed_zero {r : Row} {v : Nat} {x : Nat → Rat} (hc : r.c = 0) (h0 : r.n v ≠ 0) (hx : ∀ u, x u = 0) : ed r v x = 0 := by
  have e := ed_lin hc h0 (hx v)
  rw [hx 0, hx 1, hx 2] at e
  have n0 : (r.n v : Rat) ≠ 0 := fun e => h0 (by exact_mod_cast e)
  have : (r.n v : Rat) * ed r v x = 0 := by grind
  rcases Rat.mul_eq_zero.mp this with a | a
  · exact absurd a n0
  · exact a
/-- an equal row tells one part more -/
theorem Whl.eqs {β B : Nat} {r : Row} {v : Nat} {x : Nat → Rat} (h : Whl β x) (hc : r.c = 0) (h0 : r.n v ≠ 0) (hx : x v = 0) (hb : ∀ k, Bd B (r.n k)) : Whl (B + β + 2) (upx x v (ed r v x)) := by
  obtain ⟨t, w, h1, h2, h3, h4⟩ := h
  refine ⟨t * r.n v, fun u => if u = v then -(r.n 0 * w 0 + r.n 1 * w 1 + r.n 2 * w 2) else r.n v * w u, Int.mul_ne_zero h1 h0, ((h2.mul (hb v)).mono (by omega)), fun u => ?_, fun u => ?_⟩
  · have p := fun k => (hb k).mul (h3 k)
    by_cases c : u = v
    · simp only [c, if_true]
      exact (((p 0).add (p 1)).add ((p 2).mono (by omega))).neg.mono (by omega)
    · simp only [c, if_false]
      exact ((hb v).mul (h3 u)).mono (by omega)
  · by_cases c : u = v
    · simp only [c, if_true]
      rw [upx_same]
      have e := ed_lin hc h0 hx
      have a0 := h4 0
      have a1 := h4 1
      have a2 := h4 2
      have : ((t * r.n v : Int) : Rat) * ed r v x = (t : Rat) * ((r.n v : Rat) * ed r v x) := by rw [Rat.intCast_mul]; grind
      rw [this, e, Rat.intCast_neg, Rat.intCast_add, Rat.intCast_add, Rat.intCast_mul, Rat.intCast_mul, Rat.intCast_mul, ← a0, ← a1, ← a2]
      grind
    · simp only [c, if_false]
      rw [upx_ne c]
      have a := h4 u
      rw [Rat.intCast_mul, Rat.intCast_mul, ← a]
      grind
theorem pt_out {S : List Rat} {n u : Nat} (h : S.length = n) (hu : n ≤ u) : pt S u = 0 := by
  unfold pt
  rw [List.getD_eq_getElem?_getD, List.getElem?_eq_none (by omega)]; rfl
/-- the edges at a stage -/
theorem stageH {b0 n m v B : Nat} {r : Row} {S : List Rat} (hr : RB B n m r) (hv : v < n) (n3 : n ≤ 3) (h0 : r.n v ≠ 0) (hS : S.length = n) (hb : B + 1 ≤ 2 ^ v * (b0 + 1)) (b900 : b0 ≤ 900) (hw : Whl (bet b0 (v + 1)) (pt S)) :
    d_edge_of [rowD r, .int v, .lst (S.map qD)] = .ok (.val (qD (ed r v (pt S)))) := by
  obtain ⟨E, hE⟩ : ∃ E, bet b0 (v + 1) = E := ⟨_, rfl⟩
  rw [hE] at hw
  have hv3 : v = 0 ∨ v = 1 ∨ v = 2 := by omega
  have El : B + 2 * E + 5 ≤ 5 * b0 + 13 ∧ B ≤ 4 * b0 + 3 ∧ B + (B + 2 * E) + (B + 2 * E) ≤ 12 * b0 + 40 ∧ E ≤ 2 * b0 + 4 := by
    rcases hv3 with rfl | rfl | rfl
    · have : E = 2 * b0 + 4 := hE.symm
      have hb : B + 1 ≤ b0 + 1 := by simpa using hb
      omega
    · have : E = 1 := hE.symm
      have hb : B + 1 ≤ 2 * (b0 + 1) := by simpa using hb
      omega
    · have : E = 1 := hE.symm
      have hb : B + 1 ≤ 4 * (b0 + 1) := by simpa using hb
      omega
  have hall : ∀ q ∈ S, QB 12900 q := fun q hq => by
    obtain ⟨u, hu, rfl⟩ := List.getElem_of_mem hq
    have e : S[u] = pt S u := by simp [pt, hu]
    rw [e]
    exact (hw.qb u).mono (by omega)
  have tv : lT r v (fun _ => E) v = 0 := by unfold lT; simp
  have tle : ∀ u, lT r v (fun _ => E) u ≤ E + 2 := fun u => by
    show (if u = v ∨ r.n u = 0 then 0 else E + 2) ≤ E + 2
    split <;> omega
  have t0 := tle 0
  have t1 := tle 1
  have t2 := tle 2
  have key := fun j (h : j ≤ 3) => lN_le (r := r) (v := v) (b := B) (e := fun _ => E) h
  have sum2 : lT r v (fun _ => E) 0 + lT r v (fun _ => E) 1 + lT r v (fun _ => E) 2 ≤ 2 * E + 4 := by
    rcases hv3 with rfl | rfl | rfl <;> omega
  exact (v_edge_of (e := fun _ => E) (K := B + 2 * E + 5) hr hv n3 h0 hS (fun i _ _ _ => hw.qb i) hall (by omega) (fun j hj => by have := key j (by omega); omega) (by omega)).1
theorem backH {b0 n m : Nat} {T X Y : List D} {W : D} (n3 : n ≤ 3) (b900 : b0 ≤ 900) : ∀ (k v b : Nat) (L : List Row) (st : List (Nat × List Row)) (left : List Row), v + k = n → Steps n m b (List.range' v k) L st left → b + 1 ≤ 2 ^ v * (b0 + 1) → (∀ r ∈ L, ∀ u, u < v → r.n u = 0) → (∀ r ∈ left, ∀ x, holds r x) → Hom L →
    ∃ (S : List Rat) (x6 x7 x8 x9 : Option Cell), S.length = n ∧ Turns (pTup (pCons (pName 6) (pCons (pName 7) pNil))) b_solve_1 (st.reverse.map stD) (solE n T X Y W (List.replicate n 0) none none none none) (solE n T X Y W S x6 x7 x8 x9) ∧ (∀ u, u < v → pt S u = 0) ∧ ((∀ r ∈ L, r.kd ≠ .st) → ∀ u, pt S u = 0) ∧ Whl (bet b0 v) (pt S) ∧ ∀ r ∈ L, holds r (pt S)
  | 0, v, b, L, st, left, hk, hs, hb, gone, fine, hom => by
    cases hs with
    | nil _ =>
      have z : ∀ u, pt (List.replicate n (0 : Rat)) u = 0 := fun u => by
        unfold pt
        by_cases h : u < n
        · simp [h]
        · simp [h]
      exact ⟨List.replicate n 0, none, none, none, none, by simp, .nil, fun u _ => z u, fun _ => z, Whl.zero bet_pos z, fun r hr => fine r hr _⟩
  | k + 1, v, b, L, st, left, hk, hs, hb, gone, fine, hom => by
    have hr : List.range' v (k + 1) = v :: List.range' (v + 1) k := by rw [List.range'_succ]
    rw [hr] at hs
    have hb2 : 2 * b + 1 + 1 ≤ 2 ^ (v + 1) * (b0 + 1) := by
      have : 2 ^ (v + 1) * (b0 + 1) = 2 * (2 ^ v * (b0 + 1)) := by rw [Nat.pow_succ]; grind
      omega
    have hv : v < n := by omega
    have b3 : bet b0 v ≤ 2706 := by
      have : v = 0 ∨ v = 1 ∨ v = 2 := by omega
      rcases this with rfl | rfl | rfl <;> simp [bet] <;> omega
    cases hs with
    | @eq _ _ _ _ L' _ st' own hB ho hkd h0 f w s =>
      have gone' : ∀ r' ∈ L', ∀ u, u < v + 1 → r'.n u = 0 := fun r' hr' u hu => by
        obtain ⟨r, q1, q2⟩ := w r' hr'
        by_cases c : u = v
        · rw [c]; exact q2.z
        · rcases q2.h with e | ⟨a, t, _, mm⟩
          · rw [e]; exact gone r q1 u (by omega)
          · exact mix_zero mm (gone r q1 u (by omega)) (gone own ho u (by omega))
      obtain ⟨S, x6, x7, x8, x9, hS, tu, z, nos, wl, hh⟩ := backH n3 b900 k (v + 1) (2 * b + 1) L' st' left (by omega) s hb2 gone' fine (hom.eqs ho h0 w)
      have hvS : v < S.length := by omega
      have zv : pt S v = 0 := z v (by omega)
      have co := hom.c own ho
      have w1 := stageH (hB own ho) hv n3 h0 hS hb b900 wl
      have wl2 : Whl (bet b0 v) (upx (pt S) v (ed own v (pt S))) := by
        have hv3 : v = 0 ∨ v = 1 ∨ v = 2 := by omega
        rcases hv3 with rfl | rfl | rfl
        · have hb : b + 1 ≤ b0 + 1 := by simpa using hb
          refine (wl.eqs co h0 zv (hB own ho).bnk).mono ?_
          show b + (2 * b0 + 4) + 2 ≤ 3 * b0 + 6
          omega
        · have hb : b + 1 ≤ 2 * (b0 + 1) := by simpa using hb
          refine (wl.eqs co h0 zv (hB own ho).bnk).mono ?_
          show b + 1 + 2 ≤ 2 * b0 + 4
          omega
        · have az : ∀ u, pt S u = 0 := fun u => by
            by_cases c : u < 3
            · exact z u c
            · exact pt_out hS (by omega)
          refine Whl.zero (Nat.le_refl 1) fun u => ?_
          by_cases c : u = 2
          · rw [c, upx_same]; exact ed_zero co h0 az
          · rw [upx_ne c]; exact az u
      have qe : QB (bet b0 v) (ed own v (pt S)) := by
        have := wl2.qb v
        rwa [upx_same] at this
      have en := v_ends_eq hv (hB own ho).ln hkd h0 w1
      have eo : oD (some (ed own v (pt S))) = qD (ed own v (pt S)) := rfl
      rw [← eo] at en
      have qs : ∀ q, some (ed own v (pt S)) = some q → QB (bet b0 v) q := fun q h => by cases h; exact qe
      have ch := v_chosen qs qs (by omega)
      have ce : chs (some (ed own v (pt S))) (some (ed own v (pt S))) = ed own v (pt S) := by unfold chs; grind
      rw [ce] at ch
      have tn := sol_turn (n := n) (T := T) (X := X) (Y := Y) (W := W) (x6 := x6) (x7 := x7) (x8 := x8) (x9 := x9) hvS en ch
      refine ⟨S.set v (ed own v (pt S)), some (.val (.int v)), some (.val (.lst [rowD own])), some (.val (oD (some (ed own v (pt S))))), some (.val (oD (some (ed own v (pt S))))), by simp [hS], ?_, fun u hu => ?_, fun hn u => ?_, ?_, ?_⟩
      · rw [List.reverse_cons, List.map_append]
        exact tu.snoc rfl tn
      · rw [pt_set hvS, upx_ne (by omega)]; exact z u (by omega)
      · have az := nos fun r' hr' => by
          obtain ⟨r, q1, q2⟩ := w r' hr'
          rw [q2.k]; exact hn r q1
        rw [pt_set hvS]
        by_cases c : u = v
        · rw [c, upx_same]; exact ed_zero co h0 az
        · rw [upx_ne c]; exact az u
      · rw [pt_set hvS]; exact wl2
      · rw [pt_set hvS]
        exact eq_holds (by omega) hkd h0 f hh
    | @pr _ _ _ _ L' _ st' hB ne z' p w s =>
      have sub := hom.prs ne w
      have gone' : ∀ r' ∈ L', ∀ u, u < v + 1 → r'.n u = 0 := fun r' hr' u hu => by
        by_cases c : u = v
        · rw [c]; exact (sub r' hr').2
        · exact gone r' (sub r' hr').1 u (by omega)
      obtain ⟨S, x6, x7, x8, x9, hS, tu, z, nos, wl, hh⟩ := backH n3 b900 k (v + 1) (2 * b + 1) L' st' left (by omega) s hb2 gone' fine (hom.sub fun r hr => (sub r hr).1)
      have hvS : v < S.length := by omega
      have zv : pt S v = 0 := z v (by omega)
      have stg := fun r (hr : r ∈ L) (h0 : r.n v ≠ 0) => stageH (hB r hr) hv n3 h0 hS hb b900 wl
      by_cases hany : ∃ r ∈ L, r.n v ≠ 0
      · obtain ⟨r0, hr0, hn0⟩ := hany
        have ks0 : r0.kd = .st := (hom.k r0 hr0).resolve_left fun e => ne r0 hr0 ⟨e, hn0⟩
        have az := nos fun r' hr' ks => by
          have := hom.one ne hr0 (sub r' hr').1 hn0 ks
          have := (sub r' hr').2
          omega
        have ez : ∀ r ∈ L, r.n v ≠ 0 → ed r v (pt S) = 0 := fun r hr h0 => ed_zero (hom.c r hr) h0 az
        obtain ⟨lo, hi, en, lo1, hi1⟩ := v_ends_pr (K := 1) hv (fun r hr => (hB r hr).ln) ne (by omega) (fun r hr h0 => ⟨stg r hr h0, by rw [ez r hr h0]; exact QB.zero (by decide)⟩)
        have lo2 : ∀ q, lo = some q → q = 0 := fun q h => by
          obtain ⟨r, k1, k2, k3⟩ := lowS_ed (h ▸ lo1)
          rw [← k3]; exact ez r k1 k2
        have hi2 : ∀ q, hi = some q → q = 0 := fun q h => by
          obtain ⟨r, k1, k2, k3⟩ := highS_ed (h ▸ hi1)
          rw [← k3]; exact ez r k1 k2
        have cs : ∃ e : Int, (e = 1 ∨ e = -1) ∧ chs lo hi = (e : Rat) := by
          have sg : ∀ r ∈ L, r.n v ≠ 0 → (0 < r0.n v ∧ 0 < r.n v) ∨ (r0.n v < 0 ∧ r.n v < 0) := fun r hr h0 => hom.one ne hr0 hr hn0 ((hom.k r hr).resolve_left fun e => ne r hr ⟨e, h0⟩)
          rcases Int.lt_trichotomy (r0.n v) 0 with a | a | a
          · refine ⟨-1, .inr rfl, ?_⟩
            have l0 : lo = none := by
              cases lo with
              | none => rfl
              | some q =>
                obtain ⟨⟨r, k1, k2, _⟩, _⟩ := lo1
                have := sg r k1 (by omega)
                omega
            cases hi with
            | none => exact absurd a (hi1 r0 hr0)
            | some q =>
              rw [l0, hi2 q rfl]
              show (0 : Rat) - 1 = ((-1 : Int) : Rat)
              rw [Rat.intCast_neg]
              simp
              grind
          · exact absurd a hn0
          · refine ⟨1, .inl rfl, ?_⟩
            have l0 : hi = none := by
              cases hi with
              | none => rfl
              | some q =>
                obtain ⟨⟨r, k1, k2, _⟩, _⟩ := hi1
                have := sg r k1 (by omega)
                omega
            cases lo with
            | none => exact absurd a (lo1 r0 hr0)
            | some q =>
              rw [l0, lo2 q rfl]
              show (0 : Rat) + 1 = ((1 : Int) : Rat)
              simp
              grind
        obtain ⟨e, he, hce⟩ := cs
        have ch := v_chosen (K := 1) (fun q h => by rw [lo2 q h]; exact QB.zero (by decide)) (fun q h => by rw [hi2 q h]; exact QB.zero (by decide)) (by decide)
        have tn := sol_turn (n := n) (T := T) (X := X) (Y := Y) (W := W) (x6 := x6) (x7 := x7) (x8 := x8) (x9 := x9) hvS en ch
        refine ⟨S.set v (chs lo hi), some (.val (.int v)), some (.val (.lst (L.map rowD))), some (.val (oD lo)), some (.val (oD hi)), by simp [hS], ?_, fun u hu => ?_, fun hn => absurd ks0 (hn r0 hr0), ?_, ?_⟩
        · rw [List.reverse_cons, List.map_append]
          exact tu.snoc rfl tn
        · rw [pt_set hvS, upx_ne (by omega)]; exact z u (by omega)
        · rw [pt_set hvS]
          refine ⟨1, fun u => if u = v then e else 0, by decide, bd1.mono bet_pos, fun u => ?_, fun u => ?_⟩
          · by_cases c : u = v
            · simp only [c, if_true]
              refine Bd.mono (m := 1) ?_ bet_pos
              rcases he with rfl | rfl <;> (unfold Bd; decide)
            · simp only [c, if_false]
              exact Bd.zero
          · by_cases c : u = v
            · simp only [c, if_true]
              rw [upx_same, hce]
              simp
            · simp only [c, if_false]
              rw [upx_ne c, az u]
              simp
        · rw [pt_set hvS]
          exact pairs_hold (by omega) ne z' p hh lo1 hi1
      · have hnone : ∀ r ∈ L, r.n v = 0 := fun r hr => by
          by_cases c : r.n v = 0
          · exact c
          · exact absurd ⟨r, hr, c⟩ hany
        obtain ⟨lo, hi, en, lo1, hi1⟩ := v_ends_pr (K := 1) hv (fun r hr => (hB r hr).ln) ne (by omega) (fun r hr h0 => absurd (hnone r hr) h0)
        have l0 : lo = none := by
          cases lo with
          | none => rfl
          | some q =>
            obtain ⟨⟨r, k1, k2, _⟩, _⟩ := lo1
            have := hnone r k1
            omega
        have h0' : hi = none := by
          cases hi with
          | none => rfl
          | some q =>
            obtain ⟨⟨r, k1, k2, _⟩, _⟩ := hi1
            have := hnone r k1
            omega
        have cz : chs lo hi = 0 := by rw [l0, h0']; rfl
        have ch := v_chosen (K := 1) (lo := lo) (hi := hi) (fun q h => by rw [l0] at h; cases h) (fun q h => by rw [h0'] at h; cases h) (by decide)
        have tn := sol_turn (n := n) (T := T) (X := X) (Y := Y) (W := W) (x6 := x6) (x7 := x7) (x8 := x8) (x9 := x9) hvS en ch
        have same : upx (pt S) v (chs lo hi) = pt S := by
          funext u
          by_cases c : u = v
          · rw [c, upx_same, cz, zv]
          · rw [upx_ne c]
        refine ⟨S.set v (chs lo hi), some (.val (.int v)), some (.val (.lst (L.map rowD))), some (.val (oD lo)), some (.val (oD hi)), by simp [hS], ?_, fun u hu => ?_, fun hn u => ?_, ?_, ?_⟩
        · rw [List.reverse_cons, List.map_append]
          exact tu.snoc rfl tn
        · rw [pt_set hvS, same]; exact z u (by omega)
        · rw [pt_set hvS, same]
          exact nos (fun r' hr' => hn r' (sub r' hr').1) u
        · rw [pt_set hvS, same]; exact wl.mono bet_mono
        · rw [pt_set hvS]
          exact pairs_hold (by omega) ne z' p hh lo1 hi1
/-- solve: a spot that keeps all rows, or a paper -/
theorem v_solveH {n b0 : Nat} {R : List Raw} (n1 : 1 ≤ n) (n3 : n ≤ 3) (b1 : 1 ≤ b0) (b900 : b0 ≤ 900) (hR : RawOk n b0 R) (hom : Hom (startL R)) (m12 : R.length ≤ 12) :
    (∃ ws : List Int, d_solve [.int n, .lst (R.map rawD)] = .ok (.val (.tup [.str "weights", .lst (ws.map D.int)])) ∧ Paper R ws ∧ ∀ z ∈ ws, Bd (8 * b0 + 8) z) ∨
    (∃ S : List Rat, d_solve [.int n, .lst (R.map rawD)] = .ok (.val (.tup [.str "spot", .tup (S.map qD)])) ∧ S.length = n ∧ Whl (3 * b0 + 6) (pt S) ∧ ∀ r ∈ R, holdsR r (pt S)) := by
  have hp : 2 ^ n * (b0 + 1) ≤ 8 * (b0 + 1) := Nat.mul_le_mul_right _ (Nat.pow_le_pow_right (by decide) n3)
  have lr : (List.range' 0 n).length = n := List.length_range'
  obtain ⟨L, st, h1, h2, h3⟩ := v_steps_of (vs := List.range' 0 n) (by omega) (by omega) hR.ok b1 (fun v hv => by
    have := List.mem_range'_1.mp hv
    omega) (by rw [lr]; omega) (by rw [lr]; exact cap12 n3 m12) (by rw [lr]; omega)
  have lb := h2.left_bd
  rw [lr] at lb
  have eo : (List.range' 0 n).map (fun v => D.int (v : Nat)) = rngD 0 n := by
    rw [← List.range_eq_range']
    unfold rngD
    refine List.map_congr_left fun v _ => ?_
    rw [Int.zero_add]
  rw [eo] at h1
  have hrg := x_rngSN (n := n) (by omega)
  have gone := h2.gone (fun k => 3 ≤ k) (fun k hk r hr => by
    have := (h2.bd r hr).ln
    unfold Row.n
    rw [List.getD_eq_getElem?_getD, List.getElem?_eq_none (by omega)]
    rfl)
  have zero : ∀ r ∈ L, ∀ k, r.n k = 0 := fun r hr k => by
    by_cases hk : k < n
    · exact gone k (.inr (List.mem_range'_1.mpr ⟨Nat.zero_le _, by omega⟩)) r hr
    · have := (lb r hr).ln
      unfold Row.n
      rw [List.getD_eq_getElem?_getD, List.getElem?_eq_none (by omega)]
      rfl
  have ofs := h2.of start_of
  have aw : isntD .non .non = .ok (.bl false) := rfl
  have al : ∀ l, isntD (.lst l) .non = .ok (.bl true) := fun _ => rfl
  rcases v_failing (L := L) (fun r hr => by rw [(lb r hr).lw]; omega) with ⟨f1, f2⟩ | ⟨r, hr, f1, f2⟩
  · right
    obtain ⟨S, x6, x7, x8, x9, s1, s2, s3, s4, s5, s6⟩ := backH (T := R.map rawD) (X := st.map stD) (Y := L.map rowD) (W := .non) n3 b900 n 0 b0 (startL R) st L (by omega) h2 (by simp) (fun r hr u hu => by omega) (fun r hr x => fine_holds (fun k _ => zero r hr k) (f2 r hr)) hom
    have run := s2.run
    refine ⟨S, ?_, s1, s5, start_holds s6⟩
    · have e0 : (List.replicate n (0 : Rat)).map qD = List.replicate n (.tup [.int 0, .int 1]) := by rw [List.map_replicate]; rfl
      unfold solE at run
      rw [e0, List.map_reverse] at run
      have k1 : (0 : Int) ≤ (n : Int) := by omega
      have k2 : (n : Int) ≤ 1000 := by omega
      have k3 : (n : Int).toNat = n := by omega
      have rp : List.replicate (n : Int).toNat (D.tup [.int 0, .int 1]) = List.replicate n (D.tup [.int 0, .int 1]) := by rw [k3]
      generalize S.map qD = U at *
      generalize st.map stD = X at *
      generalize L.map rowD = Y at *
      generalize R.map rawD = T at *
      generalize List.replicate n (D.tup [.int 0, .int 1]) = Z at *
      generalize rngD 0 n = G at *
      generalize hw : (n : Int) = n' at *
      rw [d_solve_eq]
      refine run_rt rfl ?_
      have es : startE 10 [D.int n', .lst T] = [some (.val (.int n')), some (.val (.lst T)), none, none, none, none, none, none, none, none] := rfl
      rw [es]
      unfold s_solve
      refine (seq_nx (e1 := [some (.val (.int n')), some (.val (.lst T)), some (.val (.lst X)), some (.val (.lst Y)), none, none, none, none, none, none]) (by simp [hrg, h1])).trans ?_
      refine (seq_nx (e1 := [some (.val (.int n')), some (.val (.lst T)), some (.val (.lst X)), some (.val (.lst Y)), some (.val .non), none, none, none, none, none]) (by simp [f1])).trans ?_
      refine (seq_nx (e1 := [some (.val (.int n')), some (.val (.lst T)), some (.val (.lst X)), some (.val (.lst Y)), some (.val .non), none, none, none, none, none]) (by simp [aw])).trans ?_
      refine (seq_nx (e1 := [some (.val (.int n')), some (.val (.lst T)), some (.val (.lst X)), some (.val (.lst Y)), some (.val .non), some (.own Z), none, none, none, none]) (by simp [k1, k2, rp])).trans ?_
      refine (seq_nx (e1 := [some (.val (.int n')), some (.val (.lst T)), some (.val (.lst X)), some (.val (.lst Y)), some (.val .non), some (.own U), x6, x7, x8, x9]) (by simp [iRevD, run])).trans ?_
      simp
  · left
    have pp := paper_of (ofs r hr) (fun k _ => zero r hr k) f1
    refine ⟨papR r, ?_, pp, fun z hz => ?_⟩
    · generalize (papR r).map D.int = W at *
      generalize st.map stD = X at *
      generalize L.map rowD = Y at *
      generalize R.map rawD = T at *
      generalize rngD 0 n = G at *
      generalize (n : Int) = n' at *
      have al := al W
      rw [d_solve_eq]
      refine run_rt rfl ?_
      have es : startE 10 [D.int n', .lst T] = [some (.val (.int n')), some (.val (.lst T)), none, none, none, none, none, none, none, none] := rfl
      rw [es]
      unfold s_solve
      refine (seq_nx (e1 := [some (.val (.int n')), some (.val (.lst T)), some (.val (.lst X)), some (.val (.lst Y)), none, none, none, none, none, none]) (by simp [hrg, h1])).trans ?_
      refine (seq_nx (e1 := [some (.val (.int n')), some (.val (.lst T)), some (.val (.lst X)), some (.val (.lst Y)), some (.val (.lst W)), none, none, none, none, none]) (by simp [f2])).trans ?_
      simp [al]
    · have bw := (lb r hr).bw
      unfold papR at hz
      split at hz
      · obtain ⟨y, hy, rfl⟩ := List.mem_map.mp hz
        exact (bw y hy).neg.mono (by omega)
      · exact (bw z hz).mono (by omega)

/-! ### few equations, many unknowns -/
def sR (f : Nat → Rat) : Nat → Rat
  | 0 => 0
  | n + 1 => sR f n + f n
theorem sR_congr {f g : Nat → Rat} : ∀ {n : Nat}, (∀ i, i < n → f i = g i) → sR f n = sR g n
  | 0, _ => rfl
  | n + 1, h => by
    show sR f n + f n = sR g n + g n
    rw [sR_congr fun i hi => h i (by omega), h n (by omega)]
theorem sR_zero : ∀ {n : Nat}, sR (fun _ => 0) n = 0
  | 0 => rfl
  | n + 1 => by
    show sR (fun _ => 0) n + 0 = 0
    rw [sR_zero]; grind
theorem sR_add {f g : Nat → Rat} : ∀ {n : Nat}, sR (fun i => f i + g i) n = sR f n + sR g n
  | 0 => by show (0 : Rat) = 0 + 0; grind
  | n + 1 => by
    show sR (fun i => f i + g i) n + (f n + g n) = (sR f n + f n) + (sR g n + g n)
    rw [sR_add]; grind
theorem sR_mul {c : Rat} {f : Nat → Rat} : ∀ {n : Nat}, sR (fun i => c * f i) n = c * sR f n
  | 0 => by show (0 : Rat) = c * 0; grind
  | n + 1 => by
    show sR (fun i => c * f i) n + c * f n = c * (sR f n + f n)
    rw [sR_mul]; grind
/-- the numbers but one -/
def skp (p i : Nat) : Nat := if i < p then i else i + 1
theorem sR_skip {f : Nat → Rat} {p : Nat} : ∀ {n : Nat}, p ≤ n → sR f (n + 1) = sR (fun i => f (skp p i)) n + f p
  | 0, h => by
    have : p = 0 := by omega
    subst this
    rfl
  | n + 1, h => by
    by_cases c : p = n + 1
    · subst c
      show sR f (n + 1) + f (n + 1) = _
      congr 1
      refine sR_congr fun i hi => ?_
      unfold skp
      rw [if_pos hi]
    · have ih := sR_skip (f := f) (p := p) (n := n) (by omega)
      show sR f (n + 1) + f (n + 1) = (sR (fun i => f (skp p i)) n + f (skp p n)) + f p
      have e : skp p n = n + 1 := by unfold skp; rw [if_neg (by omega)]
      rw [ih, e]
      grind
theorem homog : ∀ (m N : Nat) (a : Nat → Nat → Rat), m < N → ∃ c : Nat → Rat, (∃ i, i < N ∧ c i ≠ 0) ∧ ∀ j, j < m → sR (fun i => a j i * c i) N = 0
  | 0, N, a, h => ⟨fun _ => 1, ⟨0, h, by decide⟩, fun j hj => absurd hj (Nat.not_lt_zero _)⟩
  | m + 1, N, a, h => by
    by_cases hz : ∀ i, i < N → a m i = 0
    · obtain ⟨c, h1, h2⟩ := homog m N a (by omega)
      refine ⟨c, h1, fun j hj => ?_⟩
      by_cases e : j = m
      · subst e
        rw [sR_congr (g := fun _ => 0) fun i hi => by rw [hz i hi]; grind]
        exact sR_zero
      · exact h2 j (by omega)
    · obtain ⟨p, hp, h0⟩ : ∃ p, p < N ∧ a m p ≠ 0 := by
        refine Classical.byContradiction fun q => hz fun i hi => ?_
        by_cases z : a m i = 0
        · exact z
        · exact absurd ⟨i, hi, z⟩ q
      obtain ⟨K, rfl⟩ : ∃ K, N = K + 1 := ⟨N - 1, by omega⟩
      obtain ⟨c', ⟨i0, hi0, hc0⟩, h2⟩ := homog m K (fun j i => a j (skp p i) - a j p * (a m (skp p i) / a m p)) (by omega)
      obtain ⟨s, hs⟩ : ∃ s, sR (fun i => a m (skp p i) * c' i) K = s := ⟨_, rfl⟩
      obtain ⟨c, hc⟩ : ∃ c : Nat → Rat, c = fun u => if u < p then c' u else if u = p then -(s / a m p) else c' (u - 1) := ⟨_, rfl⟩
      have cs : ∀ i, c (skp p i) = c' i := fun i => by
        rw [hc]
        unfold skp
        by_cases q : i < p
        · simp [q]
        · simp only [if_neg q]
          rw [if_neg (by omega), if_neg (by omega)]
          rfl
      have cp : c p = -(s / a m p) := by rw [hc]; simp
      refine ⟨c, ⟨skp p i0, ?_, ?_⟩, fun j hj => ?_⟩
      · unfold skp; split <;> omega
      · rw [cs]; exact hc0
      · rw [sR_skip (p := p) (by omega), cp]
        rw [sR_congr (g := fun i => a j (skp p i) * c' i) fun i _ => by rw [cs]]
        by_cases e : j = m
        · subst e
          rw [hs]
          grind
        · have q := h2 j (by omega)
          have e2 : sR (fun i => (a j (skp p i) - a j p * (a m (skp p i) / a m p)) * c' i) K = sR (fun i => a j (skp p i) * c' i + (-(a j p / a m p)) * (a m (skp p i) * c' i)) K := sR_congr fun i _ => by grind
          rw [e2, sR_add, sR_mul, hs] at q
          grind
/-! ### dims of what stays -/
def dt (a : List Int) (x : Nat → Rat) : Rat := ((a.getD 0 0 : Int) : Rat) * x 0 + ((a.getD 1 0 : Int) : Rat) * x 1 + ((a.getD 2 0 : Int) : Rat) * x 2
def vec (a : List Int) : Nat → Rat := fun j => ((a.getD j 0 : Int) : Rat)
def InK (n : Nat) (A : List (List Int)) (x : Nat → Rat) : Prop := (∀ j, n ≤ j → x j = 0) ∧ ∀ a ∈ A, dt a x = 0
def DepAll (n : Nat) (A : List (List Int)) (m : Nat) : Prop := ∀ v : Nat → Nat → Rat, (∀ i, i < m → InK n A (v i)) → ∃ c : Nat → Rat, (∃ i, i < m ∧ c i ≠ 0) ∧ ∀ j, sR (fun i => c i * v i j) m = 0
theorem vec_out {a : List Int} {n j : Nat} (h : a.length = n) (hj : n ≤ j) : vec a j = 0 := by
  unfold vec
  rw [List.getD_eq_getElem?_getD, List.getElem?_eq_none (by omega)]; rfl
theorem dt_comb {a : List Int} {c : Nat → Rat} {v : Nat → Nat → Rat} {m : Nat} : dt a (fun j => sR (fun i => c i * v i j) m) = sR (fun i => c i * dt a (v i)) m := by
  have e : sR (fun i => c i * dt a (v i)) m = sR (fun i => ((a.getD 0 0 : Int) : Rat) * (c i * v i 0) + (((a.getD 1 0 : Int) : Rat) * (c i * v i 1) + ((a.getD 2 0 : Int) : Rat) * (c i * v i 2))) m := sR_congr fun i _ => by unfold dt; grind
  rw [e, sR_add, sR_add, sR_mul, sR_mul, sR_mul]
  unfold dt
  grind
theorem sq_nn (x : Rat) : 0 ≤ x * x := by
  rcases (Rat.le_total : 0 ≤ x ∨ x ≤ 0) with h | h
  · exact Rat.mul_nonneg h h
  · have := Rat.mul_nonneg (a := -x) (b := -x) (by grind) (by grind)
    grind
theorem sq_zero {x : Rat} (h : x * x = 0) : x = 0 := by
  rcases Rat.mul_eq_zero.mp h with a | a <;> exact a
theorem dt_self {a : List Int} (h : dt a (vec a) = 0) : vec a 0 = 0 ∧ vec a 1 = 0 ∧ vec a 2 = 0 := by
  have e : vec a 0 * vec a 0 + vec a 1 * vec a 1 + vec a 2 * vec a 2 = 0 := h
  have a0 := sq_nn (vec a 0)
  have a1 := sq_nn (vec a 1)
  have a2 := sq_nn (vec a 2)
  exact ⟨sq_zero (by grind), sq_zero (by grind), sq_zero (by grind)⟩
theorem dt_comm {a b : List Int} : dt a (vec b) = dt b (vec a) := by unfold dt vec; grind
theorem InK.mono {n : Nat} {A B : List (List Int)} {x : Nat → Rat} (h : InK n (A ++ B) x) : InK n A x := ⟨h.1, fun a ha => h.2 a (List.mem_append.mpr (.inl ha))⟩
theorem dep_top {n : Nat} (n3 : n ≤ 3) (A : List (List Int)) : DepAll n A (n + 1) := fun v hv => by
  obtain ⟨c, h1, h2⟩ := homog n (n + 1) (fun j i => v i j) (by omega)
  refine ⟨c, h1, fun j => ?_⟩
  by_cases hj : j < n
  · rw [← h2 j hj]
    exact sR_congr fun i _ => by grind
  · rw [sR_congr (g := fun _ => 0) fun i hi => by rw [(hv i hi).1 j (by omega)]; grind]
    exact sR_zero
/-- one vector more, at right angles to all -/
theorem dep_more {n m : Nat} {A B : List (List Int)} {w : List Int} (h : DepAll n A (m + 1)) (hl : w.length = n) (hw : ∃ k, w.getD k 0 ≠ 0) (n3 : n ≤ 3) (hA : InK n A (vec w)) (hB : ∀ x, InK n B x → InK n A x ∧ dt w x = 0) : DepAll n B m := fun v hv => by
  obtain ⟨c, ⟨i0, hi0, hc0⟩, h2⟩ := h (fun i => if i < m then v i else vec w) (fun i hi => by
    by_cases q : i < m
    · simp only [q, if_true]; exact (hB _ (hv i q)).1
    · simp only [q, if_false]; exact hA)
  have h3 : ∀ j, sR (fun i => c i * v i j) m + c m * vec w j = 0 := fun j => by
    have q := h2 j
    have e : sR (fun i => c i * (if i < m then v i else vec w) j) (m + 1) = sR (fun i => c i * (if i < m then v i else vec w) j) m + c m * (if m < m then v m else vec w) j := rfl
    rw [e, if_neg (Nat.lt_irrefl m), sR_congr (g := fun i => c i * v i j) fun i hi => by rw [if_pos hi]] at q
    exact q
  have d0 : dt w (fun j => sR (fun i => c i * v i j) m) = 0 := by
    rw [dt_comb, sR_congr (g := fun _ => 0) fun i hi => by rw [(hB _ (hv i hi)).2]; grind]
    exact sR_zero
  have dd : dt w (fun j => sR (fun i => c i * v i j) m) + c m * dt w (vec w) = 0 := by
    have a0 := h3 0
    have a1 := h3 1
    have a2 := h3 2
    unfold dt
    grind
  have cm : c m = 0 := by
    rw [d0] at dd
    have : c m * dt w (vec w) = 0 := by grind
    rcases Rat.mul_eq_zero.mp this with a | a
    · exact a
    · exfalso
      obtain ⟨k, hk⟩ := hw
      obtain ⟨a0, a1, a2⟩ := dt_self a
      have kn : k < n := by
        refine Classical.byContradiction fun q => hk ?_
        rw [List.getD_eq_getElem?_getD, List.getElem?_eq_none (by omega)]; rfl
      have : vec w k = 0 := by
        have : k = 0 ∨ k = 1 ∨ k = 2 := by omega
        rcases this with rfl | rfl | rfl <;> assumption
      exact hk (by unfold vec at this; exact_mod_cast this)
  refine ⟨c, ⟨i0, ?_, hc0⟩, fun j => ?_⟩
  · by_cases q : i0 = m
    · rw [q, cm] at hc0; exact absurd rfl hc0
    · omega
  · have := h3 j
    rw [cm] at this
    grind
theorem dep_step {n m : Nat} {A : List (List Int)} {w : List Int} (h : DepAll n A (m + 1)) (hl : w.length = n) (hw : ∃ k, w.getD k 0 ≠ 0) (n3 : n ≤ 3) (hA : InK n A (vec w)) : DepAll n (A ++ [w]) m :=
  dep_more h hl hw n3 hA fun x hx => ⟨hx.mono, hx.2 w (List.mem_append.mpr (.inr List.mem_cons_self))⟩
theorem dep_row {n : Nat} {A : List (List Int)} {w : List Int} (n3 : n ≤ 3) (hl : w.length = n) (hw : ∃ k, w.getD k 0 ≠ 0) (hA : w ∈ A) : DepAll n A n :=
  dep_more (A := []) (dep_top n3 []) hl hw n3 ⟨fun j hj => vec_out hl hj, fun a ha => absurd ha List.not_mem_nil⟩ fun x hx => ⟨⟨hx.1, fun a ha => absurd ha List.not_mem_nil⟩, hx.2 w hA⟩
theorem dep_one {n : Nat} {A : List (List Int)} (h : DepAll n A 1) {x : Nat → Rat} (hx : InK n A x) (j : Nat) : x j = 0 := by
  obtain ⟨c, ⟨i, hi, hc⟩, h2⟩ := h (fun _ => x) fun _ _ => hx
  have : i = 0 := by omega
  subst this
  have q := h2 j
  have e : sR (fun i => c i * x j) 1 = 0 + c 0 * x j := rfl
  rw [e] at q
  have : c 0 * x j = 0 := by grind
  rcases Rat.mul_eq_zero.mp this with a | a
  · exact absurd a hc
  · exact a

noncomputable def b_whole_of_1 : PL.Env → Res Fl := Classical.choose (⟨(sSet 1 (e2 fdivD (e2 mulX (eVar 1) (e2 ixD (eVar 2) (eC (.int 1)))) (eFn d_common (aCons (eVar 1) (aCons (e2 ixD (eVar 2) (eC (.int 1))) aNil))))), rfl⟩ : ∃ y : PL.Env → Res Fl, y = (sSet 1 (e2 fdivD (e2 mulX (eVar 1) (e2 ixD (eVar 2) (eC (.int 1)))) (eFn d_common (aCons (eVar 1) (aCons (e2 ixD (eVar 2) (eC (.int 1))) aNil))))))
theorem b_whole_of_1_eq : b_whole_of_1 = (sSet 1 (e2 fdivD (e2 mulX (eVar 1) (e2 ixD (eVar 2) (eC (.int 1)))) (eFn d_common (aCons (eVar 1) (aCons (e2 ixD (eVar 2) (eC (.int 1))) aNil))))) := Classical.choose_spec (⟨(sSet 1 (e2 fdivD (e2 mulX (eVar 1) (e2 ixD (eVar 2) (eC (.int 1)))) (eFn d_common (aCons (eVar 1) (aCons (e2 ixD (eVar 2) (eC (.int 1))) aNil))))), rfl⟩ : ∃ y : PL.Env → Res Fl, y = (sSet 1 (e2 fdivD (e2 mulX (eVar 1) (e2 ixD (eVar 2) (eC (.int 1)))) (eFn d_common (aCons (eVar 1) (aCons (e2 ixD (eVar 2) (eC (.int 1))) aNil))))))
noncomputable def c_whole_of_1 : BEnv → Res D := Classical.choose (⟨(e2 ixD (eFn d_made (aCons (e2 mulX (e2 ixD (eVar 2) (eC (.int 0))) (eVar 1)) (aCons (e2 ixD (eVar 2) (eC (.int 1))) aNil))) (eC (.int 0))), rfl⟩ : ∃ y : BEnv → Res D, y = (e2 ixD (eFn d_made (aCons (e2 mulX (e2 ixD (eVar 2) (eC (.int 0))) (eVar 1)) (aCons (e2 ixD (eVar 2) (eC (.int 1))) aNil))) (eC (.int 0))))
theorem c_whole_of_1_eq : c_whole_of_1 = (e2 ixD (eFn d_made (aCons (e2 mulX (e2 ixD (eVar 2) (eC (.int 0))) (eVar 1)) (aCons (e2 ixD (eVar 2) (eC (.int 1))) aNil))) (eC (.int 0))) := Classical.choose_spec (⟨(e2 ixD (eFn d_made (aCons (e2 mulX (e2 ixD (eVar 2) (eC (.int 0))) (eVar 1)) (aCons (e2 ixD (eVar 2) (eC (.int 1))) aNil))) (eC (.int 0))), rfl⟩ : ∃ y : BEnv → Res D, y = (e2 ixD (eFn d_made (aCons (e2 mulX (e2 ixD (eVar 2) (eC (.int 0))) (eVar 1)) (aCons (e2 ixD (eVar 2) (eC (.int 1))) aNil))) (eC (.int 0))))
noncomputable def s_whole_of : PL.Env → Res Fl := (sSeq (sSet 1 (eC (.int 1)))
    (sSeq (sFor (iSeq (eVar 0)) (pName 2) b_whole_of_1)
    (sRet (eCall tupleD (aCons (lstD (oComp [2] (iSeq (eVar 0)) (pName 2) cTrue c_whole_of_1)) aNil)))))
noncomputable def d_whole_of : List D → Res Cell := Classical.choose (⟨runB 3 1 s_whole_of, rfl⟩ : ∃ y : List D → Res Cell, y = runB 3 1 s_whole_of)
theorem d_whole_of_eq : d_whole_of = runB 3 1 s_whole_of := Classical.choose_spec (⟨runB 3 1 s_whole_of, rfl⟩ : ∃ y : List D → Res Cell, y = runB 3 1 s_whole_of)
theorem w_whole_of {l : List Rat} {B e : Nat} {x0 x2 : Option Cell} (hB : Bd B (lcmL l : Int)) (he : ∀ q ∈ l, Bd e (q.den : Int)) (hs : B + e ≤ 13000) : ∃ y2 : Option Cell, forD (pName 2) b_whole_of_1 (l.map qD) [x0, some (.val (.int 1)), x2] = .ok (.nx [x0, some (.val (.int (lcmL l : Nat))), y2]) := by
  obtain ⟨env1, hfor, y2, rfl⟩ := for_inv (p := pName 2) (s := b_whole_of_1) (fun j env => ∃ y2 : Option Cell, env = [x0, some (.val (.int (lcmL (l.take j) : Nat))), y2]) (l.map qD) [x0, some (.val (.int 1)), x2] 0 ⟨_, rfl⟩ (by
    rintro j hj0 env ⟨y2, rfl⟩
    rw [Nat.zero_add]
    have hj : j < l.length := by simpa using hj0
    have ee : (l.map qD)[j] = qD l[j] := by simp
    rw [ee, lcmL_take hj]
    have bd := he _ (List.getElem_mem hj)
    have bN : Bd B (lcmL (l.take j) : Int) := by
      have := lcmL_pre (l := l) (j := j)
      unfold Bd at *
      rw [Int.natAbs_natCast] at *
      omega
    generalize l[j] = q at *
    generalize lcmL (l.take j) = N at *
    have mo := mulOk_of bN bd (by omega)
    have gp : (Int.gcd (N : Int) (q.den : Int) : Int) ≠ 0 := by
      have := q.den_pos
      have := Int.gcd_pos_of_ne_zero_right (N : Int) (b := (q.den : Int)) (by omega)
      omega
    have dv := divOk_big (y := (Int.gcd (N : Int) (q.den : Int) : Int)) ((bN.mul bd).mono hs) gp
    have vc := v_common (a := (N : Int)) (b := (q.den : Int))
    have ls := lcm_step (N := N) (d := q.den)
    refine ⟨[(2, qD q)], [x0, some (.val (.int (Nat.lcm N q.den : Nat))), some (.val (qD q))], rfl, .inl ?_, _, rfl⟩
    show b_whole_of_1 [_, _, some (.val (qD q))] = _
    rw [qD_eq]
    generalize (Int.gcd (N : Int) (q.den : Int) : Int) = g at *
    generalize ((Nat.lcm N q.den : Nat) : Int) = L at *
    generalize (q.den : Int) = dz at *
    generalize (N : Int) = Nz at *
    simp [b_whole_of_1_eq, mo, vc, dv, ls])
  have tk : l.take (0 + (l.map qD).length) = l := by rw [Nat.zero_add, List.length_map, List.take_length]
  rw [tk] at hfor
  exact ⟨_, hfor⟩
theorem v_whole_of {l : List Rat} {B e : Nat} (hB : Bd B (lcmL l : Int)) (he : ∀ q ∈ l, QB e q) (hs : B + e ≤ 13000) (hl : l.length ≤ 100) : d_whole_of [.tup (l.map qD)] = .ok (.val (sD (l.map fun q => nm q (lcmL l)))) := by
  obtain ⟨y2, hf⟩ := w_whole_of (x0 := some (.val (.tup (l.map qD)))) (x2 := none) hB (fun q hq => (he q hq).2) hs
  have cm := comp_map (dec := qD) (enc := D.int) (p := pName 2) (f := c_whole_of_1) (env := [some (.tup (l.map qD)), some (.int (lcmL l : Nat)), none]) (fun q => nm q (lcmL l)) l (fun q hq => ⟨[(2, qD q)], rfl, by
    have bq := he q hq
    have mo := mulOk_of bq.1 hB (by omega)
    have vm := v_made (t := q.num * (lcmL l : Int)) (den_ne q) ((bq.1.mul hB).mono (by omega)) (bq.2.mono (by omega))
    rw [made_nm] at vm
    have e0 : ixD (qD (q * (((lcmL l : Nat) : Int) : Rat))) (.int 0) = .ok (.int (nm q (lcmL l))) := rfl
    show c_whole_of_1 [_, _, some (qD q)] = _
    rw [qD_eq q]
    generalize qD (q * (((lcmL l : Nat) : Int) : Rat)) = R at *
    generalize l.map qD = L at *
    generalize ((lcmL l : Nat) : Int) = N at *
    generalize (q.den : Int) = dz at *
    simp [c_whole_of_1_eq, mo, vm, e0]⟩)
  have lm : (l.map qD).length ≤ 1000000 := by simp; omega
  unfold sD
  generalize (l.map fun q => nm q (lcmL l)).map D.int = Z at *
  generalize l.map qD = L at *
  generalize ((lcmL l : Nat) : Int) = N at *
  simp [d_whole_of_eq, s_whole_of, start_eq, hf, x_comp, lm, cm]

noncomputable def b_check_some_1 : PL.Env → Res Fl := Classical.choose (⟨(sIf (tOrD (tNotD (tst (eFn d_is_whole (aCons (e2 ixD (eVar 1) (eVar 2)) aNil)))) (tOrD (tNotD (tst (eChain leD ltD (eC (.int 0)) (e2 ixD (eVar 1) (eVar 2)) (eMeth d_Cutting_many (eVar 0) aNil)))) (tst (e2 inDT (e2 ixD (eVar 1) (eVar 2)) (eSl (eVar 1) oNo (oSome (eVar 2))))))) (sRaise "NoNumber") sNil), rfl⟩ : ∃ y : PL.Env → Res Fl, y = (sIf (tOrD (tNotD (tst (eFn d_is_whole (aCons (e2 ixD (eVar 1) (eVar 2)) aNil)))) (tOrD (tNotD (tst (eChain leD ltD (eC (.int 0)) (e2 ixD (eVar 1) (eVar 2)) (eMeth d_Cutting_many (eVar 0) aNil)))) (tst (e2 inDT (e2 ixD (eVar 1) (eVar 2)) (eSl (eVar 1) oNo (oSome (eVar 2))))))) (sRaise "NoNumber") sNil))
theorem b_check_some_1_eq : b_check_some_1 = (sIf (tOrD (tNotD (tst (eFn d_is_whole (aCons (e2 ixD (eVar 1) (eVar 2)) aNil)))) (tOrD (tNotD (tst (eChain leD ltD (eC (.int 0)) (e2 ixD (eVar 1) (eVar 2)) (eMeth d_Cutting_many (eVar 0) aNil)))) (tst (e2 inDT (e2 ixD (eVar 1) (eVar 2)) (eSl (eVar 1) oNo (oSome (eVar 2))))))) (sRaise "NoNumber") sNil) := Classical.choose_spec (⟨(sIf (tOrD (tNotD (tst (eFn d_is_whole (aCons (e2 ixD (eVar 1) (eVar 2)) aNil)))) (tOrD (tNotD (tst (eChain leD ltD (eC (.int 0)) (e2 ixD (eVar 1) (eVar 2)) (eMeth d_Cutting_many (eVar 0) aNil)))) (tst (e2 inDT (e2 ixD (eVar 1) (eVar 2)) (eSl (eVar 1) oNo (oSome (eVar 2))))))) (sRaise "NoNumber") sNil), rfl⟩ : ∃ y : PL.Env → Res Fl, y = (sIf (tOrD (tNotD (tst (eFn d_is_whole (aCons (e2 ixD (eVar 1) (eVar 2)) aNil)))) (tOrD (tNotD (tst (eChain leD ltD (eC (.int 0)) (e2 ixD (eVar 1) (eVar 2)) (eMeth d_Cutting_many (eVar 0) aNil)))) (tst (e2 inDT (e2 ixD (eVar 1) (eVar 2)) (eSl (eVar 1) oNo (oSome (eVar 2))))))) (sRaise "NoNumber") sNil))
noncomputable def s_check_some : PL.Env → Res Fl := (sSeq (sIf (tNotD (tst (e1 (isiB "list") (eVar 1)))) (sRaise "NoNumber") sNil)
    (sForR (iRng1 (aCons (eCall lenD (aCons (eVar 1) aNil)) aNil)) (pName 2) b_check_some_1))
noncomputable def d_check_some : List D → Res Cell := Classical.choose (⟨runB 3 2 s_check_some, rfl⟩ : ∃ y : List D → Res Cell, y = runB 3 2 s_check_some)
theorem d_check_some_eq : d_check_some = runB 3 2 s_check_some := Classical.choose_spec (⟨runB 3 2 s_check_some, rfl⟩ : ∃ y : List D → Res Cell, y = runB 3 2 s_check_some)
def NoNum (m : Nat) (d : D) : Prop := d_is_whole [d] = .ok (.val (.bl false)) ∨ ∃ z : Int, d = .int z ∧ (z < 0 ∨ (m : Int) ≤ z)
theorem any_ints (z : Int) : ∀ zs : List Int, ((zs.map D.int).any fun y => deq y (.int z)) = decide (z ∈ zs)
  | [] => by simp
  | y :: zs => by
    rw [List.map_cons, List.any_cons, any_ints z zs, deq_i]
    by_cases e : y = z
    · subst e; simp
    · have e' : z ≠ y := fun q => e q.symm
      simp [e, e']
theorem in_intsL (z : Int) (zs : List Int) : inDT (.int z) (.lst (zs.map D.int)) = .ok (.bl (decide (z ∈ zs))) := by
  have e := eqOks_ints (n := 59) zs
  show (if eqOk 60 (.int z) = true ∧ eqOks 59 (zs.map D.int) = true then Res.ok (D.bl ((zs.map D.int).any fun y => deq y (.int z))) else .bad) = _
  rw [if_pos ⟨by simp, e⟩, any_ints]
theorem some_turn {n i : Nat} {C : List (List Int × Int)} {l : List D} {zs : List Int} {z : Int} {x2 : Option Cell} (hi : i < l.length) (e : l[i] = .int z) (ht : l.take i = zs.map D.int) (h0 : 0 ≤ z) (h1 : z < C.length) (hn : z ∉ zs) :
    b_check_some_1 [some (.val (kD n C)), some (.val (.lst l)), some (.val (.int (i : Int)))] = .ok (.nx [some (.val (kD n C)), some (.val (.lst l)), some (.val (.int (i : Int)))]) := by
  have ai := at_map (enc := fun d : D => d) (l := l) hi
  rw [List.map_id', e] at ai
  have ct : cutL l none (some (i : Int)) = zs.map D.int := by rw [cutL_to, ht]
  have il := in_intsL z zs
  rw [decide_eq_false hn] at il
  have vm := v_many (n := n) (C := C)
  have ck : cutOf (kD n C) = .ok ((n : Int), C.map ctD) := rfl
  have hk : D.cut n (C.map ctD) = kD n C := rfl
  generalize kD n C = K at *
  generalize C.map ctD = T at *
  generalize (C.length : Int) = zc at *
  generalize zs.map D.int = Z at *
  generalize (i : Int) = iz at *
  simp [-x_inDT_l, -cutL_to, b_check_some_1_eq, ai, v_is_whole, h0, h1, vm, ck, hk, ct, il]
theorem some_bad {n i : Nat} {C : List (List Int × Int)} {l : List D} {zs : List Int} {d : D} (hi : i < l.length) (e : l[i] = d) (ht : l.take i = zs.map D.int) (hb : NoNum C.length d ∨ ∃ z : Int, d = .int z ∧ 0 ≤ z ∧ z < C.length ∧ z ∈ zs) :
    b_check_some_1 [some (.val (kD n C)), some (.val (.lst l)), some (.val (.int (i : Int)))] = .exc "NoNumber" none := by
  have ai := at_map (enc := fun d : D => d) (l := l) hi
  rw [List.map_id', e] at ai
  have vm := v_many (n := n) (C := C)
  have ck : cutOf (kD n C) = .ok ((n : Int), C.map ctD) := rfl
  have hk : D.cut n (C.map ctD) = kD n C := rfl
  rcases hb with (h | ⟨z, rfl, hz⟩) | ⟨z, rfl, h0, h1, hm⟩
  · generalize kD n C = K at *
    generalize (i : Int) = iz at *
    simp [b_check_some_1_eq, ai, h, sRaise]
  · generalize kD n C = K at *
    generalize C.map ctD = T at *
    generalize (C.length : Int) = zc at *
    generalize (i : Int) = iz at *
    by_cases h0 : 0 ≤ z
    · have h2 : ¬ z < zc := by omega
      simp [b_check_some_1_eq, ai, v_is_whole, h0, h2, vm, ck, hk, sRaise]
    · simp [b_check_some_1_eq, ai, v_is_whole, h0, sRaise]
  · have ct : cutL l none (some (i : Int)) = zs.map D.int := by rw [cutL_to, ht]
    have il := in_intsL z zs
    rw [decide_eq_true hm] at il
    generalize kD n C = K at *
    generalize C.map ctD = T at *
    generalize (C.length : Int) = zc at *
    generalize zs.map D.int = Z at *
    generalize (i : Int) = iz at *
    simp [-x_inDT_l, -cutL_to, b_check_some_1_eq, ai, v_is_whole, h0, h1, vm, ck, hk, ct, il, sRaise]
theorem nodup_take {zs : List Int} (h : zs.Nodup) {i : Nat} (hi : i < zs.length) : zs[i] ∉ zs.take i := fun q => by
  obtain ⟨j, hj, e⟩ := List.getElem_of_mem q
  rw [List.getElem_take] at e
  rw [List.length_take] at hj
  exact List.pairwise_iff_getElem.mp h j i (by omega) hi (by omega) e
theorem cs_1 {K : D} {Z : List D} : (sIf (tNotD (tst (e1 (isiB "list") (eVar 1)))) (sRaise "NoNumber") sNil) [some (.val K), some (.val (.lst Z)), none] = .ok (.nx [some (.val K), some (.val (.lst Z)), none]) := by
  simp
theorem cs_2 {K : D} {Z R : List D} {m : Nat} {w : Int} {r : Res Fl} (lC : Z.length = m) (hw : (m : Int) = w) (rc : rng1K (.int w) = .ok R) (hfor : forD (pName 2) b_check_some_1 R [some (.val K), some (.val (.lst Z)), none] = r) : (sForR (iRng1 (aCons (eCall lenD (aCons (eVar 1) aNil)) aNil)) (pName 2) b_check_some_1) [some (.val K), some (.val (.lst Z)), none] = r := by
  simp [lC, hw, rc, hfor]
theorem cs_run {K : D} {Z R : List D} {m : Nat} {w : Int} {x2 : Option Cell} (lC : Z.length = m) (hw : (m : Int) = w) (rc : rng1K (.int w) = .ok R) (hfor : forD (pName 2) b_check_some_1 R [some (.val K), some (.val (.lst Z)), none] = .ok (.nx [some (.val K), some (.val (.lst Z)), x2])) : d_check_some [K, .lst Z] = .ok (.val .non) := by
  have e : startE 3 [K, D.lst Z] = [some (.val K), some (.val (.lst Z)), none] := rfl
  rw [d_check_some_eq, run_eq (show [K, D.lst Z].length = 2 from rfl), e]
  unfold s_check_some
  rw [x_seq, cs_1, Res.bind_ok, x_seqK_nx, cs_2 lC hw rc hfor]
  rfl
theorem cs_run_x {K : D} {Z R : List D} {m : Nat} {w : Int} (lC : Z.length = m) (hw : (m : Int) = w) (rc : rng1K (.int w) = .ok R) (hfor : forD (pName 2) b_check_some_1 R [some (.val K), some (.val (.lst Z)), none] = .exc "NoNumber" none) : d_check_some [K, .lst Z] = .exc "NoNumber" none := by
  have e : startE 3 [K, D.lst Z] = [some (.val K), some (.val (.lst Z)), none] := rfl
  rw [d_check_some_eq, run_eq (show [K, D.lst Z].length = 2 from rfl), e]
  unfold s_check_some
  rw [x_seq, cs_1, Res.bind_ok, x_seqK_nx, cs_2 lC hw rc hfor]
  rfl
theorem v_check_some {n : Nat} {C : List (List Int × Int)} {zs : List Int} (hn : zs.Nodup) (hz : ∀ z ∈ zs, 0 ≤ z ∧ z < C.length) (l6 : zs.length ≤ 1000) : d_check_some [kD n C, .lst (zs.map D.int)] = .ok (.val .non) := by
  obtain ⟨env', hfor, x2, rfl⟩ := forR_inv (p := pName 2) (s := b_check_some_1) (lo := 0) (n := zs.length) (env := [some (.val (kD n C)), some (.val (.lst (zs.map D.int))), none])
    (fun _ env => ∃ x2 : Option Cell, env = [some (.val (kD n C)), some (.val (.lst (zs.map D.int))), x2]) ⟨_, rfl⟩ (by
    rintro i hi env ⟨x2, rfl⟩
    refine ⟨[(2, .int (0 + (i : Int)))], [some (.val (kD n C)), some (.val (.lst (zs.map D.int))), some (.val (.int (i : Int)))], rfl, .inl ?_, _, rfl⟩
    show b_check_some_1 [_, _, some (.val (.int (0 + (i : Int))))] = _
    rw [Int.zero_add]
    have hm := hz _ (List.getElem_mem hi)
    exact some_turn (zs := zs.take i) (z := zs[i]) (x2 := none) (by simpa using hi) (by simp) (by rw [List.map_take]) hm.1 hm.2 (nodup_take hn hi))
  exact cs_run (by simp) rfl (x_rng1N (n := zs.length) (by omega)) hfor
theorem check_some_bad1 {n : Nat} {C : List (List Int × Int)} {d : D} (h : isiB "list" d = .ok (.bl false)) : d_check_some [kD n C, d] = .exc "NoNumber" none := by
  generalize kD n C = K at *
  simp [d_check_some_eq, s_check_some, start_eq, h, sRaise]
theorem check_some_bad2 {n : Nat} {C : List (List Int × Int)} {zs : List Int} {d : D} {r : List D} (hn : zs.Nodup) (hz : ∀ z ∈ zs, 0 ≤ z ∧ z < C.length) (l6 : zs.length + r.length ≤ 1000) (hb : NoNum C.length d ∨ ∃ z : Int, d = .int z ∧ 0 ≤ z ∧ z < C.length ∧ z ∈ zs) :
    d_check_some [kD n C, .lst (zs.map D.int ++ d :: r)] = .exc "NoNumber" none := by
  have lZ : (zs.map D.int ++ d :: r).length = zs.length + (r.length + 1) := by simp
  have hfor := forR_exc (p := pName 2) (s := b_check_some_1) (c := "NoNumber") (x := none) (n := zs.length + (r.length + 1)) (fun _ env => ∃ x2 : Option Cell, env = [some (.val (kD n C)), some (.val (.lst (zs.map D.int ++ d :: r))), x2]) zs.length (by omega) [some (.val (kD n C)), some (.val (.lst (zs.map D.int ++ d :: r))), none] ⟨_, rfl⟩ (by
    rintro i hi env ⟨x2, rfl⟩
    have hm := hz _ (List.getElem_mem hi)
    have hi2 : i < (zs.map D.int).length := by simpa using hi
    exact ⟨[(2, .int (i : Int))], _, rfl, some_turn (zs := zs.take i) (z := zs[i]) (x2 := none) (by omega) (by rw [List.getElem_append_left hi2, List.getElem_map]) (by rw [List.take_append_of_le_length (by omega), List.map_take]) hm.1 hm.2 (nodup_take hn hi), _, rfl⟩) (by
    rintro env ⟨x2, rfl⟩
    exact ⟨[(2, .int (zs.length : Int))], rfl, some_bad (i := zs.length) (zs := zs) (d := d) (by omega) (by rw [List.getElem_append_right (by simp)]; simp) (by
      have e : zs.length = (zs.map D.int).length := by simp
      rw [e, List.take_left']
      rfl) hb⟩)
  exact cs_run_x lZ rfl (x_rng1N (n := zs.length + (r.length + 1)) (by omega)) hfor

noncomputable def c_unit_1 : BEnv → Res D := Classical.choose (⟨(eCall intD (aCons (e2 eqD (eVar 1) (eVar 2)) aNil)), rfl⟩ : ∃ y : BEnv → Res D, y = (eCall intD (aCons (e2 eqD (eVar 1) (eVar 2)) aNil)))
theorem c_unit_1_eq : c_unit_1 = (eCall intD (aCons (e2 eqD (eVar 1) (eVar 2)) aNil)) := Classical.choose_spec (⟨(eCall intD (aCons (e2 eqD (eVar 1) (eVar 2)) aNil)), rfl⟩ : ∃ y : BEnv → Res D, y = (eCall intD (aCons (e2 eqD (eVar 1) (eVar 2)) aNil)))
noncomputable def s_unit : PL.Env → Res Fl := (sRet (eCall tupleD (aCons (lstD (oComp [2] (iRng1 (aCons (eVar 0) aNil)) (pName 2) cTrue c_unit_1)) aNil)))
noncomputable def d_unit : List D → Res Cell := Classical.choose (⟨runB 3 2 s_unit, rfl⟩ : ∃ y : List D → Res Cell, y = runB 3 2 s_unit)
theorem d_unit_eq : d_unit = runB 3 2 s_unit := Classical.choose_spec (⟨runB 3 2 s_unit, rfl⟩ : ∃ y : List D → Res Cell, y = runB 3 2 s_unit)
theorem v_unit {n k : Nat} (n3 : n ≤ 3) : d_unit [.int n, .int (k : Int)] = .ok (.val (sD (unitL n k))) := by
  have kc := comp_map (dec := fun j : Nat => D.int (0 + (j : Int))) (enc := D.int) (p := pName 2) (f := c_unit_1) (env := [some (.int n), some (.int (k : Int)), none]) (fun j => if k = j then 1 else 0) (List.range n) (fun j hj => ⟨[(2, .int (0 + (j : Int)))], rfl, by
    by_cases q : k = j
    · subst q
      simp [c_unit_1_eq]
    · have q' : ¬ (k : Int) = (j : Int) := by omega
      simp [c_unit_1_eq, q, q']⟩)
  have e3 : (List.range n).map (fun j : Nat => D.int (0 + (j : Int))) = rngD 0 n := rfl
  have eu : ((List.range n).map fun j => if k = j then (1 : Int) else 0) = unitL n k := rfl
  rw [e3, eu] at kc
  have rc := x_rng1N (n := n) (by omega)
  have lg : (rngD 0 n).length ≤ 1000000 := by simp; omega
  unfold sD
  generalize (unitL n k).map D.int = U at *
  generalize rngD 0 n = G at *
  generalize (n : Int) = z at *
  simp [d_unit_eq, s_unit, start_eq, x_comp, rc, lg, kc]

noncomputable def s_more_ways (dn_ : List D → Res Cell) : PL.Env → Res Fl := (sSeq (sForR (iRng1 (aCons (eVar 0) aNil)) (pName 2) (sSeq (sUnp (pTup (pCons (pName 3) (pCons (pName 4) pNil))) (eFn d_solve (aCons (eVar 0) (aCons (e2 addD (eVar 1) (lstD (oLst (aCons (eTup (aCons (eFn d_unit (aCons (eVar 0) (aCons (eVar 2) aNil))) (aCons (eC (.int 0)) (aCons (eC (.str ">")) aNil)))) aNil)))) aNil))))
    (sIf (tst (e2 eqD (eVar 3) (eC (.str "spot")))) (sSeq (sSet 5 (eFn d_whole_of (aCons (eVar 4) aNil)))
    (sRetO (o2 catO (lstD (oLst (aCons (eVar 5) aNil))) (eFn dn_ (aCons (eVar 0) (aCons (e2 addD (eVar 1) (lstD (oLst (aCons (eTup (aCons (eVar 5) (aCons (eC (.int 0)) (aCons (eC (.str "=")) aNil)))) aNil)))) aNil)))))) sNil)))
    (sRetO (oLst aNil)))
noncomputable def r_more_ways : Nat → List D → Res Cell
  | 0 => runB 6 2 sBad
  | i + 1 => runB 6 2 (s_more_ways (r_more_ways i))
noncomputable def d_more_ways : List D → Res Cell := Classical.choose (⟨r_more_ways 4, rfl⟩ : ∃ y : List D → Res Cell, y = r_more_ways 4)
theorem d_more_ways_eq : d_more_ways = r_more_ways 4 := Classical.choose_spec (⟨r_more_ways 4, rfl⟩ : ∃ y : List D → Res Cell, y = r_more_ways 4)
theorem lcm_least {T : Nat} : ∀ {l : List Rat} {N : Nat}, N ∣ T → (∀ q ∈ l, q.den ∣ T) → l.foldl (fun N q => Nat.lcm N q.den) N ∣ T
  | [], N, h, _ => h
  | q :: l, N, h, k => lcm_least (l := l) (N := Nat.lcm N q.den) (Nat.lcm_dvd h (k q List.mem_cons_self)) fun r hr => k r (List.mem_cons_of_mem _ hr)
theorem den_of {t w : Int} {q : Rat} (h : (t : Rat) * q = (w : Rat)) : q.den ∣ t.natAbs := by
  have e := qnd q
  have d0 := q.den_pos
  have h2 : ((t * q.num : Int) : Rat) = ((w * (q.den : Int) : Int) : Rat) := by
    rw [Rat.intCast_mul, Rat.intCast_mul, ← e, ← h]
    grind
  have h3 : t * q.num = w * (q.den : Int) := Rat.intCast_inj.mp h2
  have h4 : t.natAbs * q.num.natAbs = w.natAbs * q.den := by
    have := congrArg Int.natAbs h3
    rwa [Int.natAbs_mul, Int.natAbs_mul, Int.natAbs_natCast] at this
  have h5 : q.den ∣ t.natAbs * q.num.natAbs := by rw [h4]; exact Nat.dvd_mul_left _ _
  exact (Nat.Coprime.dvd_of_dvd_mul_right (q.reduced.symm) h5)
/-- the least whole numbers that go along -/
theorem whl_way {S : List Rat} {β : Nat} (hw : Whl β (pt S)) : Bd β (lcmL S : Int) ∧ (∀ z ∈ S.map (fun q => nm q (lcmL S)), Bd β z) ∧ ∀ k, (((S.map fun q => nm q (lcmL S)).getD k 0 : Int) : Rat) = ((lcmL S : Int) : Rat) * pt S k := by
  obtain ⟨t, w, h1, h2, h3, h4⟩ := hw
  have mem : ∀ q ∈ S, ∃ u, q = pt S u := fun q hq => by
    obtain ⟨u, hu, rfl⟩ := List.getElem_of_mem hq
    exact ⟨u, by simp [pt, hu]⟩
  have dv : lcmL S ∣ t.natAbs := lcm_least (Nat.one_dvd _) fun q hq => by
    obtain ⟨u, e⟩ := mem q hq
    rw [e]
    exact den_of (h4 u)
  have t0 : 0 < t.natAbs := by omega
  have le : lcmL S ≤ t.natAbs := Nat.le_of_dvd t0 dv
  refine ⟨?_, fun z hz => ?_, fun k => ?_⟩
  · unfold Bd at *
    rw [Int.natAbs_natCast]
    omega
  · obtain ⟨q, hq, rfl⟩ := List.mem_map.mp hz
    obtain ⟨u, e⟩ := mem q hq
    obtain ⟨s, hs⟩ := dv
    have ez := nm_eq (lcmL_dvd hq)
    have hu := h3 u
    have h4u := h4 u
    rw [← e] at h4u
    -- |w| = s * |nm|
    have h5 : (w u).natAbs = s * (nm q (lcmL S)).natAbs := by
      have e2 : ((w u * (lcmL S : Int) : Int) : Rat) = ((t * nm q (lcmL S) : Int) : Rat) := by
        rw [Rat.intCast_mul, Rat.intCast_mul, ez, ← h4u]
        grind
      have e3 := Rat.intCast_inj.mp e2
      have e4 := congrArg Int.natAbs e3
      rw [Int.natAbs_mul, Int.natAbs_mul, Int.natAbs_natCast, hs] at e4
      have lp := lcmL_pos (l := S)
      have : lcmL S * (w u).natAbs = lcmL S * (s * (nm q (lcmL S)).natAbs) := by rw [Nat.mul_comm, e4, Nat.mul_assoc]
      exact Nat.eq_of_mul_eq_mul_left lp this
    have s1 : 1 ≤ s := by
      rcases Nat.eq_zero_or_pos s with a | a
      · rw [a] at hs; omega
      · exact a
    unfold Bd at *
    have : (nm q (lcmL S)).natAbs ≤ s * (nm q (lcmL S)).natAbs := Nat.le_mul_of_pos_left _ s1
    omega
  · by_cases hk : k < S.length
    · have e1 : (S.map fun q => nm q (lcmL S)).getD k 0 = nm S[k] (lcmL S) := by simp [hk]
      have e2 : pt S k = S[k] := by simp [pt, hk]
      rw [e1, e2, nm_eq (lcmL_dvd (List.getElem_mem hk))]
      grind
    · have e1 : (S.map fun q => nm q (lcmL S)).getD k 0 = 0 := by
        rw [List.getD_eq_getElem?_getD, List.getElem?_eq_none (by simp; omega)]; rfl
      rw [e1, pt_out rfl (by omega)]
      simp
def eqR (A : List (List Int)) : List Raw := A.map fun a => (a, 0, Kd.eq)
def askR (n : Nat) (A : List (List Int)) (k : Nat) : List Raw := eqR A ++ [(unitL n k, 0, Kd.st)]
theorem eqR_D (A : List (List Int)) : (eqR A).map rawD = A.map fun a => .tup [sD a, .int 0, .str "="] := by
  unfold eqR
  rw [List.map_map]
  rfl
theorem askR_D (n : Nat) (A : List (List Int)) (k : Nat) : (askR n A k).map rawD = (A.map fun a => .tup [sD a, .int 0, .str "="]) ++ [.tup [sD (unitL n k), .int 0, .str ">"]] := by
  unfold askR
  rw [List.map_append, eqR_D]
  rfl
theorem askR_ok {n b k : Nat} {A : List (List Int)} (hA : ∀ a ∈ A, a.length = n ∧ ∀ z ∈ a, Bd b z) (b1 : 1 ≤ b) : RawOk n b (askR n A k) := ⟨fun r hr => by
  unfold askR at hr
  rcases List.mem_append.mp hr with q | q
  · unfold eqR at q
    obtain ⟨a, ha, rfl⟩ := List.mem_map.mp q
    exact ⟨(hA a ha).1, (hA a ha).2, Bd.zero⟩
  · rw [List.mem_singleton.mp q]
    refine ⟨by simp [unitL], fun z hz => ?_, Bd.zero⟩
    unfold unitL at hz
    obtain ⟨j, _, rfl⟩ := List.mem_map.mp hz
    refine Bd.mono (m := 1) ?_ b1
    show Bd 1 (if k = j then 1 else 0)
    split <;> (unfold Bd; decide)⟩
theorem askR_hom {n k : Nat} {A : List (List Int)} : Hom (startL (askR n A k)) := by
  have key : ∀ r ∈ startL (askR n A k), r.c = 0 ∧ ((∃ a ∈ A, r.nums = a ∧ r.kd = .eq) ∨ (r.nums = unitL n k ∧ r.kd = .st)) := fun r hr => by
    unfold startL at hr
    obtain ⟨i, hi, e⟩ := List.mem_mapIdx.mp hr
    have hm : (askR n A k)[i] ∈ askR n A k := List.getElem_mem hi
    generalize (askR n A k)[i] = w at *
    subst e
    unfold askR at hm
    rcases List.mem_append.mp hm with q | q
    · unfold eqR at q
      obtain ⟨a, ha, rfl⟩ := List.mem_map.mp q
      exact ⟨rfl, .inl ⟨a, ha, rfl, rfl⟩⟩
    · rw [List.mem_singleton.mp q]
      exact ⟨rfl, .inr ⟨rfl, rfl⟩⟩
  refine ⟨fun r hr => (key r hr).1, fun r hr => ?_, fun r hr r' hr' k1 k2 => ⟨1, 1, by decide, by decide, fun j => ?_⟩⟩
  · rcases (key r hr).2 with ⟨_, _, _, q⟩ | ⟨_, q⟩
    · exact .inl q
    · exact .inr q
  · have e1 : r.nums = unitL n k := by
      rcases (key r hr).2 with ⟨_, _, _, q⟩ | ⟨q, _⟩
      · rw [q] at k1; cases k1
      · exact q
    have e2 : r'.nums = unitL n k := by
      rcases (key r' hr').2 with ⟨_, _, _, q⟩ | ⟨q, _⟩
      · rw [q] at k2; cases k2
      · exact q
    unfold Row.n
    rw [e1, e2]
theorem val_dt {a : List Int} {kd : Kd} {x : Nat → Rat} : val ⟨a, 0, kd, []⟩ x = dt a x := by
  unfold val dt Row.n
  simp
  grind
theorem dt_unit {n k : Nat} {x : Nat → Rat} (hk : k < n) (n3 : n ≤ 3) : dt (unitL n k) x = x k := by
  have e := fun j => unitL_get (m := n) (k := k) (j := j)
  unfold dt
  rw [e 0, e 1, e 2]
  have : k = 0 ∨ k = 1 ∨ k = 2 := by omega
  rcases this with rfl | rfl | rfl
  · simp [hk]; grind
  · simp [hk]; grind
  · simp [hk]; grind
theorem ask_holds {n k : Nat} {A : List (List Int)} {x : Nat → Rat} (hk : k < n) (n3 : n ≤ 3) : (∀ r ∈ askR n A k, holdsR r x) ↔ (∀ a ∈ A, dt a x = 0) ∧ 0 < x k := by
  constructor
  · intro h
    refine ⟨fun a ha => ?_, ?_⟩
    · have := h (a, 0, .eq) (List.mem_append.mpr (.inl (List.mem_map.mpr ⟨a, ha, rfl⟩)))
      have : val ⟨a, 0, .eq, []⟩ x = 0 := this
      rwa [val_dt] at this
    · have := h (unitL n k, 0, .st) (List.mem_append.mpr (.inr List.mem_cons_self))
      have : 0 < val ⟨unitL n k, 0, .st, []⟩ x := this
      rwa [val_dt, dt_unit hk n3] at this
  · intro ⟨h1, h2⟩ r hr
    rcases List.mem_append.mp hr with q | q
    · obtain ⟨a, ha, rfl⟩ := List.mem_map.mp q
      show val ⟨a, 0, .eq, []⟩ x = 0
      rw [val_dt]; exact h1 a ha
    · rw [List.mem_singleton.mp q]
      show 0 < val ⟨unitL n k, 0, .st, []⟩ x
      rw [val_dt, dt_unit hk n3]; exact h2
/-- a loop that may end with an answer -/
theorem for_or {p : Pat} {s : PL.Env → Res Fl} (I : Nat → PL.Env → Prop) (Rt : Cell → Prop) : ∀ (l : List D) (env : PL.Env) (k : Nat), I k env →
    (∀ (i : Nat) (hi : i < l.length) (env : PL.Env), I (k + i) env → ∃ as, p l[i] = .ok as ∧ ((∃ env', s (setAllE env as) = .ok (.nx env') ∧ I (k + i + 1) env') ∨ ∃ c, s (setAllE env as) = .ok (.rt c) ∧ Rt c)) →
    (∃ env', forD p s l env = .ok (.nx env') ∧ I (k + l.length) env') ∨ ∃ c, forD p s l env = .ok (.rt c) ∧ Rt c
  | [], env, k, h0, _ => .inl ⟨env, rfl, h0⟩
  | d :: ds, env, k, h0, hs => by
    obtain ⟨as, hp, h1⟩ := hs 0 (by simp) env h0
    have hp : p d = .ok as := hp
    rw [x_for_cons, hp, must_ok]
    rcases h1 with ⟨e1, h1, h2⟩ | ⟨c, h1, h2⟩
    · rw [h1]
      have := for_or (p := p) (s := s) I Rt ds e1 (k + 1) (by simpa using h2) (fun i hi env hI => by
        obtain ⟨as, a, b⟩ := hs (i + 1) (by simpa using hi) env (by rwa [show k + (i + 1) = k + 1 + i by omega])
        exact ⟨as, by simpa using a, by rwa [show k + 1 + i + 1 = k + (i + 1) + 1 by omega]⟩)
      rw [show k + 1 + ds.length = k + (d :: ds).length by simp; omega] at this
      exact this
    · rw [h1]
      exact .inr ⟨c, rfl, h2⟩
/-- ways that tell all that stays -/
structure Ways (n : Nat) (A W : List (List Int)) : Prop where
  len : ∀ w ∈ W, w.length = n
  nz : ∀ w ∈ W, ∃ k, w.getD k 0 ≠ 0
  ker : ∀ w ∈ W, ∀ a ∈ A, dt a (vec w) = 0
  orth : W.Pairwise fun w w' => dt w (vec w') = 0
  full : ∀ x, InK n (A ++ W) x → ∀ j, x j = 0
  bd : ∀ w ∈ W, ∀ z ∈ w, Bd 900 z
def lim : Nat → Nat
  | 0 => 900
  | 1 => 900
  | 2 => 298
  | 3 => 97
  | _ => 30
theorem lim_step {m : Nat} (h1 : 1 ≤ m) (h4 : m + 1 ≤ 4) : 3 * lim (m + 1) + 6 ≤ lim m ∧ lim (m + 1) ≤ 298 ∧ lim m ≤ 900 := by
  have : m = 1 ∨ m = 2 ∨ m = 3 := by omega
  rcases this with rfl | rfl | rfl <;> decide
theorem eqs_weights : eqD (.str "weights") (.str "spot") = .ok (.bl false) := by
  rw [eqD_ok (by simp only [eqOk_s]; decide +kernel) (by simp only [eqOk_s]; decide +kernel), deq_s]
  exact congrArg (fun b => Res.ok (D.bl b)) (by decide +kernel)
theorem eqs_spot2 : eqD (.str "spot") (.str "spot") = .ok (.bl true) := by
  rw [eqD_ok (by simp only [eqOk_s]; decide +kernel) (by simp only [eqOk_s]; decide +kernel), deq_s, beq_self_eq_true]
def eqsD (A : List (List Int)) : List D := A.map fun a => .tup [sD a, .int 0, .str "="]
theorem v_more_ways {n : Nat} (n1 : 1 ≤ n) (n3 : n ≤ 3) : ∀ (m f : Nat) (A : List (List Int)) (b : Nat), 1 ≤ m → m ≤ 4 → m ≤ f → DepAll n A m → (∀ a ∈ A, a.length = n ∧ ∀ z ∈ a, Bd b z) → 1 ≤ b → b ≤ lim m → A.length + m ≤ 12 →
    ∃ W : List (List Int), r_more_ways f [.int n, .lst (eqsD A)] = .ok (.own (W.map sD)) ∧ Ways n A W ∧ W.length < m
  | 0, f, A, b, h, _, _, _, _, _, _, _ => absurd h (by decide)
  | m + 1, 0, A, b, _, _, h, _, _, _, _, _ => absurd h (by omega)
  | m + 1, f + 1, A, b, _, m4, hf, dep, hA, b1, bl, l12 => by
    have b9 : b ≤ 900 := by
      have : lim (m + 1) ≤ 900 := by
        have : m = 0 ∨ m = 1 ∨ m = 2 ∨ m = 3 := by omega
        rcases this with rfl | rfl | rfl | rfl <;> decide
      omega
    have run := for_or (p := pName 2) (s := (sSeq (sUnp (pTup (pCons (pName 3) (pCons (pName 4) pNil))) (eFn d_solve (aCons (eVar 0) (aCons (e2 addD (eVar 1) (lstD (oLst (aCons (eTup (aCons (eFn d_unit (aCons (eVar 0) (aCons (eVar 2) aNil))) (aCons (eC (.int 0)) (aCons (eC (.str ">")) aNil)))) aNil)))) aNil))))
      (sIf (tst (e2 eqD (eVar 3) (eC (.str "spot")))) (sSeq (sSet 5 (eFn d_whole_of (aCons (eVar 4) aNil)))
      (sRetO (o2 catO (lstD (oLst (aCons (eVar 5) aNil))) (eFn (r_more_ways f) (aCons (eVar 0) (aCons (e2 addD (eVar 1) (lstD (oLst (aCons (eTup (aCons (eVar 5) (aCons (eC (.int 0)) (aCons (eC (.str "=")) aNil)))) aNil)))) aNil)))))) sNil)))
      (fun k env => ∃ x2 x3 x4 : Option Cell, env = [some (.val (.int n)), some (.val (.lst (eqsD A))), x2, x3, x4, none] ∧ ∀ x, InK n A x → ∀ j, j < k → x j = 0) (fun c => ∃ W : List (List Int), c = .own (W.map sD) ∧ Ways n A W ∧ W.length < m + 1) (rngD 0 n) [some (.val (.int n)), some (.val (.lst (eqsD A))), none, none, none, none] 0 ⟨_, _, _, rfl, fun x _ j hj => absurd hj (Nat.not_lt_zero _)⟩ (by
      rintro k hk env ⟨x2, x3, x4, rfl, hz⟩
      rw [rng_len] at hk
      rw [Nat.zero_add] at hz ⊢
      have ek : (rngD 0 n)[k]'(by rw [rng_len]; exact hk) = .int (0 + (k : Int)) := by simp [rngD]
      rw [ek, Int.zero_add]
      refine ⟨[(2, .int (k : Int))], rfl, ?_⟩
      have u := v_unit (n := n) (k := k) n3
      have lA : (eqsD A).length + 1 ≤ 1000000 := by simp [eqsD]; omega
      have lA' : (eqsD A).length ≤ 999999 := by omega
      have la : (askR n A k).length ≤ 12 := by simp [askR, eqR]; omega
      rcases v_solveH n1 n3 b1 b9 (askR_ok (k := k) hA b1) askR_hom la with ⟨ws, hs, pp, _⟩ | ⟨S, hs, lS, wl, hh⟩
      · left
        rw [askR_D] at hs
        refine ⟨[some (.val (.int n)), some (.val (.lst (eqsD A))), some (.val (.int (k : Int))), some (.val (.str "weights")), some (.val (.lst (ws.map D.int))), none], ?_, _, _, _, rfl, fun x hx j hj => ?_⟩
        · show _ = _
          change d_solve [.int n, .lst (eqsD A ++ [.tup [sD (unitL n k), .int 0, .str ">"]])] = _ at hs
          have es := eqs_weights
          generalize sD (unitL n k) = U at *
          generalize eqsD A = E at *
          generalize ws.map D.int = W at *
          generalize (n : Int) = z at *
          generalize (k : Int) = kz at *
          show (sSeq _ _) [_, _, some (.val (.int kz)), _, _, _] = _
          simp [u, lA, lA', hs, es]
        · by_cases c : j < k
          · exact hz x hx j c
          · have jk : j = k := by omega
            subst jk
            refine Classical.byContradiction fun q => ?_
            by_cases a : 0 < x j
            · exact pp.no (x := x) ((ask_holds hk n3).mpr ⟨hx.2, a⟩)
            · refine pp.no (x := fun u => -x u) ((ask_holds hk n3).mpr ⟨fun a ha => ?_, by grind⟩)
              have := hx.2 a ha
              unfold dt at this ⊢
              grind
      · right
        rw [askR_D] at hs
        obtain ⟨hk1, hk2⟩ := (ask_holds hk n3).mp hh
        obtain ⟨bL, bW, eW⟩ := whl_way wl
        obtain ⟨w, hw⟩ : ∃ w, (S.map fun q => nm q (lcmL S)) = w := ⟨_, rfl⟩
        rw [hw] at bW eW
        have lw : w.length = n := by rw [← hw, List.length_map, lS]
        have lp : (0 : Rat) < ((lcmL S : Int) : Rat) := Rat.intCast_pos.mpr (by have := lcmL_pos (l := S); omega)
        have eW' : ∀ j, vec w j = ((lcmL S : Int) : Rat) * pt S j := eW
        have kw : InK n A (vec w) := ⟨fun j hj => vec_out lw hj, fun a ha => by
          have := hk1 a ha
          unfold dt at this ⊢
          rw [eW' 0, eW' 1, eW' 2]
          grind⟩
        have nzk : vec w k ≠ 0 := by
          rw [eW' k]
          have := Rat.mul_pos lp hk2
          grind
        have nzw : ∃ k, w.getD k 0 ≠ 0 := ⟨k, fun q => nzk (by unfold vec; rw [q]; rfl)⟩
        have hm : 1 ≤ m := by
          rcases Nat.eq_zero_or_pos m with a | a
          · subst a
            exact absurd (dep_one dep kw k) nzk
          · exact a
        obtain ⟨q1, q2, q3⟩ := lim_step hm m4
        obtain ⟨W', r', ways, lW⟩ := v_more_ways n1 n3 m f (A ++ [w]) (3 * b + 6) hm (by omega) (by omega) (dep_step dep lw nzw n3 kw) (fun a ha => by
          rcases List.mem_append.mp ha with q | q
          · exact ⟨(hA a q).1, fun z hz => ((hA a q).2 z hz).mono (by omega)⟩
          · rw [List.mem_singleton.mp q]; exact ⟨lw, bW⟩) (by omega) (by omega) (by simp; omega)
        have vw := v_whole_of (l := S) bL (fun q hq => by
          obtain ⟨u, hu, rfl⟩ := List.getElem_of_mem hq
          have e : S[u] = pt S u := by simp [pt, hu]
          rw [e]; exact wl.qb u) (by omega) (by omega)
        rw [hw] at vw
        refine ⟨.own ((w :: W').map sD), ?_, w :: W', rfl, ?_, by simp; omega⟩
        · have e1 : eqsD (A ++ [w]) = eqsD A ++ [.tup [sD w, .int 0, .str "="]] := by simp [eqsD]
          rw [e1] at r'
          have e2 : (w :: W').map sD = sD w :: W'.map sD := rfl
          rw [e2]
          change d_solve [.int n, .lst (eqsD A ++ [.tup [sD (unitL n k), .int 0, .str ">"]])] = _ at hs
          have es := eqs_spot2
          have lW2 : (W'.map sD).length + 1 ≤ 1000000 := by simp; omega
          have lW3 : (W'.map sD).length ≤ 999999 := by omega
          have lW4 : 1 + (W'.map sD).length ≤ 1000000 := by omega
          generalize sD (unitL n k) = U at *
          generalize sD w = V at *
          generalize W'.map sD = WW at *
          generalize eqsD A = E at *
          generalize S.map qD = Q at *
          generalize (n : Int) = z at *
          generalize (k : Int) = kz at *
          show (sSeq _ _) [_, _, some (.val (.int kz)), _, _, _] = _
          simp [u, lA, lA', hs, es, vw, r', lW2, lW3, lW4]
        · refine ⟨fun v hv => ?_, fun v hv => ?_, fun v hv a ha => ?_, ?_, fun x hx j => ?_, fun v hv => ?_⟩
          · rcases List.mem_cons.mp hv with q | q
            · rw [q]; exact lw
            · exact ways.len v q
          · rcases List.mem_cons.mp hv with q | q
            · rw [q]; exact nzw
            · exact ways.nz v q
          · rcases List.mem_cons.mp hv with q | q
            · rw [q]; exact kw.2 a ha
            · exact ways.ker v q a (List.mem_append.mpr (.inl ha))
          · refine List.pairwise_cons.mpr ⟨fun v hv => ?_, ways.orth⟩
            exact ways.ker v hv w (List.mem_append.mpr (.inr List.mem_cons_self))
          · refine ways.full x ⟨hx.1, fun a ha => ?_⟩ j
            rw [List.append_assoc] at ha
            exact hx.2 a ha
          · rcases List.mem_cons.mp hv with q | q
            · rw [q]; exact fun z hz => (bW z hz).mono (by omega)
            · exact ways.bd v q)
    have rm := x_rng1N (n := n) (by omega)
    have er : r_more_ways (f + 1) = runB 6 2 (s_more_ways (r_more_ways f)) := rfl
    rw [er]
    have es : startE 6 [D.int n, .lst (eqsD A)] = [some (.val (.int n)), some (.val (.lst (eqsD A))), none, none, none, none] := rfl
    rcases run with ⟨env', hrun, x2, x3, x4, rfl, hz⟩ | ⟨c, hrun, W, rfl, ways, lW⟩
    · refine ⟨[], ?_, ⟨fun _ h => absurd h List.not_mem_nil, fun _ h => absurd h List.not_mem_nil, fun _ h => absurd h List.not_mem_nil, List.Pairwise.nil, fun x hx j => ?_, fun _ h => absurd h List.not_mem_nil⟩, by simp⟩
      · refine run_rt rfl ?_
        rw [es]
        unfold s_more_ways
        generalize eqsD A = E at *
        generalize rngD 0 n = G at *
        generalize (n : Int) = z at *
        refine (seq_nx (e1 := [some (.val (.int z)), some (.val (.lst E)), x2, x3, x4, none]) (by simp [rm]; exact hrun)).trans ?_
        simp
      · by_cases c : j < n
        · exact hz x hx.mono j (by rw [rng_len]; omega)
        · exact hx.1 j (by omega)
    · refine ⟨W, ?_, ways, lW⟩
      refine run_rt rfl ?_
      rw [es]
      unfold s_more_ways
      generalize W.map sD = WW at *
      generalize eqsD A = E at *
      generalize rngD 0 n = G at *
      generalize (n : Int) = z at *
      have hs : (sForR (iRng1 (aCons (eVar 0) aNil)) (pName 2) (sSeq (sUnp (pTup (pCons (pName 3) (pCons (pName 4) pNil))) (eFn d_solve (aCons (eVar 0) (aCons (e2 addD (eVar 1) (lstD (oLst (aCons (eTup (aCons (eFn d_unit (aCons (eVar 0) (aCons (eVar 2) aNil))) (aCons (eC (.int 0)) (aCons (eC (.str ">")) aNil)))) aNil)))) aNil))))
    (sIf (tst (e2 eqD (eVar 3) (eC (.str "spot")))) (sSeq (sSet 5 (eFn d_whole_of (aCons (eVar 4) aNil)))
    (sRetO (o2 catO (lstD (oLst (aCons (eVar 5) aNil))) (eFn (r_more_ways f) (aCons (eVar 0) (aCons (e2 addD (eVar 1) (lstD (oLst (aCons (eTup (aCons (eVar 5) (aCons (eC (.int 0)) (aCons (eC (.str "=")) aNil)))) aNil)))) aNil)))))) sNil))) [some (.val (.int z)), some (.val (.lst E)), none, none, none, none] = .ok (.rt (.own WW)) := by
        simp [rm]
        exact hrun
      rw [x_seq, hs]
      rfl

noncomputable def c_ways_of_1 : BEnv → Res D := Classical.choose (⟨(eTup (aCons (eVar 2) (aCons (eC (.int 0)) (aCons (eC (.str "=")) aNil)))), rfl⟩ : ∃ y : BEnv → Res D, y = (eTup (aCons (eVar 2) (aCons (eC (.int 0)) (aCons (eC (.str "=")) aNil)))))
theorem c_ways_of_1_eq : c_ways_of_1 = (eTup (aCons (eVar 2) (aCons (eC (.int 0)) (aCons (eC (.str "=")) aNil)))) := Classical.choose_spec (⟨(eTup (aCons (eVar 2) (aCons (eC (.int 0)) (aCons (eC (.str "=")) aNil)))), rfl⟩ : ∃ y : BEnv → Res D, y = (eTup (aCons (eVar 2) (aCons (eC (.int 0)) (aCons (eC (.str "=")) aNil)))))
noncomputable def s_ways_of : PL.Env → Res Fl := (sRetO (oFn d_more_ways (aCons (eVar 0) (aCons (lstD (oComp [2] (iSeq (eVar 1)) (pName 2) cTrue c_ways_of_1)) aNil))))
noncomputable def d_ways_of : List D → Res Cell := Classical.choose (⟨runB 3 2 s_ways_of, rfl⟩ : ∃ y : List D → Res Cell, y = runB 3 2 s_ways_of)
theorem d_ways_of_eq : d_ways_of = runB 3 2 s_ways_of := Classical.choose_spec (⟨runB 3 2 s_ways_of, rfl⟩ : ∃ y : List D → Res Cell, y = runB 3 2 s_ways_of)
theorem v_ways_of {n : Nat} {A : List (List Int)} (n1 : 1 ≤ n) (n3 : n ≤ 3) (hA : ∀ a ∈ A, a.length = n ∧ ∀ z ∈ a, Bd 92 z) (hne : A = [] ∨ ∃ a ∈ A, ∃ k, a.getD k 0 ≠ 0) (l7 : A.length ≤ 7) :
    ∃ W : List (List Int), d_ways_of [.int n, .lst (A.map sD)] = .ok (.own (W.map sD)) ∧ Ways n A W ∧ W.length ≤ n := by
  have main : ∃ W : List (List Int), r_more_ways 4 [.int n, .lst (eqsD A)] = .ok (.own (W.map sD)) ∧ Ways n A W ∧ W.length ≤ n := by
    rcases hne with e | ⟨a, ha, hk⟩
    · subst e
      obtain ⟨W, h1, h2, h3⟩ := v_more_ways n1 n3 (n + 1) 4 [] 1 (by omega) (by omega) (by omega) (dep_top n3 []) (fun a ha => absurd ha List.not_mem_nil) (Nat.le_refl _) (by
        have : n = 1 ∨ n = 2 ∨ n = 3 := by omega
        rcases this with rfl | rfl | rfl <;> decide) (by simp; omega)
      exact ⟨W, h1, h2, by omega⟩
    · obtain ⟨W, h1, h2, h3⟩ := v_more_ways n1 n3 n 4 A 92 n1 (by omega) (by omega) (dep_row n3 (hA a ha).1 hk ha) hA (by decide) (by
        have : n = 1 ∨ n = 2 ∨ n = 3 := by omega
        rcases this with rfl | rfl | rfl <;> decide) (by omega)
      exact ⟨W, h1, h2, by omega⟩
  obtain ⟨W, h1, h2, h3⟩ := main
  refine ⟨W, ?_, h2, h3⟩
  rw [← d_more_ways_eq] at h1
  have cm : ∀ o0 o1 : Option D, compD (pName 2) cTrue c_ways_of_1 [o0, o1, none] (A.map sD) = .ok (eqsD A) := fun o0 o1 => by
    refine comp_map (dec := sD) (enc := fun a => .tup [sD a, .int 0, .str "="]) (fun a => a) A (fun a _ => ⟨[(2, sD a)], rfl, ?_⟩) |>.trans (by rw [List.map_id']; rfl)
    show c_ways_of_1 [_, _, some (sD a)] = _
    generalize sD a = S at *
    simp [c_ways_of_1_eq]
  have lA : (A.map sD).length ≤ 1000000 := by simp; omega
  generalize W.map sD = WW at *
  generalize eqsD A = E at *
  generalize A.map sD = AA at *
  generalize (n : Int) = z at *
  simp [d_ways_of_eq, s_ways_of, start_eq, x_comp, lA, cm, h1, ownOnly]

noncomputable def c_meet_1 : BEnv → Res D := Classical.choose (⟨(e2 ixD (e1 rowsD (eVar 0)) (eVar 6)), rfl⟩ : ∃ y : BEnv → Res D, y = (e2 ixD (e1 rowsD (eVar 0)) (eVar 6)))
theorem c_meet_1_eq : c_meet_1 = (e2 ixD (e1 rowsD (eVar 0)) (eVar 6)) := Classical.choose_spec (⟨(e2 ixD (e1 rowsD (eVar 0)) (eVar 6)), rfl⟩ : ∃ y : BEnv → Res D, y = (e2 ixD (e1 rowsD (eVar 0)) (eVar 6)))
noncomputable def c_meet_2 : BEnv → Res D := Classical.choose (⟨(eFn d_unit (aCons (eVar 2) (aCons (eVar 6) aNil))), rfl⟩ : ∃ y : BEnv → Res D, y = (eFn d_unit (aCons (eVar 2) (aCons (eVar 6) aNil))))
theorem c_meet_2_eq : c_meet_2 = (eFn d_unit (aCons (eVar 2) (aCons (eVar 6) aNil))) := Classical.choose_spec (⟨(eFn d_unit (aCons (eVar 2) (aCons (eVar 6) aNil))), rfl⟩ : ∃ y : BEnv → Res D, y = (eFn d_unit (aCons (eVar 2) (aCons (eVar 6) aNil))))
noncomputable def c_meet_3 : BEnv → Res D := Classical.choose (⟨(eTup (aCons (eSl (eVar 7) oNo (oSome (e1 negD (eC (.int 1))))) (aCons (e2 ixD (eVar 7) (e1 negD (eC (.int 1)))) (aCons (eC (.str "=")) aNil)))), rfl⟩ : ∃ y : BEnv → Res D, y = (eTup (aCons (eSl (eVar 7) oNo (oSome (e1 negD (eC (.int 1))))) (aCons (e2 ixD (eVar 7) (e1 negD (eC (.int 1)))) (aCons (eC (.str "=")) aNil)))))
theorem c_meet_3_eq : c_meet_3 = (eTup (aCons (eSl (eVar 7) oNo (oSome (e1 negD (eC (.int 1))))) (aCons (e2 ixD (eVar 7) (e1 negD (eC (.int 1)))) (aCons (eC (.str "=")) aNil)))) := Classical.choose_spec (⟨(eTup (aCons (eSl (eVar 7) oNo (oSome (e1 negD (eC (.int 1))))) (aCons (e2 ixD (eVar 7) (e1 negD (eC (.int 1)))) (aCons (eC (.str "=")) aNil)))), rfl⟩ : ∃ y : BEnv → Res D, y = (eTup (aCons (eSl (eVar 7) oNo (oSome (e1 negD (eC (.int 1))))) (aCons (e2 ixD (eVar 7) (e1 negD (eC (.int 1)))) (aCons (eC (.str "=")) aNil)))))
noncomputable def c_meet_4 : BEnv → Res D := Classical.choose (⟨(eSl (eVar 7) oNo (oSome (e1 negD (eC (.int 1))))), rfl⟩ : ∃ y : BEnv → Res D, y = (eSl (eVar 7) oNo (oSome (e1 negD (eC (.int 1))))))
theorem c_meet_4_eq : c_meet_4 = (eSl (eVar 7) oNo (oSome (e1 negD (eC (.int 1))))) := Classical.choose_spec (⟨(eSl (eVar 7) oNo (oSome (e1 negD (eC (.int 1))))), rfl⟩ : ∃ y : BEnv → Res D, y = (eSl (eVar 7) oNo (oSome (e1 negD (eC (.int 1))))))
noncomputable def s_meet : PL.Env → Res Fl := (sSeq (sExpr (eFn d_check_some (aCons (eVar 0) (aCons (eVar 1) aNil))))
    (sSeq (sSet 2 (eMeth d_Cutting_dims (eVar 0) aNil))
    (sSeq (sSetL 3 (oComp [6] (iSeq (eVar 1)) (pName 6) cTrue c_meet_1))
    (sSeq (sIf (tst (e2 eqD (eVar 3) (lstD (oLst aNil)))) (sRet (eTup (aCons (eC (.str "met")) (aCons (eFn d_origin (aCons (eVar 2) aNil)) (aCons (lstD (oComp [6] (iRng1 (aCons (eVar 2) aNil)) (pName 6) cTrue c_meet_2)) aNil))))) sNil)
    (sSeq (sUnp (pTup (pCons (pName 4) (pCons (pName 5) pNil))) (eFn d_solve (aCons (eVar 2) (aCons (lstD (oComp [7] (iSeq (eVar 3)) (pName 7) cTrue c_meet_3)) aNil))))
    (sSeq (sIf (tst (e2 eqD (eVar 4) (eC (.str "weights")))) (sRet (eTup (aCons (eC (.str "apart")) (aCons (eVar 5) aNil)))) sNil)
    (sRet (eTup (aCons (eC (.str "met")) (aCons (eVar 5) (aCons (eFn d_ways_of (aCons (eVar 2) (aCons (lstD (oComp [7] (iSeq (eVar 3)) (pName 7) cTrue c_meet_4)) aNil))) aNil)))))))))))
noncomputable def d_meet : List D → Res Cell := Classical.choose (⟨runB 8 2 s_meet, rfl⟩ : ∃ y : List D → Res Cell, y = runB 8 2 s_meet)
theorem d_meet_eq : d_meet = runB 8 2 s_meet := Classical.choose_spec (⟨runB 8 2 s_meet, rfl⟩ : ∃ y : List D → Res Cell, y = runB 8 2 s_meet)
theorem cutL_last' {α : Type} {l : List α} {d : α} : cutL (l ++ [d]) none (some (-1)) = l := by
  have e : HT.sIx (l ++ [d]).length (l ++ [d]).length (some (-1)) = l.length := by
    simp [HT.sIx]
    omega
  unfold cutL
  rw [e, HT.sIx_none]
  simp
/-- the cuts of some numbers -/
def pick (C : List (List Int × Int)) (ks : List Nat) : List (List Int × Int) := ks.map fun k => C.getD k ([], 0)
def metR (P : List (List Int × Int)) : List Raw := P.map fun p => (p.1, p.2, Kd.eq)
theorem pick_mem {C : List (List Int × Int)} {ks : List Nat} (hk : ∀ k ∈ ks, k < C.length) {p : List Int × Int} (h : p ∈ pick C ks) : p ∈ C := by
  obtain ⟨k, h1, rfl⟩ := List.mem_map.mp h
  have := hk k h1
  have e : C.getD k ([], 0) = C[k] := by simp [this]
  rw [e]
  exact List.getElem_mem _
theorem cuts_nz {n : Nat} {C : List (List Int × Int)} (h : CsOk n C) {p : List Int × Int} (hp : p ∈ C) : ∃ k, p.1.getD k 0 ≠ 0 := by
  have nz := h.nz p hp
  have lp := (h.ok p hp).len
  refine Classical.byContradiction fun q => nz ?_
  refine List.eq_replicate_iff.mpr ⟨lp, fun z hz => ?_⟩
  obtain ⟨i, hi, rfl⟩ := List.getElem_of_mem hz
  refine Classical.byContradiction fun z0 => q ⟨i, ?_⟩
  simpa [hi] using z0
theorem eqm_self : eqD (.str "weights") (.str "weights") = .ok (.bl true) := by
  rw [eqD_ok (by simp only [eqOk_s]; decide +kernel) (by simp only [eqOk_s]; decide +kernel), deq_s, beq_self_eq_true]
theorem eqm_spot : eqD (.str "spot") (.str "weights") = .ok (.bl false) := by
  rw [eqD_ok (by simp only [eqOk_s]; decide +kernel) (by simp only [eqOk_s]; decide +kernel), deq_s]
  exact congrArg (fun b => Res.ok (D.bl b)) (by decide +kernel)
theorem eq_nilC (C : List (List Int × Int)) : eqD (.lst (C.map ctD)) (.lst []) = .ok (.bl (decide (C = []))) := by
  have e := eqOks_ct C 58
  rw [eqD_ok (by rw [eqOk_l]; simp [e]) (by simp), deq_ll]
  cases C <;> simp
def unitsL (n : Nat) : List (List Int) := (List.range n).map (unitL n)
theorem units_ways {n : Nat} (n3 : n ≤ 3) : Ways n [] (unitsL n) := by
  have mem : ∀ w ∈ unitsL n, ∃ k, k < n ∧ w = unitL n k := fun w hw => by
    obtain ⟨k, hk, rfl⟩ := List.mem_map.mp hw
    exact ⟨k, List.mem_range.mp hk, rfl⟩
  refine ⟨fun w hw => ?_, fun w hw => ?_, fun w hw a ha => absurd ha List.not_mem_nil, ?_, fun x hx j => ?_, fun w hw z hz => ?_⟩
  · obtain ⟨k, hk, rfl⟩ := mem w hw
    simp [unitL]
  · obtain ⟨k, hk, rfl⟩ := mem w hw
    exact ⟨k, by rw [unitL_get]; simp [hk]⟩
  · unfold unitsL
    refine List.pairwise_map.mpr (List.Pairwise.imp_of_mem ?_ (List.nodup_range (n := n)))
    intro a b ha hb hab
    rw [dt_unit (List.mem_range.mp ha) n3]
    unfold vec
    rw [unitL_get, if_neg (fun q => hab q.1.symm)]
    rfl
  · by_cases c : j < n
    · have := hx.2 (unitL n j) (by
        rw [List.nil_append]
        exact List.mem_map.mpr ⟨j, List.mem_range.mpr c, rfl⟩)
      rwa [dt_unit c n3] at this
    · exact hx.1 j (by omega)
  · obtain ⟨k, hk, rfl⟩ := mem w hw
    unfold unitL at hz
    obtain ⟨j, _, rfl⟩ := List.mem_map.mp hz
    refine Bd.mono (m := 1) ?_ (by decide)
    show Bd 1 (if k = j then 1 else 0)
    split <;> (unfold Bd; decide)
theorem v_meet {n : Nat} {C : List (List Int × Int)} {ks : List Nat} (h : CsOk n C) (hB : CsB 92 C) (hn : ks.Nodup) (hk : ∀ k ∈ ks, k < C.length) :
    (∃ ws : List Int, d_meet [kD n C, .lst (ks.map fun k : Nat => D.int (k : Int))] = .ok (.val (.tup [.str "apart", .lst (ws.map D.int)])) ∧ Paper (metR (pick C ks)) ws ∧ ks ≠ []) ∨
    (∃ (S : List Rat) (W : List (List Int)), d_meet [kD n C, .lst (ks.map fun k : Nat => D.int (k : Int))] = .ok (.val (.tup [.str "met", .tup (S.map qD), .lst (W.map sD)])) ∧ S.length = n ∧ (∀ q ∈ S, QB 5446 q) ∧ (∀ r ∈ metR (pick C ks), holdsR r (pt S)) ∧ Ways n ((pick C ks).map (·.1)) W ∧ W.length ≤ n) := by
  have l7 := h.l7
  have n1 := h.d1
  have n3 := h.d3
  have lks : ks.length ≤ 7 := by
    have := List.Nodup.length_le_of_subset (l₁ := ks) (l₂ := List.range C.length) hn fun k q => List.mem_range.mpr (hk k q)
    rw [List.length_range] at this
    omega
  have cs := v_check_some (n := n) (C := C) (zs := ks.map fun k : Nat => (k : Int)) (by
    refine List.pairwise_map.mpr (List.Pairwise.imp ?_ hn)
    intro a b hab q
    exact hab (by omega)) (fun z hz => by
    obtain ⟨k, h1, rfl⟩ := List.mem_map.mp hz
    have := hk k h1
    omega) (by simp; omega)
  have e0 : (ks.map fun k : Nat => (k : Int)).map D.int = ks.map fun k : Nat => D.int (k : Int) := by rw [List.map_map]; rfl
  rw [e0] at cs
  have dd := v_dims (n := n) (C := C)
  have ck : cutOf (kD n C) = .ok ((n : Int), C.map ctD) := rfl
  have hkk : D.cut n (C.map ctD) = kD n C := rfl
  have rk : rowsD (kD n C) = .ok (.tup (C.map ctD)) := rfl
  have cm1 : ∀ o1 o2 o3 o4 o5 o7 : Option D, compD (pName 6) cTrue c_meet_1 [some (kD n C), o1, o2, o3, o4, o5, none, o7] (ks.map fun k : Nat => D.int (k : Int)) = .ok ((pick C ks).map ctD) := fun o1 o2 o3 o4 o5 o7 => by
    unfold pick
    rw [List.map_map]
    refine comp_map (enc := ctD ∘ fun k => C.getD k ([], 0)) (fun k => k) ks (fun k hk1 => ⟨[(6, .int (k : Int))], rfl, ?_⟩) |>.trans (by rw [List.map_id'])
    have hlt := hk k hk1
    have ai := at_map (enc := ctD) (l := C) hlt
    have e : C.getD k ([], 0) = C[k] := by simp [hlt]
    show c_meet_1 [some (kD n C), _, _, _, _, _, some (.int (k : Int)), _] = Res.ok (ctD (C.getD k ([], 0)))
    rw [e]
    generalize ctD C[k] = P at *
    generalize C.map ctD = T at *
    generalize kD n C = K at *
    simp [c_meet_1_eq, rk, ai]
  have lk6 : (ks.map fun k : Nat => D.int (k : Int)).length ≤ 1000000 := by simp; omega
  have st3 : ∀ rest : PL.Env → Res Fl, (sSeq (sExpr (eFn d_check_some (aCons (eVar 0) (aCons (eVar 1) aNil)))) (sSeq (sSet 2 (eMeth d_Cutting_dims (eVar 0) aNil)) (sSeq (sSetL 3 (oComp [6] (iSeq (eVar 1)) (pName 6) cTrue c_meet_1)) rest))) [some (.val (kD n C)), some (.val (.lst (ks.map fun k : Nat => D.int (k : Int)))), none, none, none, none, none, none] = rest [some (.val (kD n C)), some (.val (.lst (ks.map fun k : Nat => D.int (k : Int)))), some (.val (.int n)), some (.val (.lst ((pick C ks).map ctD))), none, none, none, none] := fun rest => by
    generalize (pick C ks).map ctD = P at *
    generalize (ks.map fun k : Nat => D.int (k : Int)) = L at *
    generalize kD n C = K at *
    generalize C.map ctD = T at *
    generalize (n : Int) = z at *
    refine (seq_nx (e1 := [some (.val K), some (.val (.lst L)), none, none, none, none, none, none]) (by simp [cs])).trans ?_
    refine (seq_nx (e1 := [some (.val K), some (.val (.lst L)), some (.val (.int z)), none, none, none, none, none]) (by simp [ck, hkk, dd])).trans ?_
    exact seq_nx (by simp [x_comp, lk6, cm1])
  have es : startE 8 [kD n C, .lst (ks.map fun k : Nat => D.int (k : Int))] = [some (.val (kD n C)), some (.val (.lst (ks.map fun k : Nat => D.int (k : Int)))), none, none, none, none, none, none] := rfl
  have run : ∀ c : Cell, s_meet [some (.val (kD n C)), some (.val (.lst (ks.map fun k : Nat => D.int (k : Int)))), none, none, none, none, none, none] = .ok (.rt c) → d_meet [kD n C, .lst (ks.map fun k : Nat => D.int (k : Int))] = .ok c := fun c hc => by
    rw [d_meet_eq]
    exact run_rt rfl hc
  have en := eq_nilC (pick C ks)
  have kp : ks = [] ↔ pick C ks = [] := by unfold pick; simp
  by_cases hne : ks = []
  · right
    refine ⟨List.replicate n 0, unitsL n, ?_, by simp, fun q hq => by rw [(List.mem_replicate.mp hq).2]; exact QB.zero (by decide), fun r hr => ?_, ?_, by simp [unitsL]⟩
    · refine run _ ?_
      unfold s_meet
      rw [st3]
      rw [decide_eq_true (kp.mp hne)] at en
      have vo := v_origin n3
      have cm2 : ∀ o0 o1 o3 o4 o5 o7 : Option D, compD (pName 6) cTrue c_meet_2 [o0, o1, some (.int n), o3, o4, o5, none, o7] (rngD 0 n) = .ok ((unitsL n).map sD) := fun o0 o1 o3 o4 o5 o7 => by
        unfold unitsL
        rw [List.map_map]
        refine comp_map (dec := fun k : Nat => D.int (0 + (k : Int))) (enc := sD ∘ unitL n) (fun k => k) (List.range n) (fun k _ => ⟨[(6, .int (0 + (k : Int)))], rfl, ?_⟩) |>.trans (by rw [List.map_id'])
        have u := v_unit (n := n) (k := k) n3
        show c_meet_2 [_, _, some (.int n), _, _, _, some (.int (0 + (k : Int))), _] = Res.ok (sD (unitL n k))
        rw [Int.zero_add]
        generalize sD (unitL n k) = U at *
        generalize (n : Int) = z at *
        generalize (k : Int) = kz at *
        simp [c_meet_2_eq, u]
      have rm := x_rng1N (n := n) (by omega)
      have lr : (rngD 0 n).length ≤ 1000000 := by rw [rng_len]; omega
      generalize (List.replicate n (0 : Rat)).map qD = Q at *
      generalize (unitsL n).map sD = U at *
      generalize rngD 0 n = R at *
      generalize (pick C ks).map ctD = P at *
      generalize (ks.map fun k : Nat => D.int (k : Int)) = L at *
      generalize kD n C = K at *
      generalize (n : Int) = z at *
      simp [en, vo, x_comp, rm, lr, cm2]
    · rw [kp.mp hne] at hr
      exact absurd hr List.not_mem_nil
    · rw [kp.mp hne]
      exact units_ways n3
  · have pne : pick C ks ≠ [] := fun q => hne (kp.mpr q)
    rw [decide_eq_false pne] at en
    have pm : ∀ p ∈ pick C ks, p ∈ C := fun p hp => pick_mem hk hp
    have lP : (pick C ks).length = ks.length := by unfold pick; simp
    have ro : RawOk n 92 (metR (pick C ks)) := ⟨fun r hr => by
      obtain ⟨p, hp, rfl⟩ := List.mem_map.mp hr
      exact ⟨(h.ok p (pm p hp)).len, (hB p (pm p hp)).2, (hB p (pm p hp)).1⟩⟩
    have cm3 : ∀ o0 o1 o2 o3 o4 o5 o6 : Option D, compD (pName 7) cTrue c_meet_3 [o0, o1, o2, o3, o4, o5, o6, none] ((pick C ks).map ctD) = .ok ((metR (pick C ks)).map rawD) := fun o0 o1 o2 o3 o4 o5 o6 => by
      unfold metR
      rw [List.map_map]
      refine comp_map (enc := rawD ∘ fun p : List Int × Int => (p.1, p.2, Kd.eq)) (fun p => p) (pick C ks) (fun p _ => ⟨[(7, ctD p)], rfl, ?_⟩) |>.trans (by rw [List.map_id'])
      have c1 : cutL ((p.1 ++ [p.2]).map D.int) none (some (-1)) = p.1.map D.int := by
        rw [List.map_append]
        exact cutL_last'
      have al : atD ((p.1 ++ [p.2]).map D.int) (-1) = .ok (.int p.2) := by rw [List.map_append]; exact at_last
      show c_meet_3 [_, _, _, _, _, _, _, some (ctD p)] = Res.ok (.tup [.tup (p.1.map D.int), .int p.2, .str "="])
      unfold ctD
      generalize p.1.map D.int = V at *
      generalize (p.1 ++ [p.2]).map D.int = U at *
      simp [-cutL_to, c_meet_3_eq, c1, al]
    have cm4 : ∀ o0 o1 o2 o3 o4 o5 o6 : Option D, compD (pName 7) cTrue c_meet_4 [o0, o1, o2, o3, o4, o5, o6, none] ((pick C ks).map ctD) = .ok (((pick C ks).map (·.1)).map sD) := fun o0 o1 o2 o3 o4 o5 o6 => by
      rw [List.map_map]
      refine comp_map (enc := sD ∘ fun p : List Int × Int => p.1) (fun p => p) (pick C ks) (fun p _ => ⟨[(7, ctD p)], rfl, ?_⟩) |>.trans (by rw [List.map_id'])
      have c1 : cutL ((p.1 ++ [p.2]).map D.int) none (some (-1)) = p.1.map D.int := by
        rw [List.map_append]
        exact cutL_last'
      show c_meet_4 [_, _, _, _, _, _, _, some (ctD p)] = Res.ok (.tup (p.1.map D.int))
      unfold ctD
      generalize p.1.map D.int = V at *
      generalize (p.1 ++ [p.2]).map D.int = U at *
      simp [-cutL_to, c_meet_4_eq, c1]
    have l6 : ((pick C ks).map ctD).length ≤ 1000000 := by simp; omega
    rcases v_solve n1 n3 (by decide) (by decide) ro (by simp [metR]; omega) with ⟨ws, hs, pp, _⟩ | ⟨S, hs, lS, bS, hh⟩
    · left
      refine ⟨ws, run _ ?_, pp, hne⟩
      unfold s_meet
      rw [st3]
      have ew := eqm_self
      generalize ws.map D.int = W at *
      generalize (metR (pick C ks)).map rawD = RR at *
      generalize (pick C ks).map ctD = P at *
      generalize (ks.map fun k : Nat => D.int (k : Int)) = L at *
      generalize kD n C = K at *
      generalize (n : Int) = z at *
      simp [en, x_comp, l6, cm3, hs, ew]
    · right
      obtain ⟨W, hW, ways, lW⟩ := v_ways_of (A := (pick C ks).map (·.1)) n1 n3 (fun a ha => by
        obtain ⟨p, hp, rfl⟩ := List.mem_map.mp ha
        exact ⟨(h.ok p (pm p hp)).len, (hB p (pm p hp)).2⟩) (by
        cases hq : pick C ks with
        | nil => exact absurd hq pne
        | cons p l => exact .inr ⟨p.1, List.mem_map.mpr ⟨p, List.mem_cons_self, rfl⟩, cuts_nz h (pm p (by rw [hq]; exact List.mem_cons_self))⟩) (by simp; omega)
      refine ⟨S, W, run _ ?_, lS, bS, hh, ways, lW⟩
      unfold s_meet
      rw [st3]
      have ew := eqm_spot
      generalize S.map qD = Q at *
      generalize W.map sD = WW at *
      generalize ((pick C ks).map (·.1)).map sD = AA at *
      generalize (metR (pick C ks)).map rawD = RR at *
      generalize (pick C ks).map ctD = P at *
      generalize (ks.map fun k : Nat => D.int (k : Int)) = L at *
      generalize kD n C = K at *
      generalize (n : Int) = z at *
      simp [en, x_comp, l6, cm3, hs, ew, cm4, hW]

noncomputable def s__law_cell_at : PL.Env → Res Fl := (sSeq (sIf (tst (e2 ltD (eVar 1) (eCall lenD (aCons (eVar 0) aNil)))) (sRet (e2 ixD (eVar 0) (eVar 1))) sNil)
    (sRet (eC (.int 0))))
noncomputable def d__law_cell_at : List D → Res Cell := Classical.choose (⟨runB 2 2 s__law_cell_at, rfl⟩ : ∃ y : List D → Res Cell, y = runB 2 2 s__law_cell_at)
theorem d__law_cell_at_eq : d__law_cell_at = runB 2 2 s__law_cell_at := Classical.choose_spec (⟨runB 2 2 s__law_cell_at, rfl⟩ : ∃ y : List D → Res Cell, y = runB 2 2 s__law_cell_at)
theorem v__law_cell_at {ns : List Int} {k : Nat} : d__law_cell_at [.scr ns, .int k] = .ok (.val (.int (ns.getD k 0))) := by
  by_cases h : k < ns.length
  · simp [d__law_cell_at_eq, s__law_cell_at, start_eq, h, atI_nn]
  · simp [d__law_cell_at_eq, s__law_cell_at, start_eq, h]
theorem bd_cell {ns : List Int} (hb : ∀ z ∈ ns, Builtin.Int.intBits z ≤ 1048576) (k : Nat) : Bd 1048576 (ns.getD k 0) := by
  by_cases h : k < ns.length
  · have : ns.getD k 0 = ns[k] := by simp [h]
    rw [this]
    exact bd_bits (hb _ (List.getElem_mem h))
  · have : ns.getD k 0 = 0 := by simp [h]
    rw [this]
    exact bd_bits (by decide +kernel)
noncomputable def b__law_draw_1 : PL.Env → Res Fl := Classical.choose (⟨(sSet 3 (e2 fdivD (eVar 3) (eVar 2))), rfl⟩ : ∃ y : PL.Env → Res Fl, y = (sSet 3 (e2 fdivD (eVar 3) (eVar 2))))
theorem b__law_draw_1_eq : b__law_draw_1 = (sSet 3 (e2 fdivD (eVar 3) (eVar 2))) := Classical.choose_spec (⟨(sSet 3 (e2 fdivD (eVar 3) (eVar 2))), rfl⟩ : ∃ y : PL.Env → Res Fl, y = (sSet 3 (e2 fdivD (eVar 3) (eVar 2))))
noncomputable def s__law_draw : PL.Env → Res Fl := (sSeq (sIf (tst (e2 geD (eVar 0) (e2 powD (eC (.int 10)) (eC (.int 18))))) (sSeq (sSet 3 (eVar 0))
    (sSeq (sForR (iRng1 (aCons (eVar 1) aNil)) (pName 4) b__law_draw_1)
    (sRet (e2 modD (eVar 3) (eVar 2))))) sNil)
    (sSeq (sSet 5 (e2 modD (e2 mulX (e2 addD (e2 addD (e2 modD (eVar 0) (eC (.int 1000000007))) (e2 mulX (eC (.int 1009)) (eVar 1))) (eC (.int 17))) (eC (.int 69621))) (eC (.int 2147483647))))
    (sSeq (sSet 5 (e2 modD (e2 addD (e2 addD (e2 mulX (eVar 5) (eVar 5)) (e2 mulX (eC (.int 40503)) (eVar 1))) (eC (.int 5))) (eC (.int 2147483629))))
    (sRet (e2 modD (e2 fdivD (e2 modD (e2 mulX (eVar 5) (eC (.int 48271))) (eC (.int 2147483647))) (eC (.int 32))) (eVar 2))))))
noncomputable def d__law_draw : List D → Res Cell := Classical.choose (⟨runB 6 3 s__law_draw, rfl⟩ : ∃ y : List D → Res Cell, y = runB 6 3 s__law_draw)
theorem d__law_draw_eq : d__law_draw = runB 6 3 s__law_draw := Classical.choose_spec (⟨runB 6 3 s__law_draw, rfl⟩ : ∃ y : List D → Res Cell, y = runB 6 3 s__law_draw)
theorem v__law_draw {c k b : Int} (hc : Bd 1048576 c) (k0 : 0 ≤ k) (k1 : k ≤ 1000000) (b0 : 0 < b) (b1 : b < 4611686018427387904) : ∃ z, d__law_draw [.int c, .int k, .int b] = .ok (.val (.int z)) ∧ 0 ≤ z ∧ z < b := by
  have bn : b ≠ 0 := by omega
  have bb : Bd 64 b := bd64 (by omega) (by omega)
  by_cases hge : 1000000000000000000 ≤ c
  · obtain ⟨env', hfor, z, x4, x5, rfl, bz⟩ := forR_inv (p := pName 4) (s := b__law_draw_1) (lo := 0) (n := k.toNat) (env := [some (.val (.int c)), some (.val (.int k)), some (.val (.int b)), some (.val (.int c)), none, none])
      (fun _ env => ∃ z x4 x5, env = [some (.val (.int c)), some (.val (.int k)), some (.val (.int b)), some (.val (.int z)), x4, x5] ∧ Bd 1048576 z) ⟨c, none, none, rfl, hc⟩ (by
        rintro i hi env ⟨z, x4, x5, rfl, bz⟩
        refine ⟨[(4, .int (0 + i))], [some (.val (.int c)), some (.val (.int k)), some (.val (.int b)), some (.val (.int (z.fdiv b))), some (.val (.int i)), x5], rfl, .inl ?_, z.fdiv b, _, _, rfl, bz.fdiv⟩
        simp [b__law_draw_1_eq, divOk_of bn bb (by decide)])
    have r1 := x_rng1K (rngOk_of (j := k) (by omega) k1)
    have f := fm (a := z) b0
    refine ⟨z.fmod b, ?_, f.1, f.2⟩
    simp [d__law_draw_eq, s__law_draw, start_eq, hge, r1, hfor, bn]
  · obtain ⟨r, hr⟩ : ∃ r, c.fmod 1000000007 = r := ⟨_, rfl⟩
    have fr := fm (a := c) (b := 1000000007) (by decide)
    rw [hr] at fr
    have m1 : mulOk 1009 k = true := mul64 (by decide) (by decide) (by omega) (by omega)
    have m2 : mulOk (r + 1009 * k + 17) 69621 = true := mul64 (by omega) (by omega) (by decide) (by decide)
    obtain ⟨s, hs⟩ : ∃ s, ((r + 1009 * k + 17) * 69621).fmod 2147483647 = s := ⟨_, rfl⟩
    have fs := fm (a := (r + 1009 * k + 17) * 69621) (b := 2147483647) (by decide)
    rw [hs] at fs
    have m3 : mulOk s s = true := mul64 (by omega) (by omega) (by omega) (by omega)
    have m4 : mulOk 40503 k = true := mul64 (by decide) (by decide) (by omega) (by omega)
    obtain ⟨t, ht⟩ : ∃ t, (s * s + 40503 * k + 5).fmod 2147483629 = t := ⟨_, rfl⟩
    have ft := fm (a := s * s + 40503 * k + 5) (b := 2147483629) (by decide)
    rw [ht] at ft
    have m5 : mulOk t 48271 = true := mul64 (by omega) (by omega) (by decide) (by decide)
    have dv : divOk ((t * 48271).fmod 2147483647) 32 = true := divOk_of (n := 6) (by decide) (by unfold Bd; decide) (by decide)
    have f := fm (a := ((t * 48271).fmod 2147483647).fdiv 32) b0
    refine ⟨_, ?_, f.1, f.2⟩
    simp [d__law_draw_eq, s__law_draw, start_eq, hge, hr, m1, m2, hs, m3, m4, ht, m5, dv, bn]
noncomputable def b__law_same_1 : PL.Env → Res Fl := Classical.choose (⟨(sIf (tst (e2 neD (e2 mulX (e2 ixD (eVar 0) (eVar 2)) (e2 ixD (eVar 1) (eVar 3))) (e2 mulX (e2 ixD (eVar 0) (eVar 3)) (e2 ixD (eVar 1) (eVar 2))))) (sRet (eC (.bl false))) sNil), rfl⟩ : ∃ y : PL.Env → Res Fl, y = (sIf (tst (e2 neD (e2 mulX (e2 ixD (eVar 0) (eVar 2)) (e2 ixD (eVar 1) (eVar 3))) (e2 mulX (e2 ixD (eVar 0) (eVar 3)) (e2 ixD (eVar 1) (eVar 2))))) (sRet (eC (.bl false))) sNil))
theorem b__law_same_1_eq : b__law_same_1 = (sIf (tst (e2 neD (e2 mulX (e2 ixD (eVar 0) (eVar 2)) (e2 ixD (eVar 1) (eVar 3))) (e2 mulX (e2 ixD (eVar 0) (eVar 3)) (e2 ixD (eVar 1) (eVar 2))))) (sRet (eC (.bl false))) sNil) := Classical.choose_spec (⟨(sIf (tst (e2 neD (e2 mulX (e2 ixD (eVar 0) (eVar 2)) (e2 ixD (eVar 1) (eVar 3))) (e2 mulX (e2 ixD (eVar 0) (eVar 3)) (e2 ixD (eVar 1) (eVar 2))))) (sRet (eC (.bl false))) sNil), rfl⟩ : ∃ y : PL.Env → Res Fl, y = (sIf (tst (e2 neD (e2 mulX (e2 ixD (eVar 0) (eVar 2)) (e2 ixD (eVar 1) (eVar 3))) (e2 mulX (e2 ixD (eVar 0) (eVar 3)) (e2 ixD (eVar 1) (eVar 2))))) (sRet (eC (.bl false))) sNil))
noncomputable def b__law_same_2 : PL.Env → Res Fl := Classical.choose (⟨(sForR (iRng1 (aCons (eVar 2) aNil)) (pName 3) b__law_same_1), rfl⟩ : ∃ y : PL.Env → Res Fl, y = (sForR (iRng1 (aCons (eVar 2) aNil)) (pName 3) b__law_same_1))
theorem b__law_same_2_eq : b__law_same_2 = (sForR (iRng1 (aCons (eVar 2) aNil)) (pName 3) b__law_same_1) := Classical.choose_spec (⟨(sForR (iRng1 (aCons (eVar 2) aNil)) (pName 3) b__law_same_1), rfl⟩ : ∃ y : PL.Env → Res Fl, y = (sForR (iRng1 (aCons (eVar 2) aNil)) (pName 3) b__law_same_1))
noncomputable def s__law_same : PL.Env → Res Fl := (sSeq (sForR (iRng1 (aCons (eCall lenD (aCons (eVar 0) aNil)) aNil)) (pName 2) b__law_same_2)
    (sRet (eC (.bl true))))
noncomputable def d__law_same : List D → Res Cell := Classical.choose (⟨runB 4 2 s__law_same, rfl⟩ : ∃ y : List D → Res Cell, y = runB 4 2 s__law_same)
theorem d__law_same_eq : d__law_same = runB 4 2 s__law_same := Classical.choose_spec (⟨runB 4 2 s__law_same, rfl⟩ : ∃ y : List D → Res Cell, y = runB 4 2 s__law_same)
theorem v__law_same {u v : List Int} (hl : u.length = v.length) (h4 : u.length ≤ 1000) (hu : ∀ z ∈ u, Bd 300 z) (hv : ∀ z ∈ v, Bd 300 z) : d__law_same [.tup (u.map D.int), .tup (v.map D.int)] = .ok (.val (.bl (sameB u v))) := by
  obtain ⟨U, hU⟩ : ∃ U, u.map D.int = U := ⟨_, rfl⟩
  obtain ⟨V, hV⟩ : ∃ V, v.map D.int = V := ⟨_, rfl⟩
  have lU : U.length = u.length := by rw [← hU, List.length_map]
  have au : ∀ k, k < u.length → atD U (k : Int) = .ok (.int (u.getD k 0)) := fun k h => by rw [← hU]; exact at_getD h
  have av : ∀ k, k < u.length → atD V (k : Int) = .ok (.int (v.getD k 0)) := fun k h => by rw [← hV]; exact at_getD (by omega)
  have inner : ∀ k, k < u.length → ∀ x3 : Option Cell, (∃ x3', forD (pName 3) b__law_same_1 (rngD 0 k) [some (.val (.tup U)), some (.val (.tup V)), some (.val (.int k)), x3] = .ok (.nx [some (.val (.tup U)), some (.val (.tup V)), some (.val (.int k)), x3']) ∧ ∀ j, j < k → u.getD k 0 * v.getD j 0 = u.getD j 0 * v.getD k 0) ∨
      (forD (pName 3) b__law_same_1 (rngD 0 k) [some (.val (.tup U)), some (.val (.tup V)), some (.val (.int k)), x3] = .ok (.rt (.val (.bl false))) ∧ ∃ j, j < k ∧ u.getD k 0 * v.getD j 0 ≠ u.getD j 0 * v.getD k 0) := by
    intro k hk x3
    have := for_chk (p := pName 3) (s := b__law_same_1) (r := .val (.bl false)) (fun j => decide (u.getD k 0 * v.getD j 0 = u.getD j 0 * v.getD k 0)) (fun env => ∃ x3, env = [some (.val (.tup U)), some (.val (.tup V)), some (.val (.int k)), x3]) (rngD 0 k) [some (.val (.tup U)), some (.val (.tup V)), some (.val (.int k)), x3] 0 ⟨_, rfl⟩ (by
      rintro j hj env ⟨x3, rfl⟩
      rw [rng_len] at hj
      have e : (rngD 0 k)[j]'(by rw [rng_len]; exact hj) = .int (j : Int) := by simp [rngD]
      rw [e]
      have a1 := au k hk
      have a2 := av j (by omega)
      have a3 := au j (by omega)
      have a4 := av k hk
      have m1 := mulOk_of (bd_getD hu hk) (bd_getD hv (show j < v.length by omega)) (by decide)
      have m2 := mulOk_of (bd_getD hu (show j < u.length by omega)) (bd_getD hv (show k < v.length by omega)) (by decide)
      refine ⟨_, rfl, ?_⟩
      rw [Nat.zero_add]
      by_cases hq : u.getD k 0 * v.getD j 0 = u.getD j 0 * v.getD k 0
      · refine .inl ⟨decide_eq_true hq, [some (.val (.tup U)), some (.val (.tup V)), some (.val (.int k)), some (.val (.int j))], ?_, _, rfl⟩
        generalize u.getD k 0 = a at *
        generalize v.getD j 0 = b at *
        generalize u.getD j 0 = c at *
        generalize v.getD k 0 = d at *
        simp [b__law_same_1_eq, a1, a2, a3, a4, m1, m2, hq]
      · refine .inr ⟨decide_eq_false hq, ?_⟩
        generalize u.getD k 0 = a at *
        generalize v.getD j 0 = b at *
        generalize u.getD j 0 = c at *
        generalize v.getD k 0 = d at *
        simp [b__law_same_1_eq, a1, a2, a3, a4, m1, m2, hq])
    rcases this with ⟨env', h1, ⟨x3', rfl⟩, h2⟩ | ⟨h1, j, hj, h2⟩
    · refine .inl ⟨x3', h1, fun j hj => ?_⟩
      have := h2 j (by rw [rng_len]; exact hj)
      rw [Nat.zero_add] at this
      exact of_decide_eq_true this
    · rw [Nat.zero_add] at h2
      rw [rng_len] at hj
      exact .inr ⟨h1, j, hj, of_decide_eq_false h2⟩
  have outer := for_chk (p := pName 2) (s := b__law_same_2) (r := .val (.bl false)) (fun k => decide (∀ j, j < k → u.getD k 0 * v.getD j 0 = u.getD j 0 * v.getD k 0)) (fun env => ∃ x2 x3, env = [some (.val (.tup U)), some (.val (.tup V)), x2, x3]) (rngD 0 u.length) [some (.val (.tup U)), some (.val (.tup V)), none, none] 0 ⟨_, _, rfl⟩ (by
    rintro k hk env ⟨x2, x3, rfl⟩
    rw [rng_len] at hk
    have e : (rngD 0 u.length)[k]'(by rw [rng_len]; exact hk) = .int (k : Int) := by simp [rngD]
    rw [e]
    have rk := x_rng1N (n := k) (by omega)
    obtain ⟨L, hL⟩ : ∃ L, rngD 0 k = L := ⟨_, rfl⟩
    refine ⟨_, rfl, ?_⟩
    rw [Nat.zero_add]
    rcases inner k hk x3 with ⟨x3', h1, h2⟩ | ⟨h1, j, hj, h2⟩
    · rw [hL] at rk h1
      refine .inl ⟨decide_eq_true h2, [some (.val (.tup U)), some (.val (.tup V)), some (.val (.int k)), x3'], ?_, _, _, rfl⟩
      simp [b__law_same_2_eq, rk, h1]
    · rw [hL] at rk h1
      refine .inr ⟨decide_eq_false fun q => h2 (q j hj), ?_⟩
      simp [b__law_same_2_eq, rk, h1])
  have ru := x_rng1N (n := u.length) (by omega)
  obtain ⟨L, hL⟩ : ∃ L, rngD 0 u.length = L := ⟨_, rfl⟩
  rw [hU, hV]
  rcases outer with ⟨env', h1, ⟨x2, x3, rfl⟩, h2⟩ | ⟨h1, k, hk, h2⟩
  · have hb : sameB u v = true := decide_eq_true fun k hk j hj => by
      have := h2 k (by rw [rng_len]; exact hk)
      rw [Nat.zero_add] at this
      exact of_decide_eq_true this j hj
    rw [hL] at ru h1
    rw [hb]
    simp [d__law_same_eq, s__law_same, start_eq, lU, ru, h1]
  · have hb : sameB u v = false := decide_eq_false fun q => by
      rw [rng_len] at hk
      rw [Nat.zero_add] at h2
      exact of_decide_eq_false h2 fun j hj => q k hk j hj
    rw [hL] at ru h1
    rw [hb]
    simp [d__law_same_eq, s__law_same, start_eq, lU, ru, h1]
noncomputable def c__law_cut_1 : BEnv → Res D := Classical.choose (⟨(e2 subD (eFn d__law_draw (aCons (eVar 0) (aCons (eVar 7) (aCons (eC (.int 7)) aNil)))) (eC (.int 3))), rfl⟩ : ∃ y : BEnv → Res D, y = (e2 subD (eFn d__law_draw (aCons (eVar 0) (aCons (eVar 7) (aCons (eC (.int 7)) aNil)))) (eC (.int 3))))
theorem c__law_cut_1_eq : c__law_cut_1 = (e2 subD (eFn d__law_draw (aCons (eVar 0) (aCons (eVar 7) (aCons (eC (.int 7)) aNil)))) (eC (.int 3))) := Classical.choose_spec (⟨(e2 subD (eFn d__law_draw (aCons (eVar 0) (aCons (eVar 7) (aCons (eC (.int 7)) aNil)))) (eC (.int 3))), rfl⟩ : ∃ y : BEnv → Res D, y = (e2 subD (eFn d__law_draw (aCons (eVar 0) (aCons (eVar 7) (aCons (eC (.int 7)) aNil)))) (eC (.int 3))))
noncomputable def c__law_cut_2 : BEnv → Res D := Classical.choose (⟨(e2 mulX (eVar 8) (eVar 9)), rfl⟩ : ∃ y : BEnv → Res D, y = (e2 mulX (eVar 8) (eVar 9)))
theorem c__law_cut_2_eq : c__law_cut_2 = (e2 mulX (eVar 8) (eVar 9)) := Classical.choose_spec (⟨(e2 mulX (eVar 8) (eVar 9)), rfl⟩ : ∃ y : BEnv → Res D, y = (e2 mulX (eVar 8) (eVar 9)))
noncomputable def c__law_cut_3 : BEnv → Res D := Classical.choose (⟨(e2 mulX (eVar 8) (eVar 6)), rfl⟩ : ∃ y : BEnv → Res D, y = (e2 mulX (eVar 8) (eVar 6)))
theorem c__law_cut_3_eq : c__law_cut_3 = (e2 mulX (eVar 8) (eVar 6)) := Classical.choose_spec (⟨(e2 mulX (eVar 8) (eVar 6)), rfl⟩ : ∃ y : BEnv → Res D, y = (e2 mulX (eVar 8) (eVar 6)))
noncomputable def s__law_cut : PL.Env → Res Fl := (sSeq (sOwn 3 (oComp [7] (iRng1 (aCons (eVar 1) aNil)) (pName 7) cTrue c__law_cut_1))
    (sSeq (sIf (tst (e2 eqD (eVar 3) (e2 mulX (lstD (oLst (aCons (eC (.int 0)) aNil))) (eVar 1)))) (sIx 3 (eFn d__law_draw (aCons (eVar 0) (aCons (eC (.int 4)) (aCons (eVar 1) aNil)))) (e2 addD (eC (.int 1)) (eFn d__law_draw (aCons (eVar 0) (aCons (eC (.int 5)) (aCons (eC (.int 3)) aNil)))))) sNil)
    (sSeq (sSet 4 (e2 subD (eFn d__law_draw (aCons (eVar 0) (aCons (eC (.int 6)) (aCons (eC (.int 9)) aNil)))) (eC (.int 4))))
    (sSeq (sSet 5 (eFn d__law_draw (aCons (eVar 0) (aCons (eC (.int 7)) (aCons (eC (.int 7)) aNil)))))
    (sSeq (sIf (tAndD (tst (e2 eqD (eVar 5) (eC (.int 1)))) (tst (e2 neD (eVar 2) (lstD (oLst aNil))))) (sOwn 3 (eCallO listO (aCons (eSl (e2 ixD (eVar 2) (eFn d__law_draw (aCons (eVar 0) (aCons (eC (.int 8)) (aCons (eCall lenD (aCons (eVar 2) aNil)) aNil))))) oNo (oSome (eVar 1))) aNil))) sNil)
    (sSeq (sIf (tOrD (tst (e2 eqD (eVar 5) (eC (.int 2)))) (tst (e2 eqD (eVar 5) (eC (.int 3))))) (sSetB 4 (eCall sumD (aCons (lstD (oComp [8, 9] (zip2D (aCons (eVar 3) (aCons (lstD (oLst (aCons (eC (.int 1)) (aCons (eC (.int 2)) (aCons (e1 negD (eC (.int 1))) aNil))))) aNil))) (pTup (pCons (pName 8) (pCons (pName 9) pNil))) cTrue c__law_cut_2)) aNil))) sNil)
    (sSeq (sIf (tst (e2 eqD (eVar 5) (eC (.int 4)))) (sSeq (sSet 6 (e2 mulX (e2 addD (eC (.int 1)) (eFn d__law_draw (aCons (eVar 0) (aCons (eC (.int 9)) (aCons (e2 powD (eC (.int 10)) (eC (.int 6))) aNil))))) (e2 ixD (lstD (oLst (aCons (eC (.int 1)) (aCons (eC (.int 1)) (aCons (e2 powD (eC (.int 10)) (eC (.int 18))) aNil))))) (eFn d__law_draw (aCons (eVar 0) (aCons (eC (.int 11)) (aCons (eC (.int 3)) aNil)))))))
    (sSeq (sOwnB 3 (oComp [8] (iSeq (eVar 3)) (pName 8) cTrue c__law_cut_3))
    (sSet 4 (e2 addD (e2 mulX (eVar 4) (eVar 6)) (eFn d__law_draw (aCons (eVar 0) (aCons (eC (.int 10)) (aCons (eC (.int 7)) aNil)))))))) sNil)
    (sRet (eCall tupleD (aCons (e2 addD (eVar 3) (lstD (oLst (aCons (eVar 4) aNil)))) aNil))))))))))
noncomputable def d__law_cut : List D → Res Cell := Classical.choose (⟨runB 10 3 s__law_cut, rfl⟩ : ∃ y : List D → Res Cell, y = runB 10 3 s__law_cut)
theorem d__law_cut_eq : d__law_cut = runB 10 3 s__law_cut := Classical.choose_spec (⟨runB 10 3 s__law_cut, rfl⟩ : ∃ y : List D → Res Cell, y = runB 10 3 s__law_cut)
theorem v__law_cut {c : Int} {n : Nat} {C : List (List Int × Int)} (hc : Bd 1048576 c) (n1 : 1 ≤ n) (n3 : n ≤ 3) (hC : ∀ p ∈ C, CuOk n p) (h7 : C.length ≤ 100) : ∃ p, d__law_cut [.int c, .int n, .lst (C.map ctD)] = .ok (.val (ctD p)) ∧ CuOk n p := by
  have draw : ∀ (k : Int) (b : Int), 0 ≤ k → k ≤ 1000 → 0 < b → b ≤ 1000000 → ∃ z, d__law_draw [.int c, .int k, .int b] = .ok (.val (.int z)) ∧ 0 ≤ z ∧ z < b := fun k b k0 k1 b0 b1 => v__law_draw hc k0 (by omega) b0 (by omega)
  obtain ⟨y4, f4, g4, h4⟩ := draw 4 n (by decide) (by decide) (by omega) (by omega)
  obtain ⟨y5, f5, g5, h5⟩ := draw 5 3 (by decide) (by decide) (by decide) (by decide)
  obtain ⟨y6, f6, g6, h6⟩ := draw 6 9 (by decide) (by decide) (by decide) (by decide)
  obtain ⟨y7, f7, g7, h7'⟩ := draw 7 7 (by decide) (by decide) (by decide) (by decide)
  obtain ⟨y9, f9, g9, h9⟩ := draw 9 1000000 (by decide) (by decide) (by decide) (by decide)
  obtain ⟨y10, f10, g10, h10⟩ := draw 10 7 (by decide) (by decide) (by decide) (by decide)
  obtain ⟨y11, f11, g11, h11⟩ := draw 11 3 (by decide) (by decide) (by decide) (by decide)
  have qC := eqOks_ct C 58
  have lC : (C.map ctD).length = C.length := by simp
  have neC : C ≠ [] → neD (.lst (C.map ctD)) (.lst []) = .ok (.bl true) := fun h => by
    cases C with
    | nil => exact absurd rfl h
    | cons a l =>
      simp only [List.map_cons] at qC ⊢
      simp [neD_ll] at qC ⊢
      exact qC
  have pick : C ≠ [] → ∃ y8 p, d__law_draw [.int c, .int 8, .int C.length] = .ok (.val (.int y8)) ∧ p ∈ C ∧ atD (C.map ctD) y8 = .ok (ctD p) := fun h => by
    have : 1 ≤ C.length := by cases C with
      | nil => exact absurd rfl h
      | cons a l => simp
    obtain ⟨y8, f8, g8, h8⟩ := draw 8 C.length (by decide) (by decide) (by omega) (by omega)
    obtain ⟨p, hp, e⟩ := at_some (enc := ctD) (l := C) g8 h8
    exact ⟨y8, p, f8, hp, e⟩
  have neC0 : C = [] → neD (.lst (C.map ctD)) (.lst []) = .ok (.bl false) := fun h => by rw [h]; simp
  obtain ⟨T, hT⟩ : ∃ T, C.map ctD = T := ⟨_, rfl⟩
  rw [hT] at neC neC0 lC
  have pick' : C ≠ [] → ∃ y8 p, d__law_draw [.int c, .int 8, .int C.length] = .ok (.val (.int y8)) ∧ p ∈ C ∧ atD T y8 = .ok (ctD p) := fun h => by
    have := pick h
    rwa [hT] at this
  rw [hT]
  -- the numbers
  obtain ⟨zs, hz, zl, zb⟩ := comp_gen (enc := D.int) (P := fun t => -3 ≤ t ∧ t ≤ 3) (p := pName 7) (f := c__law_cut_1) (env := [some (.int c), some (.int n), some (.lst T), none, none, none, none, none, none, none]) (rngD 0 n) (by
    intro d hd
    obtain ⟨j, hj, rfl⟩ := mem_rng hd
    obtain ⟨z, ez, az, bz⟩ := draw j 7 (by omega) (by omega) (by decide) (by decide)
    refine ⟨[(7, .int (0 + j))], z - 3, rfl, ?_, by omega, by omega⟩
    simp [c__law_cut_1_eq, ez])
  rw [rng_len] at zl
  have n6 : n ≤ 1000000 := by omega
  have rn := x_rng1N n6
  obtain ⟨LN, hLN⟩ : ∃ L, rngD 0 n = L := ⟨_, rfl⟩
  have lLN : LN.length ≤ 1000000 := by rw [← hLN, rng_len]; exact n6
  rw [hLN] at rn hz
  have z0 : List.replicate n (D.int 0) = (List.replicate n 0).map D.int := by simp
  have nn : (n : Int) = n := rfl
  have ml : (0 : Int) ≤ n ∧ (n : Int) ≤ 1000 := by omega
  -- made other than nought
  obtain ⟨ws, hw, wl, wb, wn⟩ : ∃ ws : List Int, (sIf (tst (e2 eqD (eVar 3) (e2 mulX (lstD (oLst (aCons (eC (.int 0)) aNil))) (eVar 1)))) (sIx 3 (eFn d__law_draw (aCons (eVar 0) (aCons (eC (.int 4)) (aCons (eVar 1) aNil)))) (e2 addD (eC (.int 1)) (eFn d__law_draw (aCons (eVar 0) (aCons (eC (.int 5)) (aCons (eC (.int 3)) aNil)))))) sNil) [some (.val (.int c)), some (.val (.int n)), some (.val (.lst T)), some (.own (zs.map D.int)), none, none, none, none, none, none] = .ok (.nx [some (.val (.int c)), some (.val (.int n)), some (.val (.lst T)), some (.own (ws.map D.int)), none, none, none, none, none, none]) ∧ ws.length = n ∧ (∀ t ∈ ws, -3 ≤ t ∧ t ≤ 3) ∧ ws ≠ List.replicate n 0 := by
    have dq := deqs_ints zs (List.replicate n 0)
    have q1 := eqOks_ints (n := 59) zs
    have q2 := eqOks_ints (n := 59) (List.replicate n 0)
    rw [← z0] at dq q2
    have lu : (zs.map D.int).length = n := by rw [List.length_map, zl]
    have ix : ixN n y4 = some y4.toNat := by
      unfold ixN
      rw [if_pos g4, if_pos (by omega)]
    have st : (zs.map D.int).set y4.toNat (D.int (1 + y5)) = (zs.set y4.toNat (1 + y5)).map D.int := by rw [List.map_set]
    by_cases h : zs = List.replicate n 0
    · have hb : (zs == List.replicate n 0) = true := by simpa using h
      rw [hb] at dq
      refine ⟨zs.set y4.toNat (1 + y5), ?_, by simp [zl], fun t ht => ?_, fun e => ?_⟩
      · have si := fun s => setIx_i (s := s) (i := 3) (l := zs.map D.int) (d := .int (1 + y5)) (k := y4) (by rw [lu]; exact ix)
        rw [st] at si
        generalize hZ : List.replicate n (D.int 0) = Z at *
        generalize (zs.set y4.toNat (1 + y5)).map D.int = V at *
        generalize zs.map D.int = U at *
        simp [hZ, dq, q1, q2, ml.1, ml.2, f5, f4, si]
      · rcases List.mem_or_eq_of_mem_set ht with ht | ht
        · exact zb t ht
        · rw [ht]; omega
      · have : (zs.set y4.toNat (1 + y5))[y4.toNat]? = some (1 + y5) := List.getElem?_set_self (by omega)
        have := List.mem_of_getElem? this
        rw [e] at this
        have := (List.mem_replicate.mp this).2
        omega
    · have hb : (zs == List.replicate n 0) = false := by simpa using h
      rw [hb] at dq
      refine ⟨zs, ?_, zl, zb, h⟩
      generalize hZ : List.replicate n (D.int 0) = Z at *
      generalize zs.map D.int = U at *
      simp [hZ, dq, q1, q2, ml.1, ml.2]
  -- the numbers of one ahead
  obtain ⟨us, hu, ul, ub, un, uw⟩ : ∃ us : List Int, (sIf (tAndD (tst (e2 eqD (eVar 5) (eC (.int 1)))) (tst (e2 neD (eVar 2) (lstD (oLst aNil))))) (sOwn 3 (eCallO listO (aCons (eSl (e2 ixD (eVar 2) (eFn d__law_draw (aCons (eVar 0) (aCons (eC (.int 8)) (aCons (eCall lenD (aCons (eVar 2) aNil)) aNil))))) oNo (oSome (eVar 1))) aNil))) sNil) [some (.val (.int c)), some (.val (.int n)), some (.val (.lst T)), some (.own (ws.map D.int)), some (.val (.int (y6 - 4))), some (.val (.int y7)), none, none, none, none] = .ok (.nx [some (.val (.int c)), some (.val (.int n)), some (.val (.lst T)), some (.own (us.map D.int)), some (.val (.int (y6 - 4))), some (.val (.int y7)), none, none, none, none]) ∧ us.length = n ∧ (∀ t ∈ us, Bd 86 t) ∧ us ≠ List.replicate n 0 ∧ (y7 ≠ 1 → us = ws) := by
    by_cases hy : y7 = 1
    · by_cases hC0 : C = []
      · refine ⟨ws, ?_, wl, fun t ht => b200 (by have := wb t ht; omega) (by have := wb t ht; omega), wn, fun h => absurd hy h⟩
        have ne := neC0 hC0
        generalize ws.map D.int = W at *
        simp [hy, ne]
      · obtain ⟨y8, p, f8, hp, ap⟩ := pick' hC0
        have ne := neC hC0
        have po := hC p hp
        refine ⟨p.1, ?_, po.ct.len, po.b92.2, po.nz, fun h => absurd hy h⟩
        have ct : cutL ((p.1 ++ [p.2]).map D.int) none (some (n : Int)) = p.1.map D.int := by
          rw [cutL_to, ← List.map_take, List.take_append_of_le_length (by rw [po.ct.len]; exact Nat.le_refl _), List.take_of_length_le (by rw [po.ct.len]; exact Nat.le_refl _)]
        have lc : (T.length : Int) = (C.length : Int) := by rw [lC]
        unfold ctD at ap
        generalize (p.1 ++ [p.2]).map D.int = P at *
        generalize p.1.map D.int = V at *
        generalize ws.map D.int = W at *
        simp [hy, ne, lC, f8, ap, -cutL_to, ct]
    · refine ⟨ws, ?_, wl, fun t ht => b200 (by have := wb t ht; omega) (by have := wb t ht; omega), wn, fun _ => rfl⟩
      generalize ws.map D.int = W at *
      simp [hy]
  -- c by the numbers
  obtain ⟨c1, hc1, b1⟩ : ∃ c1 : Int, (sIf (tOrD (tst (e2 eqD (eVar 5) (eC (.int 2)))) (tst (e2 eqD (eVar 5) (eC (.int 3))))) (sSetB 4 (eCall sumD (aCons (lstD (oComp [8, 9] (zip2D (aCons (eVar 3) (aCons (lstD (oLst (aCons (eC (.int 1)) (aCons (eC (.int 2)) (aCons (e1 negD (eC (.int 1))) aNil))))) aNil))) (pTup (pCons (pName 8) (pCons (pName 9) pNil))) cTrue c__law_cut_2)) aNil))) sNil) [some (.val (.int c)), some (.val (.int n)), some (.val (.lst T)), some (.own (us.map D.int)), some (.val (.int (y6 - 4))), some (.val (.int y7)), none, none, none, none] = .ok (.nx [some (.val (.int c)), some (.val (.int n)), some (.val (.lst T)), some (.own (us.map D.int)), some (.val (.int c1)), some (.val (.int y7)), none, none, none, none]) ∧ -31 ≤ c1 ∧ c1 ≤ 31 := by
    by_cases hy : y7 = 2 ∨ y7 = 3
    · have ew : us = ws := uw (by omega)
      subst ew
      have pm := pair_map (e1 := D.int) (e2 := D.int) us [1, 2, -1]
      have mm : ∀ p ∈ us.zip [1, 2, -1], (-3 ≤ p.1 ∧ p.1 ≤ 3) ∧ (-1 ≤ p.2 ∧ p.2 ≤ 2) := fun p hp => by
        have h1 := wb _ (List.of_mem_zip hp).1
        have h2 := (List.of_mem_zip hp).2
        simp at h2
        exact ⟨h1, by omega⟩
      have k := comp_map (dec := fun p : Int × Int => .tup [.int p.1, .int p.2]) (enc := D.int) (p := pTup (pCons (pName 8) (pCons (pName 9) pNil))) (f := c__law_cut_2) (env := [some (.int c), some (.int n), some (.lst T), some (.lst (us.map D.int)), some (.int (y6 - 4)), some (.int y7), none, none, none, none]) (fun p => p.1 * p.2) (us.zip [1, 2, -1]) (fun p hp => ⟨[(8, .int p.1), (9, .int p.2)], by simp, by
        have := mm p hp
        have m1 := mul64 (x := p.1) (y := p.2) (by omega) (by omega) (by omega) (by omega)
        simp [c__law_cut_2_eq, m1]⟩)
      have sb : ∀ l : List (Int × Int), (∀ p ∈ l, (-3 ≤ p.1 ∧ p.1 ≤ 3) ∧ (-1 ≤ p.2 ∧ p.2 ≤ 2)) → -(6 * (l.length : Int)) ≤ (l.map fun p => p.1 * p.2).sum ∧ (l.map fun p => p.1 * p.2).sum ≤ 6 * (l.length : Int) := by
        intro l
        induction l with
        | nil => intro _; simp
        | cons p l ih =>
          intro h
          have := ih fun q hq => h q (List.mem_cons_of_mem _ hq)
          have hp := h p List.mem_cons_self
          have hm : -6 ≤ p.1 * p.2 ∧ p.1 * p.2 ≤ 6 := by
            obtain ⟨⟨a1, a2⟩, a3, a4⟩ := hp
            have : p.2 = -1 ∨ p.2 = 0 ∨ p.2 = 1 ∨ p.2 = 2 := by omega
            rcases this with e | e | e | e <;> rw [e] <;> omega
          simp only [List.map_cons, List.sum_cons, List.length_cons]
          omega
      have s1 := sb _ mm
      have lz : (us.zip [1, 2, -1]).length ≤ 3 := by rw [List.length_zip]; simp; omega
      refine ⟨((us.zip [1, 2, -1]).map fun p => p.1 * p.2).sum, ?_, by omega, by omega⟩
      have sm := sum_ints (bs := (us.zip [1, 2, -1]).map fun p => p.1 * p.2)
      have lp : ((us.zip [1, 2, -1]).map fun p : Int × Int => D.tup [.int p.1, .int p.2]).length ≤ 1000000 := by rw [List.length_map]; omega
      simp only [List.map_cons, List.map_nil] at pm
      generalize ((us.zip [1, 2, -1]).map fun p => p.1 * p.2).sum = s at *
      generalize ((us.zip [1, 2, -1]).map fun p => p.1 * p.2).map D.int = A at *
      generalize (us.zip [1, 2, -1]).map (fun p : Int × Int => D.tup [.int p.1, .int p.2]) = B at *
      generalize us.map D.int = U at *
      have nls : ∀ x : Int, noLst (.int x) = true := fun x => by simp [noLst]
      rcases hy with hy | hy
      · simp [hy, x_comp, pm, lp, k, sm, nls] at k ⊢
        simp [hy, x_comp, pm, lp, k, sm, nls]
      · simp [hy, x_comp, pm, lp, k, sm, nls] at k ⊢
        simp [hy, x_comp, pm, lp, k, sm, nls]
    · refine ⟨y6 - 4, ?_, by omega, by omega⟩
      generalize us.map D.int = U at *
      have a1 : ¬ y7 = 2 := fun h => hy (.inl h)
      have a2 : ¬ y7 = 3 := fun h => hy (.inr h)
      simp [a1, a2]
  -- the great ones
  obtain ⟨ws2, c2, h2, w2l, w2b, w2n, c2b⟩ : ∃ (ws2 : List Int) (c2 : Int) , (∃ x6, (sIf (tst (e2 eqD (eVar 5) (eC (.int 4)))) (sSeq (sSet 6 (e2 mulX (e2 addD (eC (.int 1)) (eFn d__law_draw (aCons (eVar 0) (aCons (eC (.int 9)) (aCons (e2 powD (eC (.int 10)) (eC (.int 6))) aNil))))) (e2 ixD (lstD (oLst (aCons (eC (.int 1)) (aCons (eC (.int 1)) (aCons (e2 powD (eC (.int 10)) (eC (.int 18))) aNil))))) (eFn d__law_draw (aCons (eVar 0) (aCons (eC (.int 11)) (aCons (eC (.int 3)) aNil)))))))
      (sSeq (sOwnB 3 (oComp [8] (iSeq (eVar 3)) (pName 8) cTrue c__law_cut_3))
      (sSet 4 (e2 addD (e2 mulX (eVar 4) (eVar 6)) (eFn d__law_draw (aCons (eVar 0) (aCons (eC (.int 10)) (aCons (eC (.int 7)) aNil)))))))) sNil) [some (.val (.int c)), some (.val (.int n)), some (.val (.lst T)), some (.own (us.map D.int)), some (.val (.int c1)), some (.val (.int y7)), none, none, none, none] = .ok (.nx [some (.val (.int c)), some (.val (.int n)), some (.val (.lst T)), some (.own (ws2.map D.int)), some (.val (.int c2)), some (.val (.int y7)), x6, none, none, none])) ∧ ws2.length = n ∧ (∀ t ∈ ws2, Bd 86 t) ∧ ws2 ≠ List.replicate n 0 ∧ Bd 86 c2 := by
    by_cases hy : y7 = 4
    · have ew : us = ws := uw (by omega)
      subst ew
      obtain ⟨e, he, qe⟩ := at_some (enc := D.int) (l := [1, 1, 1000000000000000000]) g11 h11
      have e1' : 1 ≤ e ∧ e ≤ 1000000000000000000 := by simp at he; omega
      obtain ⟨far, hfar⟩ : ∃ far, (1 + y9) * e = far := ⟨_, rfl⟩
      have fb : 1 ≤ far ∧ far ≤ 1000000000000000000000000 := by
        rw [← hfar]
        constructor
        · have := Int.mul_le_mul (show (1 : Int) ≤ 1 + y9 by omega) e1'.1 (by decide) (by omega)
          omega
        · have := Int.mul_le_mul (show 1 + y9 ≤ (1000000 : Int) by omega) e1'.2 (by omega) (by decide)
          omega
      have m1 : mulOk (1 + y9) e = true := mul64 (by omega) (by omega) (by omega) (by omega)
      have b100 : Bd 80 far := by
        unfold Bd
        have e : (2 : Nat) ^ 80 = 1208925819614629174706176 := by decide
        rw [e]
        omega
      have bs : ∀ b ∈ us, Bd 3 b := fun b hb => by have := wb b hb; unfold Bd; omega
      have m2 : ∀ b ∈ us, mulOk b far = true := fun b hb => mulOk_of (bs b hb) b100 (by decide)
      have bc : Bd 5 c1 := by
        unfold Bd
        have e : (2 : Nat) ^ 5 = 32 := by decide
        rw [e]
        omega
      have m3 : mulOk c1 far = true := mulOk_of bc b100 (by decide)
      have b10 : Bd 20 y10 := by
        unfold Bd
        have e : (2 : Nat) ^ 20 = 1048576 := by decide
        rw [e]
        omega
      have k := comp_map (dec := D.int) (enc := D.int) (p := pName 8) (f := c__law_cut_3) (env := [some (.int c), some (.int n), some (.lst T), some (.lst (us.map D.int)), some (.int c1), some (.int y7), some (.int far), none, none, none]) (fun z => z * far) us (fun b hb => ⟨[(8, .int b)], rfl, by simp [c__law_cut_3_eq, m2 b hb]⟩)
      refine ⟨us.map (fun z => z * far), c1 * far + y10, ⟨some (.val (.int far)), ?_⟩, by simp [ul], fun t ht => ?_, nz_map (by omega) un ul, (((bc.mul b100).mono (by decide : 85 ≤ 85)).add (b10.mono (by decide))).mono (by decide)⟩
      · have nls := noLsts_i (us.map (fun z => z * far))
        have lu : (us.map D.int).length ≤ 1000000 := by rw [List.length_map]; omega
        simp only [List.map_cons, List.map_nil] at qe
        generalize (us.map (fun z => z * far)).map D.int = V at *
        generalize us.map D.int = U at *
        subst hy
        simp [f9, f11, qe, m1, hfar, x_comp, lu, k, nls, m3, f10]
      · obtain ⟨z, hz, rfl⟩ := List.mem_map.mp ht
        exact ((bs z hz).mul b100).mono (by decide)
    · refine ⟨us, c1, ⟨none, ?_⟩, ul, ub, un, b200 (by omega) (by omega)⟩
      generalize us.map D.int = U at *
      simp [hy]
  obtain ⟨x6, h2⟩ := h2
  refine ⟨(ws2, c2), ?_, ⟨w2l, c2b.mono (by decide), fun z hz => (w2b z hz).mono (by decide)⟩, w2n, c2b, w2b⟩
  rw [d__law_cut_eq]
  refine run_rt rfl ?_
  have e0 : startE 10 [D.int c, .int n, .lst T] = [some (.val (.int c)), some (.val (.int n)), some (.val (.lst T)), none, none, none, none, none, none, none] := rfl
  rw [e0]
  unfold s__law_cut
  refine (seq_nx (e1 := [some (.val (.int c)), some (.val (.int n)), some (.val (.lst T)), some (.own (zs.map D.int)), none, none, none, none, none, none]) ?_).trans ?_
  · generalize zs.map D.int = U at *
    simp [x_comp, rn, lLN, hz]
  refine (seq_nx hw).trans ?_
  refine (seq_nx (e1 := [some (.val (.int c)), some (.val (.int n)), some (.val (.lst T)), some (.own (ws.map D.int)), some (.val (.int (y6 - 4))), none, none, none, none, none]) ?_).trans ?_
  · generalize ws.map D.int = U at *
    simp [f6]
  refine (seq_nx (e1 := [some (.val (.int c)), some (.val (.int n)), some (.val (.lst T)), some (.own (ws.map D.int)), some (.val (.int (y6 - 4))), some (.val (.int y7)), none, none, none, none]) ?_).trans ?_
  · generalize ws.map D.int = U at *
    simp [f7]
  refine (seq_nx hu).trans ?_
  refine (seq_nx hc1).trans ?_
  refine (seq_nx h2).trans ?_
  have ap : ctD (ws2, c2) = .tup (ws2.map D.int ++ [.int c2]) := by simp [ctD]
  rw [ap]
  have lw : (ws2.map D.int).length = n := by rw [List.length_map, w2l]
  have n7 : n + 1 ≤ 1000000 := by omega
  have n7' : n ≤ 999999 := by omega
  generalize ws2.map D.int = U at *
  simp [lw, n7, n7']
noncomputable def c__law_cuts_1 : BEnv → Res D := Classical.choose (⟨(eVar 7), rfl⟩ : ∃ y : BEnv → Res D, y = (eVar 7))
theorem c__law_cuts_1_eq : c__law_cuts_1 = (eVar 7) := Classical.choose_spec (⟨(eVar 7), rfl⟩ : ∃ y : BEnv → Res D, y = (eVar 7))
noncomputable def i__law_cuts_1 : BEnv → Res Bool := Classical.choose (⟨(tst (eFn d__law_same (aCons (eVar 6) (aCons (eVar 7) aNil)))), rfl⟩ : ∃ y : BEnv → Res Bool, y = (tst (eFn d__law_same (aCons (eVar 6) (aCons (eVar 7) aNil)))))
theorem i__law_cuts_1_eq : i__law_cuts_1 = (tst (eFn d__law_same (aCons (eVar 6) (aCons (eVar 7) aNil)))) := Classical.choose_spec (⟨(tst (eFn d__law_same (aCons (eVar 6) (aCons (eVar 7) aNil)))), rfl⟩ : ∃ y : BEnv → Res Bool, y = (tst (eFn d__law_same (aCons (eVar 6) (aCons (eVar 7) aNil)))))
noncomputable def b__law_cuts_1 : PL.Env → Res Fl := Classical.choose (⟨(sSeq (sSetB 6 (eFn d__law_cut (aCons (eFn d__law_cell_at (aCons (eVar 0) (aCons (e2 addD (eVar 1) (eVar 5)) aNil))) (aCons (eVar 2) (aCons (eVar 4) aNil)))))
    (sIf (tst (e2 eqD (lstD (oComp [7] (iSeq (eVar 4)) (pName 7) i__law_cuts_1 c__law_cuts_1)) (lstD (oLst aNil)))) (sApp 4 (eVar 6)) sNil)), rfl⟩ : ∃ y : PL.Env → Res Fl, y = (sSeq (sSetB 6 (eFn d__law_cut (aCons (eFn d__law_cell_at (aCons (eVar 0) (aCons (e2 addD (eVar 1) (eVar 5)) aNil))) (aCons (eVar 2) (aCons (eVar 4) aNil)))))
    (sIf (tst (e2 eqD (lstD (oComp [7] (iSeq (eVar 4)) (pName 7) i__law_cuts_1 c__law_cuts_1)) (lstD (oLst aNil)))) (sApp 4 (eVar 6)) sNil)))
theorem b__law_cuts_1_eq : b__law_cuts_1 = (sSeq (sSetB 6 (eFn d__law_cut (aCons (eFn d__law_cell_at (aCons (eVar 0) (aCons (e2 addD (eVar 1) (eVar 5)) aNil))) (aCons (eVar 2) (aCons (eVar 4) aNil)))))
    (sIf (tst (e2 eqD (lstD (oComp [7] (iSeq (eVar 4)) (pName 7) i__law_cuts_1 c__law_cuts_1)) (lstD (oLst aNil)))) (sApp 4 (eVar 6)) sNil)) := Classical.choose_spec (⟨(sSeq (sSetB 6 (eFn d__law_cut (aCons (eFn d__law_cell_at (aCons (eVar 0) (aCons (e2 addD (eVar 1) (eVar 5)) aNil))) (aCons (eVar 2) (aCons (eVar 4) aNil)))))
    (sIf (tst (e2 eqD (lstD (oComp [7] (iSeq (eVar 4)) (pName 7) i__law_cuts_1 c__law_cuts_1)) (lstD (oLst aNil)))) (sApp 4 (eVar 6)) sNil)), rfl⟩ : ∃ y : PL.Env → Res Fl, y = (sSeq (sSetB 6 (eFn d__law_cut (aCons (eFn d__law_cell_at (aCons (eVar 0) (aCons (e2 addD (eVar 1) (eVar 5)) aNil))) (aCons (eVar 2) (aCons (eVar 4) aNil)))))
    (sIf (tst (e2 eqD (lstD (oComp [7] (iSeq (eVar 4)) (pName 7) i__law_cuts_1 c__law_cuts_1)) (lstD (oLst aNil)))) (sApp 4 (eVar 6)) sNil)))
noncomputable def s__law_cuts : PL.Env → Res Fl := (sSeq (sOwn 4 (oLst aNil))
    (sSeq (sForR (iRng1 (aCons (eVar 3) aNil)) (pName 5) b__law_cuts_1)
    (sRetV 4)))
noncomputable def d__law_cuts : List D → Res Cell := Classical.choose (⟨runB 8 4 s__law_cuts, rfl⟩ : ∃ y : List D → Res Cell, y = runB 8 4 s__law_cuts)
theorem d__law_cuts_eq : d__law_cuts = runB 8 4 s__law_cuts := Classical.choose_spec (⟨runB 8 4 s__law_cuts, rfl⟩ : ∃ y : List D → Res Cell, y = runB 8 4 s__law_cuts)
theorem cs_take {n k : Nat} {C : List (List Int × Int)} (h : CsOk n C) : CsOk n (C.take k ++ C.drop (k + 1)) := by
  have sub : (C.take k ++ C.drop (k + 1)).Sublist C := by
    have := List.take_append_drop k C
    conv => rhs; rw [← this]
    exact List.Sublist.append (List.Sublist.refl _) (List.drop_sublist_drop_left _ (Nat.le_succ k))
  exact ⟨h.d1, h.d3, Nat.le_trans sub.length_le h.l7, fun p hp => h.ok p (sub.subset hp), fun p hp => h.nz p (sub.subset hp), h.pw.sublist sub⟩
theorem cs_snoc {n : Nat} {C : List (List Int × Int)} {p : List Int × Int} (h : CsOk n C) (hp : CtOk n p) (hz : p.1 ≠ List.replicate n 0) (hl : C.length < 7) (hn : ∀ q ∈ C, sameB (full q) (full p) = false) : CsOk n (C ++ [p]) := by
  refine ⟨h.d1, h.d3, by simp; omega, fun q hq => ?_, fun q hq => ?_, ?_⟩
  · rcases List.mem_append.mp hq with a | a
    · exact h.ok q a
    · rw [List.mem_singleton.mp a]; exact hp
  · rcases List.mem_append.mp hq with a | a
    · exact h.nz q a
    · rw [List.mem_singleton.mp a]; exact hz
  · refine List.pairwise_append.mpr ⟨h.pw, List.pairwise_singleton _ _, fun a ha b hb => ?_⟩
    rw [List.mem_singleton.mp hb]
    exact hn a ha
theorem cs_back {n k : Nat} {C : List (List Int × Int)} (h : CsOk n C) (hk : k < C.length) : CsOk n ((C.take k ++ C.drop (k + 1)) ++ [C[k]]) := by
  have o := h.ok _ (List.getElem_mem hk)
  have e : C = C.take k ++ C[k] :: C.drop (k + 1) := by
    conv => lhs; rw [← List.take_append_drop k C, List.drop_eq_getElem_cons hk]
  have pw := h.pw
  rw [e] at pw
  obtain ⟨_, p2, p3⟩ := List.pairwise_append.mp pw
  have p4 := (List.pairwise_cons.mp p2).1
  have l7 := h.l7
  refine cs_snoc (cs_take h) o (h.nz _ (List.getElem_mem hk)) (by simp; omega) fun q hq => ?_
  rcases List.mem_append.mp hq with a | a
  · exact p3 q a _ List.mem_cons_self
  · have oq := h.ok q (List.mem_of_mem_drop a)
    rw [sameB_symm (by rw [full_len oq, full_len o])]
    exact p4 q a
theorem v__law_cuts {ns : List Int} {at_ n m : Nat} (hb : ∀ z ∈ ns, Builtin.Int.intBits z ≤ 1048576) (n1 : 1 ≤ n) (n3 : n ≤ 3) (m7 : m ≤ 7) : ∃ C, d__law_cuts [.scr ns, .int at_, .int n, .int m] = .ok (.own (C.map ctD)) ∧ CsOk n C ∧ C.length ≤ m ∧ CsB 86 C := by
  obtain ⟨env', hfor, C, x5, x6, x7, rfl, cl, cok, c92⟩ := forR_inv (p := pName 5) (s := b__law_cuts_1) (lo := 0) (n := m) (env := [some (.val (.scr ns)), some (.val (.int at_)), some (.val (.int n)), some (.val (.int m)), some (.own (([] : List (List Int × Int)).map ctD)), none, none, none])
    (fun k env => ∃ (C : List (List Int × Int)) (x5 x6 x7 : Option Cell), env = [some (.val (.scr ns)), some (.val (.int at_)), some (.val (.int n)), some (.val (.int m)), some (.own (C.map ctD)), x5, x6, x7] ∧ C.length ≤ k ∧ CsOk n C ∧ CsB 86 C)
    ⟨[], none, none, none, rfl, Nat.le_refl _, ⟨n1, n3, Nat.zero_le _, fun _ h => absurd h List.not_mem_nil, fun _ h => absurd h List.not_mem_nil, List.Pairwise.nil⟩, fun _ h => absurd h List.not_mem_nil⟩ (by
      rintro i hi env ⟨C, x5, x6, x7, rfl, cl, cok, c92⟩
      have l7 := cok.l7
      have ca : d__law_cell_at [.scr ns, .int ((at_ : Int) + i)] = .ok (.val (.int (ns.getD (at_ + i) 0))) := v__law_cell_at (k := at_ + i)
      have bc := bd_cell hb (at_ + i)
      generalize ns.getD (at_ + i) 0 = c at *
      obtain ⟨p, hp, po⟩ := v__law_cut (C := C) bc n1 n3 (fun q hq => ⟨cok.ok q hq, cok.nz q hq, c92 q hq⟩) (by omega)
      have kf := comp_filter (dec := ctD) (p := pName 7) (c := i__law_cuts_1) (f := c__law_cuts_1) (env := [some (.scr ns), some (.int at_), some (.int n), some (.int m), some (.lst (C.map ctD)), some (.int i), some (ctD p), none]) (fun q => sameB (full p) (full q)) C (fun q hq => ⟨[(7, ctD q)], rfl, by
        have oq := cok.ok q hq
        have ss := v__law_same (u := full p) (v := full q) (by rw [full_len po.ct, full_len oq]) (by rw [full_len po.ct]; omega) (full_bd po.ct) (full_bd oq)
        rw [← ctD_full, ← ctD_full] at ss
        generalize ctD p = P at *
        generalize ctD q = Q at *
        generalize C.map ctD = T at *
        simp [i__law_cuts_1_eq, ss], by
        generalize ctD p = P at *
        generalize ctD q = Q at *
        generalize C.map ctD = T at *
        simp [c__law_cuts_1_eq]⟩)
      have lC : (C.map ctD).length = C.length := by simp
      have nl := noLst_ct p
      have c6 : C.length ≤ 1000000 := by omega
      have c6' : C.length < 1000000 := by omega
      by_cases hF : C.filter (fun q => sameB (full p) (full q)) = []
      · rw [hF] at kf
        have sp : (C ++ [p]).map ctD = C.map ctD ++ [ctD p] := by simp
        refine ⟨_, [some (.val (.scr ns)), some (.val (.int at_)), some (.val (.int n)), some (.val (.int m)), some (.own ((C ++ [p]).map ctD)), some (.val (.int i)), some (.val (ctD p)), x7], rfl, .inl ?_, C ++ [p], _, _, _, rfl, by simp; omega, cs_snoc cok po.ct po.nz (by omega) fun q hq => ?_, fun q hq => ?_⟩
        · rw [sp]
          simp only [List.map_nil] at kf
          generalize ctD p = P at *
          generalize C.map ctD = T at *
          simp [b__law_cuts_1_eq, ca, hp, nl, x_comp, lC, c6, kf, c6']
        · have oq := cok.ok q hq
          rw [sameB_symm (by rw [full_len po.ct, full_len oq])]
          have := List.filter_eq_nil_iff.mp hF q hq
          simpa using this
        · rcases List.mem_append.mp hq with a | a
          · exact c92 q a
          · rw [List.mem_singleton.mp a]; exact po.b92
      · refine ⟨_, [some (.val (.scr ns)), some (.val (.int at_)), some (.val (.int n)), some (.val (.int m)), some (.own (C.map ctD)), some (.val (.int i)), some (.val (ctD p)), x7], rfl, .inl ?_, C, _, _, _, rfl, by omega, cok, c92⟩
        have e0 := eqOks_ct (C.filter fun q => sameB (full p) (full q)) 58
        have d0 : deqs ((C.filter fun q => sameB (full p) (full q)).map ctD) [] = false := by
          cases hq : C.filter fun q => sameB (full p) (full q) with
          | nil => exact absurd hq hF
          | cons a l => simp
        generalize (C.filter fun q => sameB (full p) (full q)).map ctD = F at *
        generalize ctD p = P at *
        generalize C.map ctD = T at *
        simp [b__law_cuts_1_eq, ca, hp, nl, x_comp, lC, c6, kf, e0, d0])
  refine ⟨C, ?_, cok, cl, c92⟩
  have rm := x_rng1N (n := m) (by omega)
  obtain ⟨L, hL⟩ : ∃ L, rngD 0 m = L := ⟨_, rfl⟩
  rw [hL] at rm hfor
  have e0 : ([] : List (List Int × Int)).map ctD = [] := rfl
  rw [e0] at hfor
  generalize C.map ctD = T at *
  rw [d__law_cuts_eq]
  refine run_rt rfl ?_
  have es : startE 8 [D.scr ns, .int at_, .int n, .int m] = [some (.val (.scr ns)), some (.val (.int at_)), some (.val (.int n)), some (.val (.int m)), none, none, none, none] := rfl
  rw [es]
  unfold s__law_cuts
  refine (seq_nx (e1 := [some (.val (.scr ns)), some (.val (.int at_)), some (.val (.int n)), some (.val (.int m)), some (.own []), none, none, none]) (by simp)).trans ?_
  refine (seq_nx (e1 := [some (.val (.scr ns)), some (.val (.int at_)), some (.val (.int n)), some (.val (.int m)), some (.own T), x5, x6, x7]) (by simp [rm, hfor])).trans ?_
  simp
noncomputable def s__law_kind : PL.Env → Res Fl := (sSeq (sSet 2 (eFn d_meet (aCons (eVar 0) (aCons (eVar 1) aNil))))
    (sSeq (sIf (tst (e2 eqD (e2 ixD (eVar 2) (eC (.int 0))) (eC (.str "apart")))) (sRet (e1 negD (eC (.int 1)))) sNil)
    (sRet (eCall lenD (aCons (e2 ixD (eVar 2) (eC (.int 2))) aNil)))))
noncomputable def d__law_kind : List D → Res Cell := Classical.choose (⟨runB 3 2 s__law_kind, rfl⟩ : ∃ y : List D → Res Cell, y = runB 3 2 s__law_kind)
theorem d__law_kind_eq : d__law_kind = runB 3 2 s__law_kind := Classical.choose_spec (⟨runB 3 2 s__law_kind, rfl⟩ : ∃ y : List D → Res Cell, y = runB 3 2 s__law_kind)

/-! ### cuts so often, in another order -/
def mulP (a : Int) (p : List Int × Int) : List Int × Int := (p.1.map (a * ·), a * p.2)
theorem full_mul {a : Int} {p : List Int × Int} : full (mulP a p) = (full p).map (a * ·) := by simp [full, mulP]
theorem sameB_mul {a b : Int} (ha : a ≠ 0) (hb : b ≠ 0) {u v : List Int} (h : u.length = v.length) : sameB (u.map (a * ·)) (v.map (b * ·)) = sameB u v := by
  unfold sameB
  have ab : a * b ≠ 0 := Int.mul_ne_zero ha hb
  have gu : ∀ k, k < u.length → (u.map (a * ·)).getD k 0 = a * u.getD k 0 := fun k hk => by simp [hk]
  have gv : ∀ k, k < u.length → (v.map (b * ·)).getD k 0 = b * v.getD k 0 := fun k hk => by simp [h ▸ hk]
  have key : ∀ k j, k < u.length → j < k → ((u.map (a * ·)).getD k 0 * (v.map (b * ·)).getD j 0 = (u.map (a * ·)).getD j 0 * (v.map (b * ·)).getD k 0 ↔ u.getD k 0 * v.getD j 0 = u.getD j 0 * v.getD k 0) := fun k j hk hj => by
    rw [gu k hk, gu j (by omega), gv k hk, gv j (by omega)]
    generalize u.getD k 0 = x
    generalize u.getD j 0 = y
    generalize v.getD k 0 = z
    generalize v.getD j 0 = w
    have e1 : a * x * (b * w) = a * b * (x * w) := by grind
    have e2 : a * y * (b * z) = a * b * (y * z) := by grind
    rw [e1, e2]
    exact ⟨fun q => Int.eq_of_mul_eq_mul_left ab q, fun q => by rw [q]⟩
  refine decide_eq_decide.mpr ⟨fun q k hk j hj => ?_, fun q k hk j hj => ?_⟩
  · exact (key k j hk hj).mp (q k (by simpa using hk) j hj)
  · have hk : k < u.length := by simpa using hk
    exact (key k j hk hj).mpr (q k hk j hj)
theorem cs_mul {n : Nat} {C C' : List (List Int × Int)} (h : CsOk n C) (hB : CsB 92 C) (hl : C'.length = C.length) (hm : ∀ i (h1 : i < C'.length) (h2 : i < C.length), ∃ a : Int, a ≠ 0 ∧ -100 ≤ a ∧ a ≤ 100 ∧ C'[i] = mulP a C[i]) : CsOk n C' := by
  have get : ∀ p ∈ C', ∃ q ∈ C, ∃ a : Int, a ≠ 0 ∧ -100 ≤ a ∧ a ≤ 100 ∧ p = mulP a q := fun p hp => by
    obtain ⟨i, hi, rfl⟩ := List.getElem_of_mem hp
    obtain ⟨a, h1, h2, h3, h4⟩ := hm i hi (by omega)
    exact ⟨_, List.getElem_mem (by omega), a, h1, h2, h3, h4⟩
  refine ⟨h.d1, h.d3, by rw [hl]; exact h.l7, fun p hp => ?_, fun p hp => ?_, ?_⟩
  · obtain ⟨q, hq, a, a0, a1, a2, rfl⟩ := get p hp
    have ba : Bd 7 a := by unfold Bd; omega
    obtain ⟨b1, b2⟩ := hB q hq
    refine ⟨by simp [mulP, (h.ok q hq).len], (ba.mul b1).mono (by decide), fun z hz => ?_⟩
    obtain ⟨y, hy, rfl⟩ := List.mem_map.mp hz
    exact (ba.mul (b2 y hy)).mono (by decide)
  · obtain ⟨q, hq, a, a0, a1, a2, rfl⟩ := get p hp
    intro e
    refine h.nz q hq (List.eq_replicate_iff.mpr ⟨(h.ok q hq).len, fun z hz => ?_⟩)
    have : a * z ∈ List.replicate n 0 := by rw [← e]; exact List.mem_map_of_mem hz
    rcases Int.mul_eq_zero.mp (List.mem_replicate.mp this).2 with q | q
    · exact absurd q a0
    · exact q
  · refine List.pairwise_iff_getElem.mpr fun i j hi hj hij => ?_
    obtain ⟨a, a0, _, _, ea⟩ := hm i hi (by omega)
    obtain ⟨b, b0, _, _, eb⟩ := hm j hj (by omega)
    rw [ea, eb, full_mul, full_mul, sameB_mul a0 b0 (by rw [full_len (h.ok _ (List.getElem_mem (by omega))), full_len (h.ok _ (List.getElem_mem (by omega)))])]
    exact List.pairwise_iff_getElem.mp h.pw i j (by omega) (by omega) hij

/-! ### whether some cuts meet, and how many ways: one answer -/
def Mt (P : List (List Int × Int)) : Prop := ∃ x : Nat → Rat, ∀ p ∈ P, dt p.1 x = (p.2 : Rat)
theorem holds_eq {a : List Int} {c : Int} {x : Nat → Rat} : holdsR (a, c, Kd.eq) x ↔ dt a x = (c : Rat) := by
  show val ⟨a, c, Kd.eq, []⟩ x = 0 ↔ _
  unfold val dt Row.n
  constructor <;> intro h <;> grind
theorem metR_mt {P : List (List Int × Int)} {x : Nat → Rat} : (∀ r ∈ metR P, holdsR r x) ↔ ∀ p ∈ P, dt p.1 x = (p.2 : Rat) := by
  unfold metR
  constructor
  · intro h p hp
    exact holds_eq.mp (h _ (List.mem_map_of_mem hp))
  · intro h r hr
    obtain ⟨p, hp, rfl⟩ := List.mem_map.mp hr
    exact holds_eq.mpr (h p hp)
theorem sR_one {f : Nat → Rat} {k : Nat} : ∀ {n : Nat}, k < n → (∀ i, i < n → i ≠ k → f i = 0) → sR f n = f k
  | 0, h, _ => absurd h (Nat.not_lt_zero _)
  | n + 1, h, h0 => by
    by_cases c : k = n
    · subst c
      show sR f k + f k = f k
      rw [sR_congr (g := fun _ => 0) fun i hi => h0 i (by omega) (by omega), sR_zero]
      grind
    · show sR f n + f n = f k
      rw [sR_one (by omega) fun i hi => h0 i (by omega), h0 n (by omega) (fun q => c q.symm)]
      grind
/-- ways of some sums are no more than ways of others, if these let all that those and some more let -/
theorem ways_le {n : Nat} {A B E W V : List (List Int)} (n3 : n ≤ 3) (hW : Ways n A W) (hV : Ways n B V) (hE : ∀ x, InK n A x → (∀ e ∈ E, dt e x = 0) → ∀ b ∈ B, dt b x = 0) : W.length ≤ V.length + E.length := by
  refine Nat.le_of_not_lt fun lt => ?_
  obtain ⟨c, ⟨k, hk, ck⟩, hc⟩ := homog (V ++ E).length W.length (fun j i => dt ((V ++ E).getD j []) (vec (W.getD i []))) (by rw [List.length_append]; omega)
  have wm : ∀ i, i < W.length → W.getD i [] ∈ W := fun i hi => by
    have : W.getD i [] = W[i] := by simp [hi]
    rw [this]; exact List.getElem_mem _
  have dx : ∀ a : List Int, dt a (fun j => sR (fun i => c i * vec (W.getD i []) j) W.length) = sR (fun i => c i * dt a (vec (W.getD i []))) W.length := fun a => dt_comb (v := fun i => vec (W.getD i []))
  have hx : InK n A (fun j => sR (fun i => c i * vec (W.getD i []) j) W.length) := by
    refine ⟨fun j hj => ?_, fun a ha => ?_⟩
    · show sR (fun i => c i * vec (W.getD i []) j) W.length = 0
      rw [sR_congr (g := fun _ => 0) fun i hi => by rw [vec_out (hW.len _ (wm i hi)) hj]; grind]
      exact sR_zero
    · rw [dx, sR_congr (g := fun _ => 0) fun i hi => by rw [hW.ker _ (wm i hi) a ha]; grind]
      exact sR_zero
  have hy : ∀ v ∈ V ++ E, dt v (fun j => sR (fun i => c i * vec (W.getD i []) j) W.length) = 0 := fun v hv => by
    obtain ⟨j, hj, rfl⟩ := List.getElem_of_mem hv
    rw [dx, ← hc j hj]
    refine sR_congr fun i _ => ?_
    have : (V ++ E).getD j [] = (V ++ E)[j] := by rw [List.getD_eq_getElem?_getD, List.getElem?_eq_getElem hj]; rfl
    rw [this]; grind
  have z := hV.full _ ⟨hx.1, fun a ha => by
    rcases List.mem_append.mp ha with q | q
    · exact hE _ hx (fun e he => hy e (List.mem_append.mpr (.inr he))) a q
    · exact hy a (List.mem_append.mpr (.inl q))⟩
  have e1 := dx (W.getD k [])
  have e0 : dt (W.getD k []) (fun j => sR (fun i => c i * vec (W.getD i []) j) W.length) = 0 := by
    have z0 := z 0
    have z1 := z 1
    have z2 := z 2
    unfold dt
    dsimp only at z0 z1 z2 ⊢
    rw [z0, z1, z2]; grind
  rw [e0, sR_one hk fun i hi hik => by
    have : dt (W.getD k []) (vec (W.getD i [])) = 0 := by
      have gi : W.getD i [] = W[i] := by simp [hi]
      have gk : W.getD k [] = W[k] := by simp [hk]
      rw [gi, gk]
      have pw := List.pairwise_iff_getElem.mp hW.orth
      rcases (by omega : i < k ∨ k < i) with q | q
      · rw [dt_comm]; exact pw i k hi hk q
      · exact pw k i hk hi q
    rw [this]; grind] at e1
  have dz : dt (W.getD k []) (vec (W.getD k [])) = 0 := by
    rcases Rat.mul_eq_zero.mp e1.symm with a | a
    · exact absurd a ck
    · exact a
  obtain ⟨z0, z1, z2⟩ := dt_self dz
  obtain ⟨j, hj⟩ := hW.nz _ (wm k hk)
  have lw := hW.len _ (wm k hk)
  have : vec (W.getD k []) j = 0 := by
    by_cases h3 : j < 3
    · rcases (by omega : j = 0 ∨ j = 1 ∨ j = 2) with rfl | rfl | rfl <;> assumption
    · exact vec_out lw (by omega)
  unfold vec at this
  exact hj (by exact_mod_cast this)
/-- what is told of some cuts: nought less one where they don't meet, else how many ways -/
def KindOk (n : Nat) (P : List (List Int × Int)) (z : Int) : Prop := (z = -1 ∧ ¬ Mt P) ∨ ∃ W : List (List Int), z = (W.length : Int) ∧ Mt P ∧ Ways n (P.map (·.1)) W
theorem kind_same {n : Nat} {P P' : List (List Int × Int)} {z z' : Int} (n3 : n ≤ 3) (h : KindOk n P z) (h' : KindOk n P' z') (hm : Mt P ↔ Mt P') (hk : ∀ x : Nat → Rat, (∀ p ∈ P, dt p.1 x = 0) ↔ ∀ p ∈ P', dt p.1 x = 0) : z = z' := by
  have mm : ∀ {Q : List (List Int × Int)} {x : Nat → Rat}, (∀ b ∈ Q.map (·.1), dt b x = 0) ↔ ∀ p ∈ Q, dt p.1 x = 0 := fun {Q x} => by
    constructor
    · intro h p hp; exact h _ (List.mem_map_of_mem hp)
    · intro h b hb
      obtain ⟨p, hp, rfl⟩ := List.mem_map.mp hb
      exact h p hp
  rcases h with ⟨rfl, a⟩ | ⟨W, rfl, a, w⟩
  · rcases h' with ⟨rfl, b⟩ | ⟨V, rfl, b, v⟩
    · rfl
    · exact absurd (hm.mpr b) a
  · rcases h' with ⟨rfl, b⟩ | ⟨V, rfl, b, v⟩
    · exact absurd (hm.mp a) b
    · have l1 := ways_le (E := []) n3 w v fun x hx _ => mm.mpr ((hk x).mp (mm.mp hx.2))
      have l2 := ways_le (E := []) n3 v w fun x hx _ => mm.mpr ((hk x).mpr (mm.mp hx.2))
      simp only [List.length_nil] at l1 l2
      omega
theorem kind_less {n : Nat} {P : List (List Int × Int)} {p : List Int × Int} {z zb : Int} (n3 : n ≤ 3) (h : KindOk n (P ++ [p]) z) (h' : KindOk n P zb) (h0 : 0 ≤ z) : z ≤ zb ∧ zb ≤ z + 1 := by
  rcases h with ⟨rfl, a⟩ | ⟨W, rfl, ⟨x, a⟩, w⟩
  · omega
  · rcases h' with ⟨rfl, b⟩ | ⟨V, rfl, b, v⟩
    · exact absurd ⟨x, fun q hq => a q (List.mem_append.mpr (.inl hq))⟩ b
    · rw [List.map_append] at w
      have l1 := ways_le (E := []) n3 w v fun x hx _ b hb => hx.2 b (List.mem_append.mpr (.inl hb))
      have l2 := ways_le (E := [p.1]) n3 v w fun x hx he b hb => by
        rcases List.mem_append.mp hb with q | q
        · exact hx.2 b q
        · simp only [List.map_cons, List.map_nil, List.mem_singleton] at q
          rw [q]; exact he _ List.mem_cons_self
      simp only [List.length_nil, List.length_cons] at l1 l2
      omega
theorem eqm_ap : eqD (.str "apart") (.str "apart") = .ok (.bl true) := by
  rw [eqD_ok (by simp only [eqOk_s]; decide +kernel) (by simp only [eqOk_s]; decide +kernel), deq_s, beq_self_eq_true]
theorem eqm_met : eqD (.str "met") (.str "apart") = .ok (.bl false) := by
  rw [eqD_ok (by simp only [eqOk_s]; decide +kernel) (by simp only [eqOk_s]; decide +kernel), deq_s]
  exact congrArg (fun b => Res.ok (D.bl b)) (by decide +kernel)
def ksD (ks : List Nat) : D := .lst (ks.map fun k : Nat => D.int (k : Int))
theorem v__law_kind {n : Nat} {C : List (List Int × Int)} {ks : List Nat} (h : CsOk n C) (hB : CsB 92 C) (hn : ks.Nodup) (hk : ∀ k ∈ ks, k < C.length) : ∃ z : Int, d__law_kind [kD n C, ksD ks] = .ok (.val (.int z)) ∧ KindOk n (pick C ks) z := by
  have e1 := eqm_ap
  have e2 := eqm_met
  rcases v_meet h hB hn hk with ⟨ws, e, p, _⟩ | ⟨S, W, e, _, _, hs, w, _⟩
  · refine ⟨-1, ?_, .inl ⟨rfl, fun ⟨x, hx⟩ => p.no (metR_mt.mpr hx)⟩⟩
    unfold ksD
    generalize kD n C = K at *
    generalize (ks.map fun k : Nat => D.int (k : Int)) = L at *
    generalize ws.map D.int = V at *
    simp [d__law_kind_eq, s__law_kind, start_eq, e, e1]
  · refine ⟨(W.length : Int), ?_, .inr ⟨W, rfl, ⟨pt S, metR_mt.mp hs⟩, w⟩⟩
    unfold ksD
    have lw : (W.map sD).length = W.length := by simp
    generalize (W.length : Nat) = wl at *
    generalize kD n C = K at *
    generalize (ks.map fun k : Nat => D.int (k : Int)) = L at *
    generalize W.map sD = V at *
    generalize S.map qD = Q at *
    simp [d__law_kind_eq, s__law_kind, start_eq, e, e2, lw]

noncomputable def c__law_lists_1 : BEnv → Res D := Classical.choose (⟨(e2 addD (eVar 5) (lstD (oLst (aCons (eVar 7) aNil)))), rfl⟩ : ∃ y : BEnv → Res D, y = (e2 addD (eVar 5) (lstD (oLst (aCons (eVar 7) aNil)))))
theorem c__law_lists_1_eq : c__law_lists_1 = (e2 addD (eVar 5) (lstD (oLst (aCons (eVar 7) aNil)))) := Classical.choose_spec (⟨(e2 addD (eVar 5) (lstD (oLst (aCons (eVar 7) aNil)))), rfl⟩ : ∃ y : BEnv → Res D, y = (e2 addD (eVar 5) (lstD (oLst (aCons (eVar 7) aNil)))))
noncomputable def b__law_lists_1 : PL.Env → Res Fl := Classical.choose (⟨(sSeq (sSet 6 (eIf (tst (e2 neD (eVar 5) (lstD (oLst aNil)))) (e2 addD (e2 ixD (eVar 5) (e1 negD (eC (.int 1)))) (eC (.int 1))) (eC (.int 0))))
    (sSet 4 (e2 addD (eVar 4) (lstD (oComp [7] (iRng2 (aCons (eVar 6) (aCons (eVar 0) aNil))) (pName 7) cTrue c__law_lists_1))))), rfl⟩ : ∃ y : PL.Env → Res Fl, y = (sSeq (sSet 6 (eIf (tst (e2 neD (eVar 5) (lstD (oLst aNil)))) (e2 addD (e2 ixD (eVar 5) (e1 negD (eC (.int 1)))) (eC (.int 1))) (eC (.int 0))))
    (sSet 4 (e2 addD (eVar 4) (lstD (oComp [7] (iRng2 (aCons (eVar 6) (aCons (eVar 0) aNil))) (pName 7) cTrue c__law_lists_1))))))
theorem b__law_lists_1_eq : b__law_lists_1 = (sSeq (sSet 6 (eIf (tst (e2 neD (eVar 5) (lstD (oLst aNil)))) (e2 addD (e2 ixD (eVar 5) (e1 negD (eC (.int 1)))) (eC (.int 1))) (eC (.int 0))))
    (sSet 4 (e2 addD (eVar 4) (lstD (oComp [7] (iRng2 (aCons (eVar 6) (aCons (eVar 0) aNil))) (pName 7) cTrue c__law_lists_1))))) := Classical.choose_spec (⟨(sSeq (sSet 6 (eIf (tst (e2 neD (eVar 5) (lstD (oLst aNil)))) (e2 addD (e2 ixD (eVar 5) (e1 negD (eC (.int 1)))) (eC (.int 1))) (eC (.int 0))))
    (sSet 4 (e2 addD (eVar 4) (lstD (oComp [7] (iRng2 (aCons (eVar 6) (aCons (eVar 0) aNil))) (pName 7) cTrue c__law_lists_1))))), rfl⟩ : ∃ y : PL.Env → Res Fl, y = (sSeq (sSet 6 (eIf (tst (e2 neD (eVar 5) (lstD (oLst aNil)))) (e2 addD (e2 ixD (eVar 5) (e1 negD (eC (.int 1)))) (eC (.int 1))) (eC (.int 0))))
    (sSet 4 (e2 addD (eVar 4) (lstD (oComp [7] (iRng2 (aCons (eVar 6) (aCons (eVar 0) aNil))) (pName 7) cTrue c__law_lists_1))))))
noncomputable def c__law_lists_2 : BEnv → Res D := Classical.choose (⟨(eVar 5), rfl⟩ : ∃ y : BEnv → Res D, y = (eVar 5))
theorem c__law_lists_2_eq : c__law_lists_2 = (eVar 5) := Classical.choose_spec (⟨(eVar 5), rfl⟩ : ∃ y : BEnv → Res D, y = (eVar 5))
noncomputable def i__law_lists_1 : BEnv → Res Bool := Classical.choose (⟨(tst (e2 ninDT (eVar 5) (eVar 2))), rfl⟩ : ∃ y : BEnv → Res Bool, y = (tst (e2 ninDT (eVar 5) (eVar 2))))
theorem i__law_lists_1_eq : i__law_lists_1 = (tst (e2 ninDT (eVar 5) (eVar 2))) := Classical.choose_spec (⟨(tst (e2 ninDT (eVar 5) (eVar 2))), rfl⟩ : ∃ y : BEnv → Res Bool, y = (tst (e2 ninDT (eVar 5) (eVar 2))))
noncomputable def b__law_lists_2 : PL.Env → Res Fl := Classical.choose (⟨(sSeq (sSet 4 (lstD (oLst aNil)))
    (sSeq (sFor (iSeq (eVar 2)) (pName 5) b__law_lists_1)
    (sSet 2 (e2 addD (eVar 2) (lstD (oComp [5] (iSeq (eVar 4)) (pName 5) i__law_lists_1 c__law_lists_2)))))), rfl⟩ : ∃ y : PL.Env → Res Fl, y = (sSeq (sSet 4 (lstD (oLst aNil)))
    (sSeq (sFor (iSeq (eVar 2)) (pName 5) b__law_lists_1)
    (sSet 2 (e2 addD (eVar 2) (lstD (oComp [5] (iSeq (eVar 4)) (pName 5) i__law_lists_1 c__law_lists_2)))))))
theorem b__law_lists_2_eq : b__law_lists_2 = (sSeq (sSet 4 (lstD (oLst aNil)))
    (sSeq (sFor (iSeq (eVar 2)) (pName 5) b__law_lists_1)
    (sSet 2 (e2 addD (eVar 2) (lstD (oComp [5] (iSeq (eVar 4)) (pName 5) i__law_lists_1 c__law_lists_2)))))) := Classical.choose_spec (⟨(sSeq (sSet 4 (lstD (oLst aNil)))
    (sSeq (sFor (iSeq (eVar 2)) (pName 5) b__law_lists_1)
    (sSet 2 (e2 addD (eVar 2) (lstD (oComp [5] (iSeq (eVar 4)) (pName 5) i__law_lists_1 c__law_lists_2)))))), rfl⟩ : ∃ y : PL.Env → Res Fl, y = (sSeq (sSet 4 (lstD (oLst aNil)))
    (sSeq (sFor (iSeq (eVar 2)) (pName 5) b__law_lists_1)
    (sSet 2 (e2 addD (eVar 2) (lstD (oComp [5] (iSeq (eVar 4)) (pName 5) i__law_lists_1 c__law_lists_2)))))))
noncomputable def s__law_lists : PL.Env → Res Fl := (sSeq (sSet 2 (lstD (oLst (aCons (lstD (oLst aNil)) aNil))))
    (sSeq (sForR (iRng1 (aCons (eVar 1) aNil)) (pName 3) b__law_lists_2)
    (sRet (eVar 2))))
noncomputable def d__law_lists : List D → Res Cell := Classical.choose (⟨runB 8 2 s__law_lists, rfl⟩ : ∃ y : List D → Res Cell, y = runB 8 2 s__law_lists)
theorem d__law_lists_eq : d__law_lists = runB 8 2 s__law_lists := Classical.choose_spec (⟨runB 8 2 s__law_lists, rfl⟩ : ∃ y : List D → Res Cell, y = runB 8 2 s__law_lists)
/-- a rising list of numbers below m -/
structure Ris (m : Nat) (ks : List Nat) : Prop where
  up : ks.Pairwise (· < ·)
  lt : ∀ k ∈ ks, k < m
theorem Ris.nd {m : Nat} {ks : List Nat} (h : Ris m ks) : ks.Nodup := h.up.imp fun a => Nat.ne_of_lt a
theorem Ris.le {m : Nat} {ks : List Nat} (h : Ris m ks) : ks.length ≤ m := by
  have := List.Nodup.length_le_of_subset (l₁ := ks) (l₂ := List.range m) h.nd fun k q => List.mem_range.mpr (h.lt k q)
  rwa [List.length_range] at this
theorem Ris.snoc {m : Nat} {ks : List Nat} {k : Nat} (h : Ris m ks) (hk : k < m) (hl : ∀ j ∈ ks, j < k) : Ris m (ks ++ [k]) := by
  refine ⟨List.pairwise_append.mpr ⟨h.up, List.pairwise_singleton _ _, fun a ha b hb => by rw [List.mem_singleton.mp hb]; exact hl a ha⟩, fun j hj => ?_⟩
  rcases List.mem_append.mp hj with q | q
  · exact h.lt j q
  · rw [List.mem_singleton.mp q]; exact hk
theorem eqOk_ks (ks : List Nat) (t : Nat) : eqOk (t + 2) (ksD ks) = true := by
  have e : (ks.map fun k : Nat => D.int (k : Int)) = (ks.map fun k : Nat => (k : Int)).map D.int := by rw [List.map_map]; rfl
  unfold ksD
  rw [e, eqOk_l]
  have := eqOks_ints (n := t + 1) (ks.map fun k : Nat => (k : Int))
  simpa using this
theorem eqOks_ks (F : List (List Nat)) : eqOks 59 (F.map ksD) = true := by
  induction F with
  | nil => simp
  | cons a l ih =>
    simp only [List.map_cons, eqOks_cons, ih, Bool.and_true]
    exact eqOk_ks a 57
theorem nin_ks (ks : List Nat) (F : List (List Nat)) : ninDT (ksD ks) (.lst (F.map ksD)) = .ok (.bl (!((F.map ksD).any fun z => deq z (ksD ks)))) := by
  show (if eqOk 60 (ksD ks) = true ∧ eqOks 59 (F.map ksD) = true then Res.ok (D.bl (!(F.map ksD).any fun z => deq z (ksD ks))) else .bad) = _
  rw [if_pos ⟨eqOk_ks ks 58, eqOks_ks F⟩]
theorem ne_ks (ks : List Nat) : neD (ksD ks) (.lst []) = .ok (.bl (!decide (ks = []))) := by
  have := eqOk_ks ks 58
  unfold ksD at *
  cases ks with
  | nil => simp
  | cons a l =>
    simp only [List.map_cons] at *
    simp [neD_ll] at this ⊢
    exact this
abbrev EL (e0 e1 e2 e3 e4 e5 e6 e7 : Option Cell) : PL.Env := [e0, e1, e2, e3, e4, e5, e6, e7]
theorem b1_lists {m : Nat} {ks : List Nat} {L : List (List Nat)} {x1 x2 x3 x6 : Option Cell} (m7 : m ≤ 7) (h : Ris m ks) (hL : ∀ l ∈ L, Ris m l) (lL : L.length ≤ 7000) :
    ∃ (L' : List (List Nat)) (y6 : Option Cell), b__law_lists_1 (EL (some (.val (.int (m : Int)))) x1 x2 x3 (some (.val (.lst (L.map ksD)))) (some (.val (ksD ks))) x6 none) = .ok (.nx (EL (some (.val (.int (m : Int)))) x1 x2 x3 (some (.val (.lst (L'.map ksD)))) (some (.val (ksD ks))) y6 none)) ∧ (∀ l ∈ L', Ris m l) ∧ L'.length ≤ L.length + 7 := by
  have lk := h.le
  have ne := ne_ks ks
  obtain ⟨b, hb, hbl, hb7⟩ : ∃ b : Nat, (sSet 6 (eIf (tst (e2 neD (eVar 5) (lstD (oLst aNil)))) (e2 addD (e2 ixD (eVar 5) (e1 negD (eC (.int 1)))) (eC (.int 1))) (eC (.int 0)))) (EL (some (.val (.int (m : Int)))) x1 x2 x3 (some (.val (.lst (L.map ksD)))) (some (.val (ksD ks))) x6 none) = .ok (.nx (EL (some (.val (.int (m : Int)))) x1 x2 x3 (some (.val (.lst (L.map ksD)))) (some (.val (ksD ks))) (some (.val (.int (b : Int)))) none)) ∧ (∀ k, b ≤ k → ∀ j ∈ ks, j < k) ∧ b ≤ 7 := by
    by_cases hz : ks = []
    · subst hz
      refine ⟨0, ?_, fun k _ j hj => absurd hj List.not_mem_nil, by decide⟩
      generalize ksD [] = K at *
      generalize L.map ksD = LL at *
      simp at ne
      simp [ne]
    · have p := List.dropLast_concat_getLast hz
      obtain ⟨d, hd⟩ : ∃ d, ks.getLast hz = d := ⟨_, rfl⟩
      rw [hd] at p
      have dm : d < m := h.lt d (by rw [← hd]; exact List.getLast_mem _)
      refine ⟨d + 1, ?_, fun k hk j hj => ?_, by omega⟩
      · have ix : ixD (ksD ks) (.int (-1)) = .ok (.int (d : Int)) := by
          unfold ksD
          rw [← p, List.map_append]
          have := at_last (l := (ks.dropLast).map fun k : Nat => D.int (k : Int)) (d := .int (d : Int))
          simpa using this
        generalize ksD ks = K at *
        generalize L.map ksD = LL at *
        simp [hz] at ne
        simp [ne, ix]
      · have : j ≤ d := by
          rw [← p] at hj
          rcases List.mem_append.mp hj with q | q
          · have up := h.up
            rw [← p] at up
            exact Nat.le_of_lt ((List.pairwise_append.mp up).2.2 j q d List.mem_cons_self)
          · rw [List.mem_singleton.mp q]; exact Nat.le_refl _
        omega
  obtain ⟨X, hX, lX, gX⟩ := comp_gen (enc := ksD) (P := Ris m) (p := pName 7) (f := c__law_lists_1) (env := [some (.int (m : Int)), cleanC x1, cleanC x2, cleanC x3, some (.lst (L.map ksD)), some (ksD ks), some (.int (b : Int)), none]) (rngD (b : Int) ((m : Int) - (b : Int)).toNat) (by
    intro d hd
    obtain ⟨i, hi, rfl⟩ := mem_rng hd
    have hk := hbl (b + i) (by omega)
    refine ⟨[(7, .int ((b : Int) + i))], ks ++ [b + i], rfl, ?_, h.snoc (by omega) hk⟩
    show c__law_lists_1 [_, _, _, _, _, some (ksD ks), _, some (.int ((b : Int) + i))] = _
    have e : ksD (ks ++ [b + i]) = .lst ((ks.map fun k : Nat => D.int (k : Int)) ++ [.int ((b : Int) + i)]) := by
      unfold ksD; simp
    rw [e]
    unfold ksD
    have lq : (ks.map fun k : Nat => D.int (k : Int)).length ≤ 7 := by rw [List.length_map]; omega
    generalize (ks.map fun k : Nat => D.int (k : Int)) = Z at *
    simp [c__law_lists_1_eq]
    omega)
  rw [rng_len] at lX
  have rg := x_rng2K (i := (b : Int)) (j := (m : Int)) (rngOk_of (by omega) (by omega)) (rngOk_of (by omega) (by omega))
  have lr : (rngD (b : Int) ((m : Int) - (b : Int)).toNat).length ≤ 1000000 := by rw [rng_len]; omega
  refine ⟨L ++ X, some (.val (.int (b : Int))), ?_, fun l hl => ?_, by rw [List.length_append]; omega⟩
  · have eA : (L ++ X).map ksD = L.map ksD ++ X.map ksD := List.map_append
    rw [eA]
    have la : (L.map ksD).length + (X.map ksD).length ≤ 1000000 := by rw [List.length_map, List.length_map]; omega
    rw [b__law_lists_1_eq]
    generalize rngD (b : Int) ((m : Int) - (b : Int)).toNat = R at *
    generalize L.map ksD = LL at *
    generalize X.map ksD = XX at *
    generalize ksD ks = K at *
    generalize (m : Int) = mz at *
    generalize (b : Int) = bz at *
    refine (seq_nx (e1 := EL (some (.val (.int mz))) x1 x2 x3 (some (.val (.lst LL))) (some (.val K)) (some (.val (.int bz))) none) hb).trans ?_
    simp [x_comp, rg, lr, hX, la]
  · rcases List.mem_append.mp hl with q | q
    · exact hL l q
    · exact gX l q
theorem b2_lists {m j : Nat} {F : List (List Nat)} {x1 x3 x4 x5 x6 : Option Cell} (m7 : m ≤ 7) (hF : ∀ l ∈ F, Ris m l) (lF : F.length ≤ 8 ^ j) (hj : j < 3) :
    ∃ (F' : List (List Nat)) (y4 y5 y6 : Option Cell), b__law_lists_2 (EL (some (.val (.int (m : Int)))) x1 (some (.val (.lst (F.map ksD)))) x3 x4 x5 x6 none) = .ok (.nx (EL (some (.val (.int (m : Int)))) x1 (some (.val (.lst (F'.map ksD)))) x3 y4 y5 y6 none)) ∧ (∀ l ∈ F', Ris m l) ∧ F'.length ≤ 8 ^ (j + 1) := by
  have p8 : (8 : Nat) ^ j ≤ 8 ^ 2 := Nat.pow_le_pow_right (by decide) (by omega)
  have p9 : (8 : Nat) ^ (j + 1) = 8 ^ j * 8 := Nat.pow_succ 8 j
  obtain ⟨env1, hf1, L, x5', x6', rfl, gL, lL⟩ := for_inv (p := pName 5) (s := b__law_lists_1) (fun i env => ∃ (L : List (List Nat)) (x5 x6 : Option Cell), env = EL (some (.val (.int (m : Int)))) x1 (some (.val (.lst (F.map ksD)))) x3 (some (.val (.lst (L.map ksD)))) x5 x6 none ∧ (∀ l ∈ L, Ris m l) ∧ L.length ≤ 7 * i) (F.map ksD) (EL (some (.val (.int (m : Int)))) x1 (some (.val (.lst (F.map ksD)))) x3 (some (.val (.lst []))) x5 x6 none) 0 ⟨[], x5, x6, rfl, fun _ h => absurd h List.not_mem_nil, Nat.le_refl _⟩ (by
    rintro i hi0 env ⟨L, x5, x6, rfl, gL, lL⟩
    rw [Nat.zero_add] at lL ⊢
    have hi : i < F.length := by simpa using hi0
    have e : (F.map ksD)[i] = ksD F[i] := by simp
    rw [e]
    obtain ⟨L', y6, hb, gL', lL'⟩ := b1_lists (x1 := x1) (x2 := some (.val (.lst (F.map ksD)))) (x3 := x3) (x6 := x6) m7 (hF _ (List.getElem_mem hi)) gL (by omega)
    exact ⟨[(5, ksD F[i])], _, rfl, .inl hb, L', _, y6, rfl, gL', by omega⟩)
  rw [Nat.zero_add, List.length_map] at lL
  have nf : ∀ ks : List Nat, ninDT (ksD ks) (.lst (F.map ksD)) = .ok (.bl (!((F.map ksD).any fun z => deq z (ksD ks)))) := fun ks => nin_ks ks F
  have cf : compD (pName 5) i__law_lists_1 c__law_lists_2 [some (.int (m : Int)), cleanC x1, some (.lst (F.map ksD)), cleanC x3, some (.lst (L.map ksD)), none, cleanC x6', none] (L.map ksD) = .ok ((L.filter fun ks => !((F.map ksD).any fun z => deq z (ksD ks))).map ksD) := by
    refine comp_filter (dec := ksD) (fun ks => !((F.map ksD).any fun z => deq z (ksD ks))) L fun ks _ => ⟨[(5, ksD ks)], rfl, ?_, ?_⟩
    · show i__law_lists_1 [_, _, some (.lst (F.map ksD)), _, _, some (ksD ks), _, _] = _
      have := nf ks
      generalize ((F.map ksD).any fun z => deq z (ksD ks)) = B at *
      generalize ksD ks = K at *
      generalize F.map ksD = FF at *
      simp [i__law_lists_1_eq, -x_ninDT_l, this]
    · show c__law_lists_2 [_, _, _, _, _, some (ksD ks), _, _] = _
      simp [c__law_lists_2_eq]
  obtain ⟨G, hG⟩ : ∃ G, (L.filter fun ks => !((F.map ksD).any fun z => deq z (ksD ks))) = G := ⟨_, rfl⟩
  rw [hG] at cf
  have gG : ∀ l ∈ G, Ris m l := fun l hl => by
    rw [← hG] at hl
    exact gL l (List.mem_filter.mp hl).1
  have lG : G.length ≤ L.length := by rw [← hG]; exact List.length_filter_le _ _
  refine ⟨F ++ G, some (.val (.lst (L.map ksD))), x5', x6', ?_, fun l hl => ?_, by rw [List.length_append]; omega⟩
  · have eA : (F ++ G).map ksD = F.map ksD ++ G.map ksD := List.map_append
    rw [eA]
    have la : (F.map ksD).length + (G.map ksD).length ≤ 1000000 := by rw [List.length_map, List.length_map]; omega
    have lL6 : (L.map ksD).length ≤ 1000000 := by rw [List.length_map]; omega
    clear nf
    generalize F.map ksD = FF at *
    generalize G.map ksD = GG at *
    generalize L.map ksD = LL at *
    generalize (m : Int) = mz at *
    rw [b__law_lists_2_eq]
    refine (seq_nx (e1 := EL (some (.val (.int mz))) x1 (some (.val (.lst FF))) x3 (some (.val (.lst []))) x5 x6 none) (by simp)).trans ?_
    refine (seq_nx (e1 := EL (some (.val (.int mz))) x1 (some (.val (.lst FF))) x3 (some (.val (.lst LL))) x5' x6' none) (by simp [hf1])).trans ?_
    simp [x_comp, lL6, cf, la]
  · rcases List.mem_append.mp hl with q | q
    · exact hF l q
    · exact gG l q
theorem v__law_lists {m k : Nat} (m7 : m ≤ 7) (hk : k ≤ 3) : ∃ F : List (List Nat), d__law_lists [.int (m : Int), .int (k : Int)] = .ok (.val (.lst (F.map ksD))) ∧ (∀ l ∈ F, Ris m l) ∧ F.length ≤ 512 := by
  obtain ⟨env1, hf1, F, x3, x4, x5, x6, rfl, gF, lF⟩ := forR_inv (p := pName 3) (s := b__law_lists_2) (lo := 0) (n := k) (env := EL (some (.val (.int (m : Int)))) (some (.val (.int (k : Int)))) (some (.val (.lst (([[]] : List (List Nat)).map ksD)))) none none none none none) (fun j env => ∃ (F : List (List Nat)) (x3 x4 x5 x6 : Option Cell), env = EL (some (.val (.int (m : Int)))) (some (.val (.int (k : Int)))) (some (.val (.lst (F.map ksD)))) x3 x4 x5 x6 none ∧ (∀ l ∈ F, Ris m l) ∧ F.length ≤ 8 ^ j) ⟨[[]], none, none, none, none, rfl, fun l hl => by
      rw [List.mem_singleton.mp hl]; exact ⟨List.Pairwise.nil, fun _ h => absurd h List.not_mem_nil⟩, by decide⟩ (by
    rintro j hj env ⟨F, x3, x4, x5, x6, rfl, gF, lF⟩
    rw [Int.zero_add]
    obtain ⟨F', y4, y5, y6, hb, gF', lF'⟩ := b2_lists (x1 := some (.val (.int (k : Int)))) (x3 := some (.val (.int (j : Int)))) (x4 := x4) (x5 := x5) (x6 := x6) m7 gF lF (by omega)
    exact ⟨[(3, .int (j : Int))], _, rfl, .inl hb, F', _, y4, y5, y6, rfl, gF', lF'⟩)
  have p8 : (8 : Nat) ^ k ≤ 8 ^ 3 := Nat.pow_le_pow_right (by decide) hk
  have rk : rng1K (.int (k : Int)) = .ok (rngD 0 k) := x_rng1N (n := k) (by omega)
  refine ⟨F, ?_, gF, by omega⟩
  generalize rngD 0 k = R at *
  have e0 : ([[]] : List (List Nat)).map ksD = [.lst []] := rfl
  rw [e0] at hf1
  generalize F.map ksD = FF at *
  generalize (m : Int) = mz at *
  generalize (k : Int) = kz at *
  rw [d__law_lists_eq]
  refine run_rt rfl ?_
  have es : startE 8 [D.int mz, .int kz] = EL (some (.val (.int mz))) (some (.val (.int kz))) none none none none none none := rfl
  rw [es]
  unfold s__law_lists
  refine (seq_nx (e1 := EL (some (.val (.int mz))) (some (.val (.int kz))) (some (.val (.lst [.lst []]))) none none none none none) (by simp)).trans ?_
  refine (seq_nx (e1 := EL (some (.val (.int mz))) (some (.val (.int kz))) (some (.val (.lst FF))) x3 x4 x5 x6 none) (by simp [rk, hf1])).trans ?_
  simp

noncomputable def c_law_1 : BEnv → Res D := Classical.choose (⟨(e2 ixD (lstD (oLst (aCons (eC (.int 2)) (aCons (e1 negD (eC (.int 1))) (aCons (eC (.int 1)) (aCons (e1 negD (eC (.int 5))) aNil)))))) (eFn d__law_draw (aCons (eFn d__law_cell_at (aCons (eVar 0) (aCons (eC (.int 8)) aNil))) (aCons (eVar 7) (aCons (eC (.int 4)) aNil))))), rfl⟩ : ∃ y : BEnv → Res D, y = (e2 ixD (lstD (oLst (aCons (eC (.int 2)) (aCons (e1 negD (eC (.int 1))) (aCons (eC (.int 1)) (aCons (e1 negD (eC (.int 5))) aNil)))))) (eFn d__law_draw (aCons (eFn d__law_cell_at (aCons (eVar 0) (aCons (eC (.int 8)) aNil))) (aCons (eVar 7) (aCons (eC (.int 4)) aNil))))))
theorem c_law_1_eq : c_law_1 = (e2 ixD (lstD (oLst (aCons (eC (.int 2)) (aCons (e1 negD (eC (.int 1))) (aCons (eC (.int 1)) (aCons (e1 negD (eC (.int 5))) aNil)))))) (eFn d__law_draw (aCons (eFn d__law_cell_at (aCons (eVar 0) (aCons (eC (.int 8)) aNil))) (aCons (eVar 7) (aCons (eC (.int 4)) aNil))))) := Classical.choose_spec (⟨(e2 ixD (lstD (oLst (aCons (eC (.int 2)) (aCons (e1 negD (eC (.int 1))) (aCons (eC (.int 1)) (aCons (e1 negD (eC (.int 5))) aNil)))))) (eFn d__law_draw (aCons (eFn d__law_cell_at (aCons (eVar 0) (aCons (eC (.int 8)) aNil))) (aCons (eVar 7) (aCons (eC (.int 4)) aNil))))), rfl⟩ : ∃ y : BEnv → Res D, y = (e2 ixD (lstD (oLst (aCons (eC (.int 2)) (aCons (e1 negD (eC (.int 1))) (aCons (eC (.int 1)) (aCons (e1 negD (eC (.int 5))) aNil)))))) (eFn d__law_draw (aCons (eFn d__law_cell_at (aCons (eVar 0) (aCons (eC (.int 8)) aNil))) (aCons (eVar 7) (aCons (eC (.int 4)) aNil))))))
noncomputable def c_law_2 : BEnv → Res D := Classical.choose (⟨(e2 subD (eFn d__law_draw (aCons (eFn d__law_cell_at (aCons (eVar 0) (aCons (eC (.int 9)) aNil))) (aCons (eVar 14) (aCons (eC (.int 19)) aNil)))) (eC (.int 9))), rfl⟩ : ∃ y : BEnv → Res D, y = (e2 subD (eFn d__law_draw (aCons (eFn d__law_cell_at (aCons (eVar 0) (aCons (eC (.int 9)) aNil))) (aCons (eVar 14) (aCons (eC (.int 19)) aNil)))) (eC (.int 9))))
theorem c_law_2_eq : c_law_2 = (e2 subD (eFn d__law_draw (aCons (eFn d__law_cell_at (aCons (eVar 0) (aCons (eC (.int 9)) aNil))) (aCons (eVar 14) (aCons (eC (.int 19)) aNil)))) (eC (.int 9))) := Classical.choose_spec (⟨(e2 subD (eFn d__law_draw (aCons (eFn d__law_cell_at (aCons (eVar 0) (aCons (eC (.int 9)) aNil))) (aCons (eVar 14) (aCons (eC (.int 19)) aNil)))) (eC (.int 9))), rfl⟩ : ∃ y : BEnv → Res D, y = (e2 subD (eFn d__law_draw (aCons (eFn d__law_cell_at (aCons (eVar 0) (aCons (eC (.int 9)) aNil))) (aCons (eVar 14) (aCons (eC (.int 19)) aNil)))) (eC (.int 9))))
noncomputable def c_law_3 : BEnv → Res D := Classical.choose (⟨(e2 mulX (e2 ixD (eVar 3) (eVar 7)) (eVar 15)), rfl⟩ : ∃ y : BEnv → Res D, y = (e2 mulX (e2 ixD (eVar 3) (eVar 7)) (eVar 15)))
theorem c_law_3_eq : c_law_3 = (e2 mulX (e2 ixD (eVar 3) (eVar 7)) (eVar 15)) := Classical.choose_spec (⟨(e2 mulX (e2 ixD (eVar 3) (eVar 7)) (eVar 15)), rfl⟩ : ∃ y : BEnv → Res D, y = (e2 mulX (e2 ixD (eVar 3) (eVar 7)) (eVar 15)))
noncomputable def c_law_4 : BEnv → Res D := Classical.choose (⟨(e2 mulX (eVar 15) (eVar 16)), rfl⟩ : ∃ y : BEnv → Res D, y = (e2 mulX (eVar 15) (eVar 16)))
theorem c_law_4_eq : c_law_4 = (e2 mulX (eVar 15) (eVar 16)) := Classical.choose_spec (⟨(e2 mulX (eVar 15) (eVar 16)), rfl⟩ : ∃ y : BEnv → Res D, y = (e2 mulX (eVar 15) (eVar 16)))
noncomputable def b_law_1 : PL.Env → Res Fl := Classical.choose (⟨(sSeq (sApp 5 (eCall tupleD (aCons (lstD (oComp [15] (iSeq (e2 ixD (eVar 2) (eVar 7))) (pName 15) cTrue c_law_3)) aNil)))
    (sSeq (sSet 8 (eCall sumD (aCons (lstD (oComp [15, 16] (zip2D (aCons (e2 ixD (eVar 2) (eVar 7)) (aCons (eVar 4) aNil))) (pTup (pCons (pName 15) (pCons (pName 16) pNil))) cTrue c_law_4)) aNil)))
    (sApp 6 (e2 addD (eSl (e2 ixD (eVar 2) (eVar 7)) oNo (oSome (eVar 1))) (eTup (aCons (e2 addD (e2 ixD (e2 ixD (eVar 2) (eVar 7)) (eVar 1)) (eVar 8)) aNil)))))), rfl⟩ : ∃ y : PL.Env → Res Fl, y = (sSeq (sApp 5 (eCall tupleD (aCons (lstD (oComp [15] (iSeq (e2 ixD (eVar 2) (eVar 7))) (pName 15) cTrue c_law_3)) aNil)))
    (sSeq (sSet 8 (eCall sumD (aCons (lstD (oComp [15, 16] (zip2D (aCons (e2 ixD (eVar 2) (eVar 7)) (aCons (eVar 4) aNil))) (pTup (pCons (pName 15) (pCons (pName 16) pNil))) cTrue c_law_4)) aNil)))
    (sApp 6 (e2 addD (eSl (e2 ixD (eVar 2) (eVar 7)) oNo (oSome (eVar 1))) (eTup (aCons (e2 addD (e2 ixD (e2 ixD (eVar 2) (eVar 7)) (eVar 1)) (eVar 8)) aNil)))))))
theorem b_law_1_eq : b_law_1 = (sSeq (sApp 5 (eCall tupleD (aCons (lstD (oComp [15] (iSeq (e2 ixD (eVar 2) (eVar 7))) (pName 15) cTrue c_law_3)) aNil)))
    (sSeq (sSet 8 (eCall sumD (aCons (lstD (oComp [15, 16] (zip2D (aCons (e2 ixD (eVar 2) (eVar 7)) (aCons (eVar 4) aNil))) (pTup (pCons (pName 15) (pCons (pName 16) pNil))) cTrue c_law_4)) aNil)))
    (sApp 6 (e2 addD (eSl (e2 ixD (eVar 2) (eVar 7)) oNo (oSome (eVar 1))) (eTup (aCons (e2 addD (e2 ixD (e2 ixD (eVar 2) (eVar 7)) (eVar 1)) (eVar 8)) aNil)))))) := Classical.choose_spec (⟨(sSeq (sApp 5 (eCall tupleD (aCons (lstD (oComp [15] (iSeq (e2 ixD (eVar 2) (eVar 7))) (pName 15) cTrue c_law_3)) aNil)))
    (sSeq (sSet 8 (eCall sumD (aCons (lstD (oComp [15, 16] (zip2D (aCons (e2 ixD (eVar 2) (eVar 7)) (aCons (eVar 4) aNil))) (pTup (pCons (pName 15) (pCons (pName 16) pNil))) cTrue c_law_4)) aNil)))
    (sApp 6 (e2 addD (eSl (e2 ixD (eVar 2) (eVar 7)) oNo (oSome (eVar 1))) (eTup (aCons (e2 addD (e2 ixD (e2 ixD (eVar 2) (eVar 7)) (eVar 1)) (eVar 8)) aNil)))))), rfl⟩ : ∃ y : PL.Env → Res Fl, y = (sSeq (sApp 5 (eCall tupleD (aCons (lstD (oComp [15] (iSeq (e2 ixD (eVar 2) (eVar 7))) (pName 15) cTrue c_law_3)) aNil)))
    (sSeq (sSet 8 (eCall sumD (aCons (lstD (oComp [15, 16] (zip2D (aCons (e2 ixD (eVar 2) (eVar 7)) (aCons (eVar 4) aNil))) (pTup (pCons (pName 15) (pCons (pName 16) pNil))) cTrue c_law_4)) aNil)))
    (sApp 6 (e2 addD (eSl (e2 ixD (eVar 2) (eVar 7)) oNo (oSome (eVar 1))) (eTup (aCons (e2 addD (e2 ixD (e2 ixD (eVar 2) (eVar 7)) (eVar 1)) (eVar 8)) aNil)))))))
noncomputable def c_law_5 : BEnv → Res D := Classical.choose (⟨(eFn d__law_kind (aCons (eVar 17) (aCons (eVar 11) aNil))), rfl⟩ : ∃ y : BEnv → Res D, y = (eFn d__law_kind (aCons (eVar 17) (aCons (eVar 11) aNil))))
theorem c_law_5_eq : c_law_5 = (eFn d__law_kind (aCons (eVar 17) (aCons (eVar 11) aNil))) := Classical.choose_spec (⟨(eFn d__law_kind (aCons (eVar 17) (aCons (eVar 11) aNil))), rfl⟩ : ∃ y : BEnv → Res D, y = (eFn d__law_kind (aCons (eVar 17) (aCons (eVar 11) aNil))))
noncomputable def b_law_2 : PL.Env → Res Fl := Classical.choose (⟨(sSeq (sSet 12 (eFn d__law_kind (aCons (eVar 9) (aCons (eVar 11) aNil))))
    (sSeq (sIf (tOrD (tst (e2 neD (eFn d__law_kind (aCons (eVar 9) (aCons (eRev (eVar 11)) aNil))) (eVar 12))) (tst (e2 neD (lstD (oComp [17] (iSeq (eVar 10)) (pName 17) cTrue c_law_5)) (lstD (oLst (aCons (eVar 12) (aCons (eVar 12) aNil))))))) (sRet (eC (.bl false))) sNil)
    (sIf (tst (e2 neD (eVar 11) (lstD (oLst aNil)))) (sSeq (sSet 13 (eFn d__law_kind (aCons (eVar 9) (aCons (eSl (eVar 11) oNo (oSome (e1 negD (eC (.int 1))))) aNil))))
    (sIf (tOrD (tAndD (tst (e2 geD (eVar 12) (eC (.int 0)))) (tNotD (tst (eChain leD leD (eVar 12) (eVar 13) (e2 addD (eVar 12) (eC (.int 1))))))) (tAndD (tst (e2 ltD (eVar 13) (eC (.int 0)))) (tst (e2 geD (eVar 12) (eC (.int 0)))))) (sRet (eC (.bl false))) sNil)) sNil))), rfl⟩ : ∃ y : PL.Env → Res Fl, y = (sSeq (sSet 12 (eFn d__law_kind (aCons (eVar 9) (aCons (eVar 11) aNil))))
    (sSeq (sIf (tOrD (tst (e2 neD (eFn d__law_kind (aCons (eVar 9) (aCons (eRev (eVar 11)) aNil))) (eVar 12))) (tst (e2 neD (lstD (oComp [17] (iSeq (eVar 10)) (pName 17) cTrue c_law_5)) (lstD (oLst (aCons (eVar 12) (aCons (eVar 12) aNil))))))) (sRet (eC (.bl false))) sNil)
    (sIf (tst (e2 neD (eVar 11) (lstD (oLst aNil)))) (sSeq (sSet 13 (eFn d__law_kind (aCons (eVar 9) (aCons (eSl (eVar 11) oNo (oSome (e1 negD (eC (.int 1))))) aNil))))
    (sIf (tOrD (tAndD (tst (e2 geD (eVar 12) (eC (.int 0)))) (tNotD (tst (eChain leD leD (eVar 12) (eVar 13) (e2 addD (eVar 12) (eC (.int 1))))))) (tAndD (tst (e2 ltD (eVar 13) (eC (.int 0)))) (tst (e2 geD (eVar 12) (eC (.int 0)))))) (sRet (eC (.bl false))) sNil)) sNil))))
theorem b_law_2_eq : b_law_2 = (sSeq (sSet 12 (eFn d__law_kind (aCons (eVar 9) (aCons (eVar 11) aNil))))
    (sSeq (sIf (tOrD (tst (e2 neD (eFn d__law_kind (aCons (eVar 9) (aCons (eRev (eVar 11)) aNil))) (eVar 12))) (tst (e2 neD (lstD (oComp [17] (iSeq (eVar 10)) (pName 17) cTrue c_law_5)) (lstD (oLst (aCons (eVar 12) (aCons (eVar 12) aNil))))))) (sRet (eC (.bl false))) sNil)
    (sIf (tst (e2 neD (eVar 11) (lstD (oLst aNil)))) (sSeq (sSet 13 (eFn d__law_kind (aCons (eVar 9) (aCons (eSl (eVar 11) oNo (oSome (e1 negD (eC (.int 1))))) aNil))))
    (sIf (tOrD (tAndD (tst (e2 geD (eVar 12) (eC (.int 0)))) (tNotD (tst (eChain leD leD (eVar 12) (eVar 13) (e2 addD (eVar 12) (eC (.int 1))))))) (tAndD (tst (e2 ltD (eVar 13) (eC (.int 0)))) (tst (e2 geD (eVar 12) (eC (.int 0)))))) (sRet (eC (.bl false))) sNil)) sNil))) := Classical.choose_spec (⟨(sSeq (sSet 12 (eFn d__law_kind (aCons (eVar 9) (aCons (eVar 11) aNil))))
    (sSeq (sIf (tOrD (tst (e2 neD (eFn d__law_kind (aCons (eVar 9) (aCons (eRev (eVar 11)) aNil))) (eVar 12))) (tst (e2 neD (lstD (oComp [17] (iSeq (eVar 10)) (pName 17) cTrue c_law_5)) (lstD (oLst (aCons (eVar 12) (aCons (eVar 12) aNil))))))) (sRet (eC (.bl false))) sNil)
    (sIf (tst (e2 neD (eVar 11) (lstD (oLst aNil)))) (sSeq (sSet 13 (eFn d__law_kind (aCons (eVar 9) (aCons (eSl (eVar 11) oNo (oSome (e1 negD (eC (.int 1))))) aNil))))
    (sIf (tOrD (tAndD (tst (e2 geD (eVar 12) (eC (.int 0)))) (tNotD (tst (eChain leD leD (eVar 12) (eVar 13) (e2 addD (eVar 12) (eC (.int 1))))))) (tAndD (tst (e2 ltD (eVar 13) (eC (.int 0)))) (tst (e2 geD (eVar 12) (eC (.int 0)))))) (sRet (eC (.bl false))) sNil)) sNil))), rfl⟩ : ∃ y : PL.Env → Res Fl, y = (sSeq (sSet 12 (eFn d__law_kind (aCons (eVar 9) (aCons (eVar 11) aNil))))
    (sSeq (sIf (tOrD (tst (e2 neD (eFn d__law_kind (aCons (eVar 9) (aCons (eRev (eVar 11)) aNil))) (eVar 12))) (tst (e2 neD (lstD (oComp [17] (iSeq (eVar 10)) (pName 17) cTrue c_law_5)) (lstD (oLst (aCons (eVar 12) (aCons (eVar 12) aNil))))))) (sRet (eC (.bl false))) sNil)
    (sIf (tst (e2 neD (eVar 11) (lstD (oLst aNil)))) (sSeq (sSet 13 (eFn d__law_kind (aCons (eVar 9) (aCons (eSl (eVar 11) oNo (oSome (e1 negD (eC (.int 1))))) aNil))))
    (sIf (tOrD (tAndD (tst (e2 geD (eVar 12) (eC (.int 0)))) (tNotD (tst (eChain leD leD (eVar 12) (eVar 13) (e2 addD (eVar 12) (eC (.int 1))))))) (tAndD (tst (e2 ltD (eVar 13) (eC (.int 0)))) (tst (e2 geD (eVar 12) (eC (.int 0)))))) (sRet (eC (.bl false))) sNil)) sNil))))
noncomputable def s_law : PL.Env → Res Fl := (sSeq (sSet 1 (e2 addD (eC (.int 1)) (eFn d__law_draw (aCons (eFn d__law_cell_at (aCons (eVar 0) (aCons (eC (.int 0)) aNil))) (aCons (eC (.int 0)) (aCons (eC (.int 3)) aNil))))))
    (sSeq (sSet 2 (eFn d__law_cuts (aCons (eVar 0) (aCons (eC (.int 1)) (aCons (eVar 1) (aCons (e2 addD (eC (.int 1)) (eFn d__law_draw (aCons (eFn d__law_cell_at (aCons (eVar 0) (aCons (eC (.int 0)) aNil))) (aCons (eC (.int 1)) (aCons (eC (.int 6)) aNil))))) aNil))))))
    (sSeq (sSetL 3 (oComp [7] (iRng1 (aCons (eCall lenD (aCons (eVar 2) aNil)) aNil)) (pName 7) cTrue c_law_1))
    (sSeq (sSetL 4 (oComp [14] (iRng1 (aCons (eVar 1) aNil)) (pName 14) cTrue c_law_2))
    (sSeq (sOwn 5 (oLst aNil))
    (sSeq (sOwn 6 (oLst aNil))
    (sSeq (sForR (iRng1 (aCons (eCall lenD (aCons (eVar 2) aNil)) aNil)) (pName 7) b_law_1)
    (sSeq (sSet 9 (eMake (initD d_check_cuts) (aCons (eVar 1) (aCons (eVar 2) aNil))))
    (sSeq (sSetLB 10 (oLst (aCons (eMake (initD d_check_cuts) (aCons (eVar 1) (aCons (eVar 5) aNil))) (aCons (eMake (initD d_check_cuts) (aCons (eVar 1) (aCons (eVar 6) aNil))) aNil))))
    (sSeq (sFor (iSeq (eFn d__law_lists (aCons (eCall lenD (aCons (eVar 2) aNil)) (aCons (eCall min2D (aCons (eC (.int 3)) (aCons (e2 addD (eVar 1) (eC (.int 1))) aNil))) aNil)))) (pName 11) b_law_2)
    (sRet (eC (.bl true)))))))))))))
noncomputable def d_law : List D → Res Cell := Classical.choose (⟨runB 18 1 s_law, rfl⟩ : ∃ y : List D → Res Cell, y = runB 18 1 s_law)
theorem d_law_eq : d_law = runB 18 1 s_law := Classical.choose_spec (⟨runB 18 1 s_law, rfl⟩ : ∃ y : List D → Res Cell, y = runB 18 1 s_law)
/-- the sum of two lists, each by each -/
def dotI (a s : List Int) : Int := ((a.zip s).map fun p => p.1 * p.2).sum
def shP (s : List Int) (p : List Int × Int) : List Int × Int := (p.1, p.2 + dotI p.1 s)
theorem split3 {n : Nat} {l : List Int} (n1 : 1 ≤ n) (n3 : n ≤ 3) (h : l.length = n) : (n = 1 ∧ ∃ a, l = [a]) ∨ (n = 2 ∧ ∃ a b, l = [a, b]) ∨ (n = 3 ∧ ∃ a b c, l = [a, b, c]) := by
  match l, h with
  | [a], h => exact .inl ⟨by simpa using h.symm, a, rfl⟩
  | [a, b], h => exact .inr (.inl ⟨by simpa using h.symm, a, b, rfl⟩)
  | [a, b, c], h => exact .inr (.inr ⟨by simpa using h.symm, a, b, c, rfl⟩)
  | [], h => simp at h; omega
  | a :: b :: c :: d :: l, h => simp at h; omega
theorem dot_dt {n : Nat} {a s : List Int} (n1 : 1 ≤ n) (n3 : n ≤ 3) (ha : a.length = n) (hs : s.length = n) : ((dotI a s : Int) : Rat) = dt a (vec s) := by
  rcases split3 n1 n3 ha with ⟨rfl, x, rfl⟩ | ⟨rfl, x, y, rfl⟩ | ⟨rfl, x, y, z, rfl⟩ <;> rcases split3 n1 n3 hs with ⟨q, u, rfl⟩ | ⟨q, u, v, rfl⟩ | ⟨q, u, v, w, rfl⟩ <;> first | omega | (simp [dotI, dt, vec, Rat.intCast_add, Rat.intCast_mul]; try grind)
theorem sameB_iff {u v : List Int} : sameB u v = true ↔ ∀ k, k < u.length → ∀ j, j < k → u.getD k 0 * v.getD j 0 = u.getD j 0 * v.getD k 0 := by
  unfold sameB
  exact decide_eq_true_iff
theorem sh_same {n : Nat} {s : List Int} {p q : List Int × Int} (n1 : 1 ≤ n) (n3 : n ≤ 3) (hs : s.length = n) (hp : p.1.length = n) (hq : q.1.length = n) (h : sameB (full (shP s p)) (full (shP s q)) = true) : sameB (full p) (full q) = true := by
  obtain ⟨p1, pc⟩ := p
  obtain ⟨q1, qc⟩ := q
  rw [sameB_iff] at h ⊢
  unfold full shP at *
  simp only at hp hq h ⊢
  rcases split3 n1 n3 hs with ⟨rfl, u, rfl⟩ | ⟨rfl, u, v, rfl⟩ | ⟨rfl, u, v, w, rfl⟩
  · rcases split3 n1 n3 hp with ⟨_, a, rfl⟩ | ⟨o, _⟩ | ⟨o, _⟩ <;> try omega
    rcases split3 n1 n3 hq with ⟨_, a', rfl⟩ | ⟨o, _⟩ | ⟨o, _⟩ <;> try omega
    have h10 := h 1 (by simp) 0 (by decide)
    simp [dotI] at h10
    intro k hk j hj
    simp at hk
    have : k = 1 ∧ j = 0 := by omega
    obtain ⟨rfl, rfl⟩ := this
    simp
    grind
  · rcases split3 n1 n3 hp with ⟨o, _⟩ | ⟨_, a, b, rfl⟩ | ⟨o, _⟩ <;> try omega
    rcases split3 n1 n3 hq with ⟨o, _⟩ | ⟨_, a', b', rfl⟩ | ⟨o, _⟩ <;> try omega
    have h10 := h 1 (by simp) 0 (by decide)
    have h20 := h 2 (by simp) 0 (by decide)
    have h21 := h 2 (by simp) 1 (by decide)
    simp [dotI] at h10 h20 h21
    intro k hk j hj
    simp at hk
    have : (k = 1 ∧ j = 0) ∨ (k = 2 ∧ j = 0) ∨ (k = 2 ∧ j = 1) := by omega
    rcases this with ⟨rfl, rfl⟩ | ⟨rfl, rfl⟩ | ⟨rfl, rfl⟩
    · simp; grind
    · simp; grind
    · simp; grind
  · rcases split3 n1 n3 hp with ⟨o, _⟩ | ⟨o, _⟩ | ⟨_, a, b, c, rfl⟩ <;> try omega
    rcases split3 n1 n3 hq with ⟨o, _⟩ | ⟨o, _⟩ | ⟨_, a', b', c', rfl⟩ <;> try omega
    have h10 := h 1 (by simp) 0 (by decide)
    have h20 := h 2 (by simp) 0 (by decide)
    have h21 := h 2 (by simp) 1 (by decide)
    have h30 := h 3 (by simp) 0 (by decide)
    have h31 := h 3 (by simp) 1 (by decide)
    have h32 := h 3 (by simp) 2 (by decide)
    simp [dotI] at h10 h20 h21 h30 h31 h32
    intro k hk j hj
    simp at hk
    have : (k = 1 ∧ j = 0) ∨ (k = 2 ∧ j = 0) ∨ (k = 2 ∧ j = 1) ∨ (k = 3 ∧ j = 0) ∨ (k = 3 ∧ j = 1) ∨ (k = 3 ∧ j = 2) := by omega
    rcases this with ⟨rfl, rfl⟩ | ⟨rfl, rfl⟩ | ⟨rfl, rfl⟩ | ⟨rfl, rfl⟩ | ⟨rfl, rfl⟩ | ⟨rfl, rfl⟩
    · simp; grind
    · simp; grind
    · simp; grind
    · simp; grind
    · simp; grind
    · simp; grind
theorem dot_bd {n : Nat} {a s : List Int} (n1 : 1 ≤ n) (n3 : n ≤ 3) (ha : a.length = n) (hs : s.length = n) (ba : ∀ z ∈ a, Bd 86 z) (bs : ∀ z ∈ s, -9 ≤ z ∧ z ≤ 9) : (dotI a s).natAbs ≤ 27 * 2 ^ 86 := by
  have one : ∀ x y : Int, Bd 86 x → (-9 ≤ y ∧ y ≤ 9) → (x * y).natAbs ≤ 9 * 2 ^ 86 := fun x y hx hy => by
    unfold Bd at hx
    rw [Int.natAbs_mul, Nat.mul_comm]
    exact Nat.mul_le_mul (by omega) (Nat.le_of_lt hx)
  have e : (2 : Nat) ^ 86 = 77371252455336267181195264 := by decide
  rw [e] at one ⊢
  rcases split3 n1 n3 ha with ⟨rfl, x, rfl⟩ | ⟨rfl, x, y, rfl⟩ | ⟨rfl, x, y, z, rfl⟩ <;> rcases split3 n1 n3 hs with ⟨q, u, rfl⟩ | ⟨q, u, v, rfl⟩ | ⟨q, u, v, w, rfl⟩ <;> first | (exfalso; omega) | skip
  · have a1 := one x u (ba x (by simp)) (bs u (by simp))
    simp [dotI]; omega
  · have a1 := one x u (ba x (by simp)) (bs u (by simp))
    have a2 := one y v (ba y (by simp)) (bs v (by simp))
    simp [dotI]
    generalize x * u = X at *
    generalize y * v = Y at *
    omega
  · have a1 := one x u (ba x (by simp)) (bs u (by simp))
    have a2 := one y v (ba y (by simp)) (bs v (by simp))
    have a3 := one z w (ba z (by simp)) (bs w (by simp))
    simp [dotI]
    generalize x * u = X at *
    generalize y * v = Y at *
    generalize z * w = Z at *
    omega
theorem cs_shift {n : Nat} {C : List (List Int × Int)} {s : List Int} (h : CsOk n C) (hB : CsB 86 C) (hs : s.length = n) (bs : ∀ z ∈ s, -9 ≤ z ∧ z ≤ 9) : CsOk n (C.map (shP s)) ∧ CsB 92 (C.map (shP s)) := by
  have n1 := h.d1
  have n3 := h.d3
  have bc : ∀ p ∈ C, Bd 92 (p.2 + dotI p.1 s) := fun p hp => by
    have d := dot_bd n1 n3 (h.ok p hp).len hs (hB p hp).2 bs
    have c := (hB p hp).1
    unfold Bd at c ⊢
    have e : (2 : Nat) ^ 86 = 77371252455336267181195264 := by decide
    have e2 : (2 : Nat) ^ 92 = 4951760157141521099596496896 := by decide
    rw [e] at c d
    rw [e2]
    generalize dotI p.1 s = X at *
    omega
  have b2 : ∀ p ∈ C, ∀ z ∈ p.1, Bd 92 z := fun p hp z hz => ((hB p hp).2 z hz).mono (by decide)
  refine ⟨⟨n1, n3, by rw [List.length_map]; exact h.l7, fun p hp => ?_, fun p hp => ?_, ?_⟩, fun p hp => ?_⟩
  · obtain ⟨q, hq, rfl⟩ := List.mem_map.mp hp
    exact ⟨(h.ok q hq).len, (bc q hq).mono (by decide), fun z hz => (b2 q hq z hz).mono (by decide)⟩
  · obtain ⟨q, hq, rfl⟩ := List.mem_map.mp hp
    exact h.nz q hq
  · refine List.pairwise_map.mpr (h.pw.imp_of_mem fun {a b} ha hb q => ?_)
    cases c : sameB (full (shP s a)) (full (shP s b)) with
    | false => rfl
    | true => rw [sh_same n1 n3 hs (h.ok a ha).len (h.ok b hb).len c] at q; exact absurd q (by decide)
  · obtain ⟨q, hq, rfl⟩ := List.mem_map.mp hp
    exact ⟨bc q hq, b2 q hq⟩
theorem dt_mul {k : Int} {a : List Int} {x : Nat → Rat} : dt (a.map (k * ·)) x = (k : Rat) * dt a x := by
  have g : ∀ j, (((a.map (k * ·)).getD j 0 : Int) : Rat) = (k : Rat) * ((a.getD j 0 : Int) : Rat) := fun j => by
    by_cases hj : j < a.length
    · rw [← Rat.intCast_mul]; congr 1; simp [hj]
    · simp [hj]
  unfold dt
  rw [g, g, g]; grind
theorem dt_sub {a : List Int} {x y : Nat → Rat} : dt a (fun j => x j - y j) = dt a x - dt a y := by unfold dt; grind
theorem dt_add {a : List Int} {x y : Nat → Rat} : dt a (fun j => x j + y j) = dt a x + dt a y := by unfold dt; grind
theorem pick_map {C : List (List Int × Int)} {f : List Int × Int → List Int × Int} {ks : List Nat} (hk : ∀ k ∈ ks, k < C.length) : pick (C.map f) ks = (pick C ks).map f := by
  unfold pick
  rw [List.map_map]
  refine List.map_congr_left fun k q => ?_
  have := hk k q
  simp [this]
theorem kind_shift {n : Nat} {P : List (List Int × Int)} {s : List Int} {z z' : Int} (n1 : 1 ≤ n) (n3 : n ≤ 3) (hs : s.length = n) (hl : ∀ p ∈ P, p.1.length = n) (h : KindOk n P z) (h' : KindOk n (P.map (shP s)) z') : z = z' := by
  refine kind_same n3 h h' ⟨fun ⟨x, hx⟩ => ⟨fun j => x j + vec s j, fun q hq => ?_⟩, fun ⟨x, hx⟩ => ⟨fun j => x j - vec s j, fun p hp => ?_⟩⟩ fun x => ⟨fun k q hq => ?_, fun k p hp => ?_⟩
  · obtain ⟨p, hp, rfl⟩ := List.mem_map.mp hq
    show dt p.1 _ = ((p.2 + dotI p.1 s : Int) : Rat)
    rw [dt_add, hx p hp, Rat.intCast_add, dot_dt n1 n3 (hl p hp) hs]
  · have := hx _ (List.mem_map_of_mem hp)
    have e : dt p.1 x = ((p.2 + dotI p.1 s : Int) : Rat) := this
    rw [dt_sub, e, Rat.intCast_add, dot_dt n1 n3 (hl p hp) hs]; grind
  · obtain ⟨p, hp, rfl⟩ := List.mem_map.mp hq
    exact k p hp
  · exact k (shP s p) (List.mem_map_of_mem hp)
theorem kind_mul {n : Nat} {P P' : List (List Int × Int)} {z z' : Int} (n3 : n ≤ 3) (hl : P'.length = P.length) (hm : ∀ i (h1 : i < P'.length) (h2 : i < P.length), ∃ a : Int, a ≠ 0 ∧ P'[i] = mulP a P[i]) (h : KindOk n P z) (h' : KindOk n P' z') : z = z' := by
  have key : ∀ (x : Nat → Rat) (p : List Int × Int) (a : Int), a ≠ 0 → ((dt (mulP a p).1 x = (((mulP a p).2 : Int) : Rat) ↔ dt p.1 x = (p.2 : Rat)) ∧ (dt (mulP a p).1 x = 0 ↔ dt p.1 x = 0)) := fun x p a a0 => by
    have a1 : (a : Rat) ≠ 0 := fun q => a0 (by exact_mod_cast q)
    unfold mulP
    simp only
    rw [dt_mul, Rat.intCast_mul]
    constructor
    · constructor
      · intro q
        have : (a : Rat) * (dt p.1 x - (p.2 : Rat)) = 0 := by grind
        rcases Rat.mul_eq_zero.mp this with r | r
        · exact absurd r a1
        · grind
      · intro q; rw [q]
    · constructor
      · intro q
        rcases Rat.mul_eq_zero.mp q with r | r
        · exact absurd r a1
        · exact r
      · intro q; rw [q]; grind
  refine kind_same n3 h h' ⟨fun ⟨x, hx⟩ => ⟨x, fun q hq => ?_⟩, fun ⟨x, hx⟩ => ⟨x, fun p hp => ?_⟩⟩ fun x => ⟨fun k q hq => ?_, fun k p hp => ?_⟩
  · obtain ⟨i, hi, rfl⟩ := List.getElem_of_mem hq
    obtain ⟨a, a0, e⟩ := hm i hi (by omega)
    rw [e]
    exact (key x _ a a0).1.mpr (hx _ (List.getElem_mem _))
  · obtain ⟨i, hi, rfl⟩ := List.getElem_of_mem hp
    obtain ⟨a, a0, e⟩ := hm i (by omega) hi
    have := hx _ (List.getElem_mem (by omega : i < P'.length))
    rw [e] at this
    exact (key x _ a a0).1.mp this
  · obtain ⟨i, hi, rfl⟩ := List.getElem_of_mem hq
    obtain ⟨a, a0, e⟩ := hm i hi (by omega)
    rw [e]
    exact (key x _ a a0).2.mpr (k _ (List.getElem_mem _))
  · obtain ⟨i, hi, rfl⟩ := List.getElem_of_mem hp
    obtain ⟨a, a0, e⟩ := hm i (by omega) hi
    have := k _ (List.getElem_mem (by omega : i < P'.length))
    rw [e] at this
    exact (key x _ a a0).2.mp this
theorem kind_rev {n : Nat} {P : List (List Int × Int)} {z z' : Int} (n3 : n ≤ 3) (h : KindOk n P z) (h' : KindOk n P.reverse z') : z = z' := by
  refine kind_same n3 h h' ⟨fun ⟨x, hx⟩ => ⟨x, fun q hq => hx q (List.mem_reverse.mp hq)⟩, fun ⟨x, hx⟩ => ⟨x, fun p hp => hx p (List.mem_reverse.mpr hp)⟩⟩ fun x => ⟨fun k q hq => k q (List.mem_reverse.mp hq), fun k p hp => k p (List.mem_reverse.mpr hp)⟩
abbrev E18 (e0 e1 e2 e3 e4 e5 e6 e7 e8 e9 e10 e11 e12 e13 : Option Cell) : PL.Env := [e0, e1, e2, e3, e4, e5, e6, e7, e8, e9, e10, e11, e12, e13, none, none, none, none]
theorem cut_dot (n : Nat) (p : List Int × Int) (s : List Int) (hp : p.1.length = n) (hs : s.length = n) : (full p).zip s = p.1.zip s := by
  unfold full
  have : s = s ++ [] := by simp
  rw [this, List.zip_append (by omega)]
  simp
/-- one cut so often, and moved -/
theorem law1_ok {ns : List Int} {n k : Nat} {C SC SH : List (List Int × Int)} {as st : List Int} {x7 x8 : Option Cell} (h : CsOk n C) (hB : CsB 86 C) (hk : k < C.length)
    (la : as.length = C.length) (ba : ∀ a ∈ as, a = 2 ∨ a = -1 ∨ a = 1 ∨ a = -5) (ls : st.length = n) (bs : ∀ z ∈ st, -9 ≤ z ∧ z ≤ 9)
    (lC : SC.length = C.length) (lH : SH.length = C.length) (eC : ∀ i (h1 : i < SC.length) (h2 : i < C.length), SC[i] = mulP (as.getD i 0) C[i]) (eH : ∀ i (h1 : i < SH.length) (h2 : i < C.length), SH[i] = shP st C[i]) :
    ∃ y8 : Option Cell, b_law_1 (E18 (some (.val (.scr ns))) (some (.val (.int n))) (some (.val (.lst (C.map ctD)))) (some (.val (.lst (as.map D.int)))) (some (.val (.lst (st.map D.int)))) (some (.own ((SC.take k).map ctD))) (some (.own ((SH.take k).map ctD))) (some (.val (.int (k : Int)))) x8 none none none none none) = .ok (.nx (E18 (some (.val (.scr ns))) (some (.val (.int n))) (some (.val (.lst (C.map ctD)))) (some (.val (.lst (as.map D.int)))) (some (.val (.lst (st.map D.int)))) (some (.own ((SC.take (k + 1)).map ctD))) (some (.own ((SH.take (k + 1)).map ctD))) (some (.val (.int (k : Int)))) y8 none none none none none)) := by
  have l7 := h.l7
  have n1 := h.d1
  have n3 := h.d3
  have tC : (SC.take (k + 1)).map ctD = (SC.take k).map ctD ++ [ctD (mulP (as.getD k 0) C[k])] := by
    rw [List.take_succ_eq_append_getElem (by omega), List.map_append, List.map_singleton, eC k (by omega) hk]
  have tH : (SH.take (k + 1)).map ctD = (SH.take k).map ctD ++ [ctD (shP st C[k])] := by
    rw [List.take_succ_eq_append_getElem (by omega), List.map_append, List.map_singleton, eH k (by omega) hk]
  rw [tC, tH]
  have l1 : ((SC.take k).map ctD).length < 1000000 := by rw [List.length_map, List.length_take]; omega
  have l2 : ((SH.take k).map ctD).length < 1000000 := by rw [List.length_map, List.length_take]; omega
  have aC : atD (C.map ctD) (k : Int) = .ok (ctD C[k]) := at_map hk
  have hp := h.ok _ (List.getElem_mem hk)
  obtain ⟨bp, bq⟩ := hB _ (List.getElem_mem hk)
  have aA : atD (as.map D.int) (k : Int) = .ok (.int (as.getD k 0)) := by
    rw [at_map (by omega)]; simp [la, hk]
  have ak : Bd 3 (as.getD k 0) := by
    have : as.getD k 0 ∈ as := by simp [la, hk]
    have := ba _ this
    unfold Bd; omega
  generalize as.getD k 0 = a at *
  generalize C[k] = p at *
  have fb : ∀ z ∈ full p, Bd 86 z := fun z hz => by
    rcases List.mem_append.mp hz with q | q
    · exact bq z q
    · rw [List.mem_singleton.mp q]; exact bp
  have ci : ∀ o5 o6 o8 : Option D, compD (pName 15) cTrue c_law_3 [some (.scr ns), some (.int n), some (.lst (C.map ctD)), some (.lst (as.map D.int)), some (.lst (st.map D.int)), o5, o6, some (.int (k : Int)), o8, none, none, none, none, none, none, none, none, none] ((full p).map D.int) = .ok (((full p).map (a * ·)).map D.int) := fun o5 o6 o8 => comp_map (dec := D.int) (enc := D.int) (a * ·) (full p) fun z hz => ⟨[(15, .int z)], rfl, by
    show c_law_3 [_, _, _, _, _, _, _, some (.int (k : Int)), _, _, _, _, _, _, _, some (.int z), _, _] = _
    have mo : mulOk a z = true := mulOk_of ak (fb z hz) (by decide)
    generalize as.map D.int = A at *
    generalize st.map D.int = S at *
    generalize C.map ctD = T at *
    simp [c_law_3_eq, aA, mo]⟩
  have zz : pair2 ((full p).map D.int) (st.map D.int) = (p.1.zip st).map fun q => D.tup [.int q.1, .int q.2] := by rw [pair_map, cut_dot n p st hp.len ls]
  have cm : ∀ o5 o6 o8 : Option D, compD (pTup (pCons (pName 15) (pCons (pName 16) pNil))) cTrue c_law_4 [some (.scr ns), some (.int n), some (.lst (C.map ctD)), some (.lst (as.map D.int)), some (.lst (st.map D.int)), o5, o6, some (.int (k : Int)), o8, none, none, none, none, none, none, none, none, none] ((p.1.zip st).map fun q => D.tup [.int q.1, .int q.2]) = .ok (((p.1.zip st).map fun q => q.1 * q.2).map D.int) := fun o5 o6 o8 => comp_map (dec := fun q : Int × Int => D.tup [.int q.1, .int q.2]) (enc := D.int) (fun q => q.1 * q.2) (p.1.zip st) fun q hq => ⟨[(15, .int q.1), (16, .int q.2)], by simp, by
    show c_law_4 [_, _, _, _, _, _, _, some (.int (k : Int)), _, _, _, _, _, _, _, some (.int q.1), some (.int q.2), _] = _
    have mm := List.of_mem_zip hq
    have b1 : Bd 4 q.2 := by have := bs _ mm.2; unfold Bd; omega
    have mo : mulOk q.1 q.2 = true := mulOk_of (bq _ mm.1) b1 (by decide)
    simp [c_law_4_eq, mo]⟩
  have sm := sum_ints (bs := (p.1.zip st).map fun q => q.1 * q.2)
  have lz : ((p.1.zip st).map fun q : Int × Int => D.tup [.int q.1, .int q.2]).length ≤ 1000000 := by rw [List.length_map, List.length_zip, hp.len]; omega
  have lf : ((full p).map D.int).length ≤ 1000000 := by rw [List.length_map, full_len hp]; omega
  have cl : cutL ((full p).map D.int) none (some (n : Int)) = p.1.map D.int := by
    unfold full
    rw [cutL_to, ← List.map_take, List.take_append_of_le_length (by rw [hp.len]; exact Nat.le_refl _), List.take_of_length_le (by rw [hp.len]; exact Nat.le_refl _)]
  have ac : atD ((full p).map D.int) (n : Int) = .ok (.int p.2) := by
    rw [at_map (by rw [full_len hp]; omega)]
    congr 2
    unfold full
    simp [hp.len]
  have e1 : ctD (mulP a p) = .tup (((full p).map (a * ·)).map D.int) := by rw [ctD_full, full_mul]
  have e2 : ctD (shP st p) = .tup (p.1.map D.int ++ [.int (p.2 + ((p.1.zip st).map fun q => q.1 * q.2).sum)]) := by
    unfold ctD shP dotI
    simp
  have l3 : (p.1.map D.int).length + 1 ≤ 1000000 := by rw [List.length_map, hp.len]; omega
  have l3' : p.1.length ≤ 999999 := by rw [hp.len]; omega
  have n1l : noLsts (((full p).map (a * ·)).map D.int) = true := noLsts_i _
  have n2l : noLsts (p.1.map D.int) = true := noLsts_i _
  have cd : ctD p = .tup ((full p).map D.int) := rfl
  rw [e1, e2]
  rw [cd] at aC
  refine ⟨some (.val (.int ((p.1.zip st).map fun q => q.1 * q.2).sum)), ?_⟩
  generalize ((p.1.zip st).map fun q => q.1 * q.2).sum = sv at *
  generalize ((p.1.zip st).map fun q => q.1 * q.2).map D.int = PR at *
  generalize (p.1.zip st).map (fun q : Int × Int => D.tup [.int q.1, .int q.2]) = Z at *
  generalize ((full p).map (a * ·)).map D.int = W at *
  generalize (full p).map D.int = U at *
  generalize p.1.map D.int = V at *
  generalize as.map D.int = A at *
  generalize st.map D.int = S at *
  generalize (SC.take k).map ctD = T1 at *
  generalize (SH.take k).map ctD = T2 at *
  generalize C.map ctD = T at *
  generalize (k : Int) = kz at *
  generalize (n : Int) = nz at *
  rw [b_law_1_eq]
  refine (seq_nx (e1 := E18 (some (.val (.scr ns))) (some (.val (.int nz))) (some (.val (.lst T))) (some (.val (.lst A))) (some (.val (.lst S))) (some (.own (T1 ++ [.tup W]))) (some (.own T2)) (some (.val (.int kz))) x8 none none none none none) (by simp [x_comp, aC, lf, ci, l1, noLst, n1l])).trans ?_
  refine (seq_nx (e1 := E18 (some (.val (.scr ns))) (some (.val (.int nz))) (some (.val (.lst T))) (some (.val (.lst A))) (some (.val (.lst S))) (some (.own (T1 ++ [.tup W]))) (some (.own T2)) (some (.val (.int kz))) (some (.val (.int sv))) none none none none none) (by simp [x_comp, aC, zz, lz, cm, sm])).trans ?_
  simp [aC, ac, -cutL_to, cl, l2, l3, l3', noLst, n2l]
/-- one list of numbers -/
theorem law2_ok {ns : List Int} {n : Nat} {C C1 C2 : List (List Int × Int)} {ks : List Nat} {x3 x4 x5 x6 x7 x8 x12 x13 : Option Cell} (h : CsOk n C) (hB : CsB 92 C) (h1 : CsOk n C1) (b1 : CsB 92 C1) (h2 : CsOk n C2) (b2 : CsB 92 C2)
    (l1 : C1.length = C.length) (l2 : C2.length = C.length) (hr : Ris C.length ks)
    (k1 : ∀ z z', KindOk n (pick C ks) z → KindOk n (pick C1 ks) z' → z = z') (k2 : ∀ z z', KindOk n (pick C ks) z → KindOk n (pick C2 ks) z' → z = z') :
    ∃ y12 y13 : Option Cell, b_law_2 (E18 (some (.val (.scr ns))) (some (.val (.int n))) (some (.val (.lst (C.map ctD)))) x3 x4 x5 x6 x7 x8 (some (.val (kD n C))) (some (.val (.lst [kD n C1, kD n C2]))) (some (.val (ksD ks))) x12 x13) = .ok (.nx (E18 (some (.val (.scr ns))) (some (.val (.int n))) (some (.val (.lst (C.map ctD)))) x3 x4 x5 x6 x7 x8 (some (.val (kD n C))) (some (.val (.lst [kD n C1, kD n C2]))) (some (.val (ksD ks))) y12 y13)) := by
  have n3 := h.d3
  obtain ⟨z, ez, kz⟩ := v__law_kind h hB hr.nd hr.lt
  obtain ⟨zr, er, kr⟩ := v__law_kind (ks := ks.reverse) h hB (List.pairwise_reverse.mpr (hr.nd.imp fun a q => a q.symm)) (fun k hk => hr.lt k (List.mem_reverse.mp hk))
  obtain ⟨z1, e1, q1⟩ := v__law_kind (ks := ks) h1 b1 hr.nd (fun k hk => by rw [l1]; exact hr.lt k hk)
  obtain ⟨z2, e2, q2⟩ := v__law_kind (ks := ks) h2 b2 hr.nd (fun k hk => by rw [l2]; exact hr.lt k hk)
  have pr : pick C ks.reverse = (pick C ks).reverse := by unfold pick; rw [List.map_reverse]
  rw [pr] at kr
  have hz1 := k1 _ _ kz q1
  have hz2 := k2 _ _ kz q2
  have hzr := kind_rev n3 kz kr
  subst hz1 hz2 hzr
  have ne := ne_ks ks
  have rv : revD (ksD ks) = .ok (ksD ks.reverse) := by
    unfold ksD
    rw [x_revL, List.map_reverse]
  have co : ∀ o3 o4 o5 o6 o7 o8 o13 : Option D, compD (pName 17) cTrue c_law_5 [some (.scr ns), some (.int n), some (.lst (C.map ctD)), o3, o4, o5, o6, o7, o8, some (kD n C), some (.lst [kD n C1, kD n C2]), some (ksD ks), some (.int z), o13, none, none, none, none] [kD n C1, kD n C2] = .ok [.int z, .int z] := fun o3 o4 o5 o6 o7 o8 o13 => by
    refine comp_map (dec := fun K : D => K) (enc := fun _ : D => D.int z) (fun X => X) [kD n C1, kD n C2] (fun K hK => ⟨[(17, K)], rfl, ?_⟩) |>.trans (by simp)
    show c_law_5 [_, _, _, _, _, _, _, _, _, _, _, some (ksD ks), _, _, _, _, _, some K] = _
    have : d__law_kind [K, ksD ks] = .ok (.val (.int z)) := by
      simp only [List.mem_cons, List.not_mem_nil, or_false] at hK
      rcases hK with rfl | rfl
      · exact e1
      · exact e2
    generalize ksD ks = L at *
    simp [c_law_5_eq, this]
  have neq : neD (.lst [.int z, .int z]) (.lst [.int z, .int z]) = .ok (.bl false) := by simp
  by_cases hks : ks = []
  · refine ⟨some (.val (.int z)), x13, ?_⟩
    rw [decide_eq_true hks] at ne
    generalize ksD ks.reverse = LR at *
    generalize ksD ks = L at *
    generalize kD n C = K at *
    generalize kD n C1 = K1 at *
    generalize kD n C2 = K2 at *
    generalize C.map ctD = T at *
    generalize (n : Int) = nz at *
    rw [b_law_2_eq]
    refine (seq_nx (e1 := E18 (some (.val (.scr ns))) (some (.val (.int nz))) (some (.val (.lst T))) x3 x4 x5 x6 x7 x8 (some (.val K)) (some (.val (.lst [K1, K2]))) (some (.val L)) (some (.val (.int z))) x13) (by simp [ez])).trans ?_
    refine (seq_nx (e1 := E18 (some (.val (.scr ns))) (some (.val (.int nz))) (some (.val (.lst T))) x3 x4 x5 x6 x7 x8 (some (.val K)) (some (.val (.lst [K1, K2]))) (some (.val L)) (some (.val (.int z))) x13) (by simp [x_comp, rv, er, co, neq])).trans ?_
    simp [ne]
  · rw [decide_eq_false hks] at ne
    have p := List.dropLast_concat_getLast hks
    obtain ⟨d, hd⟩ : ∃ d, ks.getLast hks = d := ⟨_, rfl⟩
    rw [hd] at p
    obtain ⟨zb, eb, kb⟩ := v__law_kind (ks := ks.dropLast) h hB (List.Nodup.sublist (List.dropLast_sublist ks) hr.nd) (fun k hk => hr.lt k ((List.dropLast_sublist ks).subset hk))
    have pk : pick C ks = pick C ks.dropLast ++ [C.getD d ([], 0)] := by
      have : pick C (ks.dropLast ++ [d]) = pick C ks.dropLast ++ [C.getD d ([], 0)] := by unfold pick; rw [List.map_append, List.map_singleton]
      rwa [p] at this
    rw [pk] at kz
    have less : 0 ≤ z → z ≤ zb ∧ zb ≤ z + 1 := fun z0 => kind_less n3 kz kb z0
    have cl : cutL (ks.map fun k : Nat => D.int (k : Int)) none (some (-1)) = ks.dropLast.map fun k : Nat => D.int (k : Int) := by
      have : cutL ((ks.dropLast ++ [d]).map fun k : Nat => D.int (k : Int)) none (some (-1)) = ks.dropLast.map fun k : Nat => D.int (k : Int) := by
        rw [List.map_append, List.map_singleton]
        exact cutL_last'
      rwa [p] at this
    have sl : ∃ L : List D, ksD ks = .lst L ∧ cutL L none (some (-1)) = ks.dropLast.map fun k : Nat => D.int (k : Int) := ⟨_, rfl, cl⟩
    obtain ⟨L, hL, cl'⟩ := sl
    have eb' : d__law_kind [kD n C, .lst (ks.dropLast.map fun k : Nat => D.int (k : Int))] = .ok (.val (.int zb)) := eb
    refine ⟨some (.val (.int z)), some (.val (.int zb)), ?_⟩
    rw [hL] at ne rv ez co ⊢
    generalize ksD ks.reverse = LR at *
    generalize (ks.dropLast.map fun k : Nat => D.int (k : Int)) = LD at *
    generalize kD n C = K at *
    generalize kD n C1 = K1 at *
    generalize kD n C2 = K2 at *
    generalize C.map ctD = T at *
    generalize (n : Int) = nz at *
    rw [b_law_2_eq]
    refine (seq_nx (e1 := E18 (some (.val (.scr ns))) (some (.val (.int nz))) (some (.val (.lst T))) x3 x4 x5 x6 x7 x8 (some (.val K)) (some (.val (.lst [K1, K2]))) (some (.val (.lst L))) (some (.val (.int z))) x13) (by simp [ez])).trans ?_
    refine (seq_nx (e1 := E18 (some (.val (.scr ns))) (some (.val (.int nz))) (some (.val (.lst T))) x3 x4 x5 x6 x7 x8 (some (.val K)) (some (.val (.lst [K1, K2]))) (some (.val (.lst L))) (some (.val (.int z))) x13) (by simp [x_comp, rv, er, co, neq])).trans ?_
    by_cases z0 : 0 ≤ z
    · obtain ⟨a1, a2⟩ := less z0
      have a3 : ¬ zb < 0 := by omega
      simp [ne, cl', eb', z0, a1, a2, a3]
    · have z0' : z < 0 := by omega
      simp [ne, cl', eb', z0, z0']
theorem law_true (ns : List Int) (h : ns.length ≤ 63) (hb : ∀ z ∈ ns, Builtin.Int.intBits z ≤ 1048576) : d_law [.scr ns] = .ok (.val (.bl true)) := by
  have ca : d__law_cell_at [.scr ns, .int 0] = .ok (.val (.int (ns.getD 0 0))) := v__law_cell_at (k := 0)
  have c8 : d__law_cell_at [.scr ns, .int 8] = .ok (.val (.int (ns.getD 8 0))) := v__law_cell_at (k := 8)
  have c9 : d__law_cell_at [.scr ns, .int 9] = .ok (.val (.int (ns.getD 9 0))) := v__law_cell_at (k := 9)
  have b0 := bd_cell hb 0
  have b8 := bd_cell hb 8
  have b9 := bd_cell hb 9
  generalize ns.getD 0 0 = c at *
  generalize ns.getD 8 0 = d8 at *
  generalize ns.getD 9 0 = d9 at *
  obtain ⟨y0, f0, g0, h0⟩ := v__law_draw (c := c) (k := 0) (b := 3) b0 (by decide) (by decide) (by decide) (by decide)
  obtain ⟨y1, f1, g1, h1⟩ := v__law_draw (c := c) (k := 1) (b := 6) b0 (by decide) (by decide) (by decide) (by decide)
  obtain ⟨n, hn⟩ : ∃ n : Nat, 1 + y0 = (n : Int) := ⟨(1 + y0).toNat, by omega⟩
  obtain ⟨m, hm⟩ : ∃ m : Nat, 1 + y1 = (m : Int) := ⟨(1 + y1).toNat, by omega⟩
  have n1 : 1 ≤ n := by omega
  have n3 : n ≤ 3 := by omega
  obtain ⟨C, hC, co, _, c86⟩ := v__law_cuts (at_ := 1) (m := m) hb n1 n3 (by omega)
  have hC : d__law_cuts [.scr ns, .int 1, .int n, .int m] = .ok (.own (C.map ctD)) := hC
  have c92 : CsB 92 C := fun p hp => ⟨(c86 p hp).1.mono (by decide), fun z hz => ((c86 p hp).2 z hz).mono (by decide)⟩
  have l7 := co.l7
  have lT : (C.map ctD).length = C.length := by simp
  -- how often
  obtain ⟨as, has, las, bas⟩ := comp_gen (enc := D.int) (P := fun a => a = 2 ∨ a = -1 ∨ a = 1 ∨ a = -5) (p := pName 7) (f := c_law_1) (env := [some (.scr ns), some (.int n), some (.lst (C.map ctD)), none, none, none, none, none, none, none, none, none, none, none, none, none, none, none]) (rngD 0 C.length) (by
    intro d hd
    obtain ⟨i, hi, rfl⟩ := mem_rng hd
    obtain ⟨y, fy, gy, hy⟩ := v__law_draw (c := d8) (k := 0 + (i : Int)) (b := 4) b8 (by omega) (by omega) (by decide) (by decide)
    obtain ⟨e, he, qe⟩ := at_some (enc := D.int) (l := [2, -1, 1, -5]) gy hy
    refine ⟨[(7, .int (0 + (i : Int)))], e, rfl, ?_, by simpa using he⟩
    show c_law_1 [_, _, _, _, _, _, _, some (.int (0 + (i : Int))), _, _, _, _, _, _, _, _, _, _] = _
    simp only [List.map_cons, List.map_nil] at qe
    generalize C.map ctD = T at *
    generalize 0 + (i : Int) = iz at *
    simp [c_law_1_eq, c8, fy, qe])
  rw [rng_len] at las
  -- the steps
  obtain ⟨st, hst, lst, bst⟩ := comp_gen (enc := D.int) (P := fun a => -9 ≤ a ∧ a ≤ 9) (p := pName 14) (f := c_law_2) (env := [some (.scr ns), some (.int n), some (.lst (C.map ctD)), some (.lst (as.map D.int)), none, none, none, none, none, none, none, none, none, none, none, none, none, none]) (rngD 0 n) (by
    intro d hd
    obtain ⟨i, hi, rfl⟩ := mem_rng hd
    obtain ⟨y, fy, gy, hy⟩ := v__law_draw (c := d9) (k := 0 + (i : Int)) (b := 19) b9 (by omega) (by omega) (by decide) (by decide)
    refine ⟨[(14, .int (0 + (i : Int)))], y - 9, rfl, ?_, by omega, by omega⟩
    show c_law_2 [_, _, _, _, _, _, _, _, _, _, _, _, _, _, some (.int (0 + (i : Int))), _, _, _] = _
    generalize C.map ctD = T at *
    generalize 0 + (i : Int) = iz at *
    simp [c_law_2_eq, c9, fy])
  rw [rng_len] at lst
  obtain ⟨SC, hSC⟩ : ∃ SC, ((List.range C.length).map fun k : Nat => mulP (as.getD k 0) (C.getD k ([], 0))) = SC := ⟨_, rfl⟩
  have lSC : SC.length = C.length := by rw [← hSC]; simp
  have eSC : ∀ i (h1 : i < SC.length) (h2 : i < C.length), SC[i] = mulP (as.getD i 0) C[i] := fun i h1 h2 => by
    subst hSC
    simp [h2]
  have aget : ∀ i, i < C.length → as.getD i 0 = 2 ∨ as.getD i 0 = -1 ∨ as.getD i 0 = 1 ∨ as.getD i 0 = -5 := fun i hi => by
    have : as.getD i 0 ∈ as := by simp [las, hi]
    exact bas _ this
  have coS : CsOk n SC := cs_mul co c92 lSC fun i h1 h2 => by
    have := aget i h2
    exact ⟨as.getD i 0, by omega, by omega, by omega, eSC i h1 h2⟩
  have cbS : CsB 92 SC := fun p hp => by
    obtain ⟨i, hi, rfl⟩ := List.getElem_of_mem hp
    rw [eSC i hi (by omega)]
    have q : Bd 3 (as.getD i 0) := by have := aget i (by omega); unfold Bd; omega
    obtain ⟨u, v⟩ := c86 _ (List.getElem_mem (by omega : i < C.length))
    refine ⟨(q.mul u).mono (by decide), fun z hz => ?_⟩
    obtain ⟨y, hy, rfl⟩ := List.mem_map.mp hz
    exact (q.mul (v y hy)).mono (by decide)
  obtain ⟨coH, cbH⟩ := cs_shift co c86 lst bst
  obtain ⟨SH, hSH⟩ : ∃ SH, C.map (shP st) = SH := ⟨_, rfl⟩
  rw [hSH] at coH cbH
  have lSH : SH.length = C.length := by rw [← hSH]; simp
  have eSH : ∀ i (h1 : i < SH.length) (h2 : i < C.length), SH[i] = shP st C[i] := fun i h1 h2 => by
    subst hSH
    simp
  -- the cuts so often, and moved
  obtain ⟨env1, hf1, x7, x8, rfl⟩ := forR_inv (p := pName 7) (s := b_law_1) (lo := 0) (n := C.length) (env := E18 (some (.val (.scr ns))) (some (.val (.int n))) (some (.val (.lst (C.map ctD)))) (some (.val (.lst (as.map D.int)))) (some (.val (.lst (st.map D.int)))) (some (.own [])) (some (.own [])) none none none none none none none)
    (fun k env => ∃ x7 x8 : Option Cell, env = E18 (some (.val (.scr ns))) (some (.val (.int n))) (some (.val (.lst (C.map ctD)))) (some (.val (.lst (as.map D.int)))) (some (.val (.lst (st.map D.int)))) (some (.own ((SC.take k).map ctD))) (some (.own ((SH.take k).map ctD))) x7 x8 none none none none none) ⟨none, none, rfl⟩ (by
    rintro k hk env ⟨x7, x8, rfl⟩
    rw [Int.zero_add]
    obtain ⟨y8, e⟩ := law1_ok (ns := ns) (x7 := x7) (x8 := x8) co c86 hk las bas lst bst lSC lSH eSC eSH
    exact ⟨[(7, .int (k : Int))], _, rfl, .inl e, _, y8, rfl⟩)
  rw [List.take_of_length_le (Nat.le_of_eq lSC), List.take_of_length_le (Nat.le_of_eq lSH)] at hf1
  -- lists of numbers
  obtain ⟨mm, hmm, m3⟩ : ∃ mm : Nat, min2D [.int 3, .int ((n : Int) + 1)] = .ok (.int (mm : Int)) ∧ mm ≤ 3 := by
    by_cases q : (n : Int) + 1 < 3
    · exact ⟨n + 1, by rw [y_min2, if_pos q]; simp, by omega⟩
    · exact ⟨3, by rw [y_min2, if_neg q]; rfl, by decide⟩
  obtain ⟨F, hF, gF, lF⟩ := v__law_lists (m := C.length) l7 m3
  obtain ⟨env2, hf2, x11, x12, x13, rfl⟩ := for_inv (p := pName 11) (s := b_law_2) (fun _ env => ∃ x11 x12 x13 : Option Cell, env = E18 (some (.val (.scr ns))) (some (.val (.int n))) (some (.val (.lst (C.map ctD)))) (some (.val (.lst (as.map D.int)))) (some (.val (.lst (st.map D.int)))) (some (.own (SC.map ctD))) (some (.own (SH.map ctD))) x7 x8 (some (.val (kD n C))) (some (.val (.lst [kD n SC, kD n SH]))) x11 x12 x13) (F.map ksD) (E18 (some (.val (.scr ns))) (some (.val (.int n))) (some (.val (.lst (C.map ctD)))) (some (.val (.lst (as.map D.int)))) (some (.val (.lst (st.map D.int)))) (some (.own (SC.map ctD))) (some (.own (SH.map ctD))) x7 x8 (some (.val (kD n C))) (some (.val (.lst [kD n SC, kD n SH]))) none none none) 0 ⟨none, none, none, rfl⟩ (by
    rintro i hi0 env ⟨x11, x12, x13, rfl⟩
    have hi : i < F.length := by simpa using hi0
    have e : (F.map ksD)[i] = ksD F[i] := by simp
    rw [e]
    have hr := gF _ (List.getElem_mem hi)
    generalize F[i] = ks at *
    obtain ⟨y12, y13, e2⟩ := law2_ok (ns := ns) (x3 := some (.val (.lst (as.map D.int)))) (x4 := some (.val (.lst (st.map D.int)))) (x5 := some (.own (SC.map ctD))) (x6 := some (.own (SH.map ctD))) (x7 := x7) (x8 := x8) (x12 := x12) (x13 := x13) co c92 coS cbS coH cbH lSC lSH hr
      (fun z z' a b => kind_mul n3 (by simp [pick]) (fun i h1 h2 => by
        have hi : i < ks.length := by simpa [pick] using h2
        have hk := hr.lt _ (List.getElem_mem hi)
        refine ⟨as.getD ks[i] 0, by have := aget _ hk; omega, ?_⟩
        have e1 : (pick SC ks)[i] = SC[ks[i]]'(by omega) := by unfold pick; simp [hk, lSC]
        have e2 : (pick C ks)[i] = C[ks[i]] := by unfold pick; simp [hk]
        rw [e1, e2]
        exact eSC _ _ hk) a b)
      (fun z z' a b => by
        rw [← hSH, pick_map hr.lt] at b
        exact kind_shift n1 n3 lst (fun p hp => (co.ok p (pick_mem hr.lt hp)).len) a b)
    exact ⟨[(11, ksD ks)], _, rfl, .inl e2, _, y12, y13, rfl⟩)
  have km := v_make co
  have kmS := v_make coS
  have kmH := v_make coH
  have nlk := noLst_k n C
  have nlS := noLst_k n SC
  have nlH := noLst_k n SH
  have rl : rng1K (.int (C.length : Int)) = .ok (rngD 0 C.length) := x_rng1N (n := C.length) (by omega)
  have rn : rng1K (.int (n : Int)) = .ok (rngD 0 n) := x_rng1N (n := n) (by omega)
  have lR : (rngD 0 C.length).length ≤ 1000000 := by rw [rng_len]; omega
  have lRn : (rngD 0 n).length ≤ 1000000 := by rw [rng_len]; omega
  have nlA := noLsts_i as
  have nlT := noLsts_i st
  generalize rngD 0 C.length = R at *
  generalize rngD 0 n = Rn at *
  generalize F.map ksD = FF at *
  generalize kD n C = K at *
  generalize kD n SC = K1 at *
  generalize kD n SH = K2 at *
  generalize SC.map ctD = T1 at *
  generalize SH.map ctD = T2 at *
  generalize as.map D.int = A at *
  generalize st.map D.int = S at *
  generalize hzc : (C.length : Int) = zc at *
  generalize C.map ctD = T at *
  have lT' : (T.length : Int) = zc := by rw [lT, hzc]
  generalize (n : Int) = z at *
  generalize (m : Int) = mz at *
  generalize (mm : Int) = mmz at *
  rw [d_law_eq]
  refine run_rt rfl ?_
  have es : startE 18 [D.scr ns] = E18 (some (.val (.scr ns))) none none none none none none none none none none none none none := rfl
  rw [es]
  unfold s_law
  refine (seq_nx (e1 := E18 (some (.val (.scr ns))) (some (.val (.int z))) none none none none none none none none none none none none) (by simp [ca, f0, hn])).trans ?_
  refine (seq_nx (e1 := E18 (some (.val (.scr ns))) (some (.val (.int z))) (some (.val (.lst T))) none none none none none none none none none none none) (by simp [ca, f1, hm, hC])).trans ?_
  refine (seq_nx (e1 := E18 (some (.val (.scr ns))) (some (.val (.int z))) (some (.val (.lst T))) (some (.val (.lst A))) none none none none none none none none none none) (by simp [x_comp, lT', rl, lR, has])).trans ?_
  refine (seq_nx (e1 := E18 (some (.val (.scr ns))) (some (.val (.int z))) (some (.val (.lst T))) (some (.val (.lst A))) (some (.val (.lst S))) none none none none none none none none none) (by simp [x_comp, rn, lRn, hst])).trans ?_
  refine (seq_nx (e1 := E18 (some (.val (.scr ns))) (some (.val (.int z))) (some (.val (.lst T))) (some (.val (.lst A))) (some (.val (.lst S))) (some (.own [])) none none none none none none none none) (by simp)).trans ?_
  refine (seq_nx (e1 := E18 (some (.val (.scr ns))) (some (.val (.int z))) (some (.val (.lst T))) (some (.val (.lst A))) (some (.val (.lst S))) (some (.own [])) (some (.own [])) none none none none none none none) (by simp)).trans ?_
  refine (seq_nx (e1 := E18 (some (.val (.scr ns))) (some (.val (.int z))) (some (.val (.lst T))) (some (.val (.lst A))) (some (.val (.lst S))) (some (.own T1)) (some (.own T2)) x7 x8 none none none none none) (by simp [lT', rl, hf1])).trans ?_
  refine (seq_nx (e1 := E18 (some (.val (.scr ns))) (some (.val (.int z))) (some (.val (.lst T))) (some (.val (.lst A))) (some (.val (.lst S))) (some (.own T1)) (some (.own T2)) x7 x8 (some (.val K)) none none none none) (by simp [km, nlk])).trans ?_
  refine (seq_nx (e1 := E18 (some (.val (.scr ns))) (some (.val (.int z))) (some (.val (.lst T))) (some (.val (.lst A))) (some (.val (.lst S))) (some (.own T1)) (some (.own T2)) x7 x8 (some (.val K)) (some (.val (.lst [K1, K2]))) none none none) (by simp [kmS, kmH, noLsts, nlS, nlH])).trans ?_
  refine (seq_nx (e1 := E18 (some (.val (.scr ns))) (some (.val (.int z))) (some (.val (.lst T))) (some (.val (.lst A))) (some (.val (.lst S))) (some (.own T1)) (some (.own T2)) x7 x8 (some (.val K)) (some (.val (.lst [K1, K2]))) x11 x12 x13) (by simp [lT', hmm, hF, hf2])).trans ?_
  simp

end K08
set_option Elab.async false
set_option linter.all false
set_option maxRecDepth 100000
set_option maxHeartbeats 4000000
namespace K08
open PySem PySem.Spec PyProof.Rows L2 PL
def topS (i : Nat) : Stmt := PySem.Challenge.pw_cutlands_k08_whole_meeting_and_moving.main.body.getD i (.Pass ⟨0, 0, 0, 0⟩)
def clsS (i j : Nat) : Stmt := match topS i with
  | .ClassDef _ _ _ body _ _ _ _ _ _ _ => body.getD j (.Pass ⟨0, 0, 0, 0⟩)
  | s => s
abbrev st_is_whole : Stmt := topS 8
theorem sc_is_whole : FnScope ["thing"] ["thing"] (defScope st_is_whole) := ⟨rfl, rfl, rfl, by decide +kernel, rfl, by decide +kernel, by decide +kernel⟩
abbrev st_common : Stmt := topS 9
theorem sc_common : FnScope ["one", "other"] ["one", "other"] (defScope st_common) := ⟨rfl, rfl, rfl, by decide +kernel, rfl, by decide +kernel, by decide +kernel⟩
abbrev st_made : Stmt := topS 10
theorem sc_made : FnScope ["top", "bottom", "share"] ["top", "bottom"] (defScope st_made) := ⟨rfl, rfl, rfl, by decide +kernel, rfl, by decide +kernel, by decide +kernel⟩
abbrev st_plus : Stmt := topS 11
theorem sc_plus : FnScope ["one", "other"] ["one", "other"] (defScope st_plus) := ⟨rfl, rfl, rfl, by decide +kernel, rfl, by decide +kernel, by decide +kernel⟩
abbrev st_minus : Stmt := topS 12
theorem sc_minus : FnScope ["one", "other"] ["one", "other"] (defScope st_minus) := ⟨rfl, rfl, rfl, by decide +kernel, rfl, by decide +kernel, by decide +kernel⟩
abbrev st_times : Stmt := topS 13
theorem sc_times : FnScope ["one", "other"] ["one", "other"] (defScope st_times) := ⟨rfl, rfl, rfl, by decide +kernel, rfl, by decide +kernel, by decide +kernel⟩
abbrev st_over : Stmt := topS 14
theorem sc_over : FnScope ["one", "other"] ["one", "other"] (defScope st_over) := ⟨rfl, rfl, rfl, by decide +kernel, rfl, by decide +kernel, by decide +kernel⟩
abbrev st_less : Stmt := topS 15
theorem sc_less : FnScope ["one", "other"] ["one", "other"] (defScope st_less) := ⟨rfl, rfl, rfl, by decide +kernel, rfl, by decide +kernel, by decide +kernel⟩
abbrev st_is_cut : Stmt := topS 19
theorem sc_is_cut : FnScope ["thing", "dims", "number"] ["thing", "dims"] (defScope st_is_cut) := ⟨rfl, rfl, rfl, by decide +kernel, rfl, by decide +kernel, by decide +kernel⟩
abbrev st_same_spots : Stmt := topS 20
theorem sc_same_spots : FnScope ["one", "other", "k", "j"] ["one", "other"] (defScope st_same_spots) := ⟨rfl, rfl, rfl, by decide +kernel, rfl, by decide +kernel, by decide +kernel⟩
abbrev st_check_cuts : Stmt := topS 21
theorem sc_check_cuts : FnScope ["dims", "thing", "at", "other"] ["dims", "thing"] (defScope st_check_cuts) := ⟨rfl, rfl, rfl, by decide +kernel, rfl, by decide +kernel, by decide +kernel⟩
abbrev st_Cutting___init__ : Stmt := clsS 22 0
theorem sc_Cutting___init__ : FnScope ["self", "dims", "cuts"] ["self", "dims", "cuts"] (defScope st_Cutting___init__) := ⟨rfl, rfl, rfl, by decide +kernel, rfl, by decide +kernel, by decide +kernel⟩
abbrev st_Cutting_dims : Stmt := clsS 22 1
theorem sc_Cutting_dims : FnScope ["self"] ["self"] (defScope st_Cutting_dims) := ⟨rfl, rfl, rfl, by decide +kernel, rfl, by decide +kernel, by decide +kernel⟩
abbrev st_Cutting_many : Stmt := clsS 22 3
theorem sc_Cutting_many : FnScope ["self"] ["self"] (defScope st_Cutting_many) := ⟨rfl, rfl, rfl, by decide +kernel, rfl, by decide +kernel, by decide +kernel⟩
abbrev st_origin : Stmt := topS 23
theorem sc_origin : FnScope ["dims"] ["dims"] (defScope st_origin) := ⟨rfl, rfl, rfl, by decide +kernel, rfl, by decide +kernel, by decide +kernel⟩
abbrev st_mixed : Stmt := topS 28
theorem sc_mixed : FnScope ["row", "by", "other", "more", "numbers", "c", "weights", "share", "number", "one", "two"] ["row", "by", "other", "more"] (defScope st_mixed) := ⟨rfl, rfl, rfl, by decide +kernel, rfl, by decide +kernel, by decide +kernel⟩
abbrev st_with_weights : Stmt := topS 29
theorem sc_with_weights : FnScope ["rows", "found", "k", "row", "j"] ["rows"] (defScope st_with_weights) := ⟨rfl, rfl, rfl, by decide +kernel, rfl, by decide +kernel, by decide +kernel⟩
abbrev st_equal_row : Stmt := topS 30
theorem sc_equal_row : FnScope ["rows", "var", "k", "row"] ["rows", "var"] (defScope st_equal_row) := ⟨rfl, rfl, rfl, by decide +kernel, rfl, by decide +kernel, by decide +kernel⟩
abbrev st_without_by_equal : Stmt := topS 31
theorem sc_without_by_equal : FnScope ["rows", "k", "var", "own", "found", "row", "more", "numbers", "c", "weights"] ["rows", "k", "var"] (defScope st_without_by_equal) := ⟨rfl, rfl, rfl, by decide +kernel, rfl, by decide +kernel, by decide +kernel⟩
abbrev st_without_by_pairs : Stmt := topS 32
theorem sc_without_by_pairs : FnScope ["rows", "var", "lower", "upper", "found", "low", "high", "numbers", "c", "weights", "kind", "row"] ["rows", "var"] (defScope st_without_by_pairs) := ⟨rfl, rfl, rfl, by decide +kernel, rfl, by decide +kernel, by decide +kernel⟩
abbrev st_steps_of : Stmt := topS 33
theorem sc_steps_of : FnScope ["rows", "order", "here", "steps", "var", "k"] ["rows", "order"] (defScope st_steps_of) := ⟨rfl, rfl, rfl, by decide +kernel, rfl, by decide +kernel, by decide +kernel⟩
abbrev st_failing : Stmt := topS 34
theorem sc_failing : FnScope ["rows", "numbers", "c", "kind", "weights", "weight"] ["rows"] (defScope st_failing) := ⟨rfl, rfl, rfl, by decide +kernel, rfl, by decide +kernel, by decide +kernel⟩
abbrev st_edge_of : Stmt := topS 35
theorem sc_edge_of : FnScope ["row", "var", "spot", "left", "k", "number"] ["row", "var", "spot"] (defScope st_edge_of) := ⟨rfl, rfl, rfl, by decide +kernel, rfl, by decide +kernel, by decide +kernel⟩
abbrev st_ends_of : Stmt := topS 36
theorem sc_ends_of : FnScope ["rows", "var", "spot", "low", "high", "row", "edge"] ["rows", "var", "spot"] (defScope st_ends_of) := ⟨rfl, rfl, rfl, by decide +kernel, rfl, by decide +kernel, by decide +kernel⟩
abbrev st_chosen : Stmt := topS 37
theorem sc_chosen : FnScope ["low", "high"] ["low", "high"] (defScope st_chosen) := ⟨rfl, rfl, rfl, by decide +kernel, rfl, by decide +kernel, by decide +kernel⟩
abbrev st_solve : Stmt := topS 38
theorem sc_solve : FnScope ["dims", "rows", "steps", "left", "weights", "spot", "var", "some", "low", "high"] ["dims", "rows"] (defScope st_solve) := ⟨rfl, rfl, rfl, by decide +kernel, rfl, by decide +kernel, by decide +kernel⟩
abbrev st_whole_of : Stmt := topS 39
theorem sc_whole_of : FnScope ["spot", "share", "part"] ["spot"] (defScope st_whole_of) := ⟨rfl, rfl, rfl, by decide +kernel, rfl, by decide +kernel, by decide +kernel⟩
abbrev st_check_some : Stmt := topS 41
theorem sc_check_some : FnScope ["cutting", "some", "at"] ["cutting", "some"] (defScope st_check_some) := ⟨rfl, rfl, rfl, by decide +kernel, rfl, by decide +kernel, by decide +kernel⟩
abbrev st_unit : Stmt := topS 42
theorem sc_unit : FnScope ["dims", "k", "j"] ["dims", "k"] (defScope st_unit) := ⟨rfl, rfl, rfl, by decide +kernel, rfl, by decide +kernel, by decide +kernel⟩
abbrev st_more_ways : Stmt := topS 44
theorem sc_more_ways : FnScope ["dims", "rows", "k", "word", "told", "way"] ["dims", "rows"] (defScope st_more_ways) := ⟨rfl, rfl, rfl, by decide +kernel, rfl, by decide +kernel, by decide +kernel⟩
abbrev st_ways_of : Stmt := topS 43
theorem sc_ways_of : FnScope ["dims", "sums", "numbers"] ["dims", "sums"] (defScope st_ways_of) := ⟨rfl, rfl, rfl, by decide +kernel, rfl, by decide +kernel, by decide +kernel⟩
abbrev st_meet : Stmt := topS 45
theorem sc_meet : FnScope ["cutting", "some", "dims", "cuts", "word", "told", "k", "cut"] ["cutting", "some"] (defScope st_meet) := ⟨rfl, rfl, rfl, by decide +kernel, rfl, by decide +kernel, by decide +kernel⟩
abbrev st__law_cell_at : Stmt := topS 47
theorem sc__law_cell_at : FnScope ["_law_script", "_law_k"] ["_law_script", "_law_k"] (defScope st__law_cell_at) := ⟨rfl, rfl, rfl, by decide +kernel, rfl, by decide +kernel, by decide +kernel⟩
abbrev st__law_draw : Stmt := topS 48
theorem sc__law_draw : FnScope ["_law_cell", "_law_k", "_law_bound", "_law_left", "_law_j", "_law_stir"] ["_law_cell", "_law_k", "_law_bound"] (defScope st__law_draw) := ⟨rfl, rfl, rfl, by decide +kernel, rfl, by decide +kernel, by decide +kernel⟩
abbrev st__law_same : Stmt := topS 49
theorem sc__law_same : FnScope ["_law_one", "_law_other", "_law_k", "_law_j"] ["_law_one", "_law_other"] (defScope st__law_same) := ⟨rfl, rfl, rfl, by decide +kernel, rfl, by decide +kernel, by decide +kernel⟩
abbrev st__law_cut : Stmt := topS 50
theorem sc__law_cut : FnScope ["_law_cell", "_law_dims", "_law_ahead", "_law_numbers", "_law_c", "_law_way", "_law_far", "_law_j", "_law_number", "_law_part"] ["_law_cell", "_law_dims", "_law_ahead"] (defScope st__law_cut) := ⟨rfl, rfl, rfl, by decide +kernel, rfl, by decide +kernel, by decide +kernel⟩
abbrev st__law_cuts : Stmt := topS 51
theorem sc__law_cuts : FnScope ["_law_script", "_law_at", "_law_dims", "_law_many", "_law_found", "_law_k", "_law_cut_here", "_law_other"] ["_law_script", "_law_at", "_law_dims", "_law_many"] (defScope st__law_cuts) := ⟨rfl, rfl, rfl, by decide +kernel, rfl, by decide +kernel, by decide +kernel⟩
abbrev st__law_kind : Stmt := topS 52
theorem sc__law_kind : FnScope ["_law_cutting", "_law_some", "_law_found"] ["_law_cutting", "_law_some"] (defScope st__law_kind) := ⟨rfl, rfl, rfl, by decide +kernel, rfl, by decide +kernel, by decide +kernel⟩
abbrev st__law_lists : Stmt := topS 53
theorem sc__law_lists : FnScope ["_law_many", "_law_most", "_law_found", "_law_size", "_law_longer", "_law_some", "_law_begin", "_law_k"] ["_law_many", "_law_most"] (defScope st__law_lists) := ⟨rfl, rfl, rfl, by decide +kernel, rfl, by decide +kernel, by decide +kernel⟩
abbrev st_law : Stmt := topS 54
theorem sc_law : FnScope ["_law_script", "_law_dims", "_law_cuts_here", "_law_often", "_law_steps", "_law_scaled", "_law_shifted", "_law_k", "_law_more", "_law_cutting", "_law_others", "_law_some", "_law_due", "_law_before", "_law_j", "_law_number", "_law_step", "_law_other"] ["_law_script"] (defScope st_law) := ⟨rfl, rfl, rfl, by decide +kernel, rfl, by decide +kernel, by decide +kernel⟩
structure Txt (g : G) : Prop where
  cut : CutC g
  mC : g.mg "Cutting" = some (.ref g.cC)
  z_abs : g.mg "abs" = none
  z_all : g.mg "all" = none
  z_bool : g.mg "bool" = none
  z_enumerate : g.mg "enumerate" = none
  z_int : g.mg "int" = none
  z_isinstance : g.mg "isinstance" = none
  z_len : g.mg "len" = none
  z_list : g.mg "list" = none
  z_max : g.mg "max" = none
  z_min : g.mg "min" = none
  z_range : g.mg "range" = none
  z_reversed : g.mg "reversed" = none
  z_sum : g.mg "sum" = none
  z_tuple : g.mg "tuple" = none
  z_zip : g.mg "zip" = none
  x_NoFraction : ∃ C, ExcF g "NoFraction" C
  x_NoNumber : ∃ C, ExcF g "NoNumber" C
  c_EQUAL : ∃ u, g.mg "EQUAL" = some u ∧ RelV (.str "=") u
  c_LOOSE : ∃ u, g.mg "LOOSE" = some u ∧ RelV (.str ">=") u
  c_MOST_CUTS : ∃ u, g.mg "MOST_CUTS" = some u ∧ RelV (.int 7) u
  c_MOST_DIMS : ∃ u, g.mg "MOST_DIMS" = some u ∧ RelV (.int 3) u
  c_NOUGHT : TupC g "NOUGHT" [0, 1]
  c_STRICT : ∃ u, g.mg "STRICT" = some u ∧ RelV (.str ">") u
theorem ok_is_whole {P : Program} {w : World} {base : Heap} {g : G} (T : Txt g) {f : Addr} {fd : FuncData} (F : Fun g.K "is_whole" "is_whole" st_is_whole f fd) (hm : g.mg "is_whole" = some (.ref f)) (hb : Binds g.K fd ["thing"] []) : Fn P w base g "is_whole" 1 1 d_is_whole := by
  rw [d_is_whole_eq]; unfold s_is_whole; exact def_ok F sc_is_whole hm hb fun cdv A outer sh H E B Hs0 hr =>
  (ss_one (ss_ret (se_and (se_isi kit_int rfl (by rfl) T.z_isinstance (by rfl) T.z_int (by decide +kernel) (se_var 0 (pv 0))) (se_one (se_not (se_isi kit_bool rfl (by rfl) T.z_isinstance (by rfl) T.z_bool (by decide +kernel) (se_var 0 (pv 0))))))))
theorem ok_common {P : Program} {w : World} {base : Heap} {g : G} (T : Txt g) {f : Addr} {fd : FuncData} (F : Fun g.K "common" "common" st_common f fd) (hm : g.mg "common" = some (.ref f)) (hb : Binds g.K fd ["one", "other"] []) : Fn P w base g "common" 2 1 d_common := by
  rw [d_common_eq]; unfold s_common; exact def_ok F sc_common hm hb fun cdv A outer sh H E B Hs0 hr =>
  (ss_cons (ss_set (i := 0) sc_common.nd rfl (by first | exact Or.inl rfl | exact Or.inr rfl) (se_callB' call_abs cd_abs (by rfl) T.z_abs (by decide +kernel) (sa_cons (se_var 0 (pv 0)) sa_nil)))
    (ss_cons (ss_set (i := 1) sc_common.nd rfl (by first | exact Or.inl rfl | exact Or.inr rfl) (se_callB' call_abs cd_abs (by rfl) T.z_abs (by decide +kernel) (sa_cons (se_var 1 (pv 1)) sa_nil)))
    (ss_cons (ss_while fuel_common_1 (passes_of rfl) (st_cmp op_gt od_gt (se_var 1 (pv 1)) se_int (nomark _)) (ss_one (ss_par (i := 0) (j := 1) rfl sc_common.nd rfl rfl (by decide) rfl rfl (se_var 1 (pv 1)) (se_op op_modN od_mod (se_var 0 (pv 0)) (se_var 1 (pv 1))) (by rfl))))
    (ss_one (ss_ret (se_var 0 (pv 0)))))))
theorem ok_made {P : Program} {w : World} {base : Heap} {g : G} (T : Txt g) {f : Addr} {fd : FuncData} (F : Fun g.K "made" "made" st_made f fd) (hm : g.mg "made" = some (.ref f)) (hb : Binds g.K fd ["top", "bottom"] []) (F_common : Fn P w base g "common" 2 1 d_common) : Fn P w base g "made" 2 4 d_made := by
  rw [d_made_eq]; unfold s_made; exact def_ok F sc_made hm hb fun cdv A outer sh H E B Hs0 hr =>
  (ss_cons (ss_if (st_cmp (op_eqD hr.units) od_eq (se_var 1 (pv 1)) se_int (nomark _)) (ss_one (ss_raiseN T.x_NoFraction rfl rfl rfl (takes_of rfl rfl rfl rfl) (by rfl))) ss_nil)
    (ss_cons (ss_set (i := 2) sc_made.nd rfl (by first | exact Or.inl rfl | exact Or.inr rfl) (se_call F_common rfl rfl (hr.mono (by decide)) (passes_call (takes_of rfl rfl rfl rfl) (fun _ _ _ _ h => h)) (by rfl) (sa_cons (se_var 0 (pv 0)) (sa_cons (se_var 1 (pv 1)) sa_nil))))
    (ss_cons (ss_if (st_cmp op_lt od_lt (se_var 1 (pv 1)) se_int (nomark _)) (ss_one (ss_set (i := 2) sc_made.nd rfl (by first | exact Or.inl rfl | exact Or.inr rfl) (se_un un_neg ud_neg (se_var 2 (pv 2))))) ss_nil)
    (ss_one (ss_ret (se_tup (sa_cons (se_op op_fdivB od_fdiv (se_var 0 (pv 0)) (se_var 2 (pv 2))) (sa_cons (se_op op_fdivB od_fdiv (se_var 1 (pv 1)) (se_var 2 (pv 2))) sa_nil))))))))
theorem ok_plus {P : Program} {w : World} {base : Heap} {g : G} (T : Txt g) {f : Addr} {fd : FuncData} (F : Fun g.K "plus" "plus" st_plus f fd) (hm : g.mg "plus" = some (.ref f)) (hb : Binds g.K fd ["one", "other"] []) (F_made : Fn P w base g "made" 2 4 d_made) : Fn P w base g "plus" 2 5 d_plus := by
  rw [d_plus_eq]; unfold s_plus; exact def_ok F sc_plus hm hb fun cdv A outer sh H E B Hs0 hr =>
  (ss_one (ss_ret (se_call F_made rfl rfl (hr.mono (by decide)) (passes_call (takes_of rfl rfl rfl rfl) (fun _ _ _ _ h => h)) (by rfl) (sa_cons (se_op or_add od_add (se_op or_mulX od_mulX (se_ix rfl (se_var 0 (pv 0)) se_int (fun _ _ => rfl)) (se_ix rfl (se_var 1 (pv 1)) se_int (fun _ _ => rfl))) (se_op or_mulX od_mulX (se_ix rfl (se_var 1 (pv 1)) se_int (fun _ _ => rfl)) (se_ix rfl (se_var 0 (pv 0)) se_int (fun _ _ => rfl)))) (sa_cons (se_op or_mulX od_mulX (se_ix rfl (se_var 0 (pv 0)) se_int (fun _ _ => rfl)) (se_ix rfl (se_var 1 (pv 1)) se_int (fun _ _ => rfl))) sa_nil)))))
theorem ok_minus {P : Program} {w : World} {base : Heap} {g : G} (T : Txt g) {f : Addr} {fd : FuncData} (F : Fun g.K "minus" "minus" st_minus f fd) (hm : g.mg "minus" = some (.ref f)) (hb : Binds g.K fd ["one", "other"] []) (F_made : Fn P w base g "made" 2 4 d_made) : Fn P w base g "minus" 2 5 d_minus := by
  rw [d_minus_eq]; unfold s_minus; exact def_ok F sc_minus hm hb fun cdv A outer sh H E B Hs0 hr =>
  (ss_one (ss_ret (se_call F_made rfl rfl (hr.mono (by decide)) (passes_call (takes_of rfl rfl rfl rfl) (fun _ _ _ _ h => h)) (by rfl) (sa_cons (se_op op_sub od_sub (se_op or_mulX od_mulX (se_ix rfl (se_var 0 (pv 0)) se_int (fun _ _ => rfl)) (se_ix rfl (se_var 1 (pv 1)) se_int (fun _ _ => rfl))) (se_op or_mulX od_mulX (se_ix rfl (se_var 1 (pv 1)) se_int (fun _ _ => rfl)) (se_ix rfl (se_var 0 (pv 0)) se_int (fun _ _ => rfl)))) (sa_cons (se_op or_mulX od_mulX (se_ix rfl (se_var 0 (pv 0)) se_int (fun _ _ => rfl)) (se_ix rfl (se_var 1 (pv 1)) se_int (fun _ _ => rfl))) sa_nil)))))
theorem ok_times {P : Program} {w : World} {base : Heap} {g : G} (T : Txt g) {f : Addr} {fd : FuncData} (F : Fun g.K "times" "times" st_times f fd) (hm : g.mg "times" = some (.ref f)) (hb : Binds g.K fd ["one", "other"] []) (F_made : Fn P w base g "made" 2 4 d_made) : Fn P w base g "times" 2 5 d_times := by
  rw [d_times_eq]; unfold s_times; exact def_ok F sc_times hm hb fun cdv A outer sh H E B Hs0 hr =>
  (ss_one (ss_ret (se_call F_made rfl rfl (hr.mono (by decide)) (passes_call (takes_of rfl rfl rfl rfl) (fun _ _ _ _ h => h)) (by rfl) (sa_cons (se_op or_mulX od_mulX (se_ix rfl (se_var 0 (pv 0)) se_int (fun _ _ => rfl)) (se_ix rfl (se_var 1 (pv 1)) se_int (fun _ _ => rfl))) (sa_cons (se_op or_mulX od_mulX (se_ix rfl (se_var 0 (pv 0)) se_int (fun _ _ => rfl)) (se_ix rfl (se_var 1 (pv 1)) se_int (fun _ _ => rfl))) sa_nil)))))
theorem ok_over {P : Program} {w : World} {base : Heap} {g : G} (T : Txt g) {f : Addr} {fd : FuncData} (F : Fun g.K "over" "over" st_over f fd) (hm : g.mg "over" = some (.ref f)) (hb : Binds g.K fd ["one", "other"] []) (F_made : Fn P w base g "made" 2 4 d_made) : Fn P w base g "over" 2 5 d_over := by
  rw [d_over_eq]; unfold s_over; exact def_ok F sc_over hm hb fun cdv A outer sh H E B Hs0 hr =>
  (ss_cons (ss_if (st_cmp (op_eqD hr.units) od_eq (se_ix rfl (se_var 1 (pv 1)) se_int (fun _ _ => rfl)) se_int (nomark _)) (ss_one (ss_raiseN T.x_NoFraction rfl rfl rfl (takes_of rfl rfl rfl rfl) (by rfl))) ss_nil)
    (ss_one (ss_ret (se_call F_made rfl rfl (hr.mono (by decide)) (passes_call (takes_of rfl rfl rfl rfl) (fun _ _ _ _ h => h)) (by rfl) (sa_cons (se_op or_mulX od_mulX (se_ix rfl (se_var 0 (pv 0)) se_int (fun _ _ => rfl)) (se_ix rfl (se_var 1 (pv 1)) se_int (fun _ _ => rfl))) (sa_cons (se_op or_mulX od_mulX (se_ix rfl (se_var 0 (pv 0)) se_int (fun _ _ => rfl)) (se_ix rfl (se_var 1 (pv 1)) se_int (fun _ _ => rfl))) sa_nil))))))
theorem ok_less {P : Program} {w : World} {base : Heap} {g : G} (T : Txt g) {f : Addr} {fd : FuncData} (F : Fun g.K "less" "less" st_less f fd) (hm : g.mg "less" = some (.ref f)) (hb : Binds g.K fd ["one", "other"] []) : Fn P w base g "less" 2 1 d_less := by
  rw [d_less_eq]; unfold s_less; exact def_ok F sc_less hm hb fun cdv A outer sh H E B Hs0 hr =>
  (ss_one (ss_ret (se_cmp op_lt od_lt (se_op or_mulX od_mulX (se_ix rfl (se_var 0 (pv 0)) se_int (fun _ _ => rfl)) (se_ix rfl (se_var 1 (pv 1)) se_int (fun _ _ => rfl))) (se_op or_mulX od_mulX (se_ix rfl (se_var 1 (pv 1)) se_int (fun _ _ => rfl)) (se_ix rfl (se_var 0 (pv 0)) se_int (fun _ _ => rfl))) (nomark _))))
theorem ok_is_cut {P : Program} {w : World} {base : Heap} {g : G} (T : Txt g) {f : Addr} {fd : FuncData} (F : Fun g.K "is_cut" "is_cut" st_is_cut f fd) (hm : g.mg "is_cut" = some (.ref f)) (hb : Binds g.K fd ["thing", "dims"] []) (F_is_whole : Fn P w base g "is_whole" 1 1 d_is_whole) : Fn P w base g "is_cut" 2 2 d_is_cut := by
  rw [d_is_cut_eq]; unfold s_is_cut; simp only [c_is_cut_1_eq]; exact def_ok F sc_is_cut hm hb fun cdv A outer sh H E B Hs0 hr =>
  (ss_cons (ss_if (st_of (sw_or (st_not (st_val (se_isi kit_tuple rfl (by rfl) T.z_isinstance (by rfl) T.z_tuple (by decide +kernel) (se_var 0 (pv 0))))) (sw_or1 (st_cmp (op_neD hr.units) od_ne (se_callB' call_len cd_len (by rfl) T.z_len (by decide +kernel) (sa_cons (se_var 0 (pv 0)) sa_nil)) (se_op or_add od_add (se_var 1 (pv 1)) se_int) (nomark _))))) (ss_one (ss_ret se_bl)) ss_nil)
    (ss_one (ss_ret (se_and (se_callB' (cr_all rfl) cd_bls (by rfl) T.z_all (by decide +kernel) (sa_cons (eo_er (eo_lc rfl sc_is_cut.nd (si_seq rfl (se_var 0 (pv 0))) (blkOk_by (own := [("number", 2)]) (by refine (?_ : blkC ["thing", "dims", "number"] (defScope st_is_cut) _ [("number", 2)] = true); decide +kernel)) (patIn_name (by decide)) (fun _ _ _ _ _ => (sg_name (i := 2) sc_is_cut.nd rfl (by first | exact Or.inl rfl | exact Or.inr rfl))) (fun _ _ _ _ _ => sts_nil) (fun _ _ _ _ _ => (se_call F_is_whole rfl rfl (hr.mono (by decide)) passL (by rfl) (sa_cons (se_var 2 (pv 2)) sa_nil))))) sa_nil)) (se_one (se_cmp (op_neD hr.units) od_ne (se_sl rfl (se_var 0 (pv 0)) so_none (so_some (se_var 1 (pv 1)))) (se_op or_mulX od_mulX (se_tup (sa_cons se_int sa_nil)) (se_var 1 (pv 1))) (nomark _)))))))
theorem ok_same_spots {P : Program} {w : World} {base : Heap} {g : G} (T : Txt g) {f : Addr} {fd : FuncData} (F : Fun g.K "same_spots" "same_spots" st_same_spots f fd) (hm : g.mg "same_spots" = some (.ref f)) (hb : Binds g.K fd ["one", "other"] []) : Fn P w base g "same_spots" 2 1 d_same_spots := by
  rw [d_same_spots_eq]; unfold s_same_spots; simp only [b_same_spots_1_eq, b_same_spots_2_eq]; exact def_ok F sc_same_spots hm hb fun cdv A outer sh H E B Hs0 hr =>
  (ss_cons (ss_forR (passes_of rfl) rfl (si_range1 (by rfl) T.z_range (sa_cons (se_callB' call_len cd_len (by rfl) T.z_len (by decide +kernel) (sa_cons (se_var 0 (pv 0)) sa_nil)) sa_nil)) (sg_name (i := 2) sc_same_spots.nd rfl (by first | exact Or.inl rfl | exact Or.inr rfl)) (ss_one (ss_forR (passes_of rfl) rfl (si_range1 (by rfl) T.z_range (sa_cons (se_var 2 (pv 2)) sa_nil)) (sg_name (i := 3) sc_same_spots.nd rfl (by first | exact Or.inl rfl | exact Or.inr rfl)) (ss_one (ss_if (st_cmp (op_neD hr.units) od_ne (se_op or_mulX od_mulX (se_ix rfl (se_var 0 (pv 0)) (se_var 2 (pv 2)) (fun _ _ => rfl)) (se_ix rfl (se_var 1 (pv 1)) (se_var 3 (pv 3)) (fun _ _ => rfl))) (se_op or_mulX od_mulX (se_ix rfl (se_var 0 (pv 0)) (se_var 3 (pv 3)) (fun _ _ => rfl)) (se_ix rfl (se_var 1 (pv 1)) (se_var 2 (pv 2)) (fun _ _ => rfl))) (nomark _)) (ss_one (ss_ret se_bl)) ss_nil)))))
    (ss_one (ss_ret se_bl)))
theorem ok_check_cuts {P : Program} {w : World} {base : Heap} {g : G} (T : Txt g) {f : Addr} {fd : FuncData} (F : Fun g.K "check_cuts" "check_cuts" st_check_cuts f fd) (hm : g.mg "check_cuts" = some (.ref f)) (hb : Binds g.K fd ["dims", "thing"] []) (F_is_cut : Fn P w base g "is_cut" 2 2 d_is_cut) (F_is_whole : Fn P w base g "is_whole" 1 1 d_is_whole) (F_same_spots : Fn P w base g "same_spots" 2 1 d_same_spots) : Fn P w base g "check_cuts" 2 4 d_check_cuts := by
  rw [d_check_cuts_eq]; unfold s_check_cuts; simp only [b_check_cuts_1_eq, b_check_cuts_2_eq]; exact def_ok F sc_check_cuts hm hb fun cdv A outer sh H E B Hs0 hr =>
  (ss_cons (ss_if (st_of (sw_or (st_not (st_val (se_call F_is_whole rfl rfl (hr.mono (by decide)) (passes_call (takes_of rfl rfl rfl rfl) (fun _ _ _ _ h => h)) (by rfl) (sa_cons (se_var 0 (pv 0)) sa_nil)))) (sw_or (st_not (st_chain od_le od_le se_int (se_var 0 (pv 0)) (se_gi T.c_MOST_DIMS rfl (by rfl)) (pt_chain op_le op_le))) (sw_or1 (st_not (st_val (se_isi kit_list rfl (by rfl) T.z_isinstance (by rfl) T.z_list (by decide +kernel) (se_var 1 (pv 1))))))))) (ss_one ss_bad) ss_nil)
    (ss_one (ss_forR (passes_of rfl) rfl (si_range1 (by rfl) T.z_range (sa_cons (se_callB' call_len cd_len (by rfl) T.z_len (by decide +kernel) (sa_cons (se_var 1 (pv 1)) sa_nil)) sa_nil)) (sg_name (i := 2) sc_check_cuts.nd rfl (by first | exact Or.inl rfl | exact Or.inr rfl)) (ss_cons (ss_if (st_of (sw_or (st_cmp op_ge od_ge (se_var 2 (pv 2)) (se_gi T.c_MOST_CUTS rfl (by rfl)) (nomark _)) (sw_or1 (st_not (st_val (se_call F_is_cut rfl rfl (hr.mono (by decide)) (passes_call (takes_of rfl rfl rfl rfl) (fun _ _ _ _ h => h)) (by rfl) (sa_cons (se_ix rfl (se_var 1 (pv 1)) (se_var 2 (pv 2)) (fun _ _ => rfl)) (sa_cons (se_var 0 (pv 0)) sa_nil)))))))) (ss_one ss_bad) ss_nil)
    (ss_one (ss_for (passes_of rfl) rfl (si_seq rfl (se_sl rfl (se_var 1 (pv 1)) so_none (so_some (se_var 2 (pv 2))))) (sg_name (i := 3) sc_check_cuts.nd rfl (by first | exact Or.inl rfl | exact Or.inr rfl)) (ss_one (ss_if (st_val (se_call F_same_spots rfl rfl (hr.mono (by decide)) (passes_call (takes_of rfl rfl rfl rfl) (fun _ _ _ _ h => h)) (by rfl) (sa_cons (se_ix rfl (se_var 1 (pv 1)) (se_var 2 (pv 2)) (fun _ _ => rfl)) (sa_cons (se_var 3 (pv 3)) sa_nil)))) (ss_one ss_bad) ss_nil))))))))
theorem ok_Cutting {P : Program} {w : World} {base : Heap} {g : G} (T : Txt g) {f : Addr} {fd : FuncData} (F : Fun g.K "__init__" "Cutting.__init__" st_Cutting___init__ f fd) (M : Mk g.K g.cC f) (hb : Binds g.K fd ["self", "dims", "cuts"] []) (F_check_cuts : Fn P w base g "check_cuts" 2 4 d_check_cuts) : MkF P w base g 5 (initD d_check_cuts) := ⟨T.mC, T.cut, f, fd, _, M, hb, init_fn F sc_Cutting___init__ T.cut fun cdv A outer sh H E hr =>
  (pss_cons (ps_expr (se_call F_check_cuts rfl rfl (hr.mono (by decide)) (passes_call (takes_of rfl rfl rfl rfl) (fun _ _ _ _ h => h)) (by rfl) (sa_cons (se_var 1 (pv 1)) (sa_cons (se_var 2 (pv 2)) sa_nil)))) (pss_cons (ps_fld (pv 0) (pv 1) rfl) (pss_one (ps_fld (pv 0) (se_callTy call_tuple_of cd_tuple (by rfl) T.z_tuple (by decide +kernel) (sa_cons (se_var 2 (pv 2)) sa_nil)) rfl))))⟩
theorem ok_Cutting_dims {P : Program} {w : World} {base : Heap} {g : G} (T : Txt g) {f : Addr} {fd : FuncData} (F : Fun g.K "dims" "Cutting.dims" st_Cutting_dims f fd) (hm : Meth g.K g.cC "dims" f) (hb : Binds g.K fd ["self"] []) : FnM P w base g "dims" 1 1 d_Cutting_dims := by
  rw [d_Cutting_dims_eq]; unfold s_Cutting_dims; exact defM_ok F sc_Cutting_dims hm (by decide) hb fun cdv A outer sh H E B Hs0 hr =>
  (ss_one (ss_ret (se_wide T.cut rfl (se_var 0 (pv 0)))))
theorem ok_Cutting_many {P : Program} {w : World} {base : Heap} {g : G} (T : Txt g) {f : Addr} {fd : FuncData} (F : Fun g.K "many" "Cutting.many" st_Cutting_many f fd) (hm : Meth g.K g.cC "many" f) (hb : Binds g.K fd ["self"] []) : FnM P w base g "many" 1 1 d_Cutting_many := by
  rw [d_Cutting_many_eq]; unfold s_Cutting_many; exact defM_ok F sc_Cutting_many hm (by decide) hb fun cdv A outer sh H E B Hs0 hr =>
  (ss_one (ss_ret (se_callB' call_len cd_len (by rfl) T.z_len (by decide +kernel) (sa_cons (se_rows T.cut rfl (se_var 0 (pv 0))) sa_nil))))
theorem ok_origin {P : Program} {w : World} {base : Heap} {g : G} (T : Txt g) {f : Addr} {fd : FuncData} (F : Fun g.K "origin" "origin" st_origin f fd) (hm : g.mg "origin" = some (.ref f)) (hb : Binds g.K fd ["dims"] []) : Fn P w base g "origin" 1 1 d_origin := by
  rw [d_origin_eq]; unfold s_origin; exact def_ok F sc_origin hm hb fun cdv A outer sh H E B Hs0 hr =>
  (ss_one (ss_ret (se_op or_mulX od_mulX (se_tup (sa_cons (se_gt T.c_NOUGHT rfl (by rfl)) sa_nil)) (se_var 0 (pv 0)))))
theorem ok_mixed {P : Program} {w : World} {base : Heap} {g : G} (T : Txt g) {f : Addr} {fd : FuncData} (F : Fun g.K "mixed" "mixed" st_mixed f fd) (hm : g.mg "mixed" = some (.ref f)) (hb : Binds g.K fd ["row", "by", "other", "more"] []) (F_common : Fn P w base g "common" 2 1 d_common) : Fn P w base g "mixed" 4 2 d_mixed := by
  rw [d_mixed_eq]; unfold s_mixed; simp only [c_mixed_1_eq, c_mixed_2_eq, b_mixed_1_eq, c_mixed_3_eq, c_mixed_4_eq]; exact def_ok F sc_mixed hm hb fun cdv A outer sh H E B Hs0 hr =>
  (ss_cons (ss_setL (ss_ownLc (i := 4) rfl sc_mixed.nd rfl rfl (sw_true rfl rfl rfl (by decide +kernel)) (si_zip2 rfl (by rfl) T.z_zip (sa_cons (se_ix rfl (se_var 0 (pv 0)) se_int (fun _ _ => rfl)) (sa_cons (se_ix rfl (se_var 2 (pv 2)) se_int (fun _ _ => rfl)) sa_nil))) (blkOk_by (own := [("one", 9), ("two", 10)]) (by refine (?_ : blkC ["row", "by", "other", "more", "numbers", "c", "weights", "share", "number", "one", "two"] (defScope st_mixed) _ [("one", 9), ("two", 10)] = true); decide +kernel)) (patIn_tup (patIn_cons (patIn_name (by decide)) (patIn_cons (patIn_name (by decide)) patIn_nil))) (fun _ _ _ _ _ => (sg_tup rfl rfl (sgs_cons (sg_name (i := 9) sc_mixed.nd rfl (by first | exact Or.inl rfl | exact Or.inr rfl)) (sgs_cons (sg_name (i := 10) sc_mixed.nd rfl (by first | exact Or.inl rfl | exact Or.inr rfl)) sgs_nil)))) (fun _ _ _ _ _ => sts_nil) (fun _ _ _ _ _ => (se_op or_add od_add (se_op or_mulX od_mulX (se_var 1 (pv 1)) (se_var 9 (pv 9))) (se_op or_mulX od_mulX (se_var 3 (pv 3)) (se_var 10 (pv 10)))))))
    (ss_cons (ss_set (i := 5) sc_mixed.nd rfl (by first | exact Or.inl rfl | exact Or.inr rfl) (se_op or_add od_add (se_op or_mulX od_mulX (se_var 1 (pv 1)) (se_ix rfl (se_var 0 (pv 0)) se_int (fun _ _ => rfl))) (se_op or_mulX od_mulX (se_var 3 (pv 3)) (se_ix rfl (se_var 2 (pv 2)) se_int (fun _ _ => rfl)))))
    (ss_cons (ss_setL (ss_ownLc (i := 6) rfl sc_mixed.nd rfl rfl (sw_true rfl rfl rfl (by decide +kernel)) (si_zip2 rfl (by rfl) T.z_zip (sa_cons (se_ix rfl (se_var 0 (pv 0)) se_int (fun _ _ => rfl)) (sa_cons (se_ix rfl (se_var 2 (pv 2)) se_int (fun _ _ => rfl)) sa_nil))) (blkOk_by (own := [("one", 9), ("two", 10)]) (by refine (?_ : blkC ["row", "by", "other", "more", "numbers", "c", "weights", "share", "number", "one", "two"] (defScope st_mixed) _ [("one", 9), ("two", 10)] = true); decide +kernel)) (patIn_tup (patIn_cons (patIn_name (by decide)) (patIn_cons (patIn_name (by decide)) patIn_nil))) (fun _ _ _ _ _ => (sg_tup rfl rfl (sgs_cons (sg_name (i := 9) sc_mixed.nd rfl (by first | exact Or.inl rfl | exact Or.inr rfl)) (sgs_cons (sg_name (i := 10) sc_mixed.nd rfl (by first | exact Or.inl rfl | exact Or.inr rfl)) sgs_nil)))) (fun _ _ _ _ _ => sts_nil) (fun _ _ _ _ _ => (se_op or_add od_add (se_op or_mulX od_mulX (se_var 1 (pv 1)) (se_var 9 (pv 9))) (se_op or_mulX od_mulX (se_var 3 (pv 3)) (se_var 10 (pv 10)))))))
    (ss_cons (ss_set (i := 7) sc_mixed.nd rfl (by first | exact Or.inl rfl | exact Or.inr rfl) se_int)
    (ss_cons (ss_for (passes_of rfl) rfl (si_seq rfl (se_op or_add od_add (se_op or_add od_add (se_var 4 (pv 4)) (se_var 6 (pv 6))) (eo_er (eo_lst (sa_cons (se_var 5 (pv 5)) sa_nil))))) (sg_name (i := 8) sc_mixed.nd rfl (by first | exact Or.inl rfl | exact Or.inr rfl)) (ss_one (ss_set (i := 7) sc_mixed.nd rfl (by first | exact Or.inl rfl | exact Or.inr rfl) (se_call F_common rfl rfl (hr.mono (by decide)) (passes_call (takes_of rfl rfl rfl rfl) (fun _ _ _ _ h => h)) (by rfl) (sa_cons (se_var 7 (pv 7)) (sa_cons (se_var 8 (pv 8)) sa_nil))))))
    (ss_cons (ss_set (i := 7) sc_mixed.nd rfl (by first | exact Or.inl rfl | exact Or.inr rfl) (se_callB' (call_max2 rfl) cd_max2 (by rfl) T.z_max (by decide +kernel) (sa_cons se_int (sa_cons (se_var 7 (pv 7)) sa_nil))))
    (ss_one (ss_ret (se_tup (sa_cons (se_callTy call_tuple_of cd_tuple (by rfl) T.z_tuple (by decide +kernel) (sa_cons (eo_er (eo_lc rfl sc_mixed.nd (si_seq rfl (se_var 4 (pv 4))) (blkOk_by (own := [("one", 9)]) (by refine (?_ : blkC ["row", "by", "other", "more", "numbers", "c", "weights", "share", "number", "one", "two"] (defScope st_mixed) _ [("one", 9)] = true); decide +kernel)) (patIn_name (by decide)) (fun _ _ _ _ _ => (sg_name (i := 9) sc_mixed.nd rfl (by first | exact Or.inl rfl | exact Or.inr rfl))) (fun _ _ _ _ _ => sts_nil) (fun _ _ _ _ _ => (se_op op_fdivB od_fdiv (se_var 9 (pv 9)) (se_var 7 (pv 7)))))) sa_nil)) (sa_cons (se_op op_fdivB od_fdiv (se_var 5 (pv 5)) (se_var 7 (pv 7))) (sa_cons (se_callTy call_tuple_of cd_tuple (by rfl) T.z_tuple (by decide +kernel) (sa_cons (eo_er (eo_lc rfl sc_mixed.nd (si_seq rfl (se_var 6 (pv 6))) (blkOk_by (own := [("one", 9)]) (by refine (?_ : blkC ["row", "by", "other", "more", "numbers", "c", "weights", "share", "number", "one", "two"] (defScope st_mixed) _ [("one", 9)] = true); decide +kernel)) (patIn_name (by decide)) (fun _ _ _ _ _ => (sg_name (i := 9) sc_mixed.nd rfl (by first | exact Or.inl rfl | exact Or.inr rfl))) (fun _ _ _ _ _ => sts_nil) (fun _ _ _ _ _ => (se_op op_fdivB od_fdiv (se_var 9 (pv 9)) (se_var 7 (pv 7)))))) sa_nil)) sa_nil))))))))))))
theorem ok_with_weights {P : Program} {w : World} {base : Heap} {g : G} (T : Txt g) {f : Addr} {fd : FuncData} (F : Fun g.K "with_weights" "with_weights" st_with_weights f fd) (hm : g.mg "with_weights" = some (.ref f)) (hb : Binds g.K fd ["rows"] []) : Fn P w base g "with_weights" 1 1 d_with_weights := by
  rw [d_with_weights_eq]; unfold s_with_weights; simp only [c_with_weights_1_eq, b_with_weights_1_eq]; exact def_ok F sc_with_weights hm hb fun cdv A outer sh H E B Hs0 hr =>
  (ss_cons (ss_own (i := 1) sc_with_weights.nd rfl (by first | exact Or.inl rfl | exact Or.inr rfl) (eo_lst sa_nil))
    (ss_cons (ss_for (passes_of rfl) rfl (si_enum rfl (by rfl) T.z_enumerate (sa_cons (se_var 0 (pv 0)) sa_nil)) (sg_tup rfl rfl (sgs_cons (sg_name (i := 2) sc_with_weights.nd rfl (by first | exact Or.inl rfl | exact Or.inr rfl)) (sgs_cons (sg_name (i := 3) sc_with_weights.nd rfl (by first | exact Or.inl rfl | exact Or.inr rfl)) sgs_nil))) (ss_one (ss_app (pv 1) (se_tup (sa_cons (se_callTy call_tuple_of cd_tuple (by rfl) T.z_tuple (by decide +kernel) (sa_cons (se_ix rfl (se_var 3 (pv 3)) se_int (fun _ _ => rfl)) sa_nil)) (sa_cons (se_ix rfl (se_var 3 (pv 3)) se_int (fun _ _ => rfl)) (sa_cons (se_ix rfl (se_var 3 (pv 3)) se_int (fun _ _ => rfl)) (sa_cons (se_callTy call_tuple_of cd_tuple (by rfl) T.z_tuple (by decide +kernel) (sa_cons (eo_er (eo_lc rfl sc_with_weights.nd (ir_of_r (si_range1 (by rfl) T.z_range (sa_cons (se_callB' call_len cd_len (by rfl) T.z_len (by decide +kernel) (sa_cons (se_var 0 (pv 0)) sa_nil)) sa_nil))) (blkOk_by (own := [("j", 4)]) (by refine (?_ : blkC ["rows", "found", "k", "row", "j"] (defScope st_with_weights) _ [("j", 4)] = true); decide +kernel)) (patIn_name (by decide)) (fun _ _ _ _ _ => (sg_name (i := 4) sc_with_weights.nd rfl (by first | exact Or.inl rfl | exact Or.inr rfl))) (fun _ _ _ _ _ => sts_nil) (fun _ _ _ _ _ => (se_callTy call_int1 cd_int (by rfl) T.z_int (by decide +kernel) (sa_cons (se_cmp (op_eqD hr.units) od_eq (se_var 2 (pv 2)) (se_var 4 (pv 4)) (nomark _)) sa_nil))))) sa_nil)) sa_nil))))) (fun ho ha => pe_bm PySem.F.plainAttrs_list PySem.F.slot_list_append PySem.F.type_list_append mt_append ho ha))))
    (ss_one (ss_retV (pv 1)))))
theorem ok_equal_row {P : Program} {w : World} {base : Heap} {g : G} (T : Txt g) {f : Addr} {fd : FuncData} (F : Fun g.K "equal_row" "equal_row" st_equal_row f fd) (hm : g.mg "equal_row" = some (.ref f)) (hb : Binds g.K fd ["rows", "var"] []) : Fn P w base g "equal_row" 2 1 d_equal_row := by
  rw [d_equal_row_eq]; unfold s_equal_row; simp only [b_equal_row_1_eq]; exact def_ok F sc_equal_row hm hb fun cdv A outer sh H E B Hs0 hr =>
  (ss_cons (ss_for (passes_of rfl) rfl (si_enum rfl (by rfl) T.z_enumerate (sa_cons (se_var 0 (pv 0)) sa_nil)) (sg_tup rfl rfl (sgs_cons (sg_name (i := 2) sc_equal_row.nd rfl (by first | exact Or.inl rfl | exact Or.inr rfl)) (sgs_cons (sg_name (i := 3) sc_equal_row.nd rfl (by first | exact Or.inl rfl | exact Or.inr rfl)) sgs_nil))) (ss_one (ss_if (st_of (sw_and (st_cmp (op_eqD hr.units) od_eq (se_ix rfl (se_var 3 (pv 3)) se_int (fun _ _ => rfl)) (se_gs T.c_EQUAL rfl (by rfl)) (nomark _)) (sw_and1 (st_cmp (op_neD hr.units) od_ne (se_ix rfl (se_ix rfl (se_var 3 (pv 3)) se_int (fun _ _ => rfl)) (se_var 1 (pv 1)) (fun _ _ => rfl)) se_int (nomark _))))) (ss_one (ss_ret (se_var 2 (pv 2)))) ss_nil)))
    (ss_one (ss_ret se_non)))
theorem ok_without_by_equal {P : Program} {w : World} {base : Heap} {g : G} (T : Txt g) {f : Addr} {fd : FuncData} (F : Fun g.K "without_by_equal" "without_by_equal" st_without_by_equal f fd) (hm : g.mg "without_by_equal" = some (.ref f)) (hb : Binds g.K fd ["rows", "k", "var"] []) (F_mixed : Fn P w base g "mixed" 4 2 d_mixed) : Fn P w base g "without_by_equal" 3 3 d_without_by_equal := by
  rw [d_without_by_equal_eq]; unfold s_without_by_equal; simp only [b_without_by_equal_1_eq]; exact def_ok F sc_without_by_equal hm hb fun cdv A outer sh H E B Hs0 hr =>
  (ss_cons (ss_set (i := 3) sc_without_by_equal.nd rfl (by first | exact Or.inl rfl | exact Or.inr rfl) (se_ix rfl (se_var 0 (pv 0)) (se_var 1 (pv 1)) (fun _ _ => rfl)))
    (ss_cons (ss_own (i := 4) sc_without_by_equal.nd rfl (by first | exact Or.inl rfl | exact Or.inr rfl) (eo_lst sa_nil))
    (ss_cons (ss_for (passes_of rfl) rfl (si_seq rfl (se_op or_add od_add (se_sl rfl (se_var 0 (pv 0)) so_none (so_some (se_var 1 (pv 1)))) (se_sl rfl (se_var 0 (pv 0)) (so_some (se_op or_add od_add (se_var 1 (pv 1)) se_int)) so_none))) (sg_name (i := 5) sc_without_by_equal.nd rfl (by first | exact Or.inl rfl | exact Or.inr rfl)) (ss_one (ss_if (st_cmp (op_eqD hr.units) od_eq (se_ix rfl (se_ix rfl (se_var 5 (pv 5)) se_int (fun _ _ => rfl)) (se_var 2 (pv 2)) (fun _ _ => rfl)) se_int (nomark _)) (ss_one (ss_app (pv 4) (se_var 5 (pv 5)) (fun ho ha => pe_bm PySem.F.plainAttrs_list PySem.F.slot_list_append PySem.F.type_list_append mt_append ho ha))) (ss_cons (ss_set (i := 6) sc_without_by_equal.nd rfl (by first | exact Or.inl rfl | exact Or.inr rfl) (se_un un_neg ud_neg (se_ix rfl (se_ix rfl (se_var 5 (pv 5)) se_int (fun _ _ => rfl)) (se_var 2 (pv 2)) (fun _ _ => rfl))))
    (ss_cons (ss_if (st_cmp op_lt od_lt (se_ix rfl (se_ix rfl (se_var 3 (pv 3)) se_int (fun _ _ => rfl)) (se_var 2 (pv 2)) (fun _ _ => rfl)) se_int (nomark _)) (ss_one (ss_set (i := 6) sc_without_by_equal.nd rfl (by first | exact Or.inl rfl | exact Or.inr rfl) (se_ix rfl (se_ix rfl (se_var 5 (pv 5)) se_int (fun _ _ => rfl)) (se_var 2 (pv 2)) (fun _ _ => rfl)))) ss_nil)
    (ss_cons (ss_unp (se_call F_mixed rfl rfl (hr.mono (by decide)) (passes_call (takes_of rfl rfl rfl rfl) (fun _ _ _ _ h => h)) (by rfl) (sa_cons (se_var 5 (pv 5)) (sa_cons (se_callB' call_abs cd_abs (by rfl) T.z_abs (by decide +kernel) (sa_cons (se_ix rfl (se_ix rfl (se_var 3 (pv 3)) se_int (fun _ _ => rfl)) (se_var 2 (pv 2)) (fun _ _ => rfl)) sa_nil)) (sa_cons (se_var 3 (pv 3)) (sa_cons (se_var 6 (pv 6)) sa_nil))))) (sg_tup rfl rfl (sgs_cons (sg_name (i := 7) sc_without_by_equal.nd rfl (by first | exact Or.inl rfl | exact Or.inr rfl)) (sgs_cons (sg_name (i := 8) sc_without_by_equal.nd rfl (by first | exact Or.inl rfl | exact Or.inr rfl)) (sgs_cons (sg_name (i := 9) sc_without_by_equal.nd rfl (by first | exact Or.inl rfl | exact Or.inr rfl)) sgs_nil)))))
    (ss_one (ss_app (pv 4) (se_tup (sa_cons (se_var 7 (pv 7)) (sa_cons (se_var 8 (pv 8)) (sa_cons (se_ix rfl (se_var 5 (pv 5)) se_int (fun _ _ => rfl)) (sa_cons (se_var 9 (pv 9)) sa_nil))))) (fun ho ha => pe_bm PySem.F.plainAttrs_list PySem.F.slot_list_append PySem.F.type_list_append mt_append ho ha)))))))))
    (ss_one (ss_retV (pv 4))))))
theorem ok_without_by_pairs {P : Program} {w : World} {base : Heap} {g : G} (T : Txt g) {f : Addr} {fd : FuncData} (F : Fun g.K "without_by_pairs" "without_by_pairs" st_without_by_pairs f fd) (hm : g.mg "without_by_pairs" = some (.ref f)) (hb : Binds g.K fd ["rows", "var"] []) (F_mixed : Fn P w base g "mixed" 4 2 d_mixed) : Fn P w base g "without_by_pairs" 2 3 d_without_by_pairs := by
  rw [d_without_by_pairs_eq]; unfold s_without_by_pairs; simp only [c_without_by_pairs_1_eq, i_without_by_pairs_1_eq, c_without_by_pairs_2_eq, i_without_by_pairs_2_eq, c_without_by_pairs_3_eq, i_without_by_pairs_3_eq, b_without_by_pairs_1_eq, b_without_by_pairs_2_eq]; exact def_ok F sc_without_by_pairs hm hb fun cdv A outer sh H E B Hs0 hr =>
  (ss_cons (ss_setL (ss_ownLc (i := 2) rfl sc_without_by_pairs.nd rfl rfl (sw_true rfl rfl rfl (by decide +kernel)) (si_seq rfl (se_var 0 (pv 0))) (blkOk_by (own := [("row", 11)]) (by refine (?_ : blkC ["rows", "var", "lower", "upper", "found", "low", "high", "numbers", "c", "weights", "kind", "row"] (defScope st_without_by_pairs) _ [("row", 11)] = true); decide +kernel)) (patIn_name (by decide)) (fun _ _ _ _ _ => (sg_name (i := 11) sc_without_by_pairs.nd rfl (by first | exact Or.inl rfl | exact Or.inr rfl))) (fun _ _ _ _ _ => (sts_one (st_cmp op_gt od_gt (se_ix rfl (se_ix rfl (se_var 11 (pv 11)) se_int (fun _ _ => rfl)) (se_var 1 (pv 1)) (fun _ _ => rfl)) se_int (nomark _)))) (fun _ _ _ _ _ => (se_var 11 (pv 11)))))
    (ss_cons (ss_setL (ss_ownLc (i := 3) rfl sc_without_by_pairs.nd rfl rfl (sw_true rfl rfl rfl (by decide +kernel)) (si_seq rfl (se_var 0 (pv 0))) (blkOk_by (own := [("row", 11)]) (by refine (?_ : blkC ["rows", "var", "lower", "upper", "found", "low", "high", "numbers", "c", "weights", "kind", "row"] (defScope st_without_by_pairs) _ [("row", 11)] = true); decide +kernel)) (patIn_name (by decide)) (fun _ _ _ _ _ => (sg_name (i := 11) sc_without_by_pairs.nd rfl (by first | exact Or.inl rfl | exact Or.inr rfl))) (fun _ _ _ _ _ => (sts_one (st_cmp op_lt od_lt (se_ix rfl (se_ix rfl (se_var 11 (pv 11)) se_int (fun _ _ => rfl)) (se_var 1 (pv 1)) (fun _ _ => rfl)) se_int (nomark _)))) (fun _ _ _ _ _ => (se_var 11 (pv 11)))))
    (ss_cons (ss_ownLc (i := 4) rfl sc_without_by_pairs.nd rfl rfl (sw_true rfl rfl rfl (by decide +kernel)) (si_seq rfl (se_var 0 (pv 0))) (blkOk_by (own := [("row", 11)]) (by refine (?_ : blkC ["rows", "var", "lower", "upper", "found", "low", "high", "numbers", "c", "weights", "kind", "row"] (defScope st_without_by_pairs) _ [("row", 11)] = true); decide +kernel)) (patIn_name (by decide)) (fun _ _ _ _ _ => (sg_name (i := 11) sc_without_by_pairs.nd rfl (by first | exact Or.inl rfl | exact Or.inr rfl))) (fun _ _ _ _ _ => (sts_one (st_cmp (op_eqD hr.units) od_eq (se_ix rfl (se_ix rfl (se_var 11 (pv 11)) se_int (fun _ _ => rfl)) (se_var 1 (pv 1)) (fun _ _ => rfl)) se_int (nomark _)))) (fun _ _ _ _ _ => (se_var 11 (pv 11))))
    (ss_cons (ss_for (passes_of rfl) rfl (si_seq rfl (se_var 2 (pv 2))) (sg_name (i := 5) sc_without_by_pairs.nd rfl (by first | exact Or.inl rfl | exact Or.inr rfl)) (ss_one (ss_for (passes_of rfl) rfl (si_seq rfl (se_var 3 (pv 3))) (sg_name (i := 6) sc_without_by_pairs.nd rfl (by first | exact Or.inl rfl | exact Or.inr rfl)) (ss_cons (ss_unp (se_call F_mixed rfl rfl (hr.mono (by decide)) (passes_call (takes_of rfl rfl rfl rfl) (fun _ _ _ _ h => h)) (by rfl) (sa_cons (se_var 5 (pv 5)) (sa_cons (se_un un_neg ud_neg (se_ix rfl (se_ix rfl (se_var 6 (pv 6)) se_int (fun _ _ => rfl)) (se_var 1 (pv 1)) (fun _ _ => rfl))) (sa_cons (se_var 6 (pv 6)) (sa_cons (se_ix rfl (se_ix rfl (se_var 5 (pv 5)) se_int (fun _ _ => rfl)) (se_var 1 (pv 1)) (fun _ _ => rfl)) sa_nil))))) (sg_tup rfl rfl (sgs_cons (sg_name (i := 7) sc_without_by_pairs.nd rfl (by first | exact Or.inl rfl | exact Or.inr rfl)) (sgs_cons (sg_name (i := 8) sc_without_by_pairs.nd rfl (by first | exact Or.inl rfl | exact Or.inr rfl)) (sgs_cons (sg_name (i := 9) sc_without_by_pairs.nd rfl (by first | exact Or.inl rfl | exact Or.inr rfl)) sgs_nil)))))
    (ss_cons (ss_set (i := 10) sc_without_by_pairs.nd rfl (by first | exact Or.inl rfl | exact Or.inr rfl) (se_gs T.c_LOOSE rfl (by rfl)))
    (ss_cons (ss_if (st_cmp (op_inDT (room65 hr)) od_inDT (se_gs T.c_STRICT rfl (by rfl)) (se_tup (sa_cons (se_ix rfl (se_var 5 (pv 5)) se_int (fun _ _ => rfl)) (sa_cons (se_ix rfl (se_var 6 (pv 6)) se_int (fun _ _ => rfl)) sa_nil))) (by with_unfolding_all rfl)) (ss_one (ss_set (i := 10) sc_without_by_pairs.nd rfl (by first | exact Or.inl rfl | exact Or.inr rfl) (se_gs T.c_STRICT rfl (by rfl)))) ss_nil)
    (ss_one (ss_app (pv 4) (se_tup (sa_cons (se_var 7 (pv 7)) (sa_cons (se_var 8 (pv 8)) (sa_cons (se_var 10 (pv 10)) (sa_cons (se_var 9 (pv 9)) sa_nil))))) (fun ho ha => pe_bm PySem.F.plainAttrs_list PySem.F.slot_list_append PySem.F.type_list_append mt_append ho ha)))))))))
    (ss_one (ss_retV (pv 4)))))))
theorem ok_steps_of {P : Program} {w : World} {base : Heap} {g : G} (T : Txt g) {f : Addr} {fd : FuncData} (F : Fun g.K "steps_of" "steps_of" st_steps_of f fd) (hm : g.mg "steps_of" = some (.ref f)) (hb : Binds g.K fd ["rows", "order"] []) (F_equal_row : Fn P w base g "equal_row" 2 1 d_equal_row) (F_with_weights : Fn P w base g "with_weights" 1 1 d_with_weights) (F_without_by_equal : Fn P w base g "without_by_equal" 3 3 d_without_by_equal) (F_without_by_pairs : Fn P w base g "without_by_pairs" 2 3 d_without_by_pairs) : Fn P w base g "steps_of" 2 4 d_steps_of := by
  rw [d_steps_of_eq]; unfold s_steps_of; simp only [b_steps_of_1_eq]; exact def_ok F sc_steps_of hm hb fun cdv A outer sh H E B Hs0 hr =>
  (ss_cons (ss_set (i := 2) sc_steps_of.nd rfl (by first | exact Or.inl rfl | exact Or.inr rfl) (se_call F_with_weights rfl rfl (hr.mono (by decide)) (passes_call (takes_of rfl rfl rfl rfl) (fun _ _ _ _ h => h)) (by rfl) (sa_cons (se_var 0 (pv 0)) sa_nil)))
    (ss_cons (ss_own (i := 3) sc_steps_of.nd rfl (by first | exact Or.inl rfl | exact Or.inr rfl) (eo_lst sa_nil))
    (ss_cons (ss_for (passes_of rfl) rfl (si_seq rfl (se_var 1 (pv 1))) (sg_name (i := 4) sc_steps_of.nd rfl (by first | exact Or.inl rfl | exact Or.inr rfl)) (ss_cons (ss_set (i := 5) sc_steps_of.nd rfl (by first | exact Or.inl rfl | exact Or.inr rfl) (se_call F_equal_row rfl rfl (hr.mono (by decide)) (passes_call (takes_of rfl rfl rfl rfl) (fun _ _ _ _ h => h)) (by rfl) (sa_cons (se_var 2 (pv 2)) (sa_cons (se_var 4 (pv 4)) sa_nil))))
    (ss_one (ss_if (st_cmp or_is od_is (se_var 5 (pv 5)) se_non (nomark _)) (ss_cons (ss_app (pv 3) (se_tup (sa_cons (se_var 4 (pv 4)) (sa_cons (se_var 2 (pv 2)) sa_nil))) (fun ho ha => pe_bm PySem.F.plainAttrs_list PySem.F.slot_list_append PySem.F.type_list_append mt_append ho ha))
    (ss_one (ss_set (i := 2) sc_steps_of.nd rfl (by first | exact Or.inl rfl | exact Or.inr rfl) (se_call F_without_by_pairs rfl rfl (hr.mono (by decide)) (passes_call (takes_of rfl rfl rfl rfl) (fun _ _ _ _ h => h)) (by rfl) (sa_cons (se_var 2 (pv 2)) (sa_cons (se_var 4 (pv 4)) sa_nil)))))) (ss_cons (ss_app (pv 3) (se_tup (sa_cons (se_var 4 (pv 4)) (sa_cons (eo_er (eo_lst (sa_cons (se_ix rfl (se_var 2 (pv 2)) (se_var 5 (pv 5)) (fun _ _ => rfl)) sa_nil))) sa_nil))) (fun ho ha => pe_bm PySem.F.plainAttrs_list PySem.F.slot_list_append PySem.F.type_list_append mt_append ho ha))
    (ss_one (ss_set (i := 2) sc_steps_of.nd rfl (by first | exact Or.inl rfl | exact Or.inr rfl) (se_call F_without_by_equal rfl rfl (hr.mono (by decide)) (passes_call (takes_of rfl rfl rfl rfl) (fun _ _ _ _ h => h)) (by rfl) (sa_cons (se_var 2 (pv 2)) (sa_cons (se_var 5 (pv 5)) (sa_cons (se_var 4 (pv 4)) sa_nil)))))))))))
    (ss_one (ss_ret (se_tup (sa_cons (se_var 3 (pv 3)) (sa_cons (se_var 2 (pv 2)) sa_nil))))))))
theorem ok_failing {P : Program} {w : World} {base : Heap} {g : G} (T : Txt g) {f : Addr} {fd : FuncData} (F : Fun g.K "failing" "failing" st_failing f fd) (hm : g.mg "failing" = some (.ref f)) (hb : Binds g.K fd ["rows"] []) : Fn P w base g "failing" 1 1 d_failing := by
  rw [d_failing_eq]; unfold s_failing; simp only [c_failing_1_eq, b_failing_1_eq]; exact def_ok F sc_failing hm hb fun cdv A outer sh H E B Hs0 hr =>
  (ss_cons (ss_for (passes_of rfl) rfl (si_seq rfl (se_var 0 (pv 0))) (sg_tup rfl rfl (sgs_cons (sg_name (i := 1) sc_failing.nd rfl (by first | exact Or.inl rfl | exact Or.inr rfl)) (sgs_cons (sg_name (i := 2) sc_failing.nd rfl (by first | exact Or.inl rfl | exact Or.inr rfl)) (sgs_cons (sg_name (i := 3) sc_failing.nd rfl (by first | exact Or.inl rfl | exact Or.inr rfl)) (sgs_cons (sg_name (i := 4) sc_failing.nd rfl (by first | exact Or.inl rfl | exact Or.inr rfl)) sgs_nil))))) (ss_cons (ss_if (st_of (sw_or (st_of (sw_and (st_cmp (op_eqD hr.units) od_eq (se_var 3 (pv 3)) (se_gs T.c_STRICT rfl (by rfl)) (nomark _)) (sw_and1 (st_cmp op_ge od_ge (se_var 2 (pv 2)) se_int (nomark _))))) (sw_or (st_of (sw_and (st_cmp (op_eqD hr.units) od_eq (se_var 3 (pv 3)) (se_gs T.c_LOOSE rfl (by rfl)) (nomark _)) (sw_and1 (st_cmp op_gt od_gt (se_var 2 (pv 2)) se_int (nomark _))))) (sw_or1 (st_of (sw_and (st_cmp (op_eqD hr.units) od_eq (se_var 3 (pv 3)) (se_gs T.c_EQUAL rfl (by rfl)) (nomark _)) (sw_and1 (st_cmp op_gt od_gt (se_var 2 (pv 2)) se_int (nomark _))))))))) (ss_one (ss_retO (eo_list rfl (by rfl) T.z_list (sa_cons (se_var 4 (pv 4)) sa_nil)))) ss_nil)
    (ss_one (ss_if (st_of (sw_and (st_cmp (op_eqD hr.units) od_eq (se_var 3 (pv 3)) (se_gs T.c_EQUAL rfl (by rfl)) (nomark _)) (sw_and1 (st_cmp op_lt od_lt (se_var 2 (pv 2)) se_int (nomark _))))) (ss_one (ss_retO (eo_lc rfl sc_failing.nd (si_seq rfl (se_var 4 (pv 4))) (blkOk_by (own := [("weight", 5)]) (by refine (?_ : blkC ["rows", "numbers", "c", "kind", "weights", "weight"] (defScope st_failing) _ [("weight", 5)] = true); decide +kernel)) (patIn_name (by decide)) (fun _ _ _ _ _ => (sg_name (i := 5) sc_failing.nd rfl (by first | exact Or.inl rfl | exact Or.inr rfl))) (fun _ _ _ _ _ => sts_nil) (fun _ _ _ _ _ => (se_un un_neg ud_neg (se_var 5 (pv 5))))))) ss_nil))))
    (ss_one (ss_ret se_non)))
theorem ok_edge_of {P : Program} {w : World} {base : Heap} {g : G} (T : Txt g) {f : Addr} {fd : FuncData} (F : Fun g.K "edge_of" "edge_of" st_edge_of f fd) (hm : g.mg "edge_of" = some (.ref f)) (hb : Binds g.K fd ["row", "var", "spot"] []) (F_minus : Fn P w base g "minus" 2 5 d_minus) (F_over : Fn P w base g "over" 2 5 d_over) (F_times : Fn P w base g "times" 2 5 d_times) : Fn P w base g "edge_of" 3 6 d_edge_of := by
  rw [d_edge_of_eq]; unfold s_edge_of; simp only [b_edge_of_1_eq]; exact def_ok F sc_edge_of hm hb fun cdv A outer sh H E B Hs0 hr =>
  (ss_cons (ss_set (i := 3) sc_edge_of.nd rfl (by first | exact Or.inl rfl | exact Or.inr rfl) (se_tup (sa_cons (se_ix rfl (se_var 0 (pv 0)) se_int (fun _ _ => rfl)) (sa_cons se_int sa_nil))))
    (ss_cons (ss_for (passes_of rfl) rfl (si_enum rfl (by rfl) T.z_enumerate (sa_cons (se_ix rfl (se_var 0 (pv 0)) se_int (fun _ _ => rfl)) sa_nil)) (sg_tup rfl rfl (sgs_cons (sg_name (i := 4) sc_edge_of.nd rfl (by first | exact Or.inl rfl | exact Or.inr rfl)) (sgs_cons (sg_name (i := 5) sc_edge_of.nd rfl (by first | exact Or.inl rfl | exact Or.inr rfl)) sgs_nil))) (ss_one (ss_if (st_cmp (op_neD hr.units) od_ne (se_var 4 (pv 4)) (se_var 1 (pv 1)) (nomark _)) (ss_one (ss_set (i := 3) sc_edge_of.nd rfl (by first | exact Or.inl rfl | exact Or.inr rfl) (se_call F_minus rfl rfl (hr.mono (by decide)) (passes_call (takes_of rfl rfl rfl rfl) (fun _ _ _ _ h => h)) (by rfl) (sa_cons (se_var 3 (pv 3)) (sa_cons (se_call F_times rfl rfl (hr.mono (by decide)) (passes_call (takes_of rfl rfl rfl rfl) (fun _ _ _ _ h => h)) (by rfl) (sa_cons (se_tup (sa_cons (se_var 5 (pv 5)) (sa_cons se_int sa_nil))) (sa_cons (se_ix rfl (se_var 2 (pv 2)) (se_var 4 (pv 4)) (fun _ _ => rfl)) sa_nil))) sa_nil))))) ss_nil)))
    (ss_one (ss_ret (se_call F_over rfl rfl (hr.mono (by decide)) (passes_call (takes_of rfl rfl rfl rfl) (fun _ _ _ _ h => h)) (by rfl) (sa_cons (se_var 3 (pv 3)) (sa_cons (se_tup (sa_cons (se_ix rfl (se_ix rfl (se_var 0 (pv 0)) se_int (fun _ _ => rfl)) (se_var 1 (pv 1)) (fun _ _ => rfl)) (sa_cons se_int sa_nil))) sa_nil)))))))
theorem ok_ends_of {P : Program} {w : World} {base : Heap} {g : G} (T : Txt g) {f : Addr} {fd : FuncData} (F : Fun g.K "ends_of" "ends_of" st_ends_of f fd) (hm : g.mg "ends_of" = some (.ref f)) (hb : Binds g.K fd ["rows", "var", "spot"] []) (F_edge_of : Fn P w base g "edge_of" 3 6 d_edge_of) (F_less : Fn P w base g "less" 2 1 d_less) : Fn P w base g "ends_of" 3 7 d_ends_of := by
  rw [d_ends_of_eq]; unfold s_ends_of; simp only [b_ends_of_1_eq]; exact def_ok F sc_ends_of hm hb fun cdv A outer sh H E B Hs0 hr =>
  (ss_cons (ss_set (i := 3) sc_ends_of.nd rfl (by first | exact Or.inl rfl | exact Or.inr rfl) se_non)
    (ss_cons (ss_set (i := 4) sc_ends_of.nd rfl (by first | exact Or.inl rfl | exact Or.inr rfl) se_non)
    (ss_cons (ss_for (passes_of rfl) rfl (si_seq rfl (se_var 0 (pv 0))) (sg_name (i := 5) sc_ends_of.nd rfl (by first | exact Or.inl rfl | exact Or.inr rfl)) (ss_one (ss_if (st_cmp (op_neD hr.units) od_ne (se_ix rfl (se_ix rfl (se_var 5 (pv 5)) se_int (fun _ _ => rfl)) (se_var 1 (pv 1)) (fun _ _ => rfl)) se_int (nomark _)) (ss_cons (ss_set (i := 6) sc_ends_of.nd rfl (by first | exact Or.inl rfl | exact Or.inr rfl) (se_call F_edge_of rfl rfl (hr.mono (by decide)) (passes_call (takes_of rfl rfl rfl rfl) (fun _ _ _ _ h => h)) (by rfl) (sa_cons (se_var 5 (pv 5)) (sa_cons (se_var 1 (pv 1)) (sa_cons (se_var 2 (pv 2)) sa_nil)))))
    (ss_cons (ss_if (st_cmp (op_eqD hr.units) od_eq (se_ix rfl (se_var 5 (pv 5)) se_int (fun _ _ => rfl)) (se_gs T.c_EQUAL rfl (by rfl)) (nomark _)) (ss_one (ss_ret (se_tup (sa_cons (se_var 6 (pv 6)) (sa_cons (se_var 6 (pv 6)) sa_nil))))) ss_nil)
    (ss_cons (ss_if (st_of (sw_and (st_cmp op_gt od_gt (se_ix rfl (se_ix rfl (se_var 5 (pv 5)) se_int (fun _ _ => rfl)) (se_var 1 (pv 1)) (fun _ _ => rfl)) se_int (nomark _)) (sw_and1 (st_of (sw_or (st_cmp or_is od_is (se_var 3 (pv 3)) se_non (nomark _)) (sw_or1 (st_val (se_call F_less rfl rfl (hr.mono (by decide)) (passes_call (takes_of rfl rfl rfl rfl) (fun _ _ _ _ h => h)) (by rfl) (sa_cons (se_var 3 (pv 3)) (sa_cons (se_var 6 (pv 6)) sa_nil)))))))))) (ss_one (ss_set (i := 3) sc_ends_of.nd rfl (by first | exact Or.inl rfl | exact Or.inr rfl) (se_var 6 (pv 6)))) ss_nil)
    (ss_one (ss_if (st_of (sw_and (st_cmp op_lt od_lt (se_ix rfl (se_ix rfl (se_var 5 (pv 5)) se_int (fun _ _ => rfl)) (se_var 1 (pv 1)) (fun _ _ => rfl)) se_int (nomark _)) (sw_and1 (st_of (sw_or (st_cmp or_is od_is (se_var 4 (pv 4)) se_non (nomark _)) (sw_or1 (st_val (se_call F_less rfl rfl (hr.mono (by decide)) (passes_call (takes_of rfl rfl rfl rfl) (fun _ _ _ _ h => h)) (by rfl) (sa_cons (se_var 6 (pv 6)) (sa_cons (se_var 4 (pv 4)) sa_nil)))))))))) (ss_one (ss_set (i := 4) sc_ends_of.nd rfl (by first | exact Or.inl rfl | exact Or.inr rfl) (se_var 6 (pv 6)))) ss_nil))))) ss_nil)))
    (ss_one (ss_ret (se_tup (sa_cons (se_var 3 (pv 3)) (sa_cons (se_var 4 (pv 4)) sa_nil))))))))
theorem ok_chosen {P : Program} {w : World} {base : Heap} {g : G} (T : Txt g) {f : Addr} {fd : FuncData} (F : Fun g.K "chosen" "chosen" st_chosen f fd) (hm : g.mg "chosen" = some (.ref f)) (hb : Binds g.K fd ["low", "high"] []) (F_minus : Fn P w base g "minus" 2 5 d_minus) (F_over : Fn P w base g "over" 2 5 d_over) (F_plus : Fn P w base g "plus" 2 5 d_plus) : Fn P w base g "chosen" 2 6 d_chosen := by
  rw [d_chosen_eq]; unfold s_chosen; exact def_ok F sc_chosen hm hb fun cdv A outer sh H E B Hs0 hr =>
  (ss_cons (ss_if (st_of (sw_and (st_cmp or_is od_is (se_var 0 (pv 0)) se_non (nomark _)) (sw_and1 (st_cmp or_is od_is (se_var 1 (pv 1)) se_non (nomark _))))) (ss_one (ss_ret (se_gt T.c_NOUGHT rfl (by rfl)))) ss_nil)
    (ss_cons (ss_if (st_cmp or_is od_is (se_var 0 (pv 0)) se_non (nomark _)) (ss_one (ss_ret (se_call F_minus rfl rfl (hr.mono (by decide)) (passes_call (takes_of rfl rfl rfl rfl) (fun _ _ _ _ h => h)) (by rfl) (sa_cons (se_var 1 (pv 1)) (sa_cons (se_tup (sa_cons se_int (sa_cons se_int sa_nil))) sa_nil))))) ss_nil)
    (ss_cons (ss_if (st_cmp or_is od_is (se_var 1 (pv 1)) se_non (nomark _)) (ss_one (ss_ret (se_call F_plus rfl rfl (hr.mono (by decide)) (passes_call (takes_of rfl rfl rfl rfl) (fun _ _ _ _ h => h)) (by rfl) (sa_cons (se_var 0 (pv 0)) (sa_cons (se_tup (sa_cons se_int (sa_cons se_int sa_nil))) sa_nil))))) ss_nil)
    (ss_one (ss_ret (se_call F_over rfl rfl (hr.mono (by decide)) (passes_call (takes_of rfl rfl rfl rfl) (fun _ _ _ _ h => h)) (by rfl) (sa_cons (se_call F_plus rfl rfl (hr.mono (by decide)) (passes_call (takes_of rfl rfl rfl rfl) (fun _ _ _ _ h => h)) (by rfl) (sa_cons (se_var 0 (pv 0)) (sa_cons (se_var 1 (pv 1)) sa_nil))) (sa_cons (se_tup (sa_cons se_int (sa_cons se_int sa_nil))) sa_nil))))))))
theorem ok_solve {P : Program} {w : World} {base : Heap} {g : G} (T : Txt g) {f : Addr} {fd : FuncData} (F : Fun g.K "solve" "solve" st_solve f fd) (hm : g.mg "solve" = some (.ref f)) (hb : Binds g.K fd ["dims", "rows"] []) (F_chosen : Fn P w base g "chosen" 2 6 d_chosen) (F_ends_of : Fn P w base g "ends_of" 3 7 d_ends_of) (F_failing : Fn P w base g "failing" 1 1 d_failing) (F_steps_of : Fn P w base g "steps_of" 2 4 d_steps_of) : Fn P w base g "solve" 2 8 d_solve := by
  rw [d_solve_eq]; unfold s_solve; simp only [b_solve_1_eq]; exact def_ok F sc_solve hm hb fun cdv A outer sh H E B Hs0 hr =>
  (ss_cons (ss_unp (se_call F_steps_of rfl rfl (hr.mono (by decide)) (passes_call (takes_of rfl rfl rfl rfl) (fun _ _ _ _ h => h)) (by rfl) (sa_cons (se_var 1 (pv 1)) (sa_cons (eo_er (eo_listRg (by rfl) (by rfl) T.z_list (by rfl) T.z_range (se_var 0 (pv 0)))) sa_nil))) (sg_tup rfl rfl (sgs_cons (sg_name (i := 2) sc_solve.nd rfl (by first | exact Or.inl rfl | exact Or.inr rfl)) (sgs_cons (sg_name (i := 3) sc_solve.nd rfl (by first | exact Or.inl rfl | exact Or.inr rfl)) sgs_nil))))
    (ss_cons (ss_set (i := 4) sc_solve.nd rfl (by first | exact Or.inl rfl | exact Or.inr rfl) (se_call F_failing rfl rfl (hr.mono (by decide)) (passes_call (takes_of rfl rfl rfl rfl) (fun _ _ _ _ h => h)) (by rfl) (sa_cons (se_var 3 (pv 3)) sa_nil)))
    (ss_cons (ss_if (st_cmp or_isnt od_isnt (se_var 4 (pv 4)) se_non (nomark _)) (ss_one (ss_ret (se_tup (sa_cons se_str (sa_cons (se_var 4 (pv 4)) sa_nil))))) ss_nil)
    (ss_cons (ss_own (i := 5) sc_solve.nd rfl (by first | exact Or.inl rfl | exact Or.inr rfl) (eo_rep (eo_er (eo_lst (sa_cons (se_gt T.c_NOUGHT rfl (by rfl)) sa_nil))) (se_var 0 (pv 0))))
    (ss_cons (ss_for (passes_of rfl) rfl (si_rev rfl (by rfl) T.z_reversed (se_var 2 (pv 2))) (sg_tup rfl rfl (sgs_cons (sg_name (i := 6) sc_solve.nd rfl (by first | exact Or.inl rfl | exact Or.inr rfl)) (sgs_cons (sg_name (i := 7) sc_solve.nd rfl (by first | exact Or.inl rfl | exact Or.inr rfl)) sgs_nil))) (ss_cons (ss_unpB (se_call F_ends_of rfl rfl (hr.mono (by decide)) (passes_call (takes_of rfl rfl rfl rfl) (fun _ _ _ _ h => h)) (by rfl) (sa_cons (se_var 7 (pv 7)) (sa_cons (se_var 6 (pv 6)) (sa_cons (se_var 5 (pv 5)) sa_nil)))) (sg_tup rfl rfl (sgs_cons (sg_name (i := 8) sc_solve.nd rfl (by first | exact Or.inl rfl | exact Or.inr rfl)) (sgs_cons (sg_name (i := 9) sc_solve.nd rfl (by first | exact Or.inl rfl | exact Or.inr rfl)) sgs_nil))))
    (ss_one (ss_ix (tpos := ⟨0, 0, 0, 0⟩) (pv 5) (se_var 6 (pv 6)) (se_call F_chosen rfl rfl (hr.mono (by decide)) (passes_call (takes_of rfl rfl rfl rfl) (fun _ _ _ _ h => h)) (by rfl) (sa_cons (se_var 8 (pv 8)) (sa_cons (se_var 9 (pv 9)) sa_nil))) (fun he ho hi => ps_asg he (pg_sub ho hi set_list))))))
    (ss_one (ss_ret (se_tup (sa_cons se_str (sa_cons (se_callTy call_tuple_of cd_tuple (by rfl) T.z_tuple (by decide +kernel) (sa_cons (se_var 5 (pv 5)) sa_nil)) sa_nil))))))))))
theorem ok_whole_of {P : Program} {w : World} {base : Heap} {g : G} (T : Txt g) {f : Addr} {fd : FuncData} (F : Fun g.K "whole_of" "whole_of" st_whole_of f fd) (hm : g.mg "whole_of" = some (.ref f)) (hb : Binds g.K fd ["spot"] []) (F_common : Fn P w base g "common" 2 1 d_common) (F_made : Fn P w base g "made" 2 4 d_made) : Fn P w base g "whole_of" 1 5 d_whole_of := by
  rw [d_whole_of_eq]; unfold s_whole_of; simp only [b_whole_of_1_eq, c_whole_of_1_eq]; exact def_ok F sc_whole_of hm hb fun cdv A outer sh H E B Hs0 hr =>
  (ss_cons (ss_set (i := 1) sc_whole_of.nd rfl (by first | exact Or.inl rfl | exact Or.inr rfl) se_int)
    (ss_cons (ss_for (passes_of rfl) rfl (si_seq rfl (se_var 0 (pv 0))) (sg_name (i := 2) sc_whole_of.nd rfl (by first | exact Or.inl rfl | exact Or.inr rfl)) (ss_one (ss_set (i := 1) sc_whole_of.nd rfl (by first | exact Or.inl rfl | exact Or.inr rfl) (se_op op_fdivB od_fdiv (se_op or_mulX od_mulX (se_var 1 (pv 1)) (se_ix rfl (se_var 2 (pv 2)) se_int (fun _ _ => rfl))) (se_call F_common rfl rfl (hr.mono (by decide)) (passes_call (takes_of rfl rfl rfl rfl) (fun _ _ _ _ h => h)) (by rfl) (sa_cons (se_var 1 (pv 1)) (sa_cons (se_ix rfl (se_var 2 (pv 2)) se_int (fun _ _ => rfl)) sa_nil)))))))
    (ss_one (ss_ret (se_callTy call_tuple_of cd_tuple (by rfl) T.z_tuple (by decide +kernel) (sa_cons (eo_er (eo_lc rfl sc_whole_of.nd (si_seq rfl (se_var 0 (pv 0))) (blkOk_by (own := [("part", 2)]) (by refine (?_ : blkC ["spot", "share", "part"] (defScope st_whole_of) _ [("part", 2)] = true); decide +kernel)) (patIn_name (by decide)) (fun _ _ _ _ _ => (sg_name (i := 2) sc_whole_of.nd rfl (by first | exact Or.inl rfl | exact Or.inr rfl))) (fun _ _ _ _ _ => sts_nil) (fun _ _ _ _ _ => (se_ix rfl (se_call F_made rfl rfl (hr.mono (by decide)) passL (by rfl) (sa_cons (se_op or_mulX od_mulX (se_ix rfl (se_var 2 (pv 2)) se_int (fun _ _ => rfl)) (se_var 1 (pv 1))) (sa_cons (se_ix rfl (se_var 2 (pv 2)) se_int (fun _ _ => rfl)) sa_nil))) se_int (fun _ _ => rfl))))) sa_nil))))))
theorem ok_check_some {P : Program} {w : World} {base : Heap} {g : G} (T : Txt g) {f : Addr} {fd : FuncData} (F : Fun g.K "check_some" "check_some" st_check_some f fd) (hm : g.mg "check_some" = some (.ref f)) (hb : Binds g.K fd ["cutting", "some"] []) (F_Cutting_many : FnM P w base g "many" 1 1 d_Cutting_many) (F_is_whole : Fn P w base g "is_whole" 1 1 d_is_whole) : Fn P w base g "check_some" 2 4 d_check_some := by
  rw [d_check_some_eq]; unfold s_check_some; simp only [b_check_some_1_eq]; exact def_ok F sc_check_some hm hb fun cdv A outer sh H E B Hs0 hr =>
  (ss_cons (ss_if (st_not (st_val (se_isi kit_list rfl (by rfl) T.z_isinstance (by rfl) T.z_list (by decide +kernel) (se_var 1 (pv 1))))) (ss_one (ss_raiseN T.x_NoNumber rfl rfl rfl (takes_of rfl rfl rfl rfl) (by rfl))) ss_nil)
    (ss_one (ss_forR (passes_of rfl) rfl (si_range1 (by rfl) T.z_range (sa_cons (se_callB' call_len cd_len (by rfl) T.z_len (by decide +kernel) (sa_cons (se_var 1 (pv 1)) sa_nil)) sa_nil)) (sg_name (i := 2) sc_check_some.nd rfl (by first | exact Or.inl rfl | exact Or.inr rfl)) (ss_one (ss_if (st_of (sw_or (st_not (st_val (se_call F_is_whole rfl rfl (hr.mono (by decide)) (passes_call (takes_of rfl rfl rfl rfl) (fun _ _ _ _ h => h)) (by rfl) (sa_cons (se_ix rfl (se_var 1 (pv 1)) (se_var 2 (pv 2)) (fun _ _ => rfl)) sa_nil)))) (sw_or (st_not (st_chain od_le od_lt se_int (se_ix rfl (se_var 1 (pv 1)) (se_var 2 (pv 2)) (fun _ _ => rfl)) (se_meth0 F_Cutting_many T.cut rfl rfl (hr.mono (by decide)) (passes_call (takes_of rfl rfl rfl rfl) (fun _ _ _ _ h => h)) (se_var 0 (pv 0))) (pt_chain op_le op_lt))) (sw_or1 (st_cmp (op_inDT (room65 hr)) od_inDT (se_ix rfl (se_var 1 (pv 1)) (se_var 2 (pv 2)) (fun _ _ => rfl)) (se_sl rfl (se_var 1 (pv 1)) so_none (so_some (se_var 2 (pv 2)))) (by with_unfolding_all rfl)))))) (ss_one (ss_raiseN T.x_NoNumber rfl rfl rfl (takes_of rfl rfl rfl rfl) (by rfl))) ss_nil)))))
theorem ok_unit {P : Program} {w : World} {base : Heap} {g : G} (T : Txt g) {f : Addr} {fd : FuncData} (F : Fun g.K "unit" "unit" st_unit f fd) (hm : g.mg "unit" = some (.ref f)) (hb : Binds g.K fd ["dims", "k"] []) : Fn P w base g "unit" 2 1 d_unit := by
  rw [d_unit_eq]; unfold s_unit; simp only [c_unit_1_eq]; exact def_ok F sc_unit hm hb fun cdv A outer sh H E B Hs0 hr =>
  (ss_one (ss_ret (se_callTy call_tuple_of cd_tuple (by rfl) T.z_tuple (by decide +kernel) (sa_cons (eo_er (eo_lc rfl sc_unit.nd (ir_of_r (si_range1 (by rfl) T.z_range (sa_cons (se_var 0 (pv 0)) sa_nil))) (blkOk_by (own := [("j", 2)]) (by refine (?_ : blkC ["dims", "k", "j"] (defScope st_unit) _ [("j", 2)] = true); decide +kernel)) (patIn_name (by decide)) (fun _ _ _ _ _ => (sg_name (i := 2) sc_unit.nd rfl (by first | exact Or.inl rfl | exact Or.inr rfl))) (fun _ _ _ _ _ => sts_nil) (fun _ _ _ _ _ => (se_callTy call_int1 cd_int (by rfl) T.z_int (by decide +kernel) (sa_cons (se_cmp (op_eqD hr.units) od_eq (se_var 1 (pv 1)) (se_var 2 (pv 2)) (nomark _)) sa_nil))))) sa_nil))))
theorem okR_more_ways {P : Program} {w : World} {base : Heap} {g : G} (T : Txt g) {f : Addr} {fd : FuncData} (F : Fun g.K "more_ways" "more_ways" st_more_ways f fd) (hm : g.mg "more_ways" = some (.ref f)) (hb : Binds g.K fd ["dims", "rows"] []) (F_solve : Fn P w base g "solve" 2 8 d_solve) (F_unit : Fn P w base g "unit" 2 1 d_unit) (F_whole_of : Fn P w base g "whole_of" 1 5 d_whole_of) : ∀ i : Nat, Fn P w base g "more_ways" 2 (9 + i) (r_more_ways i)
  | 0 => (by unfold r_more_ways; exact def_ok F sc_more_ways hm hb fun cdv A outer sh H E B Hs0 hr => sss_bad)
  | i + 1 => (by
    have F_more_ways := okR_more_ways T F hm hb F_solve F_unit F_whole_of i
    unfold r_more_ways s_more_ways; show Fn P w base g "more_ways" 2 ((9 + i) + 1) _; exact def_ok F sc_more_ways hm hb fun cdv A outer sh H E B Hs0 hr =>
    (ss_cons (ss_forR (passes_of rfl) rfl (si_range1 (by rfl) T.z_range (sa_cons (se_var 0 (pv 0)) sa_nil)) (sg_name (i := 2) sc_more_ways.nd rfl (by first | exact Or.inl rfl | exact Or.inr rfl)) (ss_cons (ss_unp (se_call F_solve rfl rfl (hr.mono (by omega)) (passes_call (takes_of rfl rfl rfl rfl) (fun _ _ _ _ h => h)) (by rfl) (sa_cons (se_var 0 (pv 0)) (sa_cons (se_op or_add od_add (se_var 1 (pv 1)) (eo_er (eo_lst (sa_cons (se_tup (sa_cons (se_call F_unit rfl rfl (hr.mono (by omega)) (passes_call (takes_of rfl rfl rfl rfl) (fun _ _ _ _ h => h)) (by rfl) (sa_cons (se_var 0 (pv 0)) (sa_cons (se_var 2 (pv 2)) sa_nil))) (sa_cons se_int (sa_cons (se_gs T.c_STRICT rfl (by rfl)) sa_nil)))) sa_nil)))) sa_nil))) (sg_tup rfl rfl (sgs_cons (sg_name (i := 3) sc_more_ways.nd rfl (by first | exact Or.inl rfl | exact Or.inr rfl)) (sgs_cons (sg_name (i := 4) sc_more_ways.nd rfl (by first | exact Or.inl rfl | exact Or.inr rfl)) sgs_nil))))
    (ss_one (ss_if (st_cmp (op_eqD hr.units) od_eq (se_var 3 (pv 3)) se_str (nomark _)) (ss_cons (ss_set (i := 5) sc_more_ways.nd rfl (by first | exact Or.inl rfl | exact Or.inr rfl) (se_call F_whole_of rfl rfl (hr.mono (by omega)) (passes_call (takes_of rfl rfl rfl rfl) (fun _ _ _ _ h => h)) (by rfl) (sa_cons (se_var 4 (pv 4)) sa_nil)))
    (ss_one (ss_retO (eo_cat (eo_er (eo_lst (sa_cons (se_var 5 (pv 5)) sa_nil))) (se_call F_more_ways rfl rfl (hr.mono (by omega)) (passes_call (takes_of rfl rfl rfl rfl) (fun _ _ _ _ h => h)) (by rfl) (sa_cons (se_var 0 (pv 0)) (sa_cons (se_op or_add od_add (se_var 1 (pv 1)) (eo_er (eo_lst (sa_cons (se_tup (sa_cons (se_var 5 (pv 5)) (sa_cons se_int (sa_cons (se_gs T.c_EQUAL rfl (by rfl)) sa_nil)))) sa_nil)))) sa_nil))))))) ss_nil))))
    (ss_one (ss_retO (eo_lst sa_nil)))))
theorem ok_more_ways {P : Program} {w : World} {base : Heap} {g : G} (T : Txt g) {f : Addr} {fd : FuncData} (F : Fun g.K "more_ways" "more_ways" st_more_ways f fd) (hm : g.mg "more_ways" = some (.ref f)) (hb : Binds g.K fd ["dims", "rows"] []) (F_solve : Fn P w base g "solve" 2 8 d_solve) (F_unit : Fn P w base g "unit" 2 1 d_unit) (F_whole_of : Fn P w base g "whole_of" 1 5 d_whole_of) : Fn P w base g "more_ways" 2 13 d_more_ways := by
  rw [d_more_ways_eq]; exact okR_more_ways T F hm hb F_solve F_unit F_whole_of 4
theorem ok_ways_of {P : Program} {w : World} {base : Heap} {g : G} (T : Txt g) {f : Addr} {fd : FuncData} (F : Fun g.K "ways_of" "ways_of" st_ways_of f fd) (hm : g.mg "ways_of" = some (.ref f)) (hb : Binds g.K fd ["dims", "sums"] []) (F_more_ways : Fn P w base g "more_ways" 2 13 d_more_ways) : Fn P w base g "ways_of" 2 14 d_ways_of := by
  rw [d_ways_of_eq]; unfold s_ways_of; simp only [c_ways_of_1_eq]; exact def_ok F sc_ways_of hm hb fun cdv A outer sh H E B Hs0 hr =>
  (ss_one (ss_retO (eo_call F_more_ways rfl rfl (hr.mono (by decide)) (passes_call (takes_of rfl rfl rfl rfl) (fun _ _ _ _ h => h)) (by rfl) (sa_cons (se_var 0 (pv 0)) (sa_cons (eo_er (eo_lc rfl sc_ways_of.nd (si_seq rfl (se_var 1 (pv 1))) (blkOk_by (own := [("numbers", 2)]) (by refine (?_ : blkC ["dims", "sums", "numbers"] (defScope st_ways_of) _ [("numbers", 2)] = true); decide +kernel)) (patIn_name (by decide)) (fun _ _ _ _ _ => (sg_name (i := 2) sc_ways_of.nd rfl (by first | exact Or.inl rfl | exact Or.inr rfl))) (fun _ _ _ _ _ => sts_nil) (fun _ _ _ _ _ => (se_tup (sa_cons (se_var 2 (pv 2)) (sa_cons se_int (sa_cons (se_gs T.c_EQUAL rfl (by rfl)) sa_nil))))))) sa_nil)))))
theorem ok_meet {P : Program} {w : World} {base : Heap} {g : G} (T : Txt g) {f : Addr} {fd : FuncData} (F : Fun g.K "meet" "meet" st_meet f fd) (hm : g.mg "meet" = some (.ref f)) (hb : Binds g.K fd ["cutting", "some"] []) (F_Cutting_dims : FnM P w base g "dims" 1 1 d_Cutting_dims) (F_check_some : Fn P w base g "check_some" 2 4 d_check_some) (F_origin : Fn P w base g "origin" 1 1 d_origin) (F_solve : Fn P w base g "solve" 2 8 d_solve) (F_unit : Fn P w base g "unit" 2 1 d_unit) (F_ways_of : Fn P w base g "ways_of" 2 14 d_ways_of) : Fn P w base g "meet" 2 15 d_meet := by
  rw [d_meet_eq]; unfold s_meet; simp only [c_meet_1_eq, c_meet_2_eq, c_meet_3_eq, c_meet_4_eq]; exact def_ok F sc_meet hm hb fun cdv A outer sh H E B Hs0 hr =>
  (ss_cons (ss_expr (se_call F_check_some rfl rfl (hr.mono (by decide)) (passes_call (takes_of rfl rfl rfl rfl) (fun _ _ _ _ h => h)) (by rfl) (sa_cons (se_var 0 (pv 0)) (sa_cons (se_var 1 (pv 1)) sa_nil))))
    (ss_cons (ss_set (i := 2) sc_meet.nd rfl (by first | exact Or.inl rfl | exact Or.inr rfl) (se_meth0 F_Cutting_dims T.cut rfl rfl (hr.mono (by decide)) (passes_call (takes_of rfl rfl rfl rfl) (fun _ _ _ _ h => h)) (se_var 0 (pv 0))))
    (ss_cons (ss_setL (ss_ownLc (i := 3) rfl sc_meet.nd rfl rfl (sw_true rfl rfl rfl (by decide +kernel)) (si_seq rfl (se_var 1 (pv 1))) (blkOk_by (own := [("k", 6)]) (by refine (?_ : blkC ["cutting", "some", "dims", "cuts", "word", "told", "k", "cut"] (defScope st_meet) _ [("k", 6)] = true); decide +kernel)) (patIn_name (by decide)) (fun _ _ _ _ _ => (sg_name (i := 6) sc_meet.nd rfl (by first | exact Or.inl rfl | exact Or.inr rfl))) (fun _ _ _ _ _ => sts_nil) (fun _ _ _ _ _ => (se_ix rfl (se_rows T.cut rfl (se_var 0 (pv 0))) (se_var 6 (pv 6)) (fun _ _ => rfl)))))
    (ss_cons (ss_if (st_cmp (op_eqD hr.units) od_eq (se_var 3 (pv 3)) (eo_er (eo_lst sa_nil)) (nomark _)) (ss_one (ss_ret (se_tup (sa_cons se_str (sa_cons (se_call F_origin rfl rfl (hr.mono (by decide)) (passes_call (takes_of rfl rfl rfl rfl) (fun _ _ _ _ h => h)) (by rfl) (sa_cons (se_var 2 (pv 2)) sa_nil)) (sa_cons (eo_er (eo_lc rfl sc_meet.nd (ir_of_r (si_range1 (by rfl) T.z_range (sa_cons (se_var 2 (pv 2)) sa_nil))) (blkOk_by (own := [("k", 6)]) (by refine (?_ : blkC ["cutting", "some", "dims", "cuts", "word", "told", "k", "cut"] (defScope st_meet) _ [("k", 6)] = true); decide +kernel)) (patIn_name (by decide)) (fun _ _ _ _ _ => (sg_name (i := 6) sc_meet.nd rfl (by first | exact Or.inl rfl | exact Or.inr rfl))) (fun _ _ _ _ _ => sts_nil) (fun _ _ _ _ _ => (se_call F_unit rfl rfl (hr.mono (by decide)) passL (by rfl) (sa_cons (se_var 2 (pv 2)) (sa_cons (se_var 6 (pv 6)) sa_nil)))))) sa_nil)))))) ss_nil)
    (ss_cons (ss_unp (se_call F_solve rfl rfl (hr.mono (by decide)) (passes_call (takes_of rfl rfl rfl rfl) (fun _ _ _ _ h => h)) (by rfl) (sa_cons (se_var 2 (pv 2)) (sa_cons (eo_er (eo_lc rfl sc_meet.nd (si_seq rfl (se_var 3 (pv 3))) (blkOk_by (own := [("cut", 7)]) (by refine (?_ : blkC ["cutting", "some", "dims", "cuts", "word", "told", "k", "cut"] (defScope st_meet) _ [("cut", 7)] = true); decide +kernel)) (patIn_name (by decide)) (fun _ _ _ _ _ => (sg_name (i := 7) sc_meet.nd rfl (by first | exact Or.inl rfl | exact Or.inr rfl))) (fun _ _ _ _ _ => sts_nil) (fun _ _ _ _ _ => (se_tup (sa_cons (se_sl rfl (se_var 7 (pv 7)) so_none (so_some (se_un un_neg ud_neg se_int))) (sa_cons (se_ix rfl (se_var 7 (pv 7)) (se_un un_neg ud_neg se_int) (fun _ _ => rfl)) (sa_cons (se_gs T.c_EQUAL rfl (by rfl)) sa_nil))))))) sa_nil))) (sg_tup rfl rfl (sgs_cons (sg_name (i := 4) sc_meet.nd rfl (by first | exact Or.inl rfl | exact Or.inr rfl)) (sgs_cons (sg_name (i := 5) sc_meet.nd rfl (by first | exact Or.inl rfl | exact Or.inr rfl)) sgs_nil))))
    (ss_cons (ss_if (st_cmp (op_eqD hr.units) od_eq (se_var 4 (pv 4)) se_str (nomark _)) (ss_one (ss_ret (se_tup (sa_cons se_str (sa_cons (se_var 5 (pv 5)) sa_nil))))) ss_nil)
    (ss_one (ss_ret (se_tup (sa_cons se_str (sa_cons (se_var 5 (pv 5)) (sa_cons (se_call F_ways_of rfl rfl (hr.mono (by decide)) (passes_call (takes_of rfl rfl rfl rfl) (fun _ _ _ _ h => h)) (by rfl) (sa_cons (se_var 2 (pv 2)) (sa_cons (eo_er (eo_lc rfl sc_meet.nd (si_seq rfl (se_var 3 (pv 3))) (blkOk_by (own := [("cut", 7)]) (by refine (?_ : blkC ["cutting", "some", "dims", "cuts", "word", "told", "k", "cut"] (defScope st_meet) _ [("cut", 7)] = true); decide +kernel)) (patIn_name (by decide)) (fun _ _ _ _ _ => (sg_name (i := 7) sc_meet.nd rfl (by first | exact Or.inl rfl | exact Or.inr rfl))) (fun _ _ _ _ _ => sts_nil) (fun _ _ _ _ _ => (se_sl rfl (se_var 7 (pv 7)) so_none (so_some (se_un un_neg ud_neg se_int)))))) sa_nil))) sa_nil))))))))))))
theorem ok__law_cell_at {P : Program} {w : World} {base : Heap} {g : G} (T : Txt g) {f : Addr} {fd : FuncData} (F : Fun g.K "_law_cell_at" "_law_cell_at" st__law_cell_at f fd) (hm : g.mg "_law_cell_at" = some (.ref f)) (hb : Binds g.K fd ["_law_script", "_law_k"] []) : Fn P w base g "_law_cell_at" 2 1 d__law_cell_at := by
  rw [d__law_cell_at_eq]; unfold s__law_cell_at; exact def_ok F sc__law_cell_at hm hb fun cdv A outer sh H E B Hs0 hr =>
  (ss_cons (ss_if (st_cmp op_lt od_lt (se_var 1 (pv 1)) (se_callB' call_len cd_len (by rfl) T.z_len (by decide +kernel) (sa_cons (se_var 0 (pv 0)) sa_nil)) (nomark _)) (ss_one (ss_ret (se_ix rfl (se_var 0 (pv 0)) (se_var 1 (pv 1)) (fun _ _ => rfl)))) ss_nil)
    (ss_one (ss_ret se_int)))
theorem ok__law_draw {P : Program} {w : World} {base : Heap} {g : G} (T : Txt g) {f : Addr} {fd : FuncData} (F : Fun g.K "_law_draw" "_law_draw" st__law_draw f fd) (hm : g.mg "_law_draw" = some (.ref f)) (hb : Binds g.K fd ["_law_cell", "_law_k", "_law_bound"] []) : Fn P w base g "_law_draw" 3 1 d__law_draw := by
  rw [d__law_draw_eq]; unfold s__law_draw; simp only [b__law_draw_1_eq]; exact def_ok F sc__law_draw hm hb fun cdv A outer sh H E B Hs0 hr =>
  (ss_cons (ss_if (st_cmp op_ge od_ge (se_var 0 (pv 0)) (se_op op_pow od_pow se_int se_int) (nomark _)) (ss_cons (ss_set (i := 3) sc__law_draw.nd rfl (by first | exact Or.inl rfl | exact Or.inr rfl) (se_var 0 (pv 0)))
    (ss_cons (ss_forR (passes_of rfl) rfl (si_range1 (by rfl) T.z_range (sa_cons (se_var 1 (pv 1)) sa_nil)) (sg_name (i := 4) sc__law_draw.nd rfl (by first | exact Or.inl rfl | exact Or.inr rfl)) (ss_one (ss_set (i := 3) sc__law_draw.nd rfl (by first | exact Or.inl rfl | exact Or.inr rfl) (se_op op_fdivB od_fdiv (se_var 3 (pv 3)) (se_var 2 (pv 2))))))
    (ss_one (ss_ret (se_op op_modN od_mod (se_var 3 (pv 3)) (se_var 2 (pv 2))))))) ss_nil)
    (ss_cons (ss_set (i := 5) sc__law_draw.nd rfl (by first | exact Or.inl rfl | exact Or.inr rfl) (se_op op_modN od_mod (se_op or_mulX od_mulX (se_op or_add od_add (se_op or_add od_add (se_op op_modN od_mod (se_var 0 (pv 0)) se_int) (se_op or_mulX od_mulX se_int (se_var 1 (pv 1)))) se_int) se_int) se_int))
    (ss_cons (ss_set (i := 5) sc__law_draw.nd rfl (by first | exact Or.inl rfl | exact Or.inr rfl) (se_op op_modN od_mod (se_op or_add od_add (se_op or_add od_add (se_op or_mulX od_mulX (se_var 5 (pv 5)) (se_var 5 (pv 5))) (se_op or_mulX od_mulX se_int (se_var 1 (pv 1)))) se_int) se_int))
    (ss_one (ss_ret (se_op op_modN od_mod (se_op op_fdivB od_fdiv (se_op op_modN od_mod (se_op or_mulX od_mulX (se_var 5 (pv 5)) se_int) se_int) se_int) (se_var 2 (pv 2))))))))
theorem ok__law_same {P : Program} {w : World} {base : Heap} {g : G} (T : Txt g) {f : Addr} {fd : FuncData} (F : Fun g.K "_law_same" "_law_same" st__law_same f fd) (hm : g.mg "_law_same" = some (.ref f)) (hb : Binds g.K fd ["_law_one", "_law_other"] []) : Fn P w base g "_law_same" 2 1 d__law_same := by
  rw [d__law_same_eq]; unfold s__law_same; simp only [b__law_same_1_eq, b__law_same_2_eq]; exact def_ok F sc__law_same hm hb fun cdv A outer sh H E B Hs0 hr =>
  (ss_cons (ss_forR (passes_of rfl) rfl (si_range1 (by rfl) T.z_range (sa_cons (se_callB' call_len cd_len (by rfl) T.z_len (by decide +kernel) (sa_cons (se_var 0 (pv 0)) sa_nil)) sa_nil)) (sg_name (i := 2) sc__law_same.nd rfl (by first | exact Or.inl rfl | exact Or.inr rfl)) (ss_one (ss_forR (passes_of rfl) rfl (si_range1 (by rfl) T.z_range (sa_cons (se_var 2 (pv 2)) sa_nil)) (sg_name (i := 3) sc__law_same.nd rfl (by first | exact Or.inl rfl | exact Or.inr rfl)) (ss_one (ss_if (st_cmp (op_neD hr.units) od_ne (se_op or_mulX od_mulX (se_ix rfl (se_var 0 (pv 0)) (se_var 2 (pv 2)) (fun _ _ => rfl)) (se_ix rfl (se_var 1 (pv 1)) (se_var 3 (pv 3)) (fun _ _ => rfl))) (se_op or_mulX od_mulX (se_ix rfl (se_var 0 (pv 0)) (se_var 3 (pv 3)) (fun _ _ => rfl)) (se_ix rfl (se_var 1 (pv 1)) (se_var 2 (pv 2)) (fun _ _ => rfl))) (nomark _)) (ss_one (ss_ret se_bl)) ss_nil)))))
    (ss_one (ss_ret se_bl)))
theorem ok__law_cut {P : Program} {w : World} {base : Heap} {g : G} (T : Txt g) {f : Addr} {fd : FuncData} (F : Fun g.K "_law_cut" "_law_cut" st__law_cut f fd) (hm : g.mg "_law_cut" = some (.ref f)) (hb : Binds g.K fd ["_law_cell", "_law_dims", "_law_ahead"] []) (F__law_draw : Fn P w base g "_law_draw" 3 1 d__law_draw) : Fn P w base g "_law_cut" 3 2 d__law_cut := by
  rw [d__law_cut_eq]; unfold s__law_cut; simp only [c__law_cut_1_eq, c__law_cut_2_eq, c__law_cut_3_eq]; exact def_ok F sc__law_cut hm hb fun cdv A outer sh H E B Hs0 hr =>
  (ss_cons (ss_ownLc (i := 3) rfl sc__law_cut.nd rfl rfl (sw_true rfl rfl rfl (by decide +kernel)) (ir_of_r (si_range1 (by rfl) T.z_range (sa_cons (se_var 1 (pv 1)) sa_nil))) (blkOk_by (own := [("_law_j", 7)]) (by refine (?_ : blkC ["_law_cell", "_law_dims", "_law_ahead", "_law_numbers", "_law_c", "_law_way", "_law_far", "_law_j", "_law_number", "_law_part"] (defScope st__law_cut) _ [("_law_j", 7)] = true); decide +kernel)) (patIn_name (by decide)) (fun _ _ _ _ _ => (sg_name (i := 7) sc__law_cut.nd rfl (by first | exact Or.inl rfl | exact Or.inr rfl))) (fun _ _ _ _ _ => sts_nil) (fun _ _ _ _ _ => (se_op op_sub od_sub (se_call F__law_draw rfl rfl (hr.mono (by decide)) passL (by rfl) (sa_cons (se_var 0 (pv 0)) (sa_cons (se_var 7 (pv 7)) (sa_cons se_int sa_nil)))) se_int)))
    (ss_cons (ss_if (st_cmp (op_eqD hr.units) od_eq (se_var 3 (pv 3)) (se_op or_mulX od_mulX (eo_er (eo_lst (sa_cons se_int sa_nil))) (se_var 1 (pv 1))) (nomark _)) (ss_one (ss_ix (tpos := ⟨0, 0, 0, 0⟩) (pv 3) (se_call F__law_draw rfl rfl (hr.mono (by decide)) (passes_call (takes_of rfl rfl rfl rfl) (fun _ _ _ _ h => h)) (by rfl) (sa_cons (se_var 0 (pv 0)) (sa_cons se_int (sa_cons (se_var 1 (pv 1)) sa_nil)))) (se_op or_add od_add se_int (se_call F__law_draw rfl rfl (hr.mono (by decide)) (passes_call (takes_of rfl rfl rfl rfl) (fun _ _ _ _ h => h)) (by rfl) (sa_cons (se_var 0 (pv 0)) (sa_cons se_int (sa_cons se_int sa_nil))))) (fun he ho hi => ps_asg he (pg_sub ho hi set_list)))) ss_nil)
    (ss_cons (ss_set (i := 4) sc__law_cut.nd rfl (by first | exact Or.inl rfl | exact Or.inr rfl) (se_op op_sub od_sub (se_call F__law_draw rfl rfl (hr.mono (by decide)) (passes_call (takes_of rfl rfl rfl rfl) (fun _ _ _ _ h => h)) (by rfl) (sa_cons (se_var 0 (pv 0)) (sa_cons se_int (sa_cons se_int sa_nil)))) se_int))
    (ss_cons (ss_set (i := 5) sc__law_cut.nd rfl (by first | exact Or.inl rfl | exact Or.inr rfl) (se_call F__law_draw rfl rfl (hr.mono (by decide)) (passes_call (takes_of rfl rfl rfl rfl) (fun _ _ _ _ h => h)) (by rfl) (sa_cons (se_var 0 (pv 0)) (sa_cons se_int (sa_cons se_int sa_nil)))))
    (ss_cons (ss_if (st_of (sw_and (st_cmp (op_eqD hr.units) od_eq (se_var 5 (pv 5)) se_int (nomark _)) (sw_and1 (st_cmp (op_neD hr.units) od_ne (se_var 2 (pv 2)) (eo_er (eo_lst sa_nil)) (nomark _))))) (ss_one (ss_own (i := 3) sc__law_cut.nd rfl (by first | exact Or.inl rfl | exact Or.inr rfl) (eo_list rfl (by rfl) T.z_list (sa_cons (se_sl rfl (se_ix rfl (se_var 2 (pv 2)) (se_call F__law_draw rfl rfl (hr.mono (by decide)) (passes_call (takes_of rfl rfl rfl rfl) (fun _ _ _ _ h => h)) (by rfl) (sa_cons (se_var 0 (pv 0)) (sa_cons se_int (sa_cons (se_callB' call_len cd_len (by rfl) T.z_len (by decide +kernel) (sa_cons (se_var 2 (pv 2)) sa_nil)) sa_nil)))) (fun _ _ => rfl)) so_none (so_some (se_var 1 (pv 1)))) sa_nil)))) ss_nil)
    (ss_cons (ss_if (st_of (sw_or (st_cmp (op_eqD hr.units) od_eq (se_var 5 (pv 5)) se_int (nomark _)) (sw_or1 (st_cmp (op_eqD hr.units) od_eq (se_var 5 (pv 5)) se_int (nomark _))))) (ss_one (ss_setB (i := 4) sc__law_cut.nd rfl (by first | exact Or.inl rfl | exact Or.inr rfl) (se_callB' (cr_sum rfl) cd_sum (by rfl) T.z_sum (by decide +kernel) (sa_cons (eo_er (eo_lc rfl sc__law_cut.nd (si_zip2 rfl (by rfl) T.z_zip (sa_cons (se_var 3 (pv 3)) (sa_cons (eo_er (eo_lst (sa_cons se_int (sa_cons se_int (sa_cons (se_un un_neg ud_neg se_int) sa_nil))))) sa_nil))) (blkOk_by (own := [("_law_number", 8), ("_law_part", 9)]) (by refine (?_ : blkC ["_law_cell", "_law_dims", "_law_ahead", "_law_numbers", "_law_c", "_law_way", "_law_far", "_law_j", "_law_number", "_law_part"] (defScope st__law_cut) _ [("_law_number", 8), ("_law_part", 9)] = true); decide +kernel)) (patIn_tup (patIn_cons (patIn_name (by decide)) (patIn_cons (patIn_name (by decide)) patIn_nil))) (fun _ _ _ _ _ => (sg_tup rfl rfl (sgs_cons (sg_name (i := 8) sc__law_cut.nd rfl (by first | exact Or.inl rfl | exact Or.inr rfl)) (sgs_cons (sg_name (i := 9) sc__law_cut.nd rfl (by first | exact Or.inl rfl | exact Or.inr rfl)) sgs_nil)))) (fun _ _ _ _ _ => sts_nil) (fun _ _ _ _ _ => (se_op or_mulX od_mulX (se_var 8 (pv 8)) (se_var 9 (pv 9)))))) sa_nil)))) ss_nil)
    (ss_cons (ss_if (st_cmp (op_eqD hr.units) od_eq (se_var 5 (pv 5)) se_int (nomark _)) (ss_cons (ss_set (i := 6) sc__law_cut.nd rfl (by first | exact Or.inl rfl | exact Or.inr rfl) (se_op or_mulX od_mulX (se_op or_add od_add se_int (se_call F__law_draw rfl rfl (hr.mono (by decide)) (passes_call (takes_of rfl rfl rfl rfl) (fun _ _ _ _ h => h)) (by rfl) (sa_cons (se_var 0 (pv 0)) (sa_cons se_int (sa_cons (se_op op_pow od_pow se_int se_int) sa_nil))))) (se_ix rfl (eo_er (eo_lst (sa_cons se_int (sa_cons se_int (sa_cons (se_op op_pow od_pow se_int se_int) sa_nil))))) (se_call F__law_draw rfl rfl (hr.mono (by decide)) (passes_call (takes_of rfl rfl rfl rfl) (fun _ _ _ _ h => h)) (by rfl) (sa_cons (se_var 0 (pv 0)) (sa_cons se_int (sa_cons se_int sa_nil)))) (fun _ _ => rfl))))
    (ss_cons (ss_ownLcB (i := 3) rfl sc__law_cut.nd rfl rfl (sw_true rfl rfl rfl (by decide +kernel)) (si_seq rfl (se_var 3 (pv 3))) (blkOk_by (own := [("_law_number", 8)]) (by refine (?_ : blkC ["_law_cell", "_law_dims", "_law_ahead", "_law_numbers", "_law_c", "_law_way", "_law_far", "_law_j", "_law_number", "_law_part"] (defScope st__law_cut) _ [("_law_number", 8)] = true); decide +kernel)) (patIn_name (by decide)) (fun _ _ _ _ _ => (sg_name (i := 8) sc__law_cut.nd rfl (by first | exact Or.inl rfl | exact Or.inr rfl))) (fun _ _ _ _ _ => sts_nil) (fun _ _ _ _ _ => (se_op or_mulX od_mulX (se_var 8 (pv 8)) (se_var 6 (pv 6)))))
    (ss_one (ss_set (i := 4) sc__law_cut.nd rfl (by first | exact Or.inl rfl | exact Or.inr rfl) (se_op or_add od_add (se_op or_mulX od_mulX (se_var 4 (pv 4)) (se_var 6 (pv 6))) (se_call F__law_draw rfl rfl (hr.mono (by decide)) (passes_call (takes_of rfl rfl rfl rfl) (fun _ _ _ _ h => h)) (by rfl) (sa_cons (se_var 0 (pv 0)) (sa_cons se_int (sa_cons se_int sa_nil))))))))) ss_nil)
    (ss_one (ss_ret (se_callTy call_tuple_of cd_tuple (by rfl) T.z_tuple (by decide +kernel) (sa_cons (se_op or_add od_add (se_var 3 (pv 3)) (eo_er (eo_lst (sa_cons (se_var 4 (pv 4)) sa_nil)))) sa_nil)))))))))))
theorem ok__law_cuts {P : Program} {w : World} {base : Heap} {g : G} (T : Txt g) {f : Addr} {fd : FuncData} (F : Fun g.K "_law_cuts" "_law_cuts" st__law_cuts f fd) (hm : g.mg "_law_cuts" = some (.ref f)) (hb : Binds g.K fd ["_law_script", "_law_at", "_law_dims", "_law_many"] []) (F__law_cell_at : Fn P w base g "_law_cell_at" 2 1 d__law_cell_at) (F__law_cut : Fn P w base g "_law_cut" 3 2 d__law_cut) (F__law_same : Fn P w base g "_law_same" 2 1 d__law_same) : Fn P w base g "_law_cuts" 4 3 d__law_cuts := by
  rw [d__law_cuts_eq]; unfold s__law_cuts; simp only [c__law_cuts_1_eq, i__law_cuts_1_eq, b__law_cuts_1_eq]; exact def_ok F sc__law_cuts hm hb fun cdv A outer sh H E B Hs0 hr =>
  (ss_cons (ss_own (i := 4) sc__law_cuts.nd rfl (by first | exact Or.inl rfl | exact Or.inr rfl) (eo_lst sa_nil))
    (ss_cons (ss_forR (passes_of rfl) rfl (si_range1 (by rfl) T.z_range (sa_cons (se_var 3 (pv 3)) sa_nil)) (sg_name (i := 5) sc__law_cuts.nd rfl (by first | exact Or.inl rfl | exact Or.inr rfl)) (ss_cons (ss_setB (i := 6) sc__law_cuts.nd rfl (by first | exact Or.inl rfl | exact Or.inr rfl) (se_call F__law_cut rfl rfl (hr.mono (by decide)) (passes_call (takes_of rfl rfl rfl rfl) (fun _ _ _ _ h => h)) (by rfl) (sa_cons (se_call F__law_cell_at rfl rfl (hr.mono (by decide)) (passes_call (takes_of rfl rfl rfl rfl) (fun _ _ _ _ h => h)) (by rfl) (sa_cons (se_var 0 (pv 0)) (sa_cons (se_op or_add od_add (se_var 1 (pv 1)) (se_var 5 (pv 5))) sa_nil))) (sa_cons (se_var 2 (pv 2)) (sa_cons (se_var 4 (pv 4)) sa_nil)))))
    (ss_one (ss_if (st_cmp (op_eqD hr.units) od_eq (eo_er (eo_lc rfl sc__law_cuts.nd (si_seq rfl (se_var 4 (pv 4))) (blkOk_by (own := [("_law_other", 7)]) (by refine (?_ : blkC ["_law_script", "_law_at", "_law_dims", "_law_many", "_law_found", "_law_k", "_law_cut_here", "_law_other"] (defScope st__law_cuts) _ [("_law_other", 7)] = true); decide +kernel)) (patIn_name (by decide)) (fun _ _ _ _ _ => (sg_name (i := 7) sc__law_cuts.nd rfl (by first | exact Or.inl rfl | exact Or.inr rfl))) (fun _ _ _ _ _ => (sts_one (st_val (se_call F__law_same rfl rfl (hr.mono (by decide)) passL (by rfl) (sa_cons (se_var 6 (pv 6)) (sa_cons (se_var 7 (pv 7)) sa_nil)))))) (fun _ _ _ _ _ => (se_var 7 (pv 7))))) (eo_er (eo_lst sa_nil)) (nomark _)) (ss_one (ss_app (pv 4) (se_var 6 (pv 6)) (fun ho ha => pe_bm PySem.F.plainAttrs_list PySem.F.slot_list_append PySem.F.type_list_append mt_append ho ha))) ss_nil))))
    (ss_one (ss_retV (pv 4)))))
theorem ok__law_kind {P : Program} {w : World} {base : Heap} {g : G} (T : Txt g) {f : Addr} {fd : FuncData} (F : Fun g.K "_law_kind" "_law_kind" st__law_kind f fd) (hm : g.mg "_law_kind" = some (.ref f)) (hb : Binds g.K fd ["_law_cutting", "_law_some"] []) (F_meet : Fn P w base g "meet" 2 15 d_meet) : Fn P w base g "_law_kind" 2 16 d__law_kind := by
  rw [d__law_kind_eq]; unfold s__law_kind; exact def_ok F sc__law_kind hm hb fun cdv A outer sh H E B Hs0 hr =>
  (ss_cons (ss_set (i := 2) sc__law_kind.nd rfl (by first | exact Or.inl rfl | exact Or.inr rfl) (se_call F_meet rfl rfl (hr.mono (by decide)) (passes_call (takes_of rfl rfl rfl rfl) (fun _ _ _ _ h => h)) (by rfl) (sa_cons (se_var 0 (pv 0)) (sa_cons (se_var 1 (pv 1)) sa_nil))))
    (ss_cons (ss_if (st_cmp (op_eqD hr.units) od_eq (se_ix rfl (se_var 2 (pv 2)) se_int (fun _ _ => rfl)) se_str (nomark _)) (ss_one (ss_ret (se_un un_neg ud_neg se_int))) ss_nil)
    (ss_one (ss_ret (se_callB' call_len cd_len (by rfl) T.z_len (by decide +kernel) (sa_cons (se_ix rfl (se_var 2 (pv 2)) se_int (fun _ _ => rfl)) sa_nil))))))
theorem ok__law_lists {P : Program} {w : World} {base : Heap} {g : G} (T : Txt g) {f : Addr} {fd : FuncData} (F : Fun g.K "_law_lists" "_law_lists" st__law_lists f fd) (hm : g.mg "_law_lists" = some (.ref f)) (hb : Binds g.K fd ["_law_many", "_law_most"] []) : Fn P w base g "_law_lists" 2 1 d__law_lists := by
  rw [d__law_lists_eq]; unfold s__law_lists; simp only [c__law_lists_1_eq, b__law_lists_1_eq, c__law_lists_2_eq, i__law_lists_1_eq, b__law_lists_2_eq]; exact def_ok F sc__law_lists hm hb fun cdv A outer sh H E B Hs0 hr =>
  (ss_cons (ss_set (i := 2) sc__law_lists.nd rfl (by first | exact Or.inl rfl | exact Or.inr rfl) (eo_er (eo_lst (sa_cons (eo_er (eo_lst sa_nil)) sa_nil))))
    (ss_cons (ss_forR (passes_of rfl) rfl (si_range1 (by rfl) T.z_range (sa_cons (se_var 1 (pv 1)) sa_nil)) (sg_name (i := 3) sc__law_lists.nd rfl (by first | exact Or.inl rfl | exact Or.inr rfl)) (ss_cons (ss_set (i := 4) sc__law_lists.nd rfl (by first | exact Or.inl rfl | exact Or.inr rfl) (eo_er (eo_lst sa_nil)))
    (ss_cons (ss_for (passes_of rfl) rfl (si_seq rfl (se_var 2 (pv 2))) (sg_name (i := 5) sc__law_lists.nd rfl (by first | exact Or.inl rfl | exact Or.inr rfl)) (ss_cons (ss_set (i := 6) sc__law_lists.nd rfl (by first | exact Or.inl rfl | exact Or.inr rfl) (se_if (st_cmp (op_neD hr.units) od_ne (se_var 5 (pv 5)) (eo_er (eo_lst sa_nil)) (nomark _)) (se_op or_add od_add (se_ix rfl (se_var 5 (pv 5)) (se_un un_neg ud_neg se_int) (fun _ _ => rfl)) se_int) se_int))
    (ss_one (ss_set (i := 4) sc__law_lists.nd rfl (by first | exact Or.inl rfl | exact Or.inr rfl) (se_op or_add od_add (se_var 4 (pv 4)) (eo_er (eo_lc rfl sc__law_lists.nd (ir_of_r (si_range2 (by rfl) T.z_range (sa_cons (se_var 6 (pv 6)) (sa_cons (se_var 0 (pv 0)) sa_nil)))) (blkOk_by (own := [("_law_k", 7)]) (by refine (?_ : blkC ["_law_many", "_law_most", "_law_found", "_law_size", "_law_longer", "_law_some", "_law_begin", "_law_k"] (defScope st__law_lists) _ [("_law_k", 7)] = true); decide +kernel)) (patIn_name (by decide)) (fun _ _ _ _ _ => (sg_name (i := 7) sc__law_lists.nd rfl (by first | exact Or.inl rfl | exact Or.inr rfl))) (fun _ _ _ _ _ => sts_nil) (fun _ _ _ _ _ => (se_op or_add od_add (se_var 5 (pv 5)) (eo_er (eo_lst (sa_cons (se_var 7 (pv 7)) sa_nil))))))))))))
    (ss_one (ss_set (i := 2) sc__law_lists.nd rfl (by first | exact Or.inl rfl | exact Or.inr rfl) (se_op or_add od_add (se_var 2 (pv 2)) (eo_er (eo_lc rfl sc__law_lists.nd (si_seq rfl (se_var 4 (pv 4))) (blkOk_by (own := [("_law_some", 5)]) (by refine (?_ : blkC ["_law_many", "_law_most", "_law_found", "_law_size", "_law_longer", "_law_some", "_law_begin", "_law_k"] (defScope st__law_lists) _ [("_law_some", 5)] = true); decide +kernel)) (patIn_name (by decide)) (fun _ _ _ _ _ => (sg_name (i := 5) sc__law_lists.nd rfl (by first | exact Or.inl rfl | exact Or.inr rfl))) (fun _ _ _ _ _ => (sts_one (st_cmp (op_ninDT (room65 hr)) od_ninDT (se_var 5 (pv 5)) (se_var 2 (pv 2)) (by with_unfolding_all rfl)))) (fun _ _ _ _ _ => (se_var 5 (pv 5)))))))))))
    (ss_one (ss_ret (se_var 2 (pv 2))))))
theorem okF_law {P : Program} {w : World} {base : Heap} {g : G} (T : Txt g) {f : Addr} {fd : FuncData} (F : Fun g.K "law" "law" st_law f fd) (M_Cutting : MkF P w base g 5 (initD d_check_cuts)) (F__law_cell_at : Fn P w base g "_law_cell_at" 2 1 d__law_cell_at) (F__law_cuts : Fn P w base g "_law_cuts" 4 3 d__law_cuts) (F__law_draw : Fn P w base g "_law_draw" 3 1 d__law_draw) (F__law_kind : Fn P w base g "_law_kind" 2 16 d__law_kind) (F__law_lists : Fn P w base g "_law_lists" 2 1 d__law_lists) : FnOk P w g.K g.mg base (L2.CX P w) 17 f fd ["_law_script"] (spD g 1 d_law) := by
  rw [d_law_eq]; unfold s_law; simp only [c_law_1_eq, c_law_2_eq, c_law_3_eq, c_law_4_eq, b_law_1_eq, c_law_5_eq, b_law_2_eq]; exact def_fn F sc_law fun cdv A outer sh H E B Hs0 hr =>
  (ss_cons (ss_set (i := 1) sc_law.nd rfl (by first | exact Or.inl rfl | exact Or.inr rfl) (se_op or_add od_add se_int (se_call F__law_draw rfl rfl (hr.mono (by decide)) (passes_call (takes_of rfl rfl rfl rfl) (fun _ _ _ _ h => h)) (by rfl) (sa_cons (se_call F__law_cell_at rfl rfl (hr.mono (by decide)) (passes_call (takes_of rfl rfl rfl rfl) (fun _ _ _ _ h => h)) (by rfl) (sa_cons (se_var 0 (pv 0)) (sa_cons se_int sa_nil))) (sa_cons se_int (sa_cons se_int sa_nil))))))
    (ss_cons (ss_set (i := 2) sc_law.nd rfl (by first | exact Or.inl rfl | exact Or.inr rfl) (se_call F__law_cuts rfl rfl (hr.mono (by decide)) (passes_call (takes_of rfl rfl rfl rfl) (fun _ _ _ _ h => h)) (by rfl) (sa_cons (se_var 0 (pv 0)) (sa_cons se_int (sa_cons (se_var 1 (pv 1)) (sa_cons (se_op or_add od_add se_int (se_call F__law_draw rfl rfl (hr.mono (by decide)) (passes_call (takes_of rfl rfl rfl rfl) (fun _ _ _ _ h => h)) (by rfl) (sa_cons (se_call F__law_cell_at rfl rfl (hr.mono (by decide)) (passes_call (takes_of rfl rfl rfl rfl) (fun _ _ _ _ h => h)) (by rfl) (sa_cons (se_var 0 (pv 0)) (sa_cons se_int sa_nil))) (sa_cons se_int (sa_cons se_int sa_nil))))) sa_nil))))))
    (ss_cons (ss_setL (ss_own (i := 3) sc_law.nd rfl (by first | exact Or.inl rfl | exact Or.inr rfl) (eo_lc rfl sc_law.nd (ir_of_r (si_range1 (by rfl) T.z_range (sa_cons (se_callB' call_len cd_len (by rfl) T.z_len (by decide +kernel) (sa_cons (se_var 2 (pv 2)) sa_nil)) sa_nil))) (blkOk_by (own := [("_law_k", 7)]) (by refine (?_ : blkC ["_law_script", "_law_dims", "_law_cuts_here", "_law_often", "_law_steps", "_law_scaled", "_law_shifted", "_law_k", "_law_more", "_law_cutting", "_law_others", "_law_some", "_law_due", "_law_before", "_law_j", "_law_number", "_law_step", "_law_other"] (defScope st_law) _ [("_law_k", 7)] = true); decide +kernel)) (patIn_name (by decide)) (fun _ _ _ _ _ => (sg_name (i := 7) sc_law.nd rfl (by first | exact Or.inl rfl | exact Or.inr rfl))) (fun _ _ _ _ _ => sts_nil) (fun _ _ _ _ _ => (se_ix rfl (eo_er (eo_lst (sa_cons se_int (sa_cons (se_un un_neg ud_neg se_int) (sa_cons se_int (sa_cons (se_un un_neg ud_neg se_int) sa_nil)))))) (se_call F__law_draw rfl rfl (hr.mono (by decide)) passL (by rfl) (sa_cons (se_call F__law_cell_at rfl rfl (hr.mono (by decide)) passL (by rfl) (sa_cons (se_var 0 (pv 0)) (sa_cons se_int sa_nil))) (sa_cons (se_var 7 (pv 7)) (sa_cons se_int sa_nil)))) (fun _ _ => rfl))))))
    (ss_cons (ss_setL (ss_ownLc (i := 4) rfl sc_law.nd rfl rfl (sw_true rfl rfl rfl (by decide +kernel)) (ir_of_r (si_range1 (by rfl) T.z_range (sa_cons (se_var 1 (pv 1)) sa_nil))) (blkOk_by (own := [("_law_j", 14)]) (by refine (?_ : blkC ["_law_script", "_law_dims", "_law_cuts_here", "_law_often", "_law_steps", "_law_scaled", "_law_shifted", "_law_k", "_law_more", "_law_cutting", "_law_others", "_law_some", "_law_due", "_law_before", "_law_j", "_law_number", "_law_step", "_law_other"] (defScope st_law) _ [("_law_j", 14)] = true); decide +kernel)) (patIn_name (by decide)) (fun _ _ _ _ _ => (sg_name (i := 14) sc_law.nd rfl (by first | exact Or.inl rfl | exact Or.inr rfl))) (fun _ _ _ _ _ => sts_nil) (fun _ _ _ _ _ => (se_op op_sub od_sub (se_call F__law_draw rfl rfl (hr.mono (by decide)) passL (by rfl) (sa_cons (se_call F__law_cell_at rfl rfl (hr.mono (by decide)) passL (by rfl) (sa_cons (se_var 0 (pv 0)) (sa_cons se_int sa_nil))) (sa_cons (se_var 14 (pv 14)) (sa_cons se_int sa_nil)))) se_int))))
    (ss_cons (ss_own (i := 5) sc_law.nd rfl (by first | exact Or.inl rfl | exact Or.inr rfl) (eo_lst sa_nil))
    (ss_cons (ss_own (i := 6) sc_law.nd rfl (by first | exact Or.inl rfl | exact Or.inr rfl) (eo_lst sa_nil))
    (ss_cons (ss_forR (passes_of rfl) rfl (si_range1 (by rfl) T.z_range (sa_cons (se_callB' call_len cd_len (by rfl) T.z_len (by decide +kernel) (sa_cons (se_var 2 (pv 2)) sa_nil)) sa_nil)) (sg_name (i := 7) sc_law.nd rfl (by first | exact Or.inl rfl | exact Or.inr rfl)) (ss_cons (ss_app (pv 5) (se_callTy call_tuple_of cd_tuple (by rfl) T.z_tuple (by decide +kernel) (sa_cons (eo_er (eo_lc rfl sc_law.nd (si_seq rfl (se_ix rfl (se_var 2 (pv 2)) (se_var 7 (pv 7)) (fun _ _ => rfl))) (blkOk_by (own := [("_law_number", 15)]) (by refine (?_ : blkC ["_law_script", "_law_dims", "_law_cuts_here", "_law_often", "_law_steps", "_law_scaled", "_law_shifted", "_law_k", "_law_more", "_law_cutting", "_law_others", "_law_some", "_law_due", "_law_before", "_law_j", "_law_number", "_law_step", "_law_other"] (defScope st_law) _ [("_law_number", 15)] = true); decide +kernel)) (patIn_name (by decide)) (fun _ _ _ _ _ => (sg_name (i := 15) sc_law.nd rfl (by first | exact Or.inl rfl | exact Or.inr rfl))) (fun _ _ _ _ _ => sts_nil) (fun _ _ _ _ _ => (se_op or_mulX od_mulX (se_ix rfl (se_var 3 (pv 3)) (se_var 7 (pv 7)) (fun _ _ => rfl)) (se_var 15 (pv 15)))))) sa_nil)) (fun ho ha => pe_bm PySem.F.plainAttrs_list PySem.F.slot_list_append PySem.F.type_list_append mt_append ho ha))
    (ss_cons (ss_set (i := 8) sc_law.nd rfl (by first | exact Or.inl rfl | exact Or.inr rfl) (se_callB' (cr_sum rfl) cd_sum (by rfl) T.z_sum (by decide +kernel) (sa_cons (eo_er (eo_lc rfl sc_law.nd (si_zip2 rfl (by rfl) T.z_zip (sa_cons (se_ix rfl (se_var 2 (pv 2)) (se_var 7 (pv 7)) (fun _ _ => rfl)) (sa_cons (se_var 4 (pv 4)) sa_nil))) (blkOk_by (own := [("_law_number", 15), ("_law_step", 16)]) (by refine (?_ : blkC ["_law_script", "_law_dims", "_law_cuts_here", "_law_often", "_law_steps", "_law_scaled", "_law_shifted", "_law_k", "_law_more", "_law_cutting", "_law_others", "_law_some", "_law_due", "_law_before", "_law_j", "_law_number", "_law_step", "_law_other"] (defScope st_law) _ [("_law_number", 15), ("_law_step", 16)] = true); decide +kernel)) (patIn_tup (patIn_cons (patIn_name (by decide)) (patIn_cons (patIn_name (by decide)) patIn_nil))) (fun _ _ _ _ _ => (sg_tup rfl rfl (sgs_cons (sg_name (i := 15) sc_law.nd rfl (by first | exact Or.inl rfl | exact Or.inr rfl)) (sgs_cons (sg_name (i := 16) sc_law.nd rfl (by first | exact Or.inl rfl | exact Or.inr rfl)) sgs_nil)))) (fun _ _ _ _ _ => sts_nil) (fun _ _ _ _ _ => (se_op or_mulX od_mulX (se_var 15 (pv 15)) (se_var 16 (pv 16)))))) sa_nil)))
    (ss_one (ss_app (pv 6) (se_op or_add od_add (se_sl rfl (se_ix rfl (se_var 2 (pv 2)) (se_var 7 (pv 7)) (fun _ _ => rfl)) so_none (so_some (se_var 1 (pv 1)))) (se_tup (sa_cons (se_op or_add od_add (se_ix rfl (se_ix rfl (se_var 2 (pv 2)) (se_var 7 (pv 7)) (fun _ _ => rfl)) (se_var 1 (pv 1)) (fun _ _ => rfl)) (se_var 8 (pv 8))) sa_nil))) (fun ho ha => pe_bm PySem.F.plainAttrs_list PySem.F.slot_list_append PySem.F.type_list_append mt_append ho ha))))))
    (ss_cons (ss_set (i := 9) sc_law.nd rfl (by first | exact Or.inl rfl | exact Or.inr rfl) (se_make M_Cutting rfl rfl (hr.mono (by decide)) (passes_call (takes_of rfl rfl rfl rfl) (fun _ _ _ _ h => h)) (by rfl) (sa_cons (se_var 1 (pv 1)) (sa_cons (se_var 2 (pv 2)) sa_nil))))
    (ss_cons (ss_setLB (ss_ownB (i := 10) sc_law.nd rfl (by first | exact Or.inl rfl | exact Or.inr rfl) (eo_lst (sa_cons (se_make M_Cutting rfl rfl (hr.mono (by decide)) (passes_call (takes_of rfl rfl rfl rfl) (fun _ _ _ _ h => h)) (by rfl) (sa_cons (se_var 1 (pv 1)) (sa_cons (se_var 5 (pv 5)) sa_nil))) (sa_cons (se_make M_Cutting rfl rfl (hr.mono (by decide)) (passes_call (takes_of rfl rfl rfl rfl) (fun _ _ _ _ h => h)) (by rfl) (sa_cons (se_var 1 (pv 1)) (sa_cons (se_var 6 (pv 6)) sa_nil))) sa_nil)))))
    (ss_cons (ss_for (passes_of rfl) rfl (si_seq rfl (se_call F__law_lists rfl rfl (hr.mono (by decide)) (passes_call (takes_of rfl rfl rfl rfl) (fun _ _ _ _ h => h)) (by rfl) (sa_cons (se_callB' call_len cd_len (by rfl) T.z_len (by decide +kernel) (sa_cons (se_var 2 (pv 2)) sa_nil)) (sa_cons (se_callB' (call_min2 rfl) cd_min2 (by rfl) T.z_min (by decide +kernel) (sa_cons se_int (sa_cons (se_op or_add od_add (se_var 1 (pv 1)) se_int) sa_nil))) sa_nil)))) (sg_name (i := 11) sc_law.nd rfl (by first | exact Or.inl rfl | exact Or.inr rfl)) (ss_cons (ss_set (i := 12) sc_law.nd rfl (by first | exact Or.inl rfl | exact Or.inr rfl) (se_call F__law_kind rfl rfl (hr.mono (by decide)) (passes_call (takes_of rfl rfl rfl rfl) (fun _ _ _ _ h => h)) (by rfl) (sa_cons (se_var 9 (pv 9)) (sa_cons (se_var 11 (pv 11)) sa_nil))))
    (ss_cons (ss_if (st_of (sw_or (st_cmp (op_neD hr.units) od_ne (se_call F__law_kind rfl rfl (hr.mono (by decide)) (passes_call (takes_of rfl rfl rfl rfl) (fun _ _ _ _ h => h)) (by rfl) (sa_cons (se_var 9 (pv 9)) (sa_cons (se_rev rfl (se_var 11 (pv 11))) sa_nil))) (se_var 12 (pv 12)) (nomark _)) (sw_or1 (st_cmp (op_neD hr.units) od_ne (eo_er (eo_lc rfl sc_law.nd (si_seq rfl (se_var 10 (pv 10))) (blkOk_by (own := [("_law_other", 17)]) (by refine (?_ : blkC ["_law_script", "_law_dims", "_law_cuts_here", "_law_often", "_law_steps", "_law_scaled", "_law_shifted", "_law_k", "_law_more", "_law_cutting", "_law_others", "_law_some", "_law_due", "_law_before", "_law_j", "_law_number", "_law_step", "_law_other"] (defScope st_law) _ [("_law_other", 17)] = true); decide +kernel)) (patIn_name (by decide)) (fun _ _ _ _ _ => (sg_name (i := 17) sc_law.nd rfl (by first | exact Or.inl rfl | exact Or.inr rfl))) (fun _ _ _ _ _ => sts_nil) (fun _ _ _ _ _ => (se_call F__law_kind rfl rfl (hr.mono (by decide)) passL (by rfl) (sa_cons (se_var 17 (pv 17)) (sa_cons (se_var 11 (pv 11)) sa_nil)))))) (eo_er (eo_lst (sa_cons (se_var 12 (pv 12)) (sa_cons (se_var 12 (pv 12)) sa_nil)))) (nomark _))))) (ss_one (ss_ret se_bl)) ss_nil)
    (ss_one (ss_if (st_cmp (op_neD hr.units) od_ne (se_var 11 (pv 11)) (eo_er (eo_lst sa_nil)) (nomark _)) (ss_cons (ss_set (i := 13) sc_law.nd rfl (by first | exact Or.inl rfl | exact Or.inr rfl) (se_call F__law_kind rfl rfl (hr.mono (by decide)) (passes_call (takes_of rfl rfl rfl rfl) (fun _ _ _ _ h => h)) (by rfl) (sa_cons (se_var 9 (pv 9)) (sa_cons (se_sl rfl (se_var 11 (pv 11)) so_none (so_some (se_un un_neg ud_neg se_int))) sa_nil))))
    (ss_one (ss_if (st_of (sw_or (st_of (sw_and (st_cmp op_ge od_ge (se_var 12 (pv 12)) se_int (nomark _)) (sw_and1 (st_not (st_chain od_le od_le (se_var 12 (pv 12)) (se_var 13 (pv 13)) (se_op or_add od_add (se_var 12 (pv 12)) se_int) (pt_chain op_le op_le)))))) (sw_or1 (st_of (sw_and (st_cmp op_lt od_lt (se_var 13 (pv 13)) se_int (nomark _)) (sw_and1 (st_cmp op_ge od_ge (se_var 12 (pv 12)) se_int (nomark _)))))))) (ss_one (ss_ret se_bl)) ss_nil))) ss_nil)))))
    (ss_one (ss_ret se_bl))))))))))))
theorem all_mk {P : Program} {w : World} {K : PySem.W.Frag} {h : Heap} {mg : Str → Option Value} {fa C_Cutting  f_0 f_1 f_2 f_3 f_4 f_5 f_6 f_7 f_8 f_9 f_10 f_11 f_12 f_13 f_14 f_15 f_16 f_17 f_18 f_19 f_20 f_21 f_22 f_23 f_24 f_25 f_26 f_27 f_28 f_29 f_30 f_31 f_32 f_33 f_34 f_35 f_36 f_37 f_38 f_39 : Addr} (X : K.In h) (G : h.Ns mainGlobals mg) (hfa : mg "law" = some (.ref fa))
    {od0 an0 od1 an1 od2 an2 od3 an3 od4 an4 od5 an5 od6 an6 od7 an7 od8 an8 od9 an9 od10 an10 od11 an11 od12 an12 od13 an13 od14 an14 od15 an15 od16 an16 od17 an17 od18 an18 od19 an19 od20 an20 od21 an21 od22 an22 od23 an23 od24 an24 od25 an25 od26 an26 od27 an27 od28 an28 od29 an29 od30 an30 od31 an31 od32 an32 od33 an33 od34 an34 od35 an35 od36 an36 od37 an37 od38 an38 od39 an39 : Option Addr} {sl0 sl1 sl2 sl3 sl4 sl5 sl6 sl7 sl8 sl9 sl10 sl11 sl12 sl13 sl14 sl15 sl16 sl17 sl18 sl19 sl20 sl21 sl22 sl23 sl24 sl25 sl26 sl27 sl28 sl29 sl30 sl31 sl32 sl33 sl34 sl35 sl36 sl37 sl38 sl39 : Array (Option Value)} {oc0 kV0 dc0 pm0 cd0 ct0 oc1 kV1 dc1 pm1 cd1 ct1 oc2 kV2 dc2 pm2 cd2 ct2 oc3 kV3 dc3 pm3 cd3 ct3 oc4 kV4 dc4 pm4 cd4 ct4 oc5 kV5 dc5 pm5 cd5 ct5 oc6 kV6 dc6 pm6 cd6 ct6 oc7 kV7 dc7 pm7 cd7 ct7 oc8 kV8 dc8 pm8 cd8 ct8 oc9 kV9 dc9 pm9 cd9 ct9 oc10 kV10 dc10 pm10 cd10 ct10 oc11 kV11 dc11 pm11 cd11 ct11 oc12 kV12 dc12 pm12 cd12 ct12 oc13 kV13 dc13 pm13 cd13 ct13 oc14 kV14 dc14 pm14 cd14 ct14 oc15 kV15 dc15 pm15 cd15 ct15 oc16 kV16 dc16 pm16 cd16 ct16 oc17 kV17 dc17 pm17 cd17 ct17 oc18 kV18 dc18 pm18 cd18 ct18 oc19 kV19 dc19 pm19 cd19 ct19 oc20 kV20 dc20 pm20 cd20 ct20 oc21 kV21 dc21 pm21 cd21 ct21 oc22 kV22 dc22 pm22 cd22 ct22 oc23 kV23 dc23 pm23 cd23 ct23 oc24 kV24 dc24 pm24 cd24 ct24 oc25 kV25 dc25 pm25 cd25 ct25 oc26 kV26 dc26 pm26 cd26 ct26 oc27 kV27 dc27 pm27 cd27 ct27 oc28 kV28 dc28 pm28 cd28 ct28 oc29 kV29 dc29 pm29 cd29 ct29 oc30 kV30 dc30 pm30 cd30 ct30 oc31 kV31 dc31 pm31 cd31 ct31 oc32 kV32 dc32 pm32 cd32 ct32 oc33 kV33 dc33 pm33 cd33 ct33 oc34 kV34 dc34 pm34 cd34 ct34 oc35 kV35 dc35 pm35 cd35 ct35 oc36 kV36 dc36 pm36 cd36 ct36 oc37 kV37 dc37 pm37 cd37 ct37 oc38 kV38 dc38 pm38 cd38 ct38 oc39 kV39 dc39 pm39 cd39 ct39 : Value}
    (a0 : PySem.W.nsIn K mainGlobals "is_whole" = some (some (.ref f_0))) (l0 : K.lookup f_0 = some ⟨oc0, od0, .func (PySem.W.fnOf "is_whole" "is_whole" (defArgs st_is_whole) (defBody st_is_whole) (defScope st_is_whole) .none kV0 dc0 pm0 an0 cd0 ct0), sl0⟩) (c0 : PySem.W.codeIn K cd0 "is_whole" = true) (k0 : PySem.W.keepIn K (.ref f_0) = true)
    (a1 : PySem.W.nsIn K mainGlobals "common" = some (some (.ref f_1))) (l1 : K.lookup f_1 = some ⟨oc1, od1, .func (PySem.W.fnOf "common" "common" (defArgs st_common) (defBody st_common) (defScope st_common) .none kV1 dc1 pm1 an1 cd1 ct1), sl1⟩) (c1 : PySem.W.codeIn K cd1 "common" = true) (k1 : PySem.W.keepIn K (.ref f_1) = true)
    (a2 : PySem.W.nsIn K mainGlobals "made" = some (some (.ref f_2))) (l2 : K.lookup f_2 = some ⟨oc2, od2, .func (PySem.W.fnOf "made" "made" (defArgs st_made) (defBody st_made) (defScope st_made) .none kV2 dc2 pm2 an2 cd2 ct2), sl2⟩) (c2 : PySem.W.codeIn K cd2 "made" = true) (k2 : PySem.W.keepIn K (.ref f_2) = true)
    (a3 : PySem.W.nsIn K mainGlobals "plus" = some (some (.ref f_3))) (l3 : K.lookup f_3 = some ⟨oc3, od3, .func (PySem.W.fnOf "plus" "plus" (defArgs st_plus) (defBody st_plus) (defScope st_plus) .none kV3 dc3 pm3 an3 cd3 ct3), sl3⟩) (c3 : PySem.W.codeIn K cd3 "plus" = true) (k3 : PySem.W.keepIn K (.ref f_3) = true)
    (a4 : PySem.W.nsIn K mainGlobals "minus" = some (some (.ref f_4))) (l4 : K.lookup f_4 = some ⟨oc4, od4, .func (PySem.W.fnOf "minus" "minus" (defArgs st_minus) (defBody st_minus) (defScope st_minus) .none kV4 dc4 pm4 an4 cd4 ct4), sl4⟩) (c4 : PySem.W.codeIn K cd4 "minus" = true) (k4 : PySem.W.keepIn K (.ref f_4) = true)
    (a5 : PySem.W.nsIn K mainGlobals "times" = some (some (.ref f_5))) (l5 : K.lookup f_5 = some ⟨oc5, od5, .func (PySem.W.fnOf "times" "times" (defArgs st_times) (defBody st_times) (defScope st_times) .none kV5 dc5 pm5 an5 cd5 ct5), sl5⟩) (c5 : PySem.W.codeIn K cd5 "times" = true) (k5 : PySem.W.keepIn K (.ref f_5) = true)
    (a6 : PySem.W.nsIn K mainGlobals "over" = some (some (.ref f_6))) (l6 : K.lookup f_6 = some ⟨oc6, od6, .func (PySem.W.fnOf "over" "over" (defArgs st_over) (defBody st_over) (defScope st_over) .none kV6 dc6 pm6 an6 cd6 ct6), sl6⟩) (c6 : PySem.W.codeIn K cd6 "over" = true) (k6 : PySem.W.keepIn K (.ref f_6) = true)
    (a7 : PySem.W.nsIn K mainGlobals "less" = some (some (.ref f_7))) (l7 : K.lookup f_7 = some ⟨oc7, od7, .func (PySem.W.fnOf "less" "less" (defArgs st_less) (defBody st_less) (defScope st_less) .none kV7 dc7 pm7 an7 cd7 ct7), sl7⟩) (c7 : PySem.W.codeIn K cd7 "less" = true) (k7 : PySem.W.keepIn K (.ref f_7) = true)
    (a8 : PySem.W.nsIn K mainGlobals "is_cut" = some (some (.ref f_8))) (l8 : K.lookup f_8 = some ⟨oc8, od8, .func (PySem.W.fnOf "is_cut" "is_cut" (defArgs st_is_cut) (defBody st_is_cut) (defScope st_is_cut) .none kV8 dc8 pm8 an8 cd8 ct8), sl8⟩) (c8 : PySem.W.codeIn K cd8 "is_cut" = true) (k8 : PySem.W.keepIn K (.ref f_8) = true)
    (a9 : PySem.W.nsIn K mainGlobals "same_spots" = some (some (.ref f_9))) (l9 : K.lookup f_9 = some ⟨oc9, od9, .func (PySem.W.fnOf "same_spots" "same_spots" (defArgs st_same_spots) (defBody st_same_spots) (defScope st_same_spots) .none kV9 dc9 pm9 an9 cd9 ct9), sl9⟩) (c9 : PySem.W.codeIn K cd9 "same_spots" = true) (k9 : PySem.W.keepIn K (.ref f_9) = true)
    (a10 : PySem.W.nsIn K mainGlobals "check_cuts" = some (some (.ref f_10))) (l10 : K.lookup f_10 = some ⟨oc10, od10, .func (PySem.W.fnOf "check_cuts" "check_cuts" (defArgs st_check_cuts) (defBody st_check_cuts) (defScope st_check_cuts) .none kV10 dc10 pm10 an10 cd10 ct10), sl10⟩) (c10 : PySem.W.codeIn K cd10 "check_cuts" = true) (k10 : PySem.W.keepIn K (.ref f_10) = true)
    (a11 : PySem.W.findIn K (.ref C_Cutting) "__init__" = some (some (.ref f_11))) (m11 : PySem.W.isFn K (.ref f_11) = true) (l11 : K.lookup f_11 = some ⟨oc11, od11, .func (PySem.W.fnOf "__init__" "Cutting.__init__" (defArgs st_Cutting___init__) (defBody st_Cutting___init__) (defScope st_Cutting___init__) .none kV11 dc11 pm11 an11 cd11 ct11), sl11⟩) (c11 : PySem.W.codeIn K cd11 "Cutting.__init__" = true) (k11 : PySem.W.keepIn K (.ref f_11) = true)
    (a12 : PySem.W.findIn K (.ref C_Cutting) "dims" = some (some (.ref f_12))) (m12 : PySem.W.isFn K (.ref f_12) = true) (l12 : K.lookup f_12 = some ⟨oc12, od12, .func (PySem.W.fnOf "dims" "Cutting.dims" (defArgs st_Cutting_dims) (defBody st_Cutting_dims) (defScope st_Cutting_dims) .none kV12 dc12 pm12 an12 cd12 ct12), sl12⟩) (c12 : PySem.W.codeIn K cd12 "Cutting.dims" = true) (k12 : PySem.W.keepIn K (.ref f_12) = true)
    (a13 : PySem.W.findIn K (.ref C_Cutting) "many" = some (some (.ref f_13))) (m13 : PySem.W.isFn K (.ref f_13) = true) (l13 : K.lookup f_13 = some ⟨oc13, od13, .func (PySem.W.fnOf "many" "Cutting.many" (defArgs st_Cutting_many) (defBody st_Cutting_many) (defScope st_Cutting_many) .none kV13 dc13 pm13 an13 cd13 ct13), sl13⟩) (c13 : PySem.W.codeIn K cd13 "Cutting.many" = true) (k13 : PySem.W.keepIn K (.ref f_13) = true)
    (a14 : PySem.W.nsIn K mainGlobals "origin" = some (some (.ref f_14))) (l14 : K.lookup f_14 = some ⟨oc14, od14, .func (PySem.W.fnOf "origin" "origin" (defArgs st_origin) (defBody st_origin) (defScope st_origin) .none kV14 dc14 pm14 an14 cd14 ct14), sl14⟩) (c14 : PySem.W.codeIn K cd14 "origin" = true) (k14 : PySem.W.keepIn K (.ref f_14) = true)
    (a15 : PySem.W.nsIn K mainGlobals "mixed" = some (some (.ref f_15))) (l15 : K.lookup f_15 = some ⟨oc15, od15, .func (PySem.W.fnOf "mixed" "mixed" (defArgs st_mixed) (defBody st_mixed) (defScope st_mixed) .none kV15 dc15 pm15 an15 cd15 ct15), sl15⟩) (c15 : PySem.W.codeIn K cd15 "mixed" = true) (k15 : PySem.W.keepIn K (.ref f_15) = true)
    (a16 : PySem.W.nsIn K mainGlobals "with_weights" = some (some (.ref f_16))) (l16 : K.lookup f_16 = some ⟨oc16, od16, .func (PySem.W.fnOf "with_weights" "with_weights" (defArgs st_with_weights) (defBody st_with_weights) (defScope st_with_weights) .none kV16 dc16 pm16 an16 cd16 ct16), sl16⟩) (c16 : PySem.W.codeIn K cd16 "with_weights" = true) (k16 : PySem.W.keepIn K (.ref f_16) = true)
    (a17 : PySem.W.nsIn K mainGlobals "equal_row" = some (some (.ref f_17))) (l17 : K.lookup f_17 = some ⟨oc17, od17, .func (PySem.W.fnOf "equal_row" "equal_row" (defArgs st_equal_row) (defBody st_equal_row) (defScope st_equal_row) .none kV17 dc17 pm17 an17 cd17 ct17), sl17⟩) (c17 : PySem.W.codeIn K cd17 "equal_row" = true) (k17 : PySem.W.keepIn K (.ref f_17) = true)
    (a18 : PySem.W.nsIn K mainGlobals "without_by_equal" = some (some (.ref f_18))) (l18 : K.lookup f_18 = some ⟨oc18, od18, .func (PySem.W.fnOf "without_by_equal" "without_by_equal" (defArgs st_without_by_equal) (defBody st_without_by_equal) (defScope st_without_by_equal) .none kV18 dc18 pm18 an18 cd18 ct18), sl18⟩) (c18 : PySem.W.codeIn K cd18 "without_by_equal" = true) (k18 : PySem.W.keepIn K (.ref f_18) = true)
    (a19 : PySem.W.nsIn K mainGlobals "without_by_pairs" = some (some (.ref f_19))) (l19 : K.lookup f_19 = some ⟨oc19, od19, .func (PySem.W.fnOf "without_by_pairs" "without_by_pairs" (defArgs st_without_by_pairs) (defBody st_without_by_pairs) (defScope st_without_by_pairs) .none kV19 dc19 pm19 an19 cd19 ct19), sl19⟩) (c19 : PySem.W.codeIn K cd19 "without_by_pairs" = true) (k19 : PySem.W.keepIn K (.ref f_19) = true)
    (a20 : PySem.W.nsIn K mainGlobals "steps_of" = some (some (.ref f_20))) (l20 : K.lookup f_20 = some ⟨oc20, od20, .func (PySem.W.fnOf "steps_of" "steps_of" (defArgs st_steps_of) (defBody st_steps_of) (defScope st_steps_of) .none kV20 dc20 pm20 an20 cd20 ct20), sl20⟩) (c20 : PySem.W.codeIn K cd20 "steps_of" = true) (k20 : PySem.W.keepIn K (.ref f_20) = true)
    (a21 : PySem.W.nsIn K mainGlobals "failing" = some (some (.ref f_21))) (l21 : K.lookup f_21 = some ⟨oc21, od21, .func (PySem.W.fnOf "failing" "failing" (defArgs st_failing) (defBody st_failing) (defScope st_failing) .none kV21 dc21 pm21 an21 cd21 ct21), sl21⟩) (c21 : PySem.W.codeIn K cd21 "failing" = true) (k21 : PySem.W.keepIn K (.ref f_21) = true)
    (a22 : PySem.W.nsIn K mainGlobals "edge_of" = some (some (.ref f_22))) (l22 : K.lookup f_22 = some ⟨oc22, od22, .func (PySem.W.fnOf "edge_of" "edge_of" (defArgs st_edge_of) (defBody st_edge_of) (defScope st_edge_of) .none kV22 dc22 pm22 an22 cd22 ct22), sl22⟩) (c22 : PySem.W.codeIn K cd22 "edge_of" = true) (k22 : PySem.W.keepIn K (.ref f_22) = true)
    (a23 : PySem.W.nsIn K mainGlobals "ends_of" = some (some (.ref f_23))) (l23 : K.lookup f_23 = some ⟨oc23, od23, .func (PySem.W.fnOf "ends_of" "ends_of" (defArgs st_ends_of) (defBody st_ends_of) (defScope st_ends_of) .none kV23 dc23 pm23 an23 cd23 ct23), sl23⟩) (c23 : PySem.W.codeIn K cd23 "ends_of" = true) (k23 : PySem.W.keepIn K (.ref f_23) = true)
    (a24 : PySem.W.nsIn K mainGlobals "chosen" = some (some (.ref f_24))) (l24 : K.lookup f_24 = some ⟨oc24, od24, .func (PySem.W.fnOf "chosen" "chosen" (defArgs st_chosen) (defBody st_chosen) (defScope st_chosen) .none kV24 dc24 pm24 an24 cd24 ct24), sl24⟩) (c24 : PySem.W.codeIn K cd24 "chosen" = true) (k24 : PySem.W.keepIn K (.ref f_24) = true)
    (a25 : PySem.W.nsIn K mainGlobals "solve" = some (some (.ref f_25))) (l25 : K.lookup f_25 = some ⟨oc25, od25, .func (PySem.W.fnOf "solve" "solve" (defArgs st_solve) (defBody st_solve) (defScope st_solve) .none kV25 dc25 pm25 an25 cd25 ct25), sl25⟩) (c25 : PySem.W.codeIn K cd25 "solve" = true) (k25 : PySem.W.keepIn K (.ref f_25) = true)
    (a26 : PySem.W.nsIn K mainGlobals "whole_of" = some (some (.ref f_26))) (l26 : K.lookup f_26 = some ⟨oc26, od26, .func (PySem.W.fnOf "whole_of" "whole_of" (defArgs st_whole_of) (defBody st_whole_of) (defScope st_whole_of) .none kV26 dc26 pm26 an26 cd26 ct26), sl26⟩) (c26 : PySem.W.codeIn K cd26 "whole_of" = true) (k26 : PySem.W.keepIn K (.ref f_26) = true)
    (a27 : PySem.W.nsIn K mainGlobals "check_some" = some (some (.ref f_27))) (l27 : K.lookup f_27 = some ⟨oc27, od27, .func (PySem.W.fnOf "check_some" "check_some" (defArgs st_check_some) (defBody st_check_some) (defScope st_check_some) .none kV27 dc27 pm27 an27 cd27 ct27), sl27⟩) (c27 : PySem.W.codeIn K cd27 "check_some" = true) (k27 : PySem.W.keepIn K (.ref f_27) = true)
    (a28 : PySem.W.nsIn K mainGlobals "unit" = some (some (.ref f_28))) (l28 : K.lookup f_28 = some ⟨oc28, od28, .func (PySem.W.fnOf "unit" "unit" (defArgs st_unit) (defBody st_unit) (defScope st_unit) .none kV28 dc28 pm28 an28 cd28 ct28), sl28⟩) (c28 : PySem.W.codeIn K cd28 "unit" = true) (k28 : PySem.W.keepIn K (.ref f_28) = true)
    (a29 : PySem.W.nsIn K mainGlobals "more_ways" = some (some (.ref f_29))) (l29 : K.lookup f_29 = some ⟨oc29, od29, .func (PySem.W.fnOf "more_ways" "more_ways" (defArgs st_more_ways) (defBody st_more_ways) (defScope st_more_ways) .none kV29 dc29 pm29 an29 cd29 ct29), sl29⟩) (c29 : PySem.W.codeIn K cd29 "more_ways" = true) (k29 : PySem.W.keepIn K (.ref f_29) = true)
    (a30 : PySem.W.nsIn K mainGlobals "ways_of" = some (some (.ref f_30))) (l30 : K.lookup f_30 = some ⟨oc30, od30, .func (PySem.W.fnOf "ways_of" "ways_of" (defArgs st_ways_of) (defBody st_ways_of) (defScope st_ways_of) .none kV30 dc30 pm30 an30 cd30 ct30), sl30⟩) (c30 : PySem.W.codeIn K cd30 "ways_of" = true) (k30 : PySem.W.keepIn K (.ref f_30) = true)
    (a31 : PySem.W.nsIn K mainGlobals "meet" = some (some (.ref f_31))) (l31 : K.lookup f_31 = some ⟨oc31, od31, .func (PySem.W.fnOf "meet" "meet" (defArgs st_meet) (defBody st_meet) (defScope st_meet) .none kV31 dc31 pm31 an31 cd31 ct31), sl31⟩) (c31 : PySem.W.codeIn K cd31 "meet" = true) (k31 : PySem.W.keepIn K (.ref f_31) = true)
    (a32 : PySem.W.nsIn K mainGlobals "_law_cell_at" = some (some (.ref f_32))) (l32 : K.lookup f_32 = some ⟨oc32, od32, .func (PySem.W.fnOf "_law_cell_at" "_law_cell_at" (defArgs st__law_cell_at) (defBody st__law_cell_at) (defScope st__law_cell_at) .none kV32 dc32 pm32 an32 cd32 ct32), sl32⟩) (c32 : PySem.W.codeIn K cd32 "_law_cell_at" = true) (k32 : PySem.W.keepIn K (.ref f_32) = true)
    (a33 : PySem.W.nsIn K mainGlobals "_law_draw" = some (some (.ref f_33))) (l33 : K.lookup f_33 = some ⟨oc33, od33, .func (PySem.W.fnOf "_law_draw" "_law_draw" (defArgs st__law_draw) (defBody st__law_draw) (defScope st__law_draw) .none kV33 dc33 pm33 an33 cd33 ct33), sl33⟩) (c33 : PySem.W.codeIn K cd33 "_law_draw" = true) (k33 : PySem.W.keepIn K (.ref f_33) = true)
    (a34 : PySem.W.nsIn K mainGlobals "_law_same" = some (some (.ref f_34))) (l34 : K.lookup f_34 = some ⟨oc34, od34, .func (PySem.W.fnOf "_law_same" "_law_same" (defArgs st__law_same) (defBody st__law_same) (defScope st__law_same) .none kV34 dc34 pm34 an34 cd34 ct34), sl34⟩) (c34 : PySem.W.codeIn K cd34 "_law_same" = true) (k34 : PySem.W.keepIn K (.ref f_34) = true)
    (a35 : PySem.W.nsIn K mainGlobals "_law_cut" = some (some (.ref f_35))) (l35 : K.lookup f_35 = some ⟨oc35, od35, .func (PySem.W.fnOf "_law_cut" "_law_cut" (defArgs st__law_cut) (defBody st__law_cut) (defScope st__law_cut) .none kV35 dc35 pm35 an35 cd35 ct35), sl35⟩) (c35 : PySem.W.codeIn K cd35 "_law_cut" = true) (k35 : PySem.W.keepIn K (.ref f_35) = true)
    (a36 : PySem.W.nsIn K mainGlobals "_law_cuts" = some (some (.ref f_36))) (l36 : K.lookup f_36 = some ⟨oc36, od36, .func (PySem.W.fnOf "_law_cuts" "_law_cuts" (defArgs st__law_cuts) (defBody st__law_cuts) (defScope st__law_cuts) .none kV36 dc36 pm36 an36 cd36 ct36), sl36⟩) (c36 : PySem.W.codeIn K cd36 "_law_cuts" = true) (k36 : PySem.W.keepIn K (.ref f_36) = true)
    (a37 : PySem.W.nsIn K mainGlobals "_law_kind" = some (some (.ref f_37))) (l37 : K.lookup f_37 = some ⟨oc37, od37, .func (PySem.W.fnOf "_law_kind" "_law_kind" (defArgs st__law_kind) (defBody st__law_kind) (defScope st__law_kind) .none kV37 dc37 pm37 an37 cd37 ct37), sl37⟩) (c37 : PySem.W.codeIn K cd37 "_law_kind" = true) (k37 : PySem.W.keepIn K (.ref f_37) = true)
    (a38 : PySem.W.nsIn K mainGlobals "_law_lists" = some (some (.ref f_38))) (l38 : K.lookup f_38 = some ⟨oc38, od38, .func (PySem.W.fnOf "_law_lists" "_law_lists" (defArgs st__law_lists) (defBody st__law_lists) (defScope st__law_lists) .none kV38 dc38 pm38 an38 cd38 ct38), sl38⟩) (c38 : PySem.W.codeIn K cd38 "_law_lists" = true) (k38 : PySem.W.keepIn K (.ref f_38) = true)
    (a39 : PySem.W.nsIn K mainGlobals "law" = some (some (.ref f_39))) (l39 : K.lookup f_39 = some ⟨oc39, od39, .func (PySem.W.fnOf "law" "law" (defArgs st_law) (defBody st_law) (defScope st_law) .none kV39 dc39 pm39 an39 cd39 ct39), sl39⟩) (c39 : PySem.W.codeIn K cd39 "law" = true) (k39 : PySem.W.keepIn K (.ref f_39) = true)
    (e1_Cutting : PySem.W.nsIn K mainGlobals "Cutting" = some (some (.ref C_Cutting)))
    (u1 : PySem.W.plainGet K C_Cutting Str.empty = true)
    (u2 : PySem.W.hasDictIn K C_Cutting = true)
    (u3 : PySem.W.plainOver K C_Cutting = true)
    (u4 : PySem.W.findIn K (.ref C_Cutting) "__setattr__" = some (some (.builtin "object.__setattr__")))
    (u5 : PySem.W.findIn K (.ref C_Cutting) "wide" = some none)
    (u6 : PySem.W.findIn K (.ref C_Cutting) "rows" = some none)
    (u7 : PySem.W.makesIn K C_Cutting = true)
    (u8 : PySem.W.keepIn K (.ref C_Cutting) = true)
    (z_abs : PySem.W.nsIn K mainGlobals "abs" = some none)
    (z_all : PySem.W.nsIn K mainGlobals "all" = some none)
    (z_bool : PySem.W.nsIn K mainGlobals "bool" = some none)
    (z_enumerate : PySem.W.nsIn K mainGlobals "enumerate" = some none)
    (z_int : PySem.W.nsIn K mainGlobals "int" = some none)
    (z_isinstance : PySem.W.nsIn K mainGlobals "isinstance" = some none)
    (z_len : PySem.W.nsIn K mainGlobals "len" = some none)
    (z_list : PySem.W.nsIn K mainGlobals "list" = some none)
    (z_max : PySem.W.nsIn K mainGlobals "max" = some none)
    (z_min : PySem.W.nsIn K mainGlobals "min" = some none)
    (z_range : PySem.W.nsIn K mainGlobals "range" = some none)
    (z_reversed : PySem.W.nsIn K mainGlobals "reversed" = some none)
    (z_sum : PySem.W.nsIn K mainGlobals "sum" = some none)
    (z_tuple : PySem.W.nsIn K mainGlobals "tuple" = some none)
    (z_zip : PySem.W.nsIn K mainGlobals "zip" = some none)
    {C_NoFraction : Addr} (e1_NoFraction : PySem.W.nsIn K mainGlobals "NoFraction" = some (some (.ref C_NoFraction))) (e2_NoFraction : PySem.W.excIn K C_NoFraction [.type "ValueError", .type "Exception", .type "BaseException", .type "object"] "ValueError.__new__" = true) (e3_NoFraction : PySem.W.keepIn K (.ref C_NoFraction) = true) (e4_NoFraction : PySem.W.subIn K (.ref C_NoFraction) (.type "BaseException") = some true) (e5_NoFraction : PySem.W.typeIn K (.ref C_NoFraction) = some (.type "type"))
    {C_NoNumber : Addr} (e1_NoNumber : PySem.W.nsIn K mainGlobals "NoNumber" = some (some (.ref C_NoNumber))) (e2_NoNumber : PySem.W.excIn K C_NoNumber [.type "ValueError", .type "Exception", .type "BaseException", .type "object"] "ValueError.__new__" = true) (e3_NoNumber : PySem.W.keepIn K (.ref C_NoNumber) = true) (e4_NoNumber : PySem.W.subIn K (.ref C_NoNumber) (.type "BaseException") = some true) (e5_NoNumber : PySem.W.typeIn K (.ref C_NoNumber) = some (.type "type"))
    {t_EQUAL : Tok} (v_EQUAL : PySem.W.nsIn K mainGlobals "EQUAL" = some (some (.str "=" t_EQUAL)))
    {t_LOOSE : Tok} (v_LOOSE : PySem.W.nsIn K mainGlobals "LOOSE" = some (some (.str ">=" t_LOOSE)))
    {t_MOST_CUTS : Tok} (v_MOST_CUTS : PySem.W.nsIn K mainGlobals "MOST_CUTS" = some (some (.int 7 t_MOST_CUTS)))
    {t_MOST_DIMS : Tok} (v_MOST_DIMS : PySem.W.nsIn K mainGlobals "MOST_DIMS" = some (some (.int 3 t_MOST_DIMS)))
    {ta_NOUGHT tb_NOUGHT : Tok} {a_NOUGHT : Addr} {od_NOUGHT : Option Addr} {n_NOUGHT : Nat} {sl_NOUGHT : Array (Option Value)} (v_NOUGHT : PySem.W.nsIn K mainGlobals "NOUGHT" = some (some (.ref a_NOUGHT))) (w_NOUGHT : K.lookup a_NOUGHT = some ⟨.type "tuple", od_NOUGHT, .seq #[.int 0 ta_NOUGHT, .int 1 tb_NOUGHT] n_NOUGHT, sl_NOUGHT⟩)
    {t_STRICT : Tok} (v_STRICT : PySem.W.nsIn K mainGlobals "STRICT" = some (some (.str ">" t_STRICT)))
    (hlaw : ∀ ns : List Int, ns.length ≤ 63 → (∀ z ∈ ns, Builtin.Int.intBits z ≤ 1048576) → d_law [.scr ns] = .ok (.val (.bl true)))
    : ∃ fd : FuncData, (∀ (s : Shared) (v : Value), BindsTo s fd ⟨[v], []⟩ [("_law_script", v)]) ∧ ∀ base : Heap, K.In base → base.Ns mainGlobals mg → FnOk P w K mg base (L2.CX P w) 17 fa fd ["_law_script"] (spLaw K) := by
  have e := hfa.symm.trans (PySem.W.mg_of X G a39)
  cases e
  have T : Txt ⟨K, mg, C_Cutting, fun _ _ => False, fun _ _ _ _ h => h⟩ := ⟨⟨⟨u1, u2, u3, u4⟩, u5, u6⟩, PySem.W.mg_of X G e1_Cutting, PySem.W.mg_none_of X G z_abs, PySem.W.mg_none_of X G z_all, PySem.W.mg_none_of X G z_bool, PySem.W.mg_none_of X G z_enumerate, PySem.W.mg_none_of X G z_int, PySem.W.mg_none_of X G z_isinstance, PySem.W.mg_none_of X G z_len, PySem.W.mg_none_of X G z_list, PySem.W.mg_none_of X G z_max, PySem.W.mg_none_of X G z_min, PySem.W.mg_none_of X G z_range, PySem.W.mg_none_of X G z_reversed, PySem.W.mg_none_of X G z_sum, PySem.W.mg_none_of X G z_tuple, PySem.W.mg_none_of X G z_zip, ⟨C_NoFraction, PySem.W.mg_of X G e1_NoFraction, e2_NoFraction, e3_NoFraction, e4_NoFraction, e5_NoFraction⟩, ⟨C_NoNumber, PySem.W.mg_of X G e1_NoNumber, e2_NoNumber, e3_NoNumber, e4_NoNumber, e5_NoNumber⟩, ⟨_, PySem.W.mg_of X G v_EQUAL, ⟨_, rfl⟩⟩, ⟨_, PySem.W.mg_of X G v_LOOSE, ⟨_, rfl⟩⟩, ⟨_, PySem.W.mg_of X G v_MOST_CUTS, ⟨_, rfl⟩⟩, ⟨_, PySem.W.mg_of X G v_MOST_DIMS, ⟨_, rfl⟩⟩, tupC_2 (PySem.W.mg_of X G v_NOUGHT) w_NOUGHT, ⟨_, PySem.W.mg_of X G v_STRICT, ⟨_, rfl⟩⟩⟩
  have F0 := fun_mk (st := st_is_whole) l0 c0 k0
  have b0 := F0.binds (ps := ["thing"]) fun _ _ _ _ _ _ us hl => match us, hl with | [_], _ => rfl
  have F1 := fun_mk (st := st_common) l1 c1 k1
  have b1 := F1.binds (ps := ["one", "other"]) fun _ _ _ _ _ _ us hl => match us, hl with | [_, _], _ => rfl
  have F2 := fun_mk (st := st_made) l2 c2 k2
  have b2 := F2.binds (ps := ["top", "bottom"]) fun _ _ _ _ _ _ us hl => match us, hl with | [_, _], _ => rfl
  have F3 := fun_mk (st := st_plus) l3 c3 k3
  have b3 := F3.binds (ps := ["one", "other"]) fun _ _ _ _ _ _ us hl => match us, hl with | [_, _], _ => rfl
  have F4 := fun_mk (st := st_minus) l4 c4 k4
  have b4 := F4.binds (ps := ["one", "other"]) fun _ _ _ _ _ _ us hl => match us, hl with | [_, _], _ => rfl
  have F5 := fun_mk (st := st_times) l5 c5 k5
  have b5 := F5.binds (ps := ["one", "other"]) fun _ _ _ _ _ _ us hl => match us, hl with | [_, _], _ => rfl
  have F6 := fun_mk (st := st_over) l6 c6 k6
  have b6 := F6.binds (ps := ["one", "other"]) fun _ _ _ _ _ _ us hl => match us, hl with | [_, _], _ => rfl
  have F7 := fun_mk (st := st_less) l7 c7 k7
  have b7 := F7.binds (ps := ["one", "other"]) fun _ _ _ _ _ _ us hl => match us, hl with | [_, _], _ => rfl
  have F8 := fun_mk (st := st_is_cut) l8 c8 k8
  have b8 := F8.binds (ps := ["thing", "dims"]) fun _ _ _ _ _ _ us hl => match us, hl with | [_, _], _ => rfl
  have F9 := fun_mk (st := st_same_spots) l9 c9 k9
  have b9 := F9.binds (ps := ["one", "other"]) fun _ _ _ _ _ _ us hl => match us, hl with | [_, _], _ => rfl
  have F10 := fun_mk (st := st_check_cuts) l10 c10 k10
  have b10 := F10.binds (ps := ["dims", "thing"]) fun _ _ _ _ _ _ us hl => match us, hl with | [_, _], _ => rfl
  have F11 := fun_mk (st := st_Cutting___init__) l11 c11 k11
  have b11 := F11.binds (ps := ["self", "dims", "cuts"]) fun _ _ _ _ _ _ us hl => match us, hl with | [_, _, _], _ => rfl
  have F12 := fun_mk (st := st_Cutting_dims) l12 c12 k12
  have b12 := F12.binds (ps := ["self"]) fun _ _ _ _ _ _ us hl => match us, hl with | [_], _ => rfl
  have F13 := fun_mk (st := st_Cutting_many) l13 c13 k13
  have b13 := F13.binds (ps := ["self"]) fun _ _ _ _ _ _ us hl => match us, hl with | [_], _ => rfl
  have F14 := fun_mk (st := st_origin) l14 c14 k14
  have b14 := F14.binds (ps := ["dims"]) fun _ _ _ _ _ _ us hl => match us, hl with | [_], _ => rfl
  have F15 := fun_mk (st := st_mixed) l15 c15 k15
  have b15 := F15.binds (ps := ["row", "by", "other", "more"]) fun _ _ _ _ _ _ us hl => match us, hl with | [_, _, _, _], _ => rfl
  have F16 := fun_mk (st := st_with_weights) l16 c16 k16
  have b16 := F16.binds (ps := ["rows"]) fun _ _ _ _ _ _ us hl => match us, hl with | [_], _ => rfl
  have F17 := fun_mk (st := st_equal_row) l17 c17 k17
  have b17 := F17.binds (ps := ["rows", "var"]) fun _ _ _ _ _ _ us hl => match us, hl with | [_, _], _ => rfl
  have F18 := fun_mk (st := st_without_by_equal) l18 c18 k18
  have b18 := F18.binds (ps := ["rows", "k", "var"]) fun _ _ _ _ _ _ us hl => match us, hl with | [_, _, _], _ => rfl
  have F19 := fun_mk (st := st_without_by_pairs) l19 c19 k19
  have b19 := F19.binds (ps := ["rows", "var"]) fun _ _ _ _ _ _ us hl => match us, hl with | [_, _], _ => rfl
  have F20 := fun_mk (st := st_steps_of) l20 c20 k20
  have b20 := F20.binds (ps := ["rows", "order"]) fun _ _ _ _ _ _ us hl => match us, hl with | [_, _], _ => rfl
  have F21 := fun_mk (st := st_failing) l21 c21 k21
  have b21 := F21.binds (ps := ["rows"]) fun _ _ _ _ _ _ us hl => match us, hl with | [_], _ => rfl
  have F22 := fun_mk (st := st_edge_of) l22 c22 k22
  have b22 := F22.binds (ps := ["row", "var", "spot"]) fun _ _ _ _ _ _ us hl => match us, hl with | [_, _, _], _ => rfl
  have F23 := fun_mk (st := st_ends_of) l23 c23 k23
  have b23 := F23.binds (ps := ["rows", "var", "spot"]) fun _ _ _ _ _ _ us hl => match us, hl with | [_, _, _], _ => rfl
  have F24 := fun_mk (st := st_chosen) l24 c24 k24
  have b24 := F24.binds (ps := ["low", "high"]) fun _ _ _ _ _ _ us hl => match us, hl with | [_, _], _ => rfl
  have F25 := fun_mk (st := st_solve) l25 c25 k25
  have b25 := F25.binds (ps := ["dims", "rows"]) fun _ _ _ _ _ _ us hl => match us, hl with | [_, _], _ => rfl
  have F26 := fun_mk (st := st_whole_of) l26 c26 k26
  have b26 := F26.binds (ps := ["spot"]) fun _ _ _ _ _ _ us hl => match us, hl with | [_], _ => rfl
  have F27 := fun_mk (st := st_check_some) l27 c27 k27
  have b27 := F27.binds (ps := ["cutting", "some"]) fun _ _ _ _ _ _ us hl => match us, hl with | [_, _], _ => rfl
  have F28 := fun_mk (st := st_unit) l28 c28 k28
  have b28 := F28.binds (ps := ["dims", "k"]) fun _ _ _ _ _ _ us hl => match us, hl with | [_, _], _ => rfl
  have F29 := fun_mk (st := st_more_ways) l29 c29 k29
  have b29 := F29.binds (ps := ["dims", "rows"]) fun _ _ _ _ _ _ us hl => match us, hl with | [_, _], _ => rfl
  have F30 := fun_mk (st := st_ways_of) l30 c30 k30
  have b30 := F30.binds (ps := ["dims", "sums"]) fun _ _ _ _ _ _ us hl => match us, hl with | [_, _], _ => rfl
  have F31 := fun_mk (st := st_meet) l31 c31 k31
  have b31 := F31.binds (ps := ["cutting", "some"]) fun _ _ _ _ _ _ us hl => match us, hl with | [_, _], _ => rfl
  have F32 := fun_mk (st := st__law_cell_at) l32 c32 k32
  have b32 := F32.binds (ps := ["_law_script", "_law_k"]) fun _ _ _ _ _ _ us hl => match us, hl with | [_, _], _ => rfl
  have F33 := fun_mk (st := st__law_draw) l33 c33 k33
  have b33 := F33.binds (ps := ["_law_cell", "_law_k", "_law_bound"]) fun _ _ _ _ _ _ us hl => match us, hl with | [_, _, _], _ => rfl
  have F34 := fun_mk (st := st__law_same) l34 c34 k34
  have b34 := F34.binds (ps := ["_law_one", "_law_other"]) fun _ _ _ _ _ _ us hl => match us, hl with | [_, _], _ => rfl
  have F35 := fun_mk (st := st__law_cut) l35 c35 k35
  have b35 := F35.binds (ps := ["_law_cell", "_law_dims", "_law_ahead"]) fun _ _ _ _ _ _ us hl => match us, hl with | [_, _, _], _ => rfl
  have F36 := fun_mk (st := st__law_cuts) l36 c36 k36
  have b36 := F36.binds (ps := ["_law_script", "_law_at", "_law_dims", "_law_many"]) fun _ _ _ _ _ _ us hl => match us, hl with | [_, _, _, _], _ => rfl
  have F37 := fun_mk (st := st__law_kind) l37 c37 k37
  have b37 := F37.binds (ps := ["_law_cutting", "_law_some"]) fun _ _ _ _ _ _ us hl => match us, hl with | [_, _], _ => rfl
  have F38 := fun_mk (st := st__law_lists) l38 c38 k38
  have b38 := F38.binds (ps := ["_law_many", "_law_most"]) fun _ _ _ _ _ _ us hl => match us, hl with | [_, _], _ => rfl
  have F39 := fun_mk (st := st_law) l39 c39 k39
  refine ⟨PySem.W.fnOf "law" "law" (defArgs st_law) (defBody st_law) (defScope st_law) .none kV39 dc39 pm39 an39 cd39 ct39, fun s v => .of_eq rfl, fun base _ _ => ?_⟩
  have q_is_whole : Fn P w base ⟨K, mg, C_Cutting, fun _ _ => False, fun _ _ _ _ h => h⟩ "is_whole" 1 1 d_is_whole := ok_is_whole T F0 (PySem.W.mg_of X G a0) b0
  have q_common : Fn P w base ⟨K, mg, C_Cutting, fun _ _ => False, fun _ _ _ _ h => h⟩ "common" 2 1 d_common := ok_common T F1 (PySem.W.mg_of X G a1) b1
  have q_made : Fn P w base ⟨K, mg, C_Cutting, fun _ _ => False, fun _ _ _ _ h => h⟩ "made" 2 4 d_made := ok_made T F2 (PySem.W.mg_of X G a2) b2 q_common
  have q_plus : Fn P w base ⟨K, mg, C_Cutting, fun _ _ => False, fun _ _ _ _ h => h⟩ "plus" 2 5 d_plus := ok_plus T F3 (PySem.W.mg_of X G a3) b3 q_made
  have q_minus : Fn P w base ⟨K, mg, C_Cutting, fun _ _ => False, fun _ _ _ _ h => h⟩ "minus" 2 5 d_minus := ok_minus T F4 (PySem.W.mg_of X G a4) b4 q_made
  have q_times : Fn P w base ⟨K, mg, C_Cutting, fun _ _ => False, fun _ _ _ _ h => h⟩ "times" 2 5 d_times := ok_times T F5 (PySem.W.mg_of X G a5) b5 q_made
  have q_over : Fn P w base ⟨K, mg, C_Cutting, fun _ _ => False, fun _ _ _ _ h => h⟩ "over" 2 5 d_over := ok_over T F6 (PySem.W.mg_of X G a6) b6 q_made
  have q_less : Fn P w base ⟨K, mg, C_Cutting, fun _ _ => False, fun _ _ _ _ h => h⟩ "less" 2 1 d_less := ok_less T F7 (PySem.W.mg_of X G a7) b7
  have q_is_cut : Fn P w base ⟨K, mg, C_Cutting, fun _ _ => False, fun _ _ _ _ h => h⟩ "is_cut" 2 2 d_is_cut := ok_is_cut T F8 (PySem.W.mg_of X G a8) b8 q_is_whole
  have q_same_spots : Fn P w base ⟨K, mg, C_Cutting, fun _ _ => False, fun _ _ _ _ h => h⟩ "same_spots" 2 1 d_same_spots := ok_same_spots T F9 (PySem.W.mg_of X G a9) b9
  have q_check_cuts : Fn P w base ⟨K, mg, C_Cutting, fun _ _ => False, fun _ _ _ _ h => h⟩ "check_cuts" 2 4 d_check_cuts := ok_check_cuts T F10 (PySem.W.mg_of X G a10) b10 q_is_cut q_is_whole q_same_spots
  have q_Cutting : MkF P w base ⟨K, mg, C_Cutting, fun _ _ => False, fun _ _ _ _ h => h⟩ 5 (initD d_check_cuts) := ok_Cutting T F11 ⟨u7, a11, m11, u8⟩ b11 q_check_cuts
  have q_Cutting_dims : FnM P w base ⟨K, mg, C_Cutting, fun _ _ => False, fun _ _ _ _ h => h⟩ "dims" 1 1 d_Cutting_dims := ok_Cutting_dims T F12 ⟨a12, m12, k12⟩ b12
  have q_Cutting_many : FnM P w base ⟨K, mg, C_Cutting, fun _ _ => False, fun _ _ _ _ h => h⟩ "many" 1 1 d_Cutting_many := ok_Cutting_many T F13 ⟨a13, m13, k13⟩ b13
  have q_origin : Fn P w base ⟨K, mg, C_Cutting, fun _ _ => False, fun _ _ _ _ h => h⟩ "origin" 1 1 d_origin := ok_origin T F14 (PySem.W.mg_of X G a14) b14
  have q_mixed : Fn P w base ⟨K, mg, C_Cutting, fun _ _ => False, fun _ _ _ _ h => h⟩ "mixed" 4 2 d_mixed := ok_mixed T F15 (PySem.W.mg_of X G a15) b15 q_common
  have q_with_weights : Fn P w base ⟨K, mg, C_Cutting, fun _ _ => False, fun _ _ _ _ h => h⟩ "with_weights" 1 1 d_with_weights := ok_with_weights T F16 (PySem.W.mg_of X G a16) b16
  have q_equal_row : Fn P w base ⟨K, mg, C_Cutting, fun _ _ => False, fun _ _ _ _ h => h⟩ "equal_row" 2 1 d_equal_row := ok_equal_row T F17 (PySem.W.mg_of X G a17) b17
  have q_without_by_equal : Fn P w base ⟨K, mg, C_Cutting, fun _ _ => False, fun _ _ _ _ h => h⟩ "without_by_equal" 3 3 d_without_by_equal := ok_without_by_equal T F18 (PySem.W.mg_of X G a18) b18 q_mixed
  have q_without_by_pairs : Fn P w base ⟨K, mg, C_Cutting, fun _ _ => False, fun _ _ _ _ h => h⟩ "without_by_pairs" 2 3 d_without_by_pairs := ok_without_by_pairs T F19 (PySem.W.mg_of X G a19) b19 q_mixed
  have q_steps_of : Fn P w base ⟨K, mg, C_Cutting, fun _ _ => False, fun _ _ _ _ h => h⟩ "steps_of" 2 4 d_steps_of := ok_steps_of T F20 (PySem.W.mg_of X G a20) b20 q_equal_row q_with_weights q_without_by_equal q_without_by_pairs
  have q_failing : Fn P w base ⟨K, mg, C_Cutting, fun _ _ => False, fun _ _ _ _ h => h⟩ "failing" 1 1 d_failing := ok_failing T F21 (PySem.W.mg_of X G a21) b21
  have q_edge_of : Fn P w base ⟨K, mg, C_Cutting, fun _ _ => False, fun _ _ _ _ h => h⟩ "edge_of" 3 6 d_edge_of := ok_edge_of T F22 (PySem.W.mg_of X G a22) b22 q_minus q_over q_times
  have q_ends_of : Fn P w base ⟨K, mg, C_Cutting, fun _ _ => False, fun _ _ _ _ h => h⟩ "ends_of" 3 7 d_ends_of := ok_ends_of T F23 (PySem.W.mg_of X G a23) b23 q_edge_of q_less
  have q_chosen : Fn P w base ⟨K, mg, C_Cutting, fun _ _ => False, fun _ _ _ _ h => h⟩ "chosen" 2 6 d_chosen := ok_chosen T F24 (PySem.W.mg_of X G a24) b24 q_minus q_over q_plus
  have q_solve : Fn P w base ⟨K, mg, C_Cutting, fun _ _ => False, fun _ _ _ _ h => h⟩ "solve" 2 8 d_solve := ok_solve T F25 (PySem.W.mg_of X G a25) b25 q_chosen q_ends_of q_failing q_steps_of
  have q_whole_of : Fn P w base ⟨K, mg, C_Cutting, fun _ _ => False, fun _ _ _ _ h => h⟩ "whole_of" 1 5 d_whole_of := ok_whole_of T F26 (PySem.W.mg_of X G a26) b26 q_common q_made
  have q_check_some : Fn P w base ⟨K, mg, C_Cutting, fun _ _ => False, fun _ _ _ _ h => h⟩ "check_some" 2 4 d_check_some := ok_check_some T F27 (PySem.W.mg_of X G a27) b27 q_Cutting_many q_is_whole
  have q_unit : Fn P w base ⟨K, mg, C_Cutting, fun _ _ => False, fun _ _ _ _ h => h⟩ "unit" 2 1 d_unit := ok_unit T F28 (PySem.W.mg_of X G a28) b28
  have q_more_ways : Fn P w base ⟨K, mg, C_Cutting, fun _ _ => False, fun _ _ _ _ h => h⟩ "more_ways" 2 13 d_more_ways := ok_more_ways T F29 (PySem.W.mg_of X G a29) b29 q_solve q_unit q_whole_of
  have q_ways_of : Fn P w base ⟨K, mg, C_Cutting, fun _ _ => False, fun _ _ _ _ h => h⟩ "ways_of" 2 14 d_ways_of := ok_ways_of T F30 (PySem.W.mg_of X G a30) b30 q_more_ways
  have q_meet : Fn P w base ⟨K, mg, C_Cutting, fun _ _ => False, fun _ _ _ _ h => h⟩ "meet" 2 15 d_meet := ok_meet T F31 (PySem.W.mg_of X G a31) b31 q_Cutting_dims q_check_some q_origin q_solve q_unit q_ways_of
  have q__law_cell_at : Fn P w base ⟨K, mg, C_Cutting, fun _ _ => False, fun _ _ _ _ h => h⟩ "_law_cell_at" 2 1 d__law_cell_at := ok__law_cell_at T F32 (PySem.W.mg_of X G a32) b32
  have q__law_draw : Fn P w base ⟨K, mg, C_Cutting, fun _ _ => False, fun _ _ _ _ h => h⟩ "_law_draw" 3 1 d__law_draw := ok__law_draw T F33 (PySem.W.mg_of X G a33) b33
  have q__law_same : Fn P w base ⟨K, mg, C_Cutting, fun _ _ => False, fun _ _ _ _ h => h⟩ "_law_same" 2 1 d__law_same := ok__law_same T F34 (PySem.W.mg_of X G a34) b34
  have q__law_cut : Fn P w base ⟨K, mg, C_Cutting, fun _ _ => False, fun _ _ _ _ h => h⟩ "_law_cut" 3 2 d__law_cut := ok__law_cut T F35 (PySem.W.mg_of X G a35) b35 q__law_draw
  have q__law_cuts : Fn P w base ⟨K, mg, C_Cutting, fun _ _ => False, fun _ _ _ _ h => h⟩ "_law_cuts" 4 3 d__law_cuts := ok__law_cuts T F36 (PySem.W.mg_of X G a36) b36 q__law_cell_at q__law_cut q__law_same
  have q__law_kind : Fn P w base ⟨K, mg, C_Cutting, fun _ _ => False, fun _ _ _ _ h => h⟩ "_law_kind" 2 16 d__law_kind := ok__law_kind T F37 (PySem.W.mg_of X G a37) b37 q_meet
  have q__law_lists : Fn P w base ⟨K, mg, C_Cutting, fun _ _ => False, fun _ _ _ _ h => h⟩ "_law_lists" 2 1 d__law_lists := ok__law_lists T F38 (PySem.W.mg_of X G a38) b38
  exact law_ok (okF_law (g := ⟨K, mg, C_Cutting, fun _ _ => False, fun _ _ _ _ h => h⟩) T F39 q_Cutting q__law_cell_at q__law_cuts q__law_draw q__law_kind q__law_lists) hlaw
end K08
open PySem PySem.W PyProof.Rows in
set_option maxRecDepth 100000 in
set_option maxHeartbeats 0 in
theorem PySem.Challenge.cw_cutlands_k08_whole_meeting_and_moving_holds : PySem.Challenge.rw_cutlands_k08_whole_meeting_and_moving.Holds := by
  w_on; o_law; k_head; (case hw => w_witness2)
  k_fill
  refine L2.walk_ofB (l := PySem.Challenge.rw_cutlands_k08_whole_meeting_and_moving) (n := 63) (k := 17) (x := "_law_script") (CX := fun w => L2.CX (PySem.Challenge.rw_cutlands_k08_whole_meeting_and_moving).prog w) (sp := fun w => PL.spLaw _) rfl (by decide) rfl ⟨rfl, by decide, by decide⟩ (fun w h Y => PySem.W.kIn_of Y) ?F (fun _ _ a ns hl hb _ hS => ⟨a, ns, rfl, hS, hl, hb, fun _ => rfl⟩) (fun w H s e s' h => PL.cx_never H s e s' h)
  case F =>
    intro w mg fa h KX G hmg
    refine' K08.all_mk KX G hmg ?a0 ?l0 ?c0 ?k0 ?a1 ?l1 ?c1 ?k1 ?a2 ?l2 ?c2 ?k2 ?a3 ?l3 ?c3 ?k3 ?a4 ?l4 ?c4 ?k4 ?a5 ?l5 ?c5 ?k5 ?a6 ?l6 ?c6 ?k6 ?a7 ?l7 ?c7 ?k7 ?a8 ?l8 ?c8 ?k8 ?a9 ?l9 ?c9 ?k9 ?a10 ?l10 ?c10 ?k10 ?a11 ?m11 ?l11 ?c11 ?k11 ?a12 ?m12 ?l12 ?c12 ?k12 ?a13 ?m13 ?l13 ?c13 ?k13 ?a14 ?l14 ?c14 ?k14 ?a15 ?l15 ?c15 ?k15 ?a16 ?l16 ?c16 ?k16 ?a17 ?l17 ?c17 ?k17 ?a18 ?l18 ?c18 ?k18 ?a19 ?l19 ?c19 ?k19 ?a20 ?l20 ?c20 ?k20 ?a21 ?l21 ?c21 ?k21 ?a22 ?l22 ?c22 ?k22 ?a23 ?l23 ?c23 ?k23 ?a24 ?l24 ?c24 ?k24 ?a25 ?l25 ?c25 ?k25 ?a26 ?l26 ?c26 ?k26 ?a27 ?l27 ?c27 ?k27 ?a28 ?l28 ?c28 ?k28 ?a29 ?l29 ?c29 ?k29 ?a30 ?l30 ?c30 ?k30 ?a31 ?l31 ?c31 ?k31 ?a32 ?l32 ?c32 ?k32 ?a33 ?l33 ?c33 ?k33 ?a34 ?l34 ?c34 ?k34 ?a35 ?l35 ?c35 ?k35 ?a36 ?l36 ?c36 ?k36 ?a37 ?l37 ?c37 ?k37 ?a38 ?l38 ?c38 ?k38 ?a39 ?l39 ?c39 ?k39 ?e1_Cutting ?u1 ?u2 ?u3 ?u4 ?u5 ?u6 ?u7 ?u8 ?z_abs ?z_all ?z_bool ?z_enumerate ?z_int ?z_isinstance ?z_len ?z_list ?z_max ?z_min ?z_range ?z_reversed ?z_sum ?z_tuple ?z_zip ?e1_NoFraction ?e2_NoFraction ?e3_NoFraction ?e4_NoFraction ?e5_NoFraction ?e1_NoNumber ?e2_NoNumber ?e3_NoNumber ?e4_NoNumber ?e5_NoNumber ?v_EQUAL ?v_LOOSE ?v_MOST_CUTS ?v_MOST_DIMS ?v_NOUGHT ?v_STRICT ?w_NOUGHT K08.law_true
    (case e1_Cutting => k_is)
    (case e1_NoFraction => k_is)
    (case e1_NoNumber => k_is)
    (case a0 => k_is)
    (case l0 => k_is)
    (case c0 => k_is)
    (case k0 => k_is)
    (case a1 => k_is)
    (case l1 => k_is)
    (case c1 => k_is)
    (case k1 => k_is)
    (case a2 => k_is)
    (case l2 => k_is)
    (case c2 => k_is)
    (case k2 => k_is)
    (case a3 => k_is)
    (case l3 => k_is)
    (case c3 => k_is)
    (case k3 => k_is)
    (case a4 => k_is)
    (case l4 => k_is)
    (case c4 => k_is)
    (case k4 => k_is)
    (case a5 => k_is)
    (case l5 => k_is)
    (case c5 => k_is)
    (case k5 => k_is)
    (case a6 => k_is)
    (case l6 => k_is)
    (case c6 => k_is)
    (case k6 => k_is)
    (case a7 => k_is)
    (case l7 => k_is)
    (case c7 => k_is)
    (case k7 => k_is)
    (case a8 => k_is)
    (case l8 => k_is)
    (case c8 => k_is)
    (case k8 => k_is)
    (case a9 => k_is)
    (case l9 => k_is)
    (case c9 => k_is)
    (case k9 => k_is)
    (case a10 => k_is)
    (case l10 => k_is)
    (case c10 => k_is)
    (case k10 => k_is)
    (case a11 => k_is)
    (case m11 => k_is)
    (case l11 => k_is)
    (case c11 => k_is)
    (case k11 => k_is)
    (case a12 => k_is)
    (case m12 => k_is)
    (case l12 => k_is)
    (case c12 => k_is)
    (case k12 => k_is)
    (case a13 => k_is)
    (case m13 => k_is)
    (case l13 => k_is)
    (case c13 => k_is)
    (case k13 => k_is)
    (case a14 => k_is)
    (case l14 => k_is)
    (case c14 => k_is)
    (case k14 => k_is)
    (case a15 => k_is)
    (case l15 => k_is)
    (case c15 => k_is)
    (case k15 => k_is)
    (case a16 => k_is)
    (case l16 => k_is)
    (case c16 => k_is)
    (case k16 => k_is)
    (case a17 => k_is)
    (case l17 => k_is)
    (case c17 => k_is)
    (case k17 => k_is)
    (case a18 => k_is)
    (case l18 => k_is)
    (case c18 => k_is)
    (case k18 => k_is)
    (case a19 => k_is)
    (case l19 => k_is)
    (case c19 => k_is)
    (case k19 => k_is)
    (case a20 => k_is)
    (case l20 => k_is)
    (case c20 => k_is)
    (case k20 => k_is)
    (case a21 => k_is)
    (case l21 => k_is)
    (case c21 => k_is)
    (case k21 => k_is)
    (case a22 => k_is)
    (case l22 => k_is)
    (case c22 => k_is)
    (case k22 => k_is)
    (case a23 => k_is)
    (case l23 => k_is)
    (case c23 => k_is)
    (case k23 => k_is)
    (case a24 => k_is)
    (case l24 => k_is)
    (case c24 => k_is)
    (case k24 => k_is)
    (case a25 => k_is)
    (case l25 => k_is)
    (case c25 => k_is)
    (case k25 => k_is)
    (case a26 => k_is)
    (case l26 => k_is)
    (case c26 => k_is)
    (case k26 => k_is)
    (case a27 => k_is)
    (case l27 => k_is)
    (case c27 => k_is)
    (case k27 => k_is)
    (case a28 => k_is)
    (case l28 => k_is)
    (case c28 => k_is)
    (case k28 => k_is)
    (case a29 => k_is)
    (case l29 => k_is)
    (case c29 => k_is)
    (case k29 => k_is)
    (case a30 => k_is)
    (case l30 => k_is)
    (case c30 => k_is)
    (case k30 => k_is)
    (case a31 => k_is)
    (case l31 => k_is)
    (case c31 => k_is)
    (case k31 => k_is)
    (case a32 => k_is)
    (case l32 => k_is)
    (case c32 => k_is)
    (case k32 => k_is)
    (case a33 => k_is)
    (case l33 => k_is)
    (case c33 => k_is)
    (case k33 => k_is)
    (case a34 => k_is)
    (case l34 => k_is)
    (case c34 => k_is)
    (case k34 => k_is)
    (case a35 => k_is)
    (case l35 => k_is)
    (case c35 => k_is)
    (case k35 => k_is)
    (case a36 => k_is)
    (case l36 => k_is)
    (case c36 => k_is)
    (case k36 => k_is)
    (case a37 => k_is)
    (case l37 => k_is)
    (case c37 => k_is)
    (case k37 => k_is)
    (case a38 => k_is)
    (case l38 => k_is)
    (case c38 => k_is)
    (case k38 => k_is)
    (case a39 => k_is)
    (case l39 => k_is)
    (case c39 => k_is)
    (case k39 => k_is)
    (case u1 => k_is)
    (case u2 => k_is)
    (case u3 => k_is)
    (case u4 => k_is)
    (case u5 => k_is)
    (case u6 => k_is)
    (case u7 => k_is)
    (case u8 => k_is)
    (case z_abs => k_is)
    (case z_all => k_is)
    (case z_bool => k_is)
    (case z_enumerate => k_is)
    (case z_int => k_is)
    (case z_isinstance => k_is)
    (case z_len => k_is)
    (case z_list => k_is)
    (case z_max => k_is)
    (case z_min => k_is)
    (case z_range => k_is)
    (case z_reversed => k_is)
    (case z_sum => k_is)
    (case z_tuple => k_is)
    (case z_zip => k_is)
    (case e2_NoFraction => k_exc)
    (case e3_NoFraction => k_is)
    (case e4_NoFraction => k_is)
    (case e5_NoFraction => k_is)
    (case e2_NoNumber => k_exc)
    (case e3_NoNumber => k_is)
    (case e4_NoNumber => k_is)
    (case e5_NoNumber => k_is)
    (case v_EQUAL => k_is)
    (case v_LOOSE => k_is)
    (case v_MOST_CUTS => k_is)
    (case v_MOST_DIMS => k_is)
    (case v_NOUGHT => k_is)
    (case v_STRICT => k_is)
    (case w_NOUGHT => k_is)
