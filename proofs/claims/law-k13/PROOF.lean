import PyProof.Rows.All
import Wide.All
import OpenK.AllK
import Wide.FinOn
import HandS.ForMost
import HandS.ExcCtx
import HandS.Lambda
import HandS.TupAny
import HandS.Wide
import HandS.IsInst
import HandS.TupMul
import HandS.TupLe
import HandS.Style
import HandS.Deep
import HandS.RaiseMore
import HandS.HotCalls
import HandS.ExcIs
import HandS.ExcField
import HandS.Zip
import HandS.EndTab
import HandS.Head0
import HandS.Head1
import HandS.Head2
import HandS.HeadEnd
import HandS.HeadHook1
import HandS.HeadHook2
import HandS.HeadHook3
import HandS.HeadHook4
import HandS.HeadWalk
import HandS.EndOwn
import HandS.Codes
import HandS.ExcInit
import HandS.ExcInitHot
import HandS.Iter
import HandS.CallLocal
import HandS.Strs
import HandS.SetFor
import HandS.SortInts
import HandS.Flow
import PyProof.Rows.IntBool
import PyProof.CallStr
import HandS.SortRule
import HandS.Walk
import KE.KSortTupAny
import PyProof.Rows.SortKeyStr
import PySem.Challenge.RW_fulltrees_k13_whole_scripts_that_undo_ot
set_option Elab.async false
set_option linter.all false
set_option maxRecDepth 100000
set_option maxHeartbeats 1000000
/-! FTA: deep data, what represents them in an abstract heap, the state of a body, readings by pure denotations. -/
namespace FT
open PySem PySem.Spec PyProof.Rows L2
abbrev St := L2.St

/-- data -/
inductive D where
  | non | bl (b : Bool) | int (i : Int) | str (x : Str)
  | tup (xs : List D) | lst (xs : List D) | scr (ns : List Int) | fn (x : Str) | ty (n : String) | ref (a : Addr) | dcI (kvs : List (Key × D)) | dcT (kvs : List (List Key × D))

/-- an error: its class's name; its own attribute -/
structure Er where
  cls : Str
  attr : Option (Str × Int)

abbrev En := List (Option D)
/-- what an expression gives -/
inductive R (α : Type) where
  | stuck | err (e : Er) | ok (a : α) (s : En)
def R.bind {α β : Type} (r : R α) (k : α → En → R β) : R β := match r with
  | .stuck => .stuck
  | .err e => .err e
  | .ok a s => k a s
theorem R.bind_ok {α β : Type} {a : α} {s : En} {k : α → En → R β} : (R.ok a s).bind k = k a s := rfl
/-- what a statement gives -/
inductive RS where
  | stuck | err (e : Er) | nx (s : En) | rt (d : D) (s : En) | bk (s : En) | ct (s : En)
/-- what a call gives: the value, and what stands then in the list that was handed over -/
inductive RF where
  | stuck | err (e : Er) | ok (d : D) (o : D)
abbrev Fn := List D → RF

/-! ### representation -/
def D.isStr : D → Bool
  | .str _ => true
  | _ => false
def NotTbl (o : HO) : Prop := ∀ ps, o ≠ .tbl ps
def KTup (K : PySem.W.Frag) (a : Addr) (xs : List V) : Prop :=
  ∃ (o : Obj) (its : Array Value) (n : Nat), K.lookup a = some o ∧ o.cls = .type "tuple" ∧ o.data = .seq its n ∧ its.size ≤ sizeLine ∧ Vals xs its.toList
def KLst (K : PySem.W.Frag) (a : Addr) (xs : List V) : Prop :=
  ∃ (o : Obj) (its : Array Value) (n : Nat), K.lookup a = some o ∧ o.cls = .type "list" ∧ o.dict = none ∧ o.data = .seq its n ∧ its.size ≤ sizeLine ∧ Vals xs its.toList
theorem KTup.sq {K : PySem.W.Frag} {H : Hp} {a : Addr} {xs : List V} (h : KTup K a xs) : SqT K H a xs := .inr h
theorem KLst.sq {K : PySem.W.Frag} {H : Hp} {a : Addr} {xs : List V} (h : KLst K a xs) : SqL K H a xs := .inr h

mutual
inductive Rep (K : PySem.W.Frag) (mg : Str → Option Value) (H : Hp) (av : Addr → Prop) : D → V → Prop where
  | non : Rep K mg H av .non .non
  | bl (b : Bool) : Rep K mg H av (.bl b) (.bl b)
  | int (i : Int) : Rep K mg H av (.int i) (.int i)
  | str (x : Str) : Rep K mg H av (.str x) (.str x)
  | tup {a : Addr} {vs : List V} {ds : List D} : H a = some (.tup vs) → ¬ av a → Reps K mg H av ds vs → Rep K mg H av (.tup ds) (.ref a)
  | ktup {a : Addr} {vs : List V} {ds : List D} : KTup K a vs → Reps K mg H av ds vs → ds.all D.isStr = true → Rep K mg H av (.tup ds) (.ref a)
  | lst {a : Addr} {vs : List V} {ds : List D} : H a = some (.lst vs) → ¬ av a → Reps K mg H av ds vs → Rep K mg H av (.lst ds) (.ref a)
  | scr {a : Addr} {ns : List Int} : Rd H a (.lst (ns.map V.int)) → ¬ av a → Rep K mg H av (.scr ns) (.ref a)
  | kscr {a : Addr} {ns : List Int} : KLst K a (ns.map V.int) → Rep K mg H av (.scr ns) (.ref a)
  | fn {x : Str} {f : Addr} : mg x = some (.ref f) → Rep K mg H av (.fn x) (.ref f)
  | ty (n : String) : Rep K mg H av (.ty n) (.ty n)
  | ref (a : Addr) : Rep K mg H av (.ref a) (.ref a)
inductive Reps (K : PySem.W.Frag) (mg : Str → Option Value) (H : Hp) (av : Addr → Prop) : List D → List V → Prop where
  | nil : Reps K mg H av [] []
  | cons {d : D} {v : V} {ds : List D} {vs : List V} : Rep K mg H av d v → Reps K mg H av ds vs → Reps K mg H av (d :: ds) (v :: vs)
end

/-- what is not to be avoided stands as it stood -/
def Stay (av : Addr → Prop) (H H' : Hp) : Prop := ∀ b o, ¬ av b → H b = some o → NotTbl o → H' b = some o
def Ext (H H' : Hp) : Prop := ∀ b o, H b = some o → H' b = some o
theorem Stay.refl (av : Addr → Prop) (H : Hp) : Stay av H H := fun _ _ _ h _ => h
theorem Stay.trans {av : Addr → Prop} {H H1 H2 : Hp} (a : Stay av H H1) (b : Stay av H1 H2) : Stay av H H2 := fun c o n h t => b c o n (a c o n h t) t
/-- nothing but a table may stand at a -/
def NoO (H : Hp) (a : Addr) : Prop := ∀ o, H a = some o → ¬ NotTbl o
theorem NoO.of {H : Hp} {a : Addr} (n : H a = none) : NoO H a := fun o h => by rw [n] at h; cases h
theorem NoO.ne {H : Hp} {a b : Addr} {u : HO} (n : NoO H a) (h : H b = some u) (t : NotTbl u) : b ≠ a := fun z => by subst z; exact n u h t
theorem Ext.refl (H : Hp) : Ext H H := fun _ _ h => h
theorem Ext.trans {H H1 H2 : Hp} (a : Ext H H1) (b : Ext H1 H2) : Ext H H2 := fun c o h => b c o (a c o h)
theorem Ext.stay {H H' : Hp} (e : Ext H H') (av : Addr → Prop) : Stay av H H' := fun b o _ h _ => e b o h
theorem Ext.upd {H : Hp} {p : Addr} {o : HO} (n : H p = none) : Ext H (upd H p o) := fun b u h => by rw [upd_ne (ne_of_none h n)]; exact h

theorem notTbl_tup {xs : List V} : NotTbl (.tup xs) := fun _ q => nomatch q
theorem notTbl_lst {xs : List V} : NotTbl (.lst xs) := fun _ q => nomatch q
theorem notTbl_dK {xs} : NotTbl (.dK xs) := fun _ q => nomatch q
theorem notTbl_dT {xs} : NotTbl (.dT xs) := fun _ q => nomatch q
theorem notTbl_frz {o : Obj} {u : HO} : NotTbl (.frz o u) := fun _ q => nomatch q

section
variable {K : PySem.W.Frag} {mg : Str → Option Value} {H H' : Hp} {av av' : Addr → Prop}
/-- representations go over to another heap and another set to be avoided -/
structure Goes (av av' : Addr → Prop) (H H' : Hp) : Prop where
  at_ : ∀ b o, ¬ av b → H b = some o → NotTbl o → H' b = some o ∧ ¬ av' b
mutual
theorem Rep.goes (g : Goes av av' H H') : ∀ {d : D} {v : V}, Rep K mg H av d v → Rep K mg H' av' d v
  | _, _, .non => .non
  | _, _, .bl b => .bl b
  | _, _, .int i => .int i
  | _, _, .str x => .str x
  | _, _, .tup h n r => .tup (g.at_ _ _ n h notTbl_tup).1 (g.at_ _ _ n h notTbl_tup).2 (Reps.goes g r)
  | _, _, .ktup k r z => .ktup k (Reps.goes g r) z
  | _, _, .lst h n r => .lst (g.at_ _ _ n h notTbl_lst).1 (g.at_ _ _ n h notTbl_lst).2 (Reps.goes g r)
  | _, _, .scr (.inl h) n => .scr (.inl (g.at_ _ _ n h notTbl_lst).1) (g.at_ _ _ n h notTbl_lst).2
  | _, _, .scr (.inr ⟨o, h⟩) n => .scr (.inr ⟨o, (g.at_ _ _ n h notTbl_frz).1⟩) (g.at_ _ _ n h notTbl_frz).2
  | _, _, .kscr k => .kscr k
  | _, _, .fn e => .fn e
  | _, _, .ty n => .ty n
  | _, _, .ref a => .ref a
theorem Reps.goes (g : Goes av av' H H') : ∀ {ds : List D} {vs : List V}, Reps K mg H av ds vs → Reps K mg H' av' ds vs
  | _, _, .nil => .nil
  | _, _, .cons r t => .cons (Rep.goes g r) (Reps.goes g t)
end
theorem Goes.stay (s : Stay av H H') : Goes av av H H' := ⟨fun b o n h t => ⟨s b o n h t, n⟩⟩
theorem Goes.less (l : ∀ a, av' a → av a) : Goes av av' H H := ⟨fun b o n h _ => ⟨h, fun q => n (l b q)⟩⟩
theorem Rep.stay (s : Stay av H H') {d : D} {v : V} (r : Rep K mg H av d v) : Rep K mg H' av d v := r.goes (.stay s)
theorem Reps.stay (s : Stay av H H') {d : List D} {v : List V} (r : Reps K mg H av d v) : Reps K mg H' av d v := r.goes (.stay s)
theorem Rep.ext (s : Ext H H') {d : D} {v : V} (r : Rep K mg H av d v) : Rep K mg H' av d v := r.stay (s.stay _)
theorem Reps.ext (s : Ext H H') {d : List D} {v : List V} (r : Reps K mg H av d v) : Reps K mg H' av d v := r.stay (s.stay _)
theorem Rep.less (l : ∀ a, av' a → av a) {d : D} {v : V} (r : Rep K mg H av d v) : Rep K mg H av' d v := r.goes (.less l)
theorem Reps.less (l : ∀ a, av' a → av a) {d : List D} {v : List V} (r : Reps K mg H av d v) : Reps K mg H av' d v := r.goes (.less l)
theorem Reps.length : ∀ {ds : List D} {vs : List V}, Reps K mg H av ds vs → ds.length = vs.length
  | _, _, .nil => rfl
  | _, _, .cons _ t => congrArg Nat.succ (Reps.length t)
theorem Reps.get : ∀ {ds : List D} {vs : List V} {i : Nat} {d : D}, Reps K mg H av ds vs → ds[i]? = some d → ∃ v, vs[i]? = some v ∧ Rep K mg H av d v
  | _, _, _, _, .nil, e => by simp at e
  | _, _, 0, _, .cons r _, e => by simp at e; subst e; exact ⟨_, rfl, r⟩
  | _, _, i + 1, d, .cons _ t, e => by
    obtain ⟨u, h1, h2⟩ := Reps.get (i := i) (d := d) t (by simpa using e)
    exact ⟨u, by simpa using h1, h2⟩
theorem Reps.append : ∀ {xs ys : List D} {us ws : List V}, Reps K mg H av xs us → Reps K mg H av ys ws → Reps K mg H av (xs ++ ys) (us ++ ws)
  | _, _, _, _, .nil, s => s
  | _, _, _, _, .cons r t, s => .cons r (Reps.append t s)
theorem Reps.take : ∀ {xs : List D} {us : List V} (n : Nat), Reps K mg H av xs us → Reps K mg H av (xs.take n) (us.take n)
  | _, _, 0, _ => .nil
  | _, _, _ + 1, .nil => .nil
  | _, _, n + 1, .cons r t => .cons r (Reps.take n t)
theorem Reps.drop : ∀ {xs : List D} {us : List V} (n : Nat), Reps K mg H av xs us → Reps K mg H av (xs.drop n) (us.drop n)
  | _, _, 0, r => r
  | _, _, _ + 1, .nil => .nil
  | _, _, n + 1, .cons _ t => Reps.drop n t
theorem Reps.set {x : D} {u : V} (r : Rep K mg H av x u) : ∀ {xs : List D} {us : List V} (i : Nat), Reps K mg H av xs us → Reps K mg H av (xs.set i x) (us.set i u)
  | _, _, _, .nil => .nil
  | _, _, 0, .cons _ t => .cons r t
  | _, _, i + 1, .cons q t => .cons q (Reps.set r i t)
theorem Reps.nil_iff {ds : List D} {vs : List V} (r : Reps K mg H av ds vs) : ds = [] ↔ vs = [] := by
  cases r with
  | nil => simp
  | cons _ _ => simp
theorem Reps.snoc {ds : List D} {vs : List V} {d : D} {v : V} (r : Reps K mg H av ds vs) (q : Rep K mg H av d v) : Reps K mg H av (ds ++ [d]) (vs ++ [v]) := r.append (.cons q .nil)
theorem Reps.ints : ∀ (ns : List Int), Reps K mg H av (ns.map D.int) (ns.map V.int)
  | [] => .nil
  | n :: r => .cons (.int n) (Reps.ints r)
theorem Reps.rev_aux : ∀ {xs : List D} {us : List V}, Reps K mg H av xs us → Reps K mg H av xs.reverse us.reverse
  | _, _, .nil => .nil
  | _, _, .cons r t => by
    rw [List.reverse_cons, List.reverse_cons]
    exact (Reps.rev_aux t).append (.cons r .nil)
theorem Rep.tup_inv {ds : List D} {v : V} (r : Rep K mg H av (.tup ds) v) : ∃ a vs, v = .ref a ∧ SqT K H a vs ∧ Reps K mg H av ds vs := by
  cases r with
  | tup h n q => exact ⟨_, _, rfl, .of h, q⟩
  | ktup k q _ => exact ⟨_, _, rfl, k.sq, q⟩
theorem Rep.lst_inv {ds : List D} {v : V} (r : Rep K mg H av (.lst ds) v) : ∃ a vs, v = .ref a ∧ H a = some (.lst vs) ∧ Reps K mg H av ds vs := by
  cases r with
  | lst h n q => exact ⟨_, _, rfl, h, q⟩
theorem Rep.scr_inv {ns : List Int} {v : V} (r : Rep K mg H av (.scr ns) v) : ∃ a, v = .ref a ∧ SqL K H a (ns.map V.int) := by
  cases r with
  | scr h n => exact ⟨_, rfl, .inl h⟩
  | kscr k => exact ⟨_, rfl, k.sq⟩
end

/-- what may be changed stands at a: a list, a dict -/
def OwnAt (K : PySem.W.Frag) (mg : Str → Option Value) (H : Hp) (av : Addr → Prop) (a : Addr) : D → Prop
  | .lst ds => ∃ vs, H a = some (.lst vs) ∧ Reps K mg H av ds vs
  | .dcI kvs => ∃ kk, H a = some (.dK kk) ∧ Paired (fun (p : Key × D) (q : Key × V) => p.1 = q.1 ∧ Rep K mg H av p.2 q.2) kvs kk
  | .dcT kvs => ∃ kk, H a = some (.dT kk) ∧ Paired (fun (p : List Key × D) (q : List Key × V) => p.1 = q.1 ∧ Rep K mg H av p.2 q.2) kvs kk
  | _ => False
theorem OwnAt.goes {K : PySem.W.Frag} {mg : Str → Option Value} {H H' : Hp} {av av' : Addr → Prop} {a : Addr} {d : D} (o : OwnAt K mg H av a d) (g : Goes av av' H H') (k : ∀ o, H a = some o → NotTbl o → H' a = some o) : OwnAt K mg H' av' a d := by
  cases d with
  | lst ds =>
    obtain ⟨vs, h, r⟩ := o
    exact ⟨vs, k _ h notTbl_lst, r.goes g⟩
  | dcI kvs =>
    obtain ⟨kk, h, r⟩ := o
    exact ⟨kk, k _ h notTbl_dK, Paired.mapP r fun p q z => ⟨z.1, z.2.goes g⟩⟩
  | dcT kvs =>
    obtain ⟨kk, h, r⟩ := o
    exact ⟨kk, k _ h notTbl_dT, Paired.mapP r fun p q z => ⟨z.1, z.2.goes g⟩⟩
  | _ => exact o.elim
theorem OwnAt.there {K : PySem.W.Frag} {mg : Str → Option Value} {H : Hp} {av : Addr → Prop} {a : Addr} {d : D} (o : OwnAt K mg H av a d) : ∃ o, H a = some o ∧ NotTbl o := by
  cases d with
  | lst ds => obtain ⟨vs, h, r⟩ := o; exact ⟨_, h, notTbl_lst⟩
  | dcI kvs => obtain ⟨kk, h, r⟩ := o; exact ⟨_, h, notTbl_dK⟩
  | dcT kvs => obtain ⟨kk, h, r⟩ := o; exact ⟨_, h, notTbl_dT⟩
  | _ => exact o.elim

/-- what stays the same while a body runs -/
structure Gh where
  K : PySem.W.Frag
  mg : Str → Option Value
  T : List (Addr × Str)
  /-- slots of what is changed in place -/
  ow : List Nat
  /-- what callers change in place -/
  av : Addr → Prop
  /-- lists that comprehensions around are making -/
  ex : Addr → Prop
  H0 : Hp
  /-- the list that was handed over to be changed (slot 0) -/
  pa : Option Addr
  /-- a new list is returned -/
  fr : Bool
  E : XK
def Av (G : Gh) (σ : St) (a : Addr) : Prop := (G.av a ∨ G.ex a) ∨ ∃ i, i ∈ G.ow ∧ σ[i]? = some (some (.ref a))
/-- what may be changed here -/
def Ch (G : Gh) (σ : St) (a : Addr) : Prop := ∃ i, i ∈ G.ow ∧ σ[i]? = some (some (.ref a))
theorem Stay.av {G : Gh} {σ : St} {H H' : Hp} (s : Stay (Ch G σ) H H') : Stay (Av G σ) H H' := fun b o n h t => s b o (fun z => n (.inr z)) h t
def Frame (G : Gh) (H : Hp) : Prop := ∀ b o, G.pa ≠ some b → G.H0 b = some o → NotTbl o → H b = some o
structure SR (G : Gh) (σ : St) (H : Hp) (env : En) : Prop where
  tabs : LamX.Tabs G.T H
  val : ∀ i d, env[i]? = some (some d) → i ∉ G.ow → ∃ v, σ[i]? = some (some v) ∧ Rep G.K G.mg H (Av G σ) d v
  own : ∀ i d, env[i]? = some (some d) → i ∈ G.ow → ∃ a, σ[i]? = some (some (.ref a)) ∧ OwnAt G.K G.mg H (Av G σ) a d
  fresh : ∀ i, i ∈ G.ow → ∀ a, σ[i]? = some (some (.ref a)) → G.pa = some a ∨ NoO G.H0 a
  dist : ∀ i, i ∈ G.ow → ∀ j, j ∈ G.ow → ∀ a, σ[i]? = some (some (.ref a)) → σ[j]? = some (some (.ref a)) → i = j
  there : ∀ a, Av G σ a → ∃ o, H a = some o ∧ NotTbl o
  frame : Frame G H
  par : ∀ a, G.pa = some a → 0 ∈ G.ow ∧ σ[0]? = some (some (.ref a)) ∧ ∃ d, env[0]? = some (some d)
  len : env.length = σ.length
  avT : ∀ a, G.av a → ∃ o, G.H0 a = some o ∧ NotTbl o
  exF : ∀ a, G.ex a → NoO G.H0 a
  exO : ∀ i, i ∈ G.ow → ∀ a, σ[i]? = some (some (.ref a)) → ¬ G.ex a
  stays : ∀ b o, G.H0 b = some o → NotTbl o → ∃ o', H b = some o' ∧ NotTbl o'
theorem LamX.Tabs.ext' {T : List (Addr × Str)} {H H' : Hp} (t : LamX.Tabs T H) (e : Ext H H') : LamX.Tabs T H' := t.ext e
section
variable {G : Gh} {σ : St} {H H' : Hp} {env : En}
theorem SR.ext (s : SR G σ H env) (e : Ext H H') : SR G σ H' env where
  tabs := s.tabs.ext e
  val := fun i d h n => let ⟨v, h1, r⟩ := s.val i d h n; ⟨v, h1, r.ext e⟩
  own := fun i d h n => let ⟨a, h1, r⟩ := s.own i d h n; ⟨a, h1, r.goes (.stay (e.stay _)) fun o q _ => e a o q⟩
  fresh := s.fresh
  dist := s.dist
  there := fun a h => let ⟨o, h1, n⟩ := s.there a h; ⟨o, e a o h1, n⟩
  frame := fun b o h1 h2 h3 => e b o (s.frame b o h1 h2 h3)
  par := s.par
  len := s.len
  avT := s.avT
  exF := s.exF
  exO := s.exO
  stays := fun b o h t => let ⟨o', q, t'⟩ := s.stays b o h t; ⟨o', e b o' q, t'⟩
/-- a new address is none to be avoided -/
theorem SR.newA' (s : SR G σ H env) {p : Addr} (n : NoO H p) : ¬ Av G σ p := fun q => by
  obtain ⟨o, h, t⟩ := s.there p q
  exact n o h t
theorem SR.newA (s : SR G σ H env) {p : Addr} (n : H p = none) : ¬ Av G σ p := s.newA' (.of n)
end

theorem SR.isNew' {G : Gh} {σ : St} {H : Hp} {env : En} (s : SR G σ H env) {p : Addr} (n : NoO H p) : NoO G.H0 p := fun o h t => by
  obtain ⟨o', q, t'⟩ := s.stays p o h t
  exact n o' q t'
theorem SR.isNew {G : Gh} {σ : St} {H : Hp} {env : En} (s : SR G σ H env) {p : Addr} (n : H p = none) : NoO G.H0 p := s.isNew' (.of n)

/-! ### readings -/
def ErrIs (G : Gh) (e : Er) (cls : Value) (dd : Option Addr) (H' : Hp) : Prop :=
  ∃ c, G.mg e.cls = some (.ref c) ∧ cls = .ref c ∧ match e.attr with
    | none => dd = none
    | some (f, i) => ∃ da, dd = some da ∧ H' da = some (.xd [(f, .int i)])
def ErrAt (G : Gh) (e : Er) (cls : Value) (dd : Option Addr) (H' : Hp) : Prop := LamX.Tabs G.T H' ∧ Frame G H' ∧ ErrIs G e cls dd H'
def PostE (G : Gh) (e : Er) : Prop := ∀ cls dd H', ErrAt G e cls dd H' → G.E cls dd H'
def Post (G : Gh) (σ : St) (H : Hp) (Q : VK) : R D → Prop
  | .stuck => False
  | .err e => PostE G e
  | .ok d env' => ∀ v H', SR G σ H' env' → Stay (Ch G σ) H H' → Rep G.K G.mg H' (Av G σ) d v → Q v H'
abbrev ME := En → R D
def TEo (G : Gh) (m : ME) : TE := fun σ H Q => ∃ env, SR G σ H env ∧ Post G σ H Q (m env)
/-- the expression e has the denotation m -/
def SE (X : Cx) (G : Gh) (e : Expr) (m : ME) : Prop := PE X e (TEo G m)

theorem Post.from {G : Gh} {σ : St} {H H1 : Hp} {Q : VK} {r : R D} (h : Post G σ H Q r) (s : Stay (Ch G σ) H H1) : Post G σ H1 Q r := by
  cases r with
  | stuck => exact h
  | err e => exact h
  | ok d env => exact fun v H' a b c => h v H' a (s.trans b) c
theorem PE.imp {X : Cx} {e : Expr} {t t' : TE} (h : PE X e t) (i : ∀ σ H Q, t' σ H Q → t σ H Q) : PE X e t' := ⟨fun pins s σ H Q I q => h.run pins s σ H Q I (i σ H Q q)⟩
theorem PT.imp {X : Cx} {e : Expr} {t t' : TT} (h : PT X e t) (i : ∀ σ H Q, t' σ H Q → t σ H Q) : PT X e t' := ⟨fun pins s σ H Q I q => h.run pins s σ H Q I (i σ H Q q)⟩
theorem PS.imp {X : Cx} {e : Stmt} {t t' : TS} (h : PS X e t) (i : ∀ D σ H, t' D σ H → t D σ H) : PS X e t' := ⟨fun pins s σ H D I q => h.run pins s σ H D I (i D σ H q)⟩
theorem PSs.imp {X : Cx} {e : List Stmt} {t t' : TS} (h : PSs X e t) (i : ∀ D σ H, t' D σ H → t D σ H) : PSs X e t' := ⟨fun pins s σ H D I q => h.run pins s σ H D I (i D σ H q)⟩
theorem PA.imp {X : Cx} {e : List Expr} {t t' : TA} (h : PA X e t) (i : ∀ σ H Q, t' σ H Q → t σ H Q) : PA X e t' := ⟨fun pos pins s σ H Q I q => h.run pos pins s σ H Q I (i σ H Q q)⟩

/-- what one has behind an expression -/
def Got (G : Gh) (σ : St) (H : Hp) (d : D) (env : En) (x : V) (H1 : Hp) : Prop := SR G σ H1 env ∧ Stay (Ch G σ) H H1 ∧ Rep G.K G.mg H1 (Av G σ) d x
theorem TEo.bind {G : Gh} {σ : St} {H : Hp} {β : Type} {m : ME} {k : D → En → R β} {env : En} (s : SR G σ H env) (PP : R β → Prop) (hs : ¬ PP .stuck) (he : ∀ e, PP (.err e) → PostE G e) (h : PP ((m env).bind k)) :
    TEo G m σ H (fun x H1 => ∃ d env1, Got G σ H d env1 x H1 ∧ PP (k d env1)) := by
  refine ⟨env, s, ?_⟩
  cases q : m env with
  | stuck => rw [q] at h; exact (hs h).elim
  | err e => rw [q] at h; exact he e h
  | ok d env1 => rw [q] at h; exact fun v H' a b c => ⟨d, env1, ⟨a, b, c⟩, h⟩
theorem Post.bind {G : Gh} {σ : St} {H : Hp} {Q : VK} {m : ME} {k : D → En → R D} {env : En} (s : SR G σ H env) (h : Post G σ H Q ((m env).bind k)) :
    TEo G m σ H (fun x H1 => ∃ d env1, Got G σ H d env1 x H1 ∧ Post G σ H Q (k d env1)) := TEo.bind s (Post G σ H Q) (fun z => z) (fun _ z => z) h

/-! ### tests -/
def PostT (G : Gh) (σ : St) (H : Hp) (Q : Bool → Hp → Prop) : R Bool → Prop
  | .stuck => False
  | .err e => PostE G e
  | .ok b env' => ∀ H', SR G σ H' env' → Stay (Ch G σ) H H' → Q b H'
abbrev MT := En → R Bool
def TTo (G : Gh) (m : MT) : TT := fun σ H Q => ∃ env, SR G σ H env ∧ PostT G σ H Q (m env)
def ST (X : Cx) (G : Gh) (e : Expr) (m : MT) : Prop := PT X e (TTo G m)
def SW (X : Cx) (G : Gh) (e : Expr) (m : MT) : Prop := PW X e (TTo G m)
theorem PostT.from {G : Gh} {σ : St} {H H1 : Hp} {Q : Bool → Hp → Prop} {r : R Bool} (h : PostT G σ H Q r) (s : Stay (Ch G σ) H H1) : PostT G σ H1 Q r := by
  cases r with
  | stuck => exact h
  | err e => exact h
  | ok d env => exact fun H' a b => h H' a (s.trans b)
theorem PW.imp {X : Cx} {e : Expr} {t t' : TT} (h : PW X e t) (i : ∀ σ H Q, t' σ H Q → t σ H Q) : PW X e t' := ⟨fun w pins s σ H Q I q => h.run w pins s σ H Q I (i σ H Q q)⟩
theorem TTo.bind {G : Gh} {σ : St} {H : Hp} {β : Type} {m : MT} {k : Bool → En → R β} {env : En} (s : SR G σ H env) (PP : R β → Prop) (hs : ¬ PP .stuck) (he : ∀ e, PP (.err e) → PostE G e) (h : PP ((m env).bind k)) :
    TTo G m σ H (fun b H1 => ∃ env1, SR G σ H1 env1 ∧ Stay (Ch G σ) H H1 ∧ PP (k b env1)) := by
  refine ⟨env, s, ?_⟩
  cases q : m env with
  | stuck => rw [q] at h; exact (hs h).elim
  | err e => rw [q] at h; exact he e h
  | ok d env1 => rw [q] at h; exact fun H' a b => ⟨env1, a, b, h⟩

/-! ### names, constants -/
def mLit (d : D) : ME := fun env => .ok d env
def mVar (i : Nat) : ME := fun env => match env[i]? with
  | some (some d) => .ok d env
  | _ => .stuck
section
variable {X : Cx} {G : Gh}
theorem se_var {i : Nat} {x : Str} {pos : Pos} (hi : (G.ow.contains i) = false) (hN : X.N[i]? = some x) (hv : Vis X.env.scope x) (hd : (x == ("__debug__" : Str)) = false := by decide) (hcd : (x == ("__classdict__" : Str)) = false := by decide) :
    SE X G (.Name x pos) (mVar i) := by
  refine PE.imp (pe_var hN hv hd hcd) fun σ H Q ⟨env, s, h⟩ => ?_
  unfold mVar at h
  split at h
  · rename_i d e
    obtain ⟨v, h1, r⟩ := s.val i d e (by simpa using hi)
    exact ⟨v, h1, h v H s (.refl _ _) r⟩
  · exact h.elim
theorem se_lit {e : Expr} {d : D} {v : V} (h : PE X e (tC v)) (r : ∀ H av, Rep G.K G.mg H av d v) : SE X G e (mLit d) :=
  PE.imp h fun σ H Q ⟨env, s, q⟩ => q v H s (.refl _ _) (r H _)
theorem se_int {i j pos} : SE X G (.Constant (.int i) j pos) (mLit (.int i)) := se_lit pe_int fun _ _ => .int i
theorem se_bl {b j pos} : SE X G (.Constant (.bool b) j pos) (mLit (.bl b)) := se_lit pe_bl fun _ _ => .bl b
theorem se_non {j pos} : SE X G (.Constant .none j pos) (mLit .non) := se_lit pe_non fun _ _ => .non
theorem se_str {x j pos} : SE X G (.Constant (.str x) j pos) (mLit (.str x)) := se_lit pe_str fun _ _ => .str x
/-- a constant of the module -/
def GloD (K : PySem.W.Frag) (mg : Str → Option Value) (x : Str) (d : D) : Prop := ∃ (v : V) (u : Value), mg x = some u ∧ RelV v u ∧ ∀ H av, Rep K mg H av d v
theorem se_glob {x : Str} {d : D} {pos : Pos} (hg : Gl X x) (h : GloD G.K G.mg x d) (hm : X.mg = G.mg) (hd : (x == ("__debug__" : Str)) = false := by decide) : SE X G (.Name x pos) (mLit d) := by
  obtain ⟨v, u, e, r, q⟩ := h
  exact se_lit (pe_glob hg (by rw [hm]; exact e) r hd) q
end
end FT

set_option Elab.async false
set_option linter.all false
set_option maxRecDepth 100000
set_option maxHeartbeats 1000000
/-! FTB: operands, operations, displays, subscripts, tests. -/
namespace FT
open PySem PySem.Spec PyProof.Rows L2

/-- the context of a body fits its ghost -/
structure XG (X : Cx) (G : Gh) (k : Nat) : Prop where
  K : X.K = G.K
  mg : X.mg = G.mg
  room : Room k X.A
  calm : X.calm = true
  nd : X.N.Nodup
  pass : Passes (L2N.CX X.prog X.w) X G.E
/-- .. where statements run -/
structure XS (X : Cx) (G : Gh) (k : Nat) : Prop extends XG X G k where
  po : PassesOwn (model X.prog X.w) X.A X.env X.xe
  tk : L2N.Takes X (fun cls d _ H => G.E cls d H)
theorem XG.mono {X : Cx} {G : Gh} {j k : Nat} (x : XG X G k) (h : j ≤ k) : XG X G j := ⟨x.K, x.mg, x.room.mono h, x.calm, x.nd, x.pass⟩

/-! ### operands: read where the operation is done -/
inductive RepT (K : PySem.W.Frag) (mg : Str → Option Value) (H : Hp) (av : Addr → Prop) : D → V → Prop where
  | val {d : D} {v : V} : Rep K mg H av d v → RepT K mg H av d v
  | own {d : D} {a : Addr} : OwnAt K mg H av a d → RepT K mg H av d (.ref a)
abbrev Rd' := En → Option D
abbrev MO := En → R Rd'
def RdOk (G : Gh) (σ : St) (H' : Hp) (rd : Rd') (v : V) : Prop := ∀ H'' env'', SR G σ H'' env'' → Stay (Ch G σ) H' H'' → ∀ d, rd env'' = some d → RepT G.K G.mg H'' (Av G σ) d v
def PostO (G : Gh) (σ : St) (H : Hp) (Q : VK) : R Rd' → Prop
  | .stuck => False
  | .err e => PostE G e
  | .ok rd env' => ∀ v H', SR G σ H' env' → Stay (Ch G σ) H H' → RdOk G σ H' rd v → Q v H'
def TOo (G : Gh) (m : MO) : TE := fun σ H Q => ∃ env, SR G σ H env ∧ PostO G σ H Q (m env)
def SO (X : Cx) (G : Gh) (e : Expr) (m : MO) : Prop := PE X e (TOo G m)
def mV (m : ME) : MO := fun env => (m env).bind fun d s => .ok (fun _ => some d) s
def mOwn (i : Nat) : MO := fun env => match env[i]? with
  | some (some _) => .ok (fun e => e[i]?.join) env
  | _ => .stuck
theorem join_some {α : Type} {o : Option (Option α)} {d : α} (h : o.join = some d) : o = some (some d) := by
  cases o with
  | none => cases h
  | some o => cases o with
    | none => cases h
    | some d' => cases h; rfl
section
variable {X : Cx} {G : Gh} {e : Expr}
theorem so_val {m : ME} (h : SE X G e m) : SO X G e (mV m) := PE.imp h fun σ H Q ⟨env, s, q⟩ => by
  refine ⟨env, s, ?_⟩
  unfold mV at q
  cases r : m env with
  | stuck => rw [r] at q; exact q
  | err e => rw [r] at q; exact q
  | ok d env1 =>
    rw [r] at q
    refine fun v H' a b c => q v H' a b fun H'' env'' s2 st d' e => ?_
    cases e
    exact .val (c.stay st.av)
theorem so_own {i : Nat} {x : Str} {pos : Pos} (hi : (G.ow.contains i) = true) (hN : X.N[i]? = some x) (hv : Vis X.env.scope x)
    (hd : (x == ("__debug__" : Str)) = false := by decide) (hcd : (x == ("__classdict__" : Str)) = false := by decide) : SO X G (.Name x pos) (mOwn i) := PE.imp (pe_var hN hv hd hcd) fun σ H Q ⟨env, s, q⟩ => by
  unfold mOwn at q
  split at q
  · rename_i d0 e0
    obtain ⟨a, e, _⟩ := s.own i d0 e0 (by simpa using hi)
    refine ⟨.ref a, e, q _ H s (.refl _ _) fun H'' env'' s2 st d h => ?_⟩
    obtain ⟨a2, e2, o⟩ := s2.own i d (join_some h) (by simpa using hi)
    rw [e] at e2
    cases e2
    exact .own o
  · exact q.elim
end

/-! ### operations by values -/
/-- the reading of an operation whose denotation is g -/
def rOf (G : Gh) (g : D → D → Option D) : R2 := fun x y H Q => ∃ (av : Addr → Prop) (dx dy d : D), RepT G.K G.mg H av dx x ∧ RepT G.K G.mg H av dy y ∧ g dx dy = some d ∧ (∀ a, av a → ∃ o, H a = some o) ∧ ∀ v H', Ext H H' → Rep G.K G.mg H' av d v → Q v H'
def lift2 (g : D → D → Option D) (x y : Option D) (s : En) : R D := match x, y with
  | some a, some b => (match g a b with
    | some d => .ok d s
    | none => .stuck)
  | _, _ => .stuck
def mOp2 (g : D → D → Option D) (ma mb : MO) : ME := fun env => (ma env).bind fun r1 e1 => (mb e1).bind fun r2 e2 => lift2 g (r1 e2) (r2 e2) e2
def GotO (G : Gh) (σ : St) (H : Hp) (rd : Rd') (env : En) (x : V) (H1 : Hp) : Prop := SR G σ H1 env ∧ Stay (Ch G σ) H H1 ∧ RdOk G σ H1 rd x
theorem TOo.bind {G : Gh} {σ : St} {H : Hp} {β : Type} {m : MO} {k : Rd' → En → R β} {env : En} (s : SR G σ H env) (PP : R β → Prop) (hs : ¬ PP .stuck) (he : ∀ e, PP (.err e) → PostE G e) (h : PP ((m env).bind k)) :
    TOo G m σ H (fun x H1 => ∃ d env1, GotO G σ H d env1 x H1 ∧ PP (k d env1)) := by
  refine ⟨env, s, ?_⟩
  cases q : m env with
  | stuck => rw [q] at h; exact (hs h).elim
  | err e => rw [q] at h; exact he e h
  | ok d env1 => rw [q] at h; exact fun v H' a b c => ⟨d, env1, ⟨a, b, c⟩, h⟩
/-- readings go over to stronger wishes -/
theorem TEo.mono {G : Gh} {m : ME} {σ : St} {H : Hp} {Q Q' : VK} (h : TEo G m σ H Q) (i : ∀ v H', Q v H' → Q' v H') : TEo G m σ H Q' := by
  obtain ⟨env, s, q⟩ := h
  refine ⟨env, s, ?_⟩
  cases r : m env with
  | stuck => rw [r] at q; exact q
  | err e => rw [r] at q; exact q
  | ok d env1 => rw [r] at q; exact fun v H' a b c => i _ _ (q v H' a b c)
theorem TOo.mono {G : Gh} {m : MO} {σ : St} {H : Hp} {Q Q' : VK} (h : TOo G m σ H Q) (i : ∀ v H', Q v H' → Q' v H') : TOo G m σ H Q' := by
  obtain ⟨env, s, q⟩ := h
  refine ⟨env, s, ?_⟩
  cases r : m env with
  | stuck => rw [r] at q; exact q
  | err e => rw [r] at q; exact q
  | ok d env1 => rw [r] at q; exact fun v H' a b c => i _ _ (q v H' a b c)
section
variable {X : Cx} {G : Gh} {a b : Expr} {ma mb : MO} {pos : Pos} {g : D → D → Option D}
theorem op_imp {σ : St} {H : Hp} {Q : VK} (h : TEo G (mOp2 g ma mb) σ H Q) : tOp (rOf G g) (TOo G ma) (TOo G mb) σ H Q := by
  obtain ⟨env, s, q⟩ := h
  refine (TOo.bind s (Post G σ H Q) (fun z => z) (fun _ z => z) q).mono fun x H1 ⟨r1, e1, ⟨s1, st1, g1⟩, q1⟩ => ?_
  refine (TOo.bind s1 (Post G σ H Q) (fun z => z) (fun _ z => z) q1).mono fun y H2 ⟨r2, e2, ⟨s2, st2, g2⟩, q2⟩ => ?_
  have k1 := g1 H2 e2 s2 st2
  have k2 := g2 H2 e2 s2 (.refl _ _)
  unfold lift2 at q2
  split at q2
  · rename_i d1 d2 h1 h2
    split at q2
    · rename_i d hd
      exact ⟨Av G σ, d1, d2, d, k1 _ h1, k2 _ h2, hd, fun a ha => let ⟨o, z, _⟩ := s2.there a ha; ⟨o, z⟩, fun v H' e r => q2 v H' (s2.ext e) ((st1.trans st2).trans (e.stay _)) r⟩
    · exact q2.elim
  · exact q2.elim
theorem se_bin {op : Operator} (ho : OpR X (binaryOp op) (rOf G g)) (ha : SO X G a ma) (hb : SO X G b mb) : SE X G (.BinOp a op b pos) (mOp2 g ma mb) := PE.imp (pe_op ho ha hb) fun σ H Q h => op_imp h
theorem se_cmp {op : CmpOp} (ho : OpR X (compareOp op) (rOf G g)) (ha : SO X G a ma) (hb : SO X G b mb) (hm : behindInMarks op b = false := by first | exact nomark _ | rfl) : SE X G (.Compare a [op] [b] pos) (mOp2 g ma mb) :=
  PE.imp (pe_cmpR ho ha hb hm) fun σ H Q h => op_imp h
/-- a value that is a bool, as a test -/
def mTst (m : ME) : MT := fun env => (m env).bind fun d s => match d with
  | .bl b => .ok b s
  | _ => .stuck
theorem tst_imp {m : ME} {σ : St} {H : Hp} {Q : Bool → Hp → Prop} (h : TTo G (mTst m) σ H Q) : TEo G m σ H (fun x H' => ∃ k, x = .bl k ∧ Q k H') := by
  obtain ⟨env, s, q⟩ := h
  refine (TEo.bind s (PostT G σ H Q) (fun z => z) (fun _ z => z) q).mono fun x H1 ⟨d, e1, ⟨s1, st1, g1⟩, q1⟩ => ?_
  cases g1 with
  | bl b => exact ⟨b, rfl, q1 H1 s1 st1⟩
  | _ => exact False.elim q1
theorem st_cmp {op : CmpOp} (ho : OpR X (compareOp op) (rOf G g)) (ha : SO X G a ma) (hb : SO X G b mb) (hm : behindInMarks op b = false := by first | exact nomark _ | rfl) : ST X G (.Compare a [op] [b] pos) (mTst (mOp2 g ma mb)) :=
  PT.imp (pt_cmpR ho ha hb hm) fun σ H Q h => op_imp (tst_imp h)
theorem st_val {e : Expr} {m : ME} (h : SE X G e m) (he : ∀ whole, isTrue e X.env whole = (do let v ← whole; standAt e.pos; holding [v] (truthy v)) := by intro _; rfl) : ST X G e (mTst m) :=
  PT.imp (pt_val h he) fun σ H Q h => tst_imp h
end
end FT

set_option Elab.async false
set_option linter.all false
set_option maxRecDepth 100000
set_option maxHeartbeats 1000000
/-! FTC: chains, and, or, not, conditional expressions, displays, subscripts, slices. -/
namespace FT
open PySem PySem.Spec PyProof.Rows L2
section
variable {X : Cx} {G : Gh} {a b c e : Expr} {pos : Pos}

/-! ### a <= b <= c -/
def mChain (g g' : D → D → Option D) (ma mb mc : MO) : ME := fun env => (ma env).bind fun r1 e1 => (mb e1).bind fun r2 e2 => (lift2 g (r1 e2) (r2 e2) e2).bind fun z e3 => match z with
  | .bl true => (mc e3).bind fun r3 e4 => lift2 g' (r2 e4) (r3 e4) e4
  | .bl false => .ok (.bl false) e3
  | _ => .stuck
theorem chain_imp {g g' : D → D → Option D} {ma mb mc : MO} {σ : St} {H : Hp} {Q : VK} (h : TEo G (mChain g g' ma mb mc) σ H Q) : tChain (rOf G g) (rOf G g') (TOo G ma) (TOo G mb) (TOo G mc) σ H Q := by
  obtain ⟨env, s, q⟩ := h
  refine (TOo.bind s (Post G σ H Q) (fun z => z) (fun _ z => z) q).mono fun x H1 ⟨r1, e1, ⟨s1, st1, g1⟩, q1⟩ => ?_
  refine (TOo.bind s1 (Post G σ H Q) (fun z => z) (fun _ z => z) q1).mono fun y H2 ⟨r2, e2, ⟨s2, st2, g2⟩, q2⟩ => ?_
  have k1 := g1 H2 e2 s2 st2
  have k2 := g2 H2 e2 s2 (.refl _ _)
  unfold lift2 at q2
  split at q2
  · rename_i d1 d2 h1 h2
    split at q2
    · rename_i d hd
      refine ⟨Av G σ, d1, d2, d, k1 _ h1, k2 _ h2, hd, fun a ha => let ⟨o, z, _⟩ := s2.there a ha; ⟨o, z⟩, fun v H3 e r => ?_⟩
      have s3 := s2.ext e
      cases r with
      | bl kb =>
        refine ⟨kb, rfl, ?_⟩
        cases kb with
        | false =>
          rw [if_neg Bool.false_ne_true]
          exact q2 _ _ s3 ((st1.trans st2).trans (e.stay _)) (.bl false)
        | true =>
          rw [if_pos rfl]
          refine (TOo.bind s3 (Post G σ H Q) (fun z => z) (fun _ z => z) q2).mono fun w H4 ⟨r3, e4, ⟨s4, st4, g4⟩, q4⟩ => ?_
          have k3 := g2 H4 e4 s4 (Stay.trans (e.stay _) st4)
          have k4 := g4 H4 e4 s4 (.refl _ _)
          split at q4
          · rename_i d3 d4 h3 h4
            split at q4
            · rename_i d' hd'
              exact ⟨Av G σ, d3, d4, d', k3 _ h3, k4 _ h4, hd', fun a ha => let ⟨o, z, _⟩ := s4.there a ha; ⟨o, z⟩, fun v H' e' r => q4 v H' (s4.ext e') ((((st1.trans st2).trans (e.stay _)).trans st4).trans (e'.stay _)) r⟩
            · exact q4.elim
          · exact q4.elim
      | _ => exact False.elim q2
    · exact q2.elim
  · exact q2.elim
theorem se_chain {op op' : CmpOp} {g g' : D → D → Option D} {ma mb mc : MO} (ho : OpR X (compareOp op) (rOf G g)) (ho' : OpR X (compareOp op') (rOf G g')) (ha : SO X G a ma) (hb : SO X G b mb) (hc : SO X G c mc)
    (hm : lastMarks [op, op'] [b, c] = false := by with_unfolding_all rfl) : SE X G (.Compare a [op, op'] [b, c] pos) (mChain g g' ma mb mc) := PE.imp (pe_chain ho ho' ha hb hc hm) fun _ _ _ h => chain_imp h
theorem st_chain {op op' : CmpOp} {g g' : D → D → Option D} {ma mb mc : MO} (ho : OpR X (compareOp op) (rOf G g)) (ho' : OpR X (compareOp op') (rOf G g')) (ha : SO X G a ma) (hb : SO X G b mb) (hc : SO X G c mc)
    (hm : lastMarks [op, op'] [b, c] = false := by with_unfolding_all rfl) : ST X G (.Compare a [op, op'] [b, c] pos) (mTst (mChain g g' ma mb mc)) := PT.imp (pt_chain ho ho' ha hb hc hm) fun _ _ _ h => chain_imp (tst_imp h)

/-! ### and, or, not: tests -/
def mNotT (m : MT) : MT := fun env => (m env).bind fun k s => .ok (!k) s
def mAndT (m m' : MT) : MT := fun env => (m env).bind fun k s => if k = true then m' s else .ok false s
def mOrT (m m' : MT) : MT := fun env => (m env).bind fun k s => if k = true then .ok true s else m' s
theorem TTo.mono {m : MT} {σ : St} {H : Hp} {Q Q' : Bool → Hp → Prop} (h : TTo G m σ H Q) (i : ∀ v H', Q v H' → Q' v H') : TTo G m σ H Q' := by
  obtain ⟨env, s, q⟩ := h
  refine ⟨env, s, ?_⟩
  cases r : m env with
  | stuck => rw [r] at q; exact q
  | err e => rw [r] at q; exact q
  | ok d env1 => rw [r] at q; exact fun H' a b => i _ _ (q H' a b)
theorem st_not {m : MT} (h : ST X G a m) : ST X G (.UnaryOp .Not a pos) (mNotT m) := PT.imp (pt_not h) fun σ H Q ⟨env, s, q⟩ =>
  (TTo.bind s (PostT G σ H Q) (fun z => z) (fun _ z => z) q).mono fun k H1 ⟨e1, s1, st1, q1⟩ => q1 H1 s1 st1
theorem sw_and1 {m : MT} (h : ST X G a m) : SW X G (.BoolOp .And [a] pos) m := pw_and1 h
theorem sw_or1 {m : MT} (h : ST X G a m) : SW X G (.BoolOp .Or [a] pos) m := pw_or1 h
theorem sw_and {m m' : MT} {rest : List Expr} (h : ST X G a m) (h' : SW X G (.BoolOp .And (b :: rest) pos) m') : SW X G (.BoolOp .And (a :: b :: rest) pos) (mAndT m m') := PW.imp (pw_and h h') fun σ H Q ⟨env, s, q⟩ => by
  refine (TTo.bind s (PostT G σ H Q) (fun z => z) (fun _ z => z) q).mono fun k H1 ⟨e1, s1, st1, q1⟩ => ?_
  cases k with
  | true => exact (if_pos rfl).mpr ⟨e1, s1, q1.from st1⟩
  | false => exact (if_neg Bool.false_ne_true).mpr (q1 H1 s1 st1)
theorem sw_or {m m' : MT} {rest : List Expr} (h : ST X G a m) (h' : SW X G (.BoolOp .Or (b :: rest) pos) m') : SW X G (.BoolOp .Or (a :: b :: rest) pos) (mOrT m m') := PW.imp (pw_or h h') fun σ H Q ⟨env, s, q⟩ => by
  refine (TTo.bind s (PostT G σ H Q) (fun z => z) (fun _ z => z) q).mono fun k H1 ⟨e1, s1, st1, q1⟩ => ?_
  cases k with
  | true => exact (if_pos rfl).mpr (q1 H1 s1 st1)
  | false => exact (if_neg Bool.false_ne_true).mpr ⟨e1, s1, q1.from st1⟩
theorem st_bool {m : MT} (h : SW X G e m) : ST X G e m := PW.pt h

/-! ### .. as values -/
def mNotV (m : ME) : ME := fun env => (m env).bind fun d s => match d with
  | .bl k => .ok (.bl (!k)) s
  | _ => .stuck
def mAndV (m m' : ME) : ME := fun env => (m env).bind fun d s => match d with
  | .bl k => if k = true then m' s else .ok (.bl false) s
  | _ => .stuck
def mOrV (m m' : ME) : ME := fun env => (m env).bind fun d s => match d with
  | .bl k => if k = true then .ok (.bl true) s else m' s
  | _ => .stuck
theorem se_not {m : ME} (h : SE X G a m) : SE X G (.UnaryOp .Not a pos) (mNotV m) := PE.imp (pe_not h) fun σ H Q ⟨env, s, q⟩ =>
  (TEo.bind s (Post G σ H Q) (fun z => z) (fun _ z => z) q).mono fun x H1 ⟨d, e1, ⟨s1, st1, g1⟩, q1⟩ => by
    cases g1 with
    | bl k => exact ⟨k, rfl, q1 _ _ s1 st1 (.bl _)⟩
    | _ => exact False.elim q1
theorem se_one {op} {m : ME} (h : SE X G a m) : SE X G (.BoolOp op [a] pos) m := pe_one h
theorem se_and {m m' : ME} {rest : List Expr} (h : SE X G a m) (h' : SE X G (.BoolOp .And (b :: rest) pos) m') : SE X G (.BoolOp .And (a :: b :: rest) pos) (mAndV m m') := PE.imp (pe_and h h') fun σ H Q ⟨env, s, q⟩ =>
  (TEo.bind s (Post G σ H Q) (fun z => z) (fun _ z => z) q).mono fun x H1 ⟨d, e1, ⟨s1, st1, g1⟩, q1⟩ => by
    cases g1 with
    | bl k =>
      refine ⟨k, rfl, ?_⟩
      cases k with
      | true => exact (if_pos rfl).mpr ⟨e1, s1, Post.from q1 st1⟩
      | false => exact (if_neg Bool.false_ne_true).mpr (q1 _ H1 s1 st1 (.bl _))
    | _ => exact False.elim q1
theorem se_or {m m' : ME} {rest : List Expr} (h : SE X G a m) (h' : SE X G (.BoolOp .Or (b :: rest) pos) m') : SE X G (.BoolOp .Or (a :: b :: rest) pos) (mOrV m m') := PE.imp (pe_or h h') fun σ H Q ⟨env, s, q⟩ =>
  (TEo.bind s (Post G σ H Q) (fun z => z) (fun _ z => z) q).mono fun x H1 ⟨d, e1, ⟨s1, st1, g1⟩, q1⟩ => by
    cases g1 with
    | bl k =>
      refine ⟨k, rfl, ?_⟩
      cases k with
      | true => exact (if_pos rfl).mpr (q1 _ H1 s1 st1 (.bl _))
      | false => exact (if_neg Bool.false_ne_true).mpr ⟨e1, s1, Post.from q1 st1⟩
    | _ => exact False.elim q1

/-! ### a if t else b -/
def mIf (t : MT) (m m' : ME) : ME := fun env => (t env).bind fun k s => if k = true then m s else m' s
theorem se_if {t : MT} {m m' : ME} (ht : ST X G c t) (h : SE X G a m) (h' : SE X G b m') : SE X G (.IfExp c a b pos) (mIf t m m') := PE.imp (pe_ifExp ht h h') fun σ H Q ⟨env, s, q⟩ => by
  refine (TTo.bind s (Post G σ H Q) (fun z => z) (fun _ z => z) q).mono fun k H1 ⟨e1, s1, st1, q1⟩ => ?_
  cases k with
  | true => exact (if_pos rfl).mpr ⟨e1, s1, Post.from q1 st1⟩
  | false => exact (if_neg Bool.false_ne_true).mpr ⟨e1, s1, Post.from q1 st1⟩

/-! ### displays -/
abbrev MA := En → R (List D)
def PostA (G : Gh) (σ : St) (H : Hp) (Q : List V → Hp → Prop) : R (List D) → Prop
  | .stuck => False
  | .err e => PostE G e
  | .ok ds env' => ∀ vs H', SR G σ H' env' → Stay (Ch G σ) H H' → Reps G.K G.mg H' (Av G σ) ds vs → Q vs H'
def TAo (G : Gh) (m : MA) : TA := fun σ H Q => ∃ env, SR G σ H env ∧ PostA G σ H Q (m env)
structure SA (X : Cx) (G : Gh) (es : List Expr) (m : MA) : Prop where
  pa : PA X es (TAo G m)
  len : ∀ env ds s, m env = .ok ds s → ds.length = es.length
theorem PostA.from {σ : St} {H H1 : Hp} {Q : List V → Hp → Prop} {r : R (List D)} (h : PostA G σ H Q r) (s : Stay (Ch G σ) H H1) : PostA G σ H1 Q r := by
  cases r with
  | stuck => exact h
  | err e => exact h
  | ok d env => exact fun v H' a b c => h v H' a (s.trans b) c
theorem TAo.bind {σ : St} {H : Hp} {β : Type} {m : MA} {k : List D → En → R β} {env : En} (s : SR G σ H env) (PP : R β → Prop) (hs : ¬ PP .stuck) (he : ∀ e, PP (.err e) → PostE G e) (h : PP ((m env).bind k)) :
    TAo G m σ H (fun x H1 => ∃ ds env1, m env = .ok ds env1 ∧ SR G σ H1 env1 ∧ Stay (Ch G σ) H H1 ∧ Reps G.K G.mg H1 (Av G σ) ds x ∧ PP (k ds env1)) := by
  refine ⟨env, s, ?_⟩
  cases q : m env with
  | stuck => rw [q] at h; exact (hs h).elim
  | err e => rw [q] at h; exact he e h
  | ok d env1 => rw [q] at h; exact fun v H' a b c => ⟨d, env1, rfl, a, b, c, h⟩
theorem TAo.mono {m : MA} {σ : St} {H : Hp} {Q Q' : List V → Hp → Prop} (h : TAo G m σ H Q) (i : ∀ v H', Q v H' → Q' v H') : TAo G m σ H Q' := by
  obtain ⟨env, s, q⟩ := h
  refine ⟨env, s, ?_⟩
  cases r : m env with
  | stuck => rw [r] at q; exact q
  | err e => rw [r] at q; exact q
  | ok d env1 => rw [r] at q; exact fun v H' a b c => i _ _ (q v H' a b c)
def mNilA : MA := fun env => .ok [] env
def mConsA (m : ME) (ms : MA) : MA := fun env => (m env).bind fun d s => (ms s).bind fun ds s' => .ok (d :: ds) s'
theorem sa_nil : SA X G [] mNilA := ⟨PA.imp pa_nil fun σ H Q ⟨env, s, q⟩ => q [] H s (.refl _ _) .nil, fun _ _ _ h => by cases h; rfl⟩
theorem sa_cons {es : List Expr} {m : ME} {ms : MA} (h : SE X G e m) (hr : SA X G es ms) (hs : starEach (e :: es) X.env = (false, eval e X.env) :: starEach es X.env := by rfl) : SA X G (e :: es) (mConsA m ms) := by
  refine ⟨PA.imp (pa_cons h hr.pa hs) fun σ H Q ⟨env, s, q⟩ => ?_, fun env ds s' h => ?_⟩
  · refine (TEo.bind s (PostA G σ H Q) (fun z => z) (fun _ z => z) q).mono fun x H1 ⟨d, e1, ⟨s1, st1, g1⟩, q1⟩ => ?_
    refine (TAo.bind s1 (PostA G σ H Q) (fun z => z) (fun _ z => z) q1).mono fun xs H2 ⟨ds, e2, _, s2, st2, g2, q2⟩ => ?_
    exact q2 _ _ s2 (st1.trans st2) (.cons (g1.stay st2.av) g2)
  · unfold mConsA at h
    cases q : m env with
    | stuck => rw [q] at h; cases h
    | err e => rw [q] at h; cases h
    | ok d e1 =>
      rw [q] at h
      have h : ((ms e1).bind fun ds s' => R.ok (d :: ds) s') = .ok ds s' := h
      cases q2 : ms e1 with
      | stuck => rw [q2] at h; cases h
      | err e => rw [q2] at h; cases h
      | ok d2 e2 =>
        rw [q2] at h
        cases h
        have := hr.len e1 d2 _ q2
        simp [this]
def mTup (m : MA) : ME := fun env => (m env).bind fun ds s => .ok (.tup ds) s
def mLst (m : MA) : ME := fun env => (m env).bind fun ds s => .ok (.lst ds) s
theorem size1000 {n : Nat} (h : n ≤ 1000) : n ≤ sizeLine := Nat.le_trans h (by decide)
theorem SR.newTup {σ : St} {H : Hp} {env : En} (s : SR G σ H env) {ds : List D} {vs : List V} (r : Reps G.K G.mg H (Av G σ) ds vs) {p : Addr} (n : H p = none) :
    SR G σ (upd H p (.tup vs)) env ∧ Ext H (upd H p (.tup vs)) ∧ Rep G.K G.mg (upd H p (.tup vs)) (Av G σ) (.tup ds) (.ref p) :=
  ⟨s.ext (Ext.upd n), Ext.upd n, .tup upd_same (s.newA n) (r.ext (Ext.upd n))⟩
theorem SR.newLst {σ : St} {H : Hp} {env : En} (s : SR G σ H env) {ds : List D} {vs : List V} (r : Reps G.K G.mg H (Av G σ) ds vs) {p : Addr} (n : H p = none) :
    SR G σ (upd H p (.lst vs)) env ∧ Ext H (upd H p (.lst vs)) ∧ Rep G.K G.mg (upd H p (.lst vs)) (Av G σ) (.lst ds) (.ref p) :=
  ⟨s.ext (Ext.upd n), Ext.upd n, .lst upd_same (s.newA n) (r.ext (Ext.upd n))⟩
theorem se_tup {es : List Expr} {m : MA} {k} (h : SA X G es m) (hl : es.length ≤ 1000 := by decide) : SE X G (.Tuple es k pos) (mTup m) := PE.imp (pe_tup h.pa) fun σ H Q ⟨env, s, q⟩ => by
  refine (TAo.bind s (Post G σ H Q) (fun z => z) (fun _ z => z) q).mono fun xs H1 ⟨ds, e1, eq, s1, st1, g1, q1⟩ => ?_
  refine ⟨size1000 (by rw [← g1.length, h.len _ _ _ eq]; exact hl), fun p n => ?_⟩
  obtain ⟨a, b, c⟩ := s1.newTup g1 n
  exact q1 _ _ a (st1.trans (b.stay _)) c
theorem se_lst {es : List Expr} {m : MA} (h : SA X G es m) (hl : es.length ≤ 1000 := by decide) : SE X G (.List es pos) (mLst m) := PE.imp (pe_lst h.pa) fun σ H Q ⟨env, s, q⟩ => by
  refine (TAo.bind s (Post G σ H Q) (fun z => z) (fun _ z => z) q).mono fun xs H1 ⟨ds, e1, eq, s1, st1, g1, q1⟩ => ?_
  refine ⟨size1000 (by rw [← g1.length, h.len _ _ _ eq]; exact hl), fun p n => ?_⟩
  obtain ⟨a, b, c⟩ := s1.newLst g1 n
  exact q1 _ _ a (st1.trans (b.stay _)) c

/-! ### subscripts -/
theorem se_ix {g : D → D → Option D} {ma mb : MO} (hr : IxR X (rOf G g)) (ha : SO X G a ma) (hb : SO X G b mb) (hs : PlainIx b := by exact fun _ _ => rfl) : SE X G (.Subscript a b pos) (mOp2 g ma mb) := PE.imp (pe_ix hr ha hb hs) fun σ H Q h => op_imp h
/-- a part of a slice -/
abbrev MPt := En → R (Option Int)
def PostP (G : Gh) (σ : St) (H : Hp) (Q : Option Int → Hp → Prop) : R (Option Int) → Prop
  | .stuck => False
  | .err e => PostE G e
  | .ok o env' => ∀ H', SR G σ H' env' → Stay (Ch G σ) H H' → Q o H'
def TPo (G : Gh) (m : MPt) : TO := fun σ H Q => ∃ env, SR G σ H env ∧ PostP G σ H Q (m env)
def SP' (X : Cx) (G : Gh) (e : Option Expr) (m : MPt) : Prop := PO X e (TPo G m)
def mNoP : MPt := fun env => .ok none env
def mPt (m : ME) : MPt := fun env => (m env).bind fun d s => match d with
  | .int i => .ok (some i) s
  | _ => .stuck
theorem PO.imp {e : Option Expr} {t t' : TO} (h : PO X e t) (i : ∀ σ H Q, t' σ H Q → t σ H Q) : PO X e t' := ⟨fun pins s σ H Q I q => h.run pins s σ H Q I (i σ H Q q)⟩
theorem sp_none : SP' X G none mNoP := PO.imp po_none fun σ H Q ⟨env, s, q⟩ => q H s (.refl _ _)
theorem sp_some {m : ME} (h : SE X G e m) : SP' X G (some e) (mPt m) := PO.imp (po_some h) fun σ H Q ⟨env, s, q⟩ => by
  refine (TEo.bind s (PostP G σ H Q) (fun z => z) (fun _ z => z) q).mono fun x H1 ⟨d, e1, ⟨s1, st1, g1⟩, q1⟩ => ?_
  cases g1 with
  | int i => exact ⟨i, rfl, q1 H1 s1 st1⟩
  | _ => exact False.elim q1
theorem TPo.bind {σ : St} {H : Hp} {β : Type} {m : MPt} {k : Option Int → En → R β} {env : En} (s : SR G σ H env) (PP : R β → Prop) (hs : ¬ PP .stuck) (he : ∀ e, PP (.err e) → PostE G e) (h : PP ((m env).bind k)) :
    TPo G m σ H (fun b H1 => ∃ env1, SR G σ H1 env1 ∧ Stay (Ch G σ) H H1 ∧ PP (k b env1)) := by
  refine ⟨env, s, ?_⟩
  cases q : m env with
  | stuck => rw [q] at h; exact (hs h).elim
  | err e => rw [q] at h; exact he e h
  | ok d env1 => rw [q] at h; exact fun H' a b => ⟨env1, a, b, h⟩
theorem TPo.mono {m : MPt} {σ : St} {H : Hp} {Q Q' : Option Int → Hp → Prop} (h : TPo G m σ H Q) (i : ∀ v H', Q v H' → Q' v H') : TPo G m σ H Q' := by
  obtain ⟨env, s, q⟩ := h
  refine ⟨env, s, ?_⟩
  cases r : m env with
  | stuck => rw [r] at q; exact q
  | err e => rw [r] at q; exact q
  | ok d env1 => rw [r] at q; exact fun H' a b => i _ _ (q H' a b)
/-- the reading of a slice with the denotation g -/
def rSlG (G : Gh) (g : D → Option Int → Option Int → Option D) : V → Option Int → Option Int → Hp → VK → Prop := fun x lo hi H Q => ∃ (av : Addr → Prop) (dx d : D), RepT G.K G.mg H av dx x ∧ g dx lo hi = some d ∧ (∀ a, av a → ∃ o, H a = some o) ∧
  ∀ v H', Ext H H' → Rep G.K G.mg H' av d v → Q v H'
def lift1 {α : Type} (g : α → Option D) (x : Option α) (s : En) : R D := match x with
  | some a => (match g a with
    | some d => .ok d s
    | none => .stuck)
  | none => .stuck
def mSl (g : D → Option Int → Option Int → Option D) (m : MO) (l h : MPt) : ME := fun env => (m env).bind fun r e1 => (l e1).bind fun lo e2 => (h e2).bind fun hi e3 => lift1 (fun d => g d lo hi) (r e3) e3
theorem se_slice {g : D → Option Int → Option Int → Option D} {m : MO} {l h : MPt} {lo hi : Option Expr} {p2} (hr : SlR X (rSlG G g)) (ha : SO X G a m) (hl : SP' X G lo l) (hh : SP' X G hi h) : SE X G (.Subscript a (.Slice lo hi none p2) pos) (mSl g m l h) :=
  PE.imp (pe_slice hr ha hl hh) fun σ H Q ⟨env, s, q⟩ => by
  refine (TOo.bind s (Post G σ H Q) (fun z => z) (fun _ z => z) q).mono fun x H1 ⟨r1, e1, ⟨s1, st1, g1⟩, q1⟩ => ?_
  refine (TPo.bind s1 (Post G σ H Q) (fun z => z) (fun _ z => z) q1).mono fun lo H2 ⟨e2, s2, st2, q2⟩ => ?_
  refine (TPo.bind s2 (Post G σ H Q) (fun z => z) (fun _ z => z) q2).mono fun hi H3 ⟨e3, s3, st3, q3⟩ => ?_
  have k1 := g1 H3 e3 s3 (st2.trans st3)
  unfold lift1 at q3
  split at q3
  · rename_i d1 h1
    split at q3
    · rename_i d hd
      exact ⟨Av G σ, d1, d, k1 _ h1, hd, fun a ha => let ⟨o, z, _⟩ := s3.there a ha; ⟨o, z⟩, fun v H' e r => q3 v H' (s3.ext e) (((st1.trans st2).trans st3).trans (e.stay _)) r⟩
    · exact q3.elim
  · exact q3.elim

/-! ### built-in functions, methods: by values -/
inductive RepTs (K : PySem.W.Frag) (mg : Str → Option Value) (H : Hp) (av : Addr → Prop) : List D → List V → Prop where
  | nil : RepTs K mg H av [] []
  | cons {d : D} {v : V} {ds : List D} {vs : List V} : RepT K mg H av d v → RepTs K mg H av ds vs → RepTs K mg H av (d :: ds) (v :: vs)
def rFn (G : Gh) (g : List D → Option D) : List V → Hp → VK → Prop := fun xs H Q => ∃ (av : Addr → Prop) (ds : List D) (d : D), RepTs G.K G.mg H av ds xs ∧ g ds = some d ∧ (∀ a, av a → ∃ o, H a = some o) ∧ ∀ v H', Ext H H' → Rep G.K G.mg H' av d v → Q v H'
/-- arguments, read where the call is done -/
abbrev MOs := En → R (List Rd')
def RdsOk (G : Gh) (σ : St) (H' : Hp) (rds : List Rd') (vs : List V) : Prop := ∀ H'' env'', SR G σ H'' env'' → Stay (Ch G σ) H' H'' → ∀ ds, rds.mapM (fun r => r env'') = some ds → RepTs G.K G.mg H'' (Av G σ) ds vs
def PostOs (G : Gh) (σ : St) (H : Hp) (Q : List V → Hp → Prop) : R (List Rd') → Prop
  | .stuck => False
  | .err e => PostE G e
  | .ok rds env' => ∀ vs H', SR G σ H' env' → Stay (Ch G σ) H H' → RdsOk G σ H' rds vs → Q vs H'
def TOs (G : Gh) (m : MOs) : TA := fun σ H Q => ∃ env, SR G σ H env ∧ PostOs G σ H Q (m env)
def SOs (X : Cx) (G : Gh) (es : List Expr) (m : MOs) : Prop := PA X es (TOs G m)
def mNilO : MOs := fun env => .ok [] env
def mConsO (m : MO) (ms : MOs) : MOs := fun env => (m env).bind fun r s => (ms s).bind fun rs s' => .ok (r :: rs) s'
theorem TOs.bind {σ : St} {H : Hp} {β : Type} {m : MOs} {k : List Rd' → En → R β} {env : En} (s : SR G σ H env) (PP : R β → Prop) (hs : ¬ PP .stuck) (he : ∀ e, PP (.err e) → PostE G e) (h : PP ((m env).bind k)) :
    TOs G m σ H (fun x H1 => ∃ ds env1, SR G σ H1 env1 ∧ Stay (Ch G σ) H H1 ∧ RdsOk G σ H1 ds x ∧ PP (k ds env1)) := by
  refine ⟨env, s, ?_⟩
  cases q : m env with
  | stuck => rw [q] at h; exact (hs h).elim
  | err e => rw [q] at h; exact he e h
  | ok d env1 => rw [q] at h; exact fun v H' a b c => ⟨d, env1, a, b, c, h⟩
theorem TOs.mono {m : MOs} {σ : St} {H : Hp} {Q Q' : List V → Hp → Prop} (h : TOs G m σ H Q) (i : ∀ v H', Q v H' → Q' v H') : TOs G m σ H Q' := by
  obtain ⟨env, s, q⟩ := h
  refine ⟨env, s, ?_⟩
  cases r : m env with
  | stuck => rw [r] at q; exact q
  | err e => rw [r] at q; exact q
  | ok d env1 => rw [r] at q; exact fun v H' a b c => i _ _ (q v H' a b c)
theorem mapM_nil {env : En} {ds : List D} (h : ([] : List Rd').mapM (fun r => r env) = some ds) : ds = [] := by
  have h : some ([] : List D) = some ds := h
  exact (Option.some.inj h).symm
theorem mapM_cons {env : En} {r : Rd'} {rs : List Rd'} {ds : List D} (h : (r :: rs).mapM (fun r => r env) = some ds) : ∃ d ds', ds = d :: ds' ∧ r env = some d ∧ rs.mapM (fun r => r env) = some ds' := by
  rw [List.mapM_cons] at h
  cases q : r env with
  | none => rw [q] at h; cases h
  | some d =>
    rw [q] at h
    cases q2 : rs.mapM (fun r => r env) with
    | none => rw [q2] at h; cases h
    | some ds' => rw [q2] at h; cases h; exact ⟨d, ds', rfl, rfl, rfl⟩
theorem sos_nil : SOs X G [] mNilO := PA.imp pa_nil fun σ H Q ⟨env, s, q⟩ => q [] H s (.refl _ _) fun H'' env'' _ _ ds h => by rw [mapM_nil h]; exact .nil
theorem sos_cons {es : List Expr} {m : MO} {ms : MOs} (h : SO X G e m) (hr : SOs X G es ms) (hs : starEach (e :: es) X.env = (false, eval e X.env) :: starEach es X.env := by rfl) : SOs X G (e :: es) (mConsO m ms) :=
  PA.imp (pa_cons h hr hs) fun σ H Q ⟨env, s, q⟩ => by
  refine (TOo.bind s (PostOs G σ H Q) (fun z => z) (fun _ z => z) q).mono fun x H1 ⟨d, e1, ⟨s1, st1, g1⟩, q1⟩ => ?_
  refine (TOs.bind s1 (PostOs G σ H Q) (fun z => z) (fun _ z => z) q1).mono fun xs H2 ⟨ds, e2, s2, st2, g2, q2⟩ => ?_
  refine q2 _ _ s2 (st1.trans st2) fun H'' env'' s3 st3 ds h => ?_
  obtain ⟨d', ds', rfl, h1, h2⟩ := mapM_cons h
  exact .cons (g1 H'' env'' s3 (st2.trans st3) _ h1) (g2 H'' env'' s3 st3 _ h2)
def mFn (g : List D → Option D) (m : MOs) : ME := fun env => (m env).bind fun rs e1 => lift1 g (rs.mapM (fun r => r e1)) e1
theorem fn_imp {g : List D → Option D} {m : MOs} {σ : St} {H : Hp} {Q : VK} (h : TEo G (mFn g m) σ H Q) : tCB (rFn G g) (TOs G m) σ H Q := by
  obtain ⟨env, s, q⟩ := h
  refine (TOs.bind s (Post G σ H Q) (fun z => z) (fun _ z => z) q).mono fun xs H1 ⟨rs, e1, s1, st1, g1, q1⟩ => ?_
  unfold lift1 at q1
  split at q1
  · rename_i ds h1
    split at q1
    · rename_i d hd
      exact ⟨Av G σ, ds, d, g1 H1 e1 s1 (.refl _ _) _ h1, hd, fun a ha => let ⟨o, z, _⟩ := s1.there a ha; ⟨o, z⟩, fun v H' e r => q1 v H' (s1.ext e) (st1.trans (e.stay _)) r⟩
    · exact q1.elim
  · exact q1.elim
theorem se_fnB {g : List D → Option D} {x : Str} {p : Pos} {es : List Expr} {m : MOs} {id : String} (hc : CallR X (.builtin id) (rFn G g)) (hg : Gl X x) (hm : X.mg x = none) (hv : bootBuiltins x = some (.builtin id)) (ha : SOs X G (e :: es) m)
    (hn : x ≠ "__name__" := by decide) (hdb : (x == ("__debug__" : Str)) = false := by decide)
    (he : starEach (e :: es) X.env = (false, eval e X.env) :: starEach es X.env := by rfl) (hpl : (backTo pos (starEach es X.env)).any (·.1) = false := by rfl) : SE X G (.Call (.Name x p) (e :: es) [] pos) (mFn g m) :=
  PE.imp (pe_callB hc hg hm hv ha hn hdb he hpl) fun _ _ _ h => fn_imp h
theorem se_fnT {g : List D → Option D} {x : Str} {p : Pos} {es : List Expr} {m : MOs} {T : String} (hc : CallR X (.type T) (rFn G g)) (hg : Gl X x) (hm : X.mg x = none) (hv : bootBuiltins x = some (.type T)) (ha : SOs X G (e :: es) m)
    (hn : x ≠ "__name__" := by decide) (hdb : (x == ("__debug__" : Str)) = false := by decide)
    (he : starEach (e :: es) X.env = (false, eval e X.env) :: starEach es X.env := by rfl) (hpl : (backTo pos (starEach es X.env)).any (·.1) = false := by rfl) : SE X G (.Call (.Name x p) (e :: es) [] pos) (mFn g m) :=
  PE.imp (pe_callTy hc hg hm hv ha hn hdb he hpl) fun _ _ _ h => fn_imp h
end
end FT

set_option Elab.async false
set_option linter.all false
set_option maxRecDepth 100000
set_option maxHeartbeats 1000000
/-! FTD: what the operations of the language do to data. -/
namespace FT
open PySem PySem.Spec PyProof.Rows L2

mutual
def D.toP : D → PyData
  | .non => .none
  | .bl b => .bool b
  | .int i => .int i
  | .str x => .str x
  | .tup xs => .tuple (D.toPs xs)
  | .lst xs => .list (D.toPs xs)
  | .scr _ => .dict []
  | .fn _ => .dict []
  | .ty _ => .dict []
  | .ref _ => .dict []
  | .dcI _ => .dict []
  | .dcT _ => .dict []
def D.toPs : List D → List PyData
  | [] => []
  | x :: r => x.toP :: D.toPs r
end
theorem toPs_map : ∀ xs : List D, D.toPs xs = xs.map D.toP
  | [] => by simp [D.toPs]
  | x :: r => by rw [D.toPs, toPs_map r]; rfl
def okD (d : D) : Bool := SeqAt.shaped d.toP
def deq (x y : D) : Bool := PyData.eqv x.toP y.toP

section
variable {K : PySem.W.Frag} {mg : Str → Option Value} {H : Hp} {av : Addr → Prop}
mutual
theorem Rep.dp : ∀ {d : D} {v : V}, Rep K mg H av d v → d.toP.canLay0 = true → Dp K H v d.toP
  | _, _, .non, _ => by simp only [D.toP]; exact .non
  | _, _, .bl b, _ => by simp only [D.toP]; exact .bl b
  | _, _, .int i, _ => by simp only [D.toP]; exact .int i
  | _, _, .str x, _ => by simp only [D.toP]; exact .str x
  | _, _, .tup h n r, q => by
    simp only [D.toP]
    exact .tup (.of h) (Reps.dp r (by simpa [D.toP, PyData.canLay0] using q))
  | _, _, .ktup k r _, q => by
    simp only [D.toP]
    exact .tup k.sq (Reps.dp r (by simpa [D.toP, PyData.canLay0] using q))
  | _, _, .lst h n r, q => by
    simp only [D.toP]
    exact .lst (.of h) (Reps.dp r (by simpa [D.toP, PyData.canLay0] using q))
  | _, _, .scr h n, q => by simp [D.toP, PyData.canLay0] at q
  | _, _, .kscr k, q => by simp [D.toP, PyData.canLay0] at q
  | _, _, .fn e, q => by simp [D.toP, PyData.canLay0] at q
  | _, _, .ty n, q => by simp [D.toP, PyData.canLay0] at q
  | _, _, .ref a, q => by simp [D.toP, PyData.canLay0] at q
theorem Reps.dp : ∀ {ds : List D} {vs : List V}, Reps K mg H av ds vs → PyData.canLayAll0 (D.toPs ds) = true → DpAll K H vs (D.toPs ds)
  | _, _, .nil, _ => by simp only [D.toPs]; exact .nil
  | _, _, .cons r t, q => by
    simp only [D.toPs, PyData.canLayAll0, Bool.and_eq_true] at q
    simp only [D.toPs]
    exact .cons (Rep.dp r q.1) (Reps.dp t q.2)
end
theorem RepT.dp {d : D} {v : V} (r : RepT K mg H av d v) (q : okD d = true) : Dp K H v d.toP := by
  have q1 := SeqAt.canLay_of_shaped q
  cases r with
  | val r => exact r.dp q1
  | own o =>
    cases d with
    | lst ds =>
      obtain ⟨vs, h, r⟩ := o
      simp only [D.toP]
      exact .lst (.of h) (r.dp (by simpa [D.toP, PyData.canLay0] using q1))
    | dcI kvs => simp [D.toP, PyData.canLay0] at q1
    | dcT kvs => simp [D.toP, PyData.canLay0] at q1
    | _ => exact o.elim
theorem RepT.int {i : Int} {v : V} (r : RepT K mg H av (.int i) v) : v = .int i := by
  cases r with
  | val r => cases r; rfl
  | own o => exact o.elim
theorem RepT.bl {i : Bool} {v : V} (r : RepT K mg H av (.bl i) v) : v = .bl i := by
  cases r with
  | val r => cases r; rfl
  | own o => exact o.elim
theorem RepT.str {i : Str} {v : V} (r : RepT K mg H av (.str i) v) : v = .str i := by
  cases r with
  | val r => cases r; rfl
  | own o => exact o.elim
theorem RepT.non {v : V} (r : RepT K mg H av .non v) : v = .non := by
  cases r with
  | val r => cases r; rfl
  | own o => exact o.elim
theorem RepT.tup {ds : List D} {v : V} (r : RepT K mg H av (.tup ds) v) : ∃ a vs, v = .ref a ∧ SqT K H a vs ∧ Reps K mg H av ds vs := by
  cases r with
  | val r => exact r.tup_inv
  | own o => exact o.elim
theorem RepT.lst {ds : List D} {v : V} (r : RepT K mg H av (.lst ds) v) : ∃ a vs, v = .ref a ∧ H a = some (.lst vs) ∧ Reps K mg H av ds vs := by
  cases r with
  | val r => exact r.lst_inv
  | own o => obtain ⟨vs, h, r⟩ := o; exact ⟨_, vs, rfl, h, r⟩
theorem RepT.scr {ns : List Int} {v : V} (r : RepT K mg H av (.scr ns) v) : ∃ a, v = .ref a ∧ SqL K H a (ns.map V.int) := by
  cases r with
  | val r => exact r.scr_inv
  | own o => exact o.elim
/-- the whole value, for a tuple -/
theorem RepT.rep {ds : List D} {v : V} (r : RepT K mg H av (.tup ds) v) : Rep K mg H av (.tup ds) v := by
  cases r with
  | val r => exact r
  | own o => exact o.elim
end

/-! ### arithmetic -/
def BIG : Nat := 2 ^ 6000
theorem big_log {n : Nat} (h : n < BIG) : n.log2 < 6000 := PySem.Flt.log2_lt_of (k := 6000) (by omega) h
def gAdd : D → D → Option D
  | .int i, .int j => some (.int (i + j))
  | .str a, .str b => if a.length + b.length ≤ 1000000 then some (.str (a ++ b)) else none
  | .lst a, .lst b => if a.length + b.length ≤ 1000000 then some (.lst (a ++ b)) else none
  | .tup a, .tup b => if a.length + b.length ≤ 1000000 then some (.tup (a ++ b)) else none
  | _, _ => none
theorem line_of {n : Nat} (h : n ≤ 1000000) : n ≤ sizeLine := Nat.le_trans h (by decide)
section
variable {X : Cx} {G : Gh} {k : Nat}
theorem XG.sqT (x : XG X G k) {H : Hp} {a : Addr} {xs : List V} (h : SqT G.K H a xs) : SqT X.K H a xs := by rw [x.K]; exact h
theorem XG.sqL (x : XG X G k) {H : Hp} {a : Addr} {xs : List V} (h : SqL G.K H a xs) : SqL X.K H a xs := by rw [x.K]; exact h
theorem XG.dp (x : XG X G k) {H : Hp} {v : V} {d : PyData} (h : Dp G.K H v d) : Dp X.K H v d := by rw [x.K]; exact h
theorem new_no {av : Addr → Prop} {H : Hp} (hav : ∀ a, av a → ∃ o, H a = some o) {p : Addr} (n : H p = none) : ¬ av p := fun q => by
  obtain ⟨o, e⟩ := hav p q
  rw [n] at e; cases e
theorem op_gAdd0 (hK : X.K = G.K) : OpR X (binaryOp .Add) (rOf G gAdd) := by
  intro pins s σ H v1 v2 u1 u2 Q I r1 r2 ⟨av, dx, dy, d, h1, h2, hg, hav, q⟩
  unfold gAdd at hg
  split at hg
  · cases hg
    rw [h1.int] at r1; rw [h2.int] at r2
    exact op_add pins s σ H _ _ u1 u2 Q I r1 r2 ⟨_, _, rfl, rfl, q _ H (.refl _) (.int _)⟩
  · split at hg
    · rename_i hl
      cases hg
      rw [h1.str] at r1; rw [h2.str] at r2
      exact op_add_str pins s σ H _ _ u1 u2 Q I r1 r2 ⟨_, _, rfl, rfl, line_of hl, q _ H (.refl _) (.str _)⟩
    · cases hg
  · split at hg
    · rename_i hl
      cases hg
      obtain ⟨a1, vs1, rfl, e1, p1⟩ := h1.lst
      obtain ⟨a2, vs2, rfl, e2, p2⟩ := h2.lst
      refine op_cat pins s σ H _ _ u1 u2 Q I r1 r2 ⟨a1, a2, vs1, vs2, rfl, rfl, e1, e2, by rw [← p1.length, ← p2.length]; exact line_of hl, fun p n => q _ _ (Ext.upd n) (.lst upd_same (new_no hav n) ((p1.append p2).ext (Ext.upd n)))⟩
    · cases hg
  · split at hg
    · rename_i hl
      cases hg
      have t1 := h1.rep
      have t2 := h2.rep
      obtain ⟨a1, vs1, rfl, e1, p1⟩ := h1.tup
      obtain ⟨a2, vs2, rfl, e2, p2⟩ := h2.tup
      refine op_catA pins s σ H _ _ u1 u2 Q I r1 r2 ⟨a1, a2, vs1, vs2, rfl, rfl, (by rw [hK]; exact e1), (by rw [hK]; exact e2), by rw [← p1.length, ← p2.length]; exact line_of hl, fun z => ?_, fun z1 z2 => ?_, fun z1 z2 p n => q _ _ (Ext.upd n) (.tup upd_same (new_no hav n) ((p1.append p2).ext (Ext.upd n)))⟩
      · have z' := p1.nil_iff.mpr z
        subst z'
        exact q _ H (.refl _) t2
      · have z' := p2.nil_iff.mpr z2
        subst z'
        rw [List.append_nil] at q
        exact q _ H (.refl _) t1
    · cases hg
  · cases hg
theorem op_gAdd (x : XG X G k) : OpR X (binaryOp .Add) (rOf G gAdd) := op_gAdd0 x.K
def gSub : D → D → Option D
  | .int i, .int j => some (.int (i - j))
  | _, _ => none
theorem op_gSub (x : XG X G k) : OpR X (binaryOp .Sub) (rOf G gSub) := by
  intro pins s σ H v1 v2 u1 u2 Q I r1 r2 ⟨av, dx, dy, d, h1, h2, hg, hav, q⟩
  unfold gSub at hg
  split at hg
  · cases hg
    rw [h1.int] at r1; rw [h2.int] at r2
    exact op_sub pins s σ H _ _ u1 u2 Q I r1 r2 ⟨_, _, rfl, rfl, q _ H (.refl _) (.int _)⟩
  · cases hg
def gMul : D → D → Option D
  | .int i, .int j => if i.natAbs < BIG ∧ j.natAbs < BIG then some (.int (i * j)) else none
  | .tup a, .int j => if a ≠ [] ∧ a.length ≤ 1000 ∧ 2 ≤ j ∧ j ≤ 1000 then some (.tup (List.replicate j.toNat a).flatten) else none
  | .lst a, .int j => if a.length ≤ 1000 ∧ -1000 ≤ j ∧ j ≤ 1000 then some (.lst (List.replicate j.toNat a).flatten) else none
  | .str a, .int j => if 1 ≤ a.length ∧ a.length ≤ 1000 ∧ 2 ≤ j ∧ j ≤ 1000 then some (.str ⟨(List.replicate j.toNat a.cps).foldl (· ++ ·) #[]⟩) else none
  | _, _ => none
theorem Reps.rep_flat {K : PySem.W.Frag} {mg : Str → Option Value} {H : Hp} {av : Addr → Prop} {ds : List D} {vs : List V} (r : Reps K mg H av ds vs) : ∀ n, Reps K mg H av (List.replicate n ds).flatten (List.replicate n vs).flatten
  | 0 => .nil
  | n + 1 => by
    rw [List.replicate_succ, List.replicate_succ, List.flatten_cons, List.flatten_cons]
    exact r.append (r.rep_flat n)
theorem rep_size (a : Array Nat) : ∀ (n : Nat) (acc : Array Nat), ((List.replicate n a).foldl (· ++ ·) acc).size = acc.size + n * a.size
  | 0, acc => by simp
  | n + 1, acc => by rw [List.replicate_succ, List.foldl_cons, rep_size a n, Array.size_append, Nat.succ_mul]; omega
theorem op_gMul (x : XG X G k) : OpR X (binaryOp .Mult) (rOf G gMul) := by
  intro pins s σ H v1 v2 u1 u2 Q I r1 r2 ⟨av, dx, dy, d, h1, h2, hg, hav, q⟩
  unfold gMul at hg
  split at hg
  · split at hg
    · rename_i hb
      cases hg
      rw [h1.int] at r1; rw [h2.int] at r2
      refine op_mulW pins s σ H _ _ u1 u2 Q I r1 r2 ⟨_, _, rfl, rfl, ?_, q _ H (.refl _) (.int _)⟩
      have a := big_log hb.1
      have b := big_log hb.2
      unfold CMulW
      omega
    · cases hg
  · split at hg
    · rename_i hb
      cases hg
      obtain ⟨hn, hl, h3, h4⟩ := hb
      rw [h2.int] at r2
      obtain ⟨a1, vs1, rfl, e1, p1⟩ := h1.tup
      refine op_repT pins s σ H _ _ u1 u2 Q I r1 r2 ⟨a1, _, vs1, rfl, rfl, x.sqT e1, fun z => hn (p1.nil_iff.mpr z), h3, h4, by rw [← p1.length]; exact hl, fun p n => q _ _ (Ext.upd n) (.tup upd_same (new_no hav n) ((p1.rep_flat _).ext (Ext.upd n)))⟩
    · cases hg
  · split at hg
    · rename_i hb
      cases hg
      obtain ⟨hl, h3, h4⟩ := hb
      rw [h2.int] at r2
      obtain ⟨a1, vs1, rfl, e1, p1⟩ := h1.lst
      refine op_rep pins s σ H _ _ u1 u2 Q I r1 r2 ⟨a1, _, vs1, rfl, rfl, e1, by omega, by omega, ?_, fun p n => q _ _ (Ext.upd n) (.lst upd_same (new_no hav n) ((p1.rep_flat _).ext (Ext.upd n)))⟩
      rw [← p1.length]
      refine line_of (Nat.le_trans (Nat.mul_le_mul hl (show _ ≤ 1000 by omega)) (by decide))
    · cases hg
  · split at hg
    · rename_i a j hb
      cases hg
      rw [h1.str] at r1; rw [h2.int] at r2
      obtain ⟨t, rfl⟩ := r1
      obtain ⟨t', rfl⟩ := r2
      obtain ⟨b1, b2, b3, b4⟩ := hb
      have n1 : ¬ j < 1 := by omega
      have n2 : (j == 1 || a.length == 0) = false := by
        simp only [Bool.or_eq_false_iff, beq_eq_false_iff_ne]
        omega
      refine P.mul_str (by rw [decide_eq_false (by omega), decide_eq_false (by omega)]; rfl) (fun _ _ => ?_) (fun _ _ => ?_) ?_
      · have h : (1000 : Int) ≤ (2 ^ 63 - 1) / j := by
          refine Int.le_ediv_of_mul_le (by omega) ?_
          omega
        omega
      · unfold Builtin.Str.tooLong
        have : a.length * j.toNat ≤ 1000 * 1000 := Nat.mul_le_mul b2 (by omega)
        exact decide_eq_false (Nat.not_lt.mpr (line_of (Nat.le_trans this (by decide))))
      · rw [if_neg n1, n2, if_neg Bool.false_ne_true]
        refine ⟨?_, ⟨.str _, H, I.tok _, ⟨_, rfl⟩, q _ H (.refl _) (.str _)⟩⟩
        have e : (⟨(List.replicate j.toNat a.cps).foldl (· ++ ·) #[]⟩ : Str).length = j.toNat * a.length := by
          show ((List.replicate j.toNat a.cps).foldl (· ++ ·) #[]).size = _
          rw [rep_size]
          simp [Str.length]
        have : j.toNat * a.length ≤ 1000 * 1000 := Nat.mul_le_mul (by omega) b2
        rw [e]
        exact line_of (Nat.le_trans this (by decide))
    · cases hg
  · cases hg
def gMod : D → D → Option D
  | .int i, .int j => if j = 0 then none else some (.int (i.fmod j))
  | _, _ => none
theorem op_gMod (x : XG X G k) : OpR X (binaryOp .Mod) (rOf G gMod) := by
  intro pins s σ H v1 v2 u1 u2 Q I r1 r2 ⟨av, dx, dy, d, h1, h2, hg, hav, q⟩
  unfold gMod at hg
  split at hg
  · split at hg
    · cases hg
    · rename_i hj
      cases hg
      rw [h1.int] at r1; rw [h2.int] at r2
      exact op_modN pins s σ H _ _ u1 u2 Q I r1 r2 ⟨_, _, rfl, rfl, hj, q _ H (.refl _) (.int _)⟩
  · cases hg
def gDiv : D → D → Option D
  | .int i, .int j => if 0 < j ∧ j.natAbs < BIG then some (.int (i / j)) else none
  | _, _ => none
theorem op_gDiv (x : XG X G k) : OpR X (binaryOp .FloorDiv) (rOf G gDiv) := by
  intro pins s σ H v1 v2 u1 u2 Q I r1 r2 ⟨av, dx, dy, d, h1, h2, hg, hav, q⟩
  unfold gDiv at hg
  split at hg
  · split at hg
    · rename_i hj
      cases hg
      rw [h1.int] at r1; rw [h2.int] at r2
      exact op_fdivW pins s σ H _ _ u1 u2 Q I r1 r2 ⟨_, _, rfl, rfl, ⟨hj.1, by have := big_log hj.2; omega⟩, q _ H (.refl _) (.int _)⟩
    · cases hg
  · cases hg
def gPow : D → D → Option D
  | .int i, .int j => if 0 ≤ j ∧ j ≤ 1000 ∧ i.natAbs ≤ 1000 then some (.int (i ^ j.toNat)) else none
  | _, _ => none
theorem op_gPow (x : XG X G k) : OpR X (binaryOp .Pow) (rOf G gPow) := by
  intro pins s σ H v1 v2 u1 u2 Q I r1 r2 ⟨av, dx, dy, d, h1, h2, hg, hav, q⟩
  unfold gPow at hg
  split at hg
  · split at hg
    · rename_i hj
      cases hg
      rw [h1.int] at r1; rw [h2.int] at r2
      exact op_pow pins s σ H _ _ u1 u2 Q I r1 r2 ⟨_, _, rfl, rfl, ⟨hj.1, by omega, by omega⟩, q _ H (.refl _) (.int _)⟩
    · cases hg
  · cases hg
end

/-! ### comparisons -/
def gEq : D → D → Option D
  | .str a, .str b => some (.bl (decide (a = b)))
  | a, b => if okD a = true ∧ okD b = true then some (.bl (deq a b)) else none
def gNe : D → D → Option D
  | .str a, .str b => some (.bl (!decide (a = b)))
  | a, b => if okD a = true ∧ okD b = true then some (.bl (!deq a b)) else none
def gCmp (p : Int → Int → Bool) : D → D → Option D
  | .int i, .int j => some (.bl (p i j))
  | _, _ => none
abbrev gLt := gCmp fun i j => decide (i < j)
abbrev gLe := gCmp fun i j => decide (i ≤ j)
abbrev gGt := gCmp fun i j => decide (i > j)
abbrev gGe := gCmp fun i j => decide (i ≥ j)
def isNon : D → Bool
  | .non => true
  | _ => false
def gIs : D → D → Option D
  | x, .non => some (.bl (isNon x))
  | _, _ => none
def gIsNot : D → D → Option D
  | x, .non => some (.bl (!isNon x))
  | _, _ => none
def gIn : D → D → Option D
  | x, .lst ys => if okD x = true ∧ okD (.lst ys) = true then some (.bl (ys.any fun y => deq y x)) else none
  | x, .tup ys => if okD x = true ∧ okD (.tup ys) = true then some (.bl (ys.any fun y => deq y x)) else none
  | _, _ => none
def gNotIn : D → D → Option D
  | x, .lst ys => if okD x = true ∧ okD (.lst ys) = true then some (.bl (!ys.any fun y => deq y x)) else none
  | x, .tup ys => if okD x = true ∧ okD (.tup ys) = true then some (.bl (!ys.any fun y => deq y x)) else none
  | _, _ => none
section
variable {X : Cx} {G : Gh} {k : Nat}
theorem XG.units (x : XG X G k) : X.A.units + 65 < cLine := by have := x.room.un; omega
theorem dec_str (a b : Str) : decide (V.str a = V.str b) = decide (a = b) := decide_eq_decide.mpr ⟨fun e => V.str.inj e, fun e => congrArg V.str e⟩
theorem op_gEq (x : XG X G k) : OpR X (compareOp .Eq) (rOf G gEq) := by
  intro pins s σ H v1 v2 u1 u2 Q I r1 r2 ⟨av, dx, dy, d, h1, h2, hg, hav, q⟩
  unfold gEq at hg
  split at hg
  · cases hg
    have e1 := h1.str
    have e2 := h2.str
    subst e1 e2
    refine op_eq pins s σ H _ _ u1 u2 Q I r1 r2 ⟨rfl, ?_⟩
    rw [dec_str]
    exact q _ H (.refl _) (.bl _)
  · split at hg
    · rename_i ho
      cases hg
      exact op_eqD (by have := x.units; omega) pins s σ H _ _ u1 u2 Q I r1 r2 ⟨_, _, x.dp (h1.dp ho.1), x.dp (h2.dp ho.2), ho.1, ho.2, q _ H (.refl _) (.bl _)⟩
    · cases hg
theorem op_gNe (x : XG X G k) : OpR X (compareOp .NotEq) (rOf G gNe) := by
  intro pins s σ H v1 v2 u1 u2 Q I r1 r2 ⟨av, dx, dy, d, h1, h2, hg, hav, q⟩
  unfold gNe at hg
  split at hg
  · cases hg
    have e1 := h1.str
    have e2 := h2.str
    subst e1 e2
    refine op_ne pins s σ H _ _ u1 u2 Q I r1 r2 ⟨rfl, ?_⟩
    rw [dec_str]
    exact q _ H (.refl _) (.bl _)
  · split at hg
    · rename_i ho
      cases hg
      exact op_neD (by have := x.units; omega) pins s σ H _ _ u1 u2 Q I r1 r2 ⟨_, _, x.dp (h1.dp ho.1), x.dp (h2.dp ho.2), ho.1, ho.2, q _ H (.refl _) (.bl _)⟩
    · cases hg
theorem op_gCmp {p : Int → Int → Bool} {op : CmpOp} (ho : OpR X (compareOp op) (rI0 fun i j => .bl (p i j))) : OpR X (compareOp op) (rOf G (gCmp p)) := by
  intro pins s σ H v1 v2 u1 u2 Q I r1 r2 ⟨av, dx, dy, d, h1, h2, hg, hav, q⟩
  unfold gCmp at hg
  split at hg
  · cases hg
    rw [h1.int] at r1; rw [h2.int] at r2
    exact ho pins s σ H _ _ u1 u2 Q I r1 r2 ⟨_, _, rfl, rfl, q _ H (.refl _) (.bl _)⟩
  · cases hg
theorem op_gLt : OpR X (compareOp .Lt) (rOf G gLt) := op_gCmp op_lt
theorem op_gLe : OpR X (compareOp .LtE) (rOf G gLe) := op_gCmp op_le
theorem op_gGt : OpR X (compareOp .Gt) (rOf G gGt) := op_gCmp op_gt
theorem op_gGe : OpR X (compareOp .GtE) (rOf G gGe) := op_gCmp op_ge
theorem RepT.isNon {K : PySem.W.Frag} {mg : Str → Option Value} {H : Hp} {av : Addr → Prop} {d : D} {v : V} (r : RepT K mg H av d v) : decide (v = V.non) = isNon d := by
  cases r with
  | val r => cases r <;> rfl
  | own o =>
    cases d with
    | lst ds => rfl
    | dcI ds => rfl
    | dcT ds => rfl
    | _ => exact o.elim
theorem op_gIs : OpR X (compareOp .Is) (rOf G gIs) := by
  intro pins s σ H v1 v2 u1 u2 Q I r1 r2 ⟨av, dx, dy, d, h1, h2, hg, hav, q⟩
  unfold gIs at hg
  split at hg
  · cases hg
    rw [h2.non] at r2
    exact op_isN pins s σ H _ _ u1 u2 Q I r1 r2 ⟨rfl, by rw [h1.isNon]; exact q _ H (.refl _) (.bl _)⟩
  · cases hg
theorem op_gIsNot : OpR X (compareOp .IsNot) (rOf G gIsNot) := by
  intro pins s σ H v1 v2 u1 u2 Q I r1 r2 ⟨av, dx, dy, d, h1, h2, hg, hav, q⟩
  unfold gIsNot at hg
  split at hg
  · cases hg
    rw [h2.non] at r2
    exact op_notN pins s σ H _ _ u1 u2 Q I r1 r2 ⟨rfl, by rw [h1.isNon]; exact q _ H (.refl _) (.bl _)⟩
  · cases hg
theorem any_toP (x : D) : ∀ ys : List D, ((D.toPs ys).any fun z => PyData.eqv z x.toP) = ys.any fun y => deq y x
  | [] => by simp [D.toPs]
  | y :: r => by rw [D.toPs, List.any_cons, List.any_cons, any_toP x r]; rfl
theorem room_in {A : Around} {xs : List PyData} {d : PyData} (sd : SeqAt.shaped d = true) (hu : A.units + 65 < cLine) : A.units + 1 + min (PyData.depthAll xs) d.depth < cLine := by
  have h1 := SeqAt.depth_of_shaped sd
  have h2 : min (PyData.depthAll xs) d.depth ≤ d.depth := Nat.min_le_right _ _
  omega
theorem op_gIn (x : XG X G k) : OpR X (compareOp .In) (rOf G gIn) := by
  intro pins s σ H v1 v2 u1 u2 Q I r1 r2 ⟨av, dx, dy, d, h1, h2, hg, hav, q⟩
  unfold gIn at hg
  split at hg
  · split at hg
    · rename_i ho
      cases hg
      obtain ⟨as, e1⟩ := Dp.reads I _ _ u1 (x.dp (h1.dp ho.1)) r1
      obtain ⟨bs, e2⟩ := Dp.reads I _ _ u2 (x.dp (h2.dp ho.2)) r2
      simp only [D.toP] at e2
      refine SeqAt.in_list_reads e2 e1 (by have := SeqAt.canLay_of_shaped ho.2; simpa [D.toP, PyData.canLay0] using this) (SeqAt.canLay_of_shaped ho.1) (room_in ho.1 x.units) ?_
      rw [any_toP]
      exact ⟨.bl _, H, I, rfl, q _ H (.refl _) (.bl _)⟩
    · cases hg
  · split at hg
    · rename_i ho
      cases hg
      obtain ⟨as, e1⟩ := Dp.reads I _ _ u1 (x.dp (h1.dp ho.1)) r1
      obtain ⟨bs, e2⟩ := Dp.reads I _ _ u2 (x.dp (h2.dp ho.2)) r2
      simp only [D.toP] at e2
      refine SeqAt.in_tuple_reads e2 e1 (by have := SeqAt.canLay_of_shaped ho.2; simpa [D.toP, PyData.canLay0] using this) (SeqAt.canLay_of_shaped ho.1) (room_in ho.1 x.units) ?_
      rw [any_toP]
      exact ⟨.bl _, H, I, rfl, q _ H (.refl _) (.bl _)⟩
    · cases hg
  · cases hg
theorem op_gNotIn (x : XG X G k) : OpR X (compareOp .NotIn) (rOf G gNotIn) := by
  intro pins s σ H v1 v2 u1 u2 Q I r1 r2 ⟨av, dx, dy, d, h1, h2, hg, hav, q⟩
  unfold gNotIn at hg
  split at hg
  · split at hg
    · rename_i ho
      cases hg
      obtain ⟨as, e1⟩ := Dp.reads I _ _ u1 (x.dp (h1.dp ho.1)) r1
      obtain ⟨bs, e2⟩ := Dp.reads I _ _ u2 (x.dp (h2.dp ho.2)) r2
      simp only [D.toP] at e2
      refine SeqAt.notIn_list_reads e2 e1 (by have := SeqAt.canLay_of_shaped ho.2; simpa [D.toP, PyData.canLay0] using this) (SeqAt.canLay_of_shaped ho.1) (room_in ho.1 x.units) ?_
      rw [any_toP]
      exact ⟨.bl _, H, I, rfl, q _ H (.refl _) (.bl _)⟩
    · cases hg
  · split at hg
    · rename_i ho
      cases hg
      obtain ⟨as, e1⟩ := Dp.reads I _ _ u1 (x.dp (h1.dp ho.1)) r1
      obtain ⟨bs, e2⟩ := Dp.reads I _ _ u2 (x.dp (h2.dp ho.2)) r2
      simp only [D.toP] at e2
      refine SeqAt.notIn_tuple_reads e2 e1 (by have := SeqAt.canLay_of_shaped ho.2; simpa [D.toP, PyData.canLay0] using this) (SeqAt.canLay_of_shaped ho.1) (room_in ho.1 x.units) ?_
      rw [any_toP]
      exact ⟨.bl _, H, I, rfl, q _ H (.refl _) (.bl _)⟩
    · cases hg
  · cases hg

/-! ### subscripts, slices -/
def gIdx : D → D → Option D
  | .tup ds, .int i => atI ds i
  | .lst ds, .int i => atI ds i
  | .scr ns, .int i => (atI ns i).map D.int
  | _, _ => none
theorem Reps.atI {K : PySem.W.Frag} {mg : Str → Option Value} {H : Hp} {av : Addr → Prop} {ds : List D} {vs : List V} {i : Int} {d : D} (r : Reps K mg H av ds vs) (h : L2.atI ds i = some d) : ∃ v, L2.atI vs i = some v ∧ Rep K mg H av d v := by
  unfold L2.atI at h ⊢
  rw [← r.length]
  cases q : ixN ds.length i with
  | none => rw [q] at h; cases h
  | some j => rw [q] at h; exact r.get h
theorem atI_map {α β : Type} {f : α → β} {xs : List α} {i : Int} {x : α} (h : L2.atI xs i = some x) : L2.atI (xs.map f) i = some (f x) := by
  unfold L2.atI at h ⊢
  rw [List.length_map]
  cases q : ixN xs.length i with
  | none => rw [q] at h; cases h
  | some j =>
    rw [q] at h
    have h : xs[j]? = some x := h
    show (xs.map f)[j]? = some (f x)
    rw [List.getElem?_map, h] <;> rfl
theorem ix_g (x : XG X G k) : IxR X (rOf G gIdx) := by
  intro value slice pins s σ H v1 v2 u1 u2 Q I r1 r2 ⟨av, dx, dy, d, h1, h2, hg, hav, q⟩ hs
  unfold gIdx at hg
  split at hg
  · rw [h2.int] at r2
    obtain ⟨a1, vs1, rfl, e1, p1⟩ := h1.tup
    obtain ⟨v, e, r⟩ := p1.atI hg
    exact ix_tup value slice pins s σ H _ _ u1 u2 Q I r1 r2 ⟨a1, vs1, _, v, rfl, rfl, x.sqT e1, e, q _ H (.refl _) r⟩ hs
  · rw [h2.int] at r2
    obtain ⟨a1, vs1, rfl, e1, p1⟩ := h1.lst
    obtain ⟨v, e, r⟩ := p1.atI hg
    exact ix_list value slice pins s σ H _ _ u1 u2 Q I r1 r2 ⟨a1, vs1, _, v, rfl, rfl, x.sqL (.of e1), e, q _ H (.refl _) r⟩ hs
  · rename_i ns i
    rw [h2.int] at r2
    obtain ⟨a1, rfl, e1⟩ := h1.scr
    cases z : L2.atI ns i with
    | none => rw [z] at hg; cases hg
    | some n =>
      rw [z] at hg
      cases hg
      exact ix_list value slice pins s σ H _ _ u1 u2 Q I r1 r2 ⟨a1, _, _, .int n, rfl, rfl, x.sqL e1, atI_map z, q _ H (.refl _) (.int _)⟩ hs
  · cases hg
def cutD (xs : List D) (lo hi : Option Int) : List D := (xs.drop (HT.sIx xs.length 0 lo)).take (HT.sIx xs.length xs.length hi - HT.sIx xs.length 0 lo)
theorem Reps.cut {K : PySem.W.Frag} {mg : Str → Option Value} {H : Hp} {av : Addr → Prop} {ds : List D} {vs : List V} (r : Reps K mg H av ds vs) (lo hi : Option Int) : Reps K mg H av (cutD ds lo hi) (cutV vs lo hi) := by
  unfold cutD cutV
  rw [← r.length]
  exact (r.drop _).take _
def gSlice : D → Option Int → Option Int → Option D
  | .tup ds, lo, hi => some (.tup (cutD ds lo hi))
  | .lst ds, lo, hi => some (.lst (cutD ds lo hi))
  | .str x, lo, hi => if x.length ≤ 1000000 then some (.str (cutS x lo hi)) else none
  | _, _, _ => none
theorem sl_g (x : XG X G k) : SlR X (rSlG G gSlice) := by
  intro pins s σ H v1 u1 vl vu lo hi sl Q I r1 hsl pl pu ⟨av, dx, d, h1, hg, hav, q⟩
  unfold gSlice at hg
  split at hg
  · cases hg
    have t1 := h1.rep
    obtain ⟨a1, vs1, rfl, e1, p1⟩ := h1.tup
    refine sl_tupA pins s σ H _ u1 vl vu lo hi sl Q I r1 hsl pl pu ⟨a1, vs1, rfl, x.sqT e1, fun w => ?_, fun _ p n => q _ _ (Ext.upd n) (.tup upd_same (new_no hav n) ((p1.cut lo hi).ext (Ext.upd n)))⟩
    rename_i ds
    have e : cutD ds lo hi = ds := by
      unfold cutD
      rw [p1.length, w.1, w.2]
      simp [p1.length]
      rw [← p1.length, List.take_length]
    rw [e] at q
    exact q _ H (.refl _) t1
  · cases hg
    obtain ⟨a1, vs1, rfl, e1, p1⟩ := h1.lst
    exact sl_list pins s σ H _ u1 vl vu lo hi sl Q I r1 hsl pl pu ⟨a1, vs1, rfl, x.sqL (.of e1), fun p n => q _ _ (Ext.upd n) (.lst upd_same (new_no hav n) ((p1.cut lo hi).ext (Ext.upd n)))⟩
  · split at hg
    · rename_i hl
      cases hg
      have e1 := h1.str
      subst e1
      exact sl_str pins s σ H _ u1 vl vu lo hi sl Q I r1 hsl pl pu ⟨_, rfl, line_of hl, q _ H (.refl _) (.str _)⟩
    · cases hg
  · cases hg
end
end FT

set_option Elab.async false
set_option linter.all false
set_option maxRecDepth 100000
set_option maxHeartbeats 1000000
/-! FTE: statements. -/
namespace FT
open PySem PySem.Spec PyProof.Rows L2

def Keep (G : Gh) (σ : St) (H : Hp) (σ' : St) (H' : Hp) : Prop := ∀ d v, Rep G.K G.mg H (Av G σ) d v → Rep G.K G.mg H' (Av G σ') d v
theorem Keep.refl (G : Gh) (σ : St) (H : Hp) : Keep G σ H σ H := fun _ _ r => r
theorem Keep.trans {G : Gh} {σ σ1 σ2 : St} {H H1 H2 : Hp} (a : Keep G σ H σ1 H1) (b : Keep G σ1 H1 σ2 H2) : Keep G σ H σ2 H2 := fun d v r => b d v (a d v r)
theorem Stay.keep {G : Gh} {σ : St} {H H' : Hp} (s : Stay (Ch G σ) H H') : Keep G σ H σ H' := fun _ _ r => r.stay s.av
/-- what a body hands back -/
structure RetOk (G : Gh) (H' : Hp) (d : D) (env' : En) (v : V) : Prop where
  tabs : LamX.Tabs G.T H'
  frame : Frame G H'
  rep : Rep G.K G.mg H' G.av d v
  par : ∀ a, G.pa = some a → ∃ d0, env'[0]? = some (some d0) ∧ OwnAt G.K G.mg H' G.av a d0
  stays : ∀ b o, G.H0 b = some o → NotTbl o → ∃ o', H' b = some o' ∧ NotTbl o'
  fr : G.fr = true → ∃ p, v = .ref p ∧ NoO G.H0 p ∧ OwnAt G.K G.mg H' (fun a => G.av a ∨ a = p) p d
def PostS (G : Gh) (D : Ends) (σ : St) (H : Hp) : RS → Prop
  | .stuck => False
  | .err e => PostE G e
  | .nx env' => ∀ σ' H', SR G σ' H' env' → Keep G σ H σ' H' → D.nx σ' H'
  | .bk env' => ∀ σ' H', SR G σ' H' env' → Keep G σ H σ' H' → D.bk σ' H'
  | .ct env' => ∀ σ' H', SR G σ' H' env' → Keep G σ H σ' H' → D.ct σ' H'
  | .rt d env' => ∀ v H', RetOk G H' d env' v → D.rt v H'
abbrev MS := En → RS
def TSo (G : Gh) (m : MS) : TS := fun D σ H => ∃ env, SR G σ H env ∧ PostS G D σ H (m env)
def SS (X : Cx) (G : Gh) (st : Stmt) (m : MS) : Prop := PS X st (TSo G m)
def SSs (X : Cx) (G : Gh) (sts : List Stmt) (m : MS) : Prop := PSs X sts (TSo G m)
theorem PostS.from {G : Gh} {D : Ends} {σ σ1 : St} {H H1 : Hp} {r : RS} (h : PostS G D σ H r) (s : Keep G σ H σ1 H1) : PostS G D σ1 H1 r := by
  cases r with
  | stuck => exact h
  | err e => exact h
  | nx env => exact fun σ' H' a b => h σ' H' a (s.trans b)
  | bk env => exact fun σ' H' a b => h σ' H' a (s.trans b)
  | ct env => exact fun σ' H' a b => h σ' H' a (s.trans b)
  | rt d env => exact h
/-- an expression, then what is done with it -/
def bindS {α : Type} (r : R α) (k : α → En → RS) : RS := match r with
  | .stuck => .stuck
  | .err e => .err e
  | .ok a s => k a s
theorem TEo.bindS {G : Gh} {σ : St} {H : Hp} {m : ME} {k : D → En → RS} {env : En} (s : SR G σ H env) (PP : RS → Prop) (hs : ¬ PP .stuck) (he : ∀ e, PP (.err e) → PostE G e) (h : PP (FT.bindS (m env) k)) :
    TEo G m σ H (fun x H1 => ∃ d env1, Got G σ H d env1 x H1 ∧ PP (k d env1)) := by
  refine ⟨env, s, ?_⟩
  cases q : m env with
  | stuck => rw [q] at h; exact (hs h).elim
  | err e => rw [q] at h; exact he e h
  | ok d env1 => rw [q] at h; exact fun v H' a b c => ⟨d, env1, ⟨a, b, c⟩, h⟩
theorem TTo.bindS {G : Gh} {σ : St} {H : Hp} {m : MT} {k : Bool → En → RS} {env : En} (s : SR G σ H env) (PP : RS → Prop) (hs : ¬ PP .stuck) (he : ∀ e, PP (.err e) → PostE G e) (h : PP (FT.bindS (m env) k)) :
    TTo G m σ H (fun b H1 => ∃ env1, SR G σ H1 env1 ∧ Stay (Ch G σ) H H1 ∧ PP (k b env1)) := by
  refine ⟨env, s, ?_⟩
  cases q : m env with
  | stuck => rw [q] at h; exact (hs h).elim
  | err e => rw [q] at h; exact he e h
  | ok d env1 => rw [q] at h; exact fun H' a b => ⟨env1, a, b, h⟩
theorem TOo.bindS {G : Gh} {σ : St} {H : Hp} {m : MO} {k : Rd' → En → RS} {env : En} (s : SR G σ H env) (PP : RS → Prop) (hs : ¬ PP .stuck) (he : ∀ e, PP (.err e) → PostE G e) (h : PP (FT.bindS (m env) k)) :
    TOo G m σ H (fun x H1 => ∃ d env1, GotO G σ H d env1 x H1 ∧ PP (k d env1)) := by
  refine ⟨env, s, ?_⟩
  cases q : m env with
  | stuck => rw [q] at h; exact (hs h).elim
  | err e => rw [q] at h; exact he e h
  | ok d env1 => rw [q] at h; exact fun v H' a b c => ⟨d, env1, ⟨a, b, c⟩, h⟩

section
variable {X : Cx} {G : Gh} {st : Stmt} {sts : List Stmt} {e : Expr} {pos : Pos} {k : Nat}
def mNx : MS := fun env => .nx env
def mSeq (m m' : MS) : MS := fun env => match m env with
  | .nx s => m' s
  | r => r
theorem ss_nil : SSs X G [] mNx := PSs.imp pss_nil fun D σ H ⟨env, s, q⟩ => q σ H s (.refl _ _ _)
theorem ss_one {m : MS} (h : SS X G st m) : SSs X G [st] m := pss_one h
theorem ss_cons {m m' : MS} (h : SS X G st m) (h' : SSs X G sts m') : SSs X G (st :: sts) (mSeq m m') := PSs.imp (pss_cons h h') fun D σ H ⟨env, s, q⟩ => by
  refine ⟨env, s, ?_⟩
  unfold mSeq at q
  cases r : m env with
  | stuck => rw [r] at q; exact q
  | err e => rw [r] at q; exact q
  | nx env1 => rw [r] at q; exact fun σ' H' a b => ⟨env1, a, q.from b⟩
  | bk env1 => rw [r] at q; exact q
  | ct env1 => rw [r] at q; exact q
  | rt d env1 => rw [r] at q; exact q
theorem ss_pass : SS X G (.Pass pos) mNx := PS.imp ps_pass fun D σ H ⟨env, s, q⟩ => q σ H s (.refl _ _ _)
theorem ss_doc {x j pos'} : SS X G (.Expr (.Constant (.str x) j pos') pos) mNx := PS.imp ps_doc fun D σ H ⟨env, s, q⟩ => q σ H s (.refl _ _ _)
/-- code that is never come to -/
def mNever : MS := fun _ => .stuck
theorem ss_never : SS X G st mNever := PS.imp ps_never fun D σ H ⟨env, s, q⟩ => q
theorem sss_never : SSs X G sts mNever := PSs.imp pss_never fun D σ H ⟨env, s, q⟩ => q
def mDrop (m : ME) : MS := fun env => bindS (m env) fun _ s => .nx s
theorem ss_expr {m : ME} (h : SE X G e m) (hs : swapsWith e none pos.line X.env = pure false := by rfl) : SS X G (.Expr e pos) (mDrop m) := PS.imp (ps_expr h hs) fun D σ H ⟨env, s, q⟩ =>
  (TEo.bindS s (PostS G D σ H) (fun z => z) (fun _ z => z) q).mono fun x H1 ⟨d, e1, ⟨s1, st1, g1⟩, q1⟩ => q1 σ H1 s1 st1.keep
def mRet (m : ME) : MS := fun env => bindS (m env) fun d s => .rt d s
theorem SR.parOwn {σ : St} {H : Hp} {env : En} (s : SR G σ H env) : ∀ a, G.pa = some a → ∃ d0, env[0]? = some (some d0) ∧ OwnAt G.K G.mg H G.av a d0 := fun a ha => by
  obtain ⟨h0, h1, d0, h2⟩ := s.par a ha
  obtain ⟨a', h3, o⟩ := s.own 0 d0 h2 h0
  rw [h1] at h3
  cases h3
  exact ⟨d0, h2, o.goes (.less fun a h => .inl (.inl h)) fun _ q _ => q⟩
theorem SR.ret {σ : St} {H : Hp} {env : En} (s : SR G σ H env) (hf : G.fr = false) {d : D} {v : V} (r : Rep G.K G.mg H (Av G σ) d v) : RetOk G H d env v where
  tabs := s.tabs
  frame := s.frame
  rep := r.less fun a h => .inl (.inl h)
  par := s.parOwn
  stays := s.stays
  fr := fun z => by rw [hf] at z; cases z
theorem ss_ret {m : ME} (hf : G.fr = false) (h : SE X G e m) : SS X G (.Return (some e) pos) (mRet m) := PS.imp (ps_ret h) fun D σ H ⟨env, s, q⟩ =>
  (TEo.bindS s (PostS G D σ H) (fun z => z) (fun _ z => z) q).mono fun x H1 ⟨d, e1, ⟨s1, st1, g1⟩, q1⟩ => q1 x H1 (s1.ret hf g1)
theorem ss_retN (hf : G.fr = false) : SS X G (.Return none pos) (mRet (mLit .non)) := PS.imp ps_retN fun D σ H ⟨env, s, q⟩ => q .non H (s.ret hf .non)
/-- a list of one's own is handed back -/
def mRetOwn (i : Nat) : MS := fun env => match env[i]? with
  | some (some (.lst ds)) => .rt (.lst ds) env
  | _ => .stuck
theorem ss_retOwn {i : Nat} {x : Str} {p : Pos} (hf : G.fr = false) (hi : (G.ow.contains i && (i != 0 || !G.ow.contains 0)) = true) (hN : X.N[i]? = some x) (hv : Vis X.env.scope x) (hd : (x == ("__debug__" : Str)) = false := by decide) (hcd : (x == ("__classdict__" : Str)) = false := by decide) :
    SS X G (.Return (some (.Name x p)) pos) (mRetOwn i) := PS.imp (ps_ret (pe_var hN hv hd hcd)) fun D σ H ⟨env, s, q⟩ => by
  unfold mRetOwn at q
  split at q
  · rename_i ds e0
    simp only [Bool.and_eq_true, Bool.or_eq_true, bne_iff_ne, Bool.not_eq_true', List.contains_iff_mem] at hi
    obtain ⟨hi, h0⟩ := hi
    obtain ⟨a, e1, o⟩ := s.own i _ e0 hi
    refine ⟨.ref a, e1, q _ H ⟨s.tabs, s.frame, ?_, s.parOwn, s.stays, fun z => by rw [hf] at z; cases z⟩⟩
    have nav : ¬ G.av a := fun ha => by
      rcases s.fresh i hi a e1 with z | z
      · obtain ⟨p0, p1, _⟩ := s.par a z
        have e2 := s.dist i hi 0 p0 a e1 p1
        rcases h0 with h | h
        · exact h e2
        · have : G.ow.contains 0 = true := by simpa using p0
          rw [this] at h; cases h
      · obtain ⟨o', h1, t1⟩ := s.avT a ha
        exact z o' h1 t1
    obtain ⟨vs, h, r⟩ := o
    exact .lst h nav (r.less fun a h => .inl (.inl h))
  · exact q.elim

/-! ### if -/
def mIfS (t : MT) (a b : MS) : MS := fun env => bindS (t env) fun k s => if k = true then a s else b s
theorem ss_if {t : MT} {c : Expr} {as bs : List Stmt} {ma mb : MS} (ht : ST X G c t) (ha : SSs X G as ma) (hb : SSs X G bs mb) : SS X G (.If c as bs pos) (mIfS t ma mb) := PS.imp (ps_if ht ha hb) fun D σ H ⟨env, s, q⟩ => by
  refine (TTo.bindS s (PostS G D σ H) (fun z => z) (fun _ z => z) q).mono fun k H1 ⟨e1, s1, st1, q1⟩ => ?_
  cases k with
  | true => exact (if_pos rfl).mpr ⟨e1, s1, PostS.from q1 st1.keep⟩
  | false => exact (if_neg Bool.false_ne_true).mpr ⟨e1, s1, PostS.from q1 st1.keep⟩

/-! ### targets -/
abbrev MG := D → En → Option En
/-- but for these slots all is as it was -/
def Only (vs : List Nat) (σ σ' : St) : Prop := σ'.length = σ.length ∧ ∀ j, j ∉ vs → σ'[j]? = σ[j]?
theorem Only.refl (vs : List Nat) (σ : St) : Only vs σ σ := ⟨rfl, fun _ _ => rfl⟩
theorem Only.trans {vs : List Nat} {σ σ1 σ2 : St} (a : Only vs σ σ1) (b : Only vs σ1 σ2) : Only vs σ σ2 := ⟨b.1.trans a.1, fun j h => (b.2 j h).trans (a.2 j h)⟩
def TGo (G : Gh) (vs : List Nat) (mt : MG) : TG := fun v σ H Q => ∃ env d env', SR G σ H env ∧ Rep G.K G.mg H (Av G σ) d v ∧ mt d env = some env' ∧ ∀ σ' H', SR G σ' H' env' → Keep G σ H σ' H' → Only vs σ σ' → H' = H → Q σ' H'
def SG (X : Cx) (G : Gh) (tg : Expr) (vs : List Nat) (mt : MG) : Prop := PG X tg (TGo G vs mt)
theorem PG.imp {e : Expr} {t t' : TG} (h : PG X e t) (i : ∀ v σ H Q, t' v σ H Q → t v σ H Q) : PG X e t' := ⟨fun pins s σ H v u Q I r q => h.run pins s σ H v u Q I r (i v σ H Q q)⟩
theorem PGs.imp {e : List Expr} {t t' : TGs} (h : PGs X e t) (i : ∀ v σ H Q, t' v σ H Q → t v σ H Q) : PGs X e t' := ⟨fun pins s σ H v u Q I r q => h.run pins s σ H v u Q I r (i v σ H Q q)⟩
theorem getElem?_set_cases {α : Type} {l : List α} {i j : Nat} {x y : α} (h : (l.set i x)[j]? = some y) : (j = i ∧ y = x) ∨ (j ≠ i ∧ l[j]? = some y) := by
  by_cases e : i = j
  · subst e
    by_cases hl : i < l.length
    · rw [List.getElem?_set_self hl] at h; exact .inl ⟨rfl, (Option.some.inj h).symm⟩
    · rw [List.getElem?_eq_none (by simpa using hl)] at h; cases h
  · rw [List.getElem?_set_ne e] at h
    exact .inr ⟨fun z => e z.symm, h⟩
theorem av_set {σ : St} {i : Nat} {v : V} (hi : i ∉ G.ow) (a : Addr) : Av G (σ.set i (some v)) a ↔ Av G σ a := by
  unfold Av
  constructor
  · rintro (h | ⟨j, hj, h⟩)
    · exact .inl h
    · rcases getElem?_set_cases h with ⟨e, _⟩ | ⟨_, h⟩
      · exact absurd (e ▸ hj) hi
      · exact .inr ⟨j, hj, h⟩
  · rintro (h | ⟨j, hj, h⟩)
    · exact .inl h
    · exact .inr ⟨j, hj, by rw [List.getElem?_set_ne (fun e => hi (by rw [e]; exact hj))]; exact h⟩
/-- a slot of a value is set -/
theorem SR.set {σ : St} {H : Hp} {env : En} (s : SR G σ H env) {i : Nat} (hi : i ∉ G.ow) {d : D} {v : V} (r : Rep G.K G.mg H (Av G σ) d v) : SR G (σ.set i (some v)) H (env.set i (some d)) ∧ Keep G σ H (σ.set i (some v)) H := by
  have less : ∀ a, Av G (σ.set i (some v)) a → Av G σ a := fun a h => (av_set hi a).mp h
  have up : ∀ {j a}, j ∈ G.ow → (σ.set i (some v))[j]? = some (some (.ref a)) → σ[j]? = some (some (.ref a)) := fun {j a} hj h => by
    rcases getElem?_set_cases h with ⟨e, _⟩ | ⟨_, h⟩
    · exact absurd (e ▸ hj) hi
    · exact h
  refine ⟨⟨s.tabs, fun j d' h hj => ?_, fun j d' h hj => ?_, fun j hj a h => s.fresh j hj a (up hj h), fun j hj l hl a h1 h2 => s.dist j hj l hl a (up hj h1) (up hl h2), fun a h => s.there a (less a h), s.frame, fun a h => ?_, by simp [s.len], s.avT, s.exF, fun j hj a h => s.exO j hj a (up hj h), s.stays⟩, fun d v r => r.less less⟩
  · rcases getElem?_set_cases h with ⟨e, e2⟩ | ⟨e, h⟩
    · cases e2
      subst e
      have hl : j < σ.length := by rw [← s.len]; simpa using (List.getElem?_eq_some_iff.mp h).1
      exact ⟨v, List.getElem?_set_self hl, r.less less⟩
    · obtain ⟨w, h1, r1⟩ := s.val j d' h hj
      exact ⟨w, by rw [List.getElem?_set_ne (fun z => e z.symm)]; exact h1, r1.less less⟩
  · have e : j ≠ i := fun e => hi (e ▸ hj)
    rw [List.getElem?_set_ne (Ne.symm e)] at h
    obtain ⟨a, h1, o⟩ := s.own j d' h hj
    exact ⟨a, by rw [List.getElem?_set_ne (Ne.symm e)]; exact h1, o.goes (.less less) fun _ q _ => q⟩
  · obtain ⟨h0, h1, d0, h2⟩ := s.par a h
    have e : (0 : Nat) ≠ i := fun e => hi (e ▸ h0)
    exact ⟨h0, by rw [List.getElem?_set_ne (Ne.symm e)]; exact h1, d0, by rw [List.getElem?_set_ne (Ne.symm e)]; exact h2⟩
def mgName (i : Nat) : MG := fun d env => some (env.set i (some d))
theorem sg_name {i : Nat} {x : Str} (hN : X.N.Nodup) (hi : (G.ow.contains i) = false) (hn : X.N[i]? = some x) (hx : Loc X.env.scope x) (hf : X.fn x = true ∨ X.env.scope.names.lookup x = some .local := by first | exact .inl rfl | exact .inr rfl | assumption) :
    SG X G (.Name x pos) [i] (mgName i) := PG.imp (pg_name hN hn hx hf) fun v σ H Q ⟨env, d, env', s, r, e, q⟩ => by
  cases e
  obtain ⟨a, b⟩ := s.set (i := i) (by simpa using hi) r
  exact q _ _ a b ⟨by simp, fun j h => List.getElem?_set_ne fun z => h (by simp [z])⟩ rfl
abbrev MGs := List D → En → Option En
def TGos (G : Gh) (ws : List Nat) (mt : MGs) : TGs := fun vs σ H Q => ∃ env ds env', SR G σ H env ∧ Reps G.K G.mg H (Av G σ) ds vs ∧ mt ds env = some env' ∧ ∀ σ' H', SR G σ' H' env' → Keep G σ H σ' H' → Only ws σ σ' → H' = H → Q σ' H'
def SGs (X : Cx) (G : Gh) (tg : List Expr) (ws : List Nat) (mt : MGs) : Prop := PGs X tg (TGos G ws mt)
def mgNil : MGs := fun ds env => match ds with
  | [] => some env
  | _ => none
def mgCons (m : MG) (ms : MGs) : MGs := fun ds env => match ds with
  | d :: r => (m d env).bind fun e => ms r e
  | [] => none
theorem sgs_nil : SGs X G [] [] mgNil := PGs.imp pgs_nil fun vs σ H Q ⟨env, ds, env', s, r, e, q⟩ => by
  cases r with
  | nil => cases e; exact ⟨rfl, q σ H s (.refl _ _ _) (.refl _ _) rfl⟩
  | cons a b => cases e
theorem Reps.keep {σ σ' : St} {H H' : Hp} (k : Keep G σ H σ' H') : ∀ {ds : List D} {vs : List V}, Reps G.K G.mg H (Av G σ) ds vs → Reps G.K G.mg H' (Av G σ') ds vs
  | _, _, .nil => .nil
  | _, _, .cons r t => .cons (k _ _ r) (Reps.keep k t)
theorem Only.left {a b : List Nat} {σ σ' : St} (o : Only a σ σ') : Only (a ++ b) σ σ' := ⟨o.1, fun j h => o.2 j fun z => h (List.mem_append_left _ z)⟩
theorem Only.right {a b : List Nat} {σ σ' : St} (o : Only b σ σ') : Only (a ++ b) σ σ' := ⟨o.1, fun j h => o.2 j fun z => h (List.mem_append_right _ z)⟩
theorem sgs_cons {es : List Expr} {m : MG} {ms : MGs} {w ws : List Nat} (h : SG X G e w m) (hs : SGs X G es ws ms) (ha : (assignEach (e :: es) X.env).map (·.2) = assign e X.env :: (assignEach es X.env).map (·.2) := by rfl) : SGs X G (e :: es) (w ++ ws) (mgCons m ms) :=
  PGs.imp (pgs_cons h hs ha) fun vs σ H Q ⟨env, ds, env', s, r, e, q⟩ => by
  cases r with
  | nil => cases e
  | @cons d v ds vs r t =>
    have e : ((m d env).bind fun e => ms ds e) = some env' := e
    cases z : m d env with
    | none => rw [z] at e; cases e
    | some env1 =>
      rw [z] at e
      refine ⟨v, vs, rfl, env, d, env1, s, r, z, fun σ1 H1 s1 k1 o1 h1 => ⟨env1, ds, env', s1, Reps.keep k1 t, e, fun σ' H' a b o2 h2 => q σ' H' a (k1.trans b) (o1.left.trans o2.right) (h2.trans h1)⟩⟩
def mgTup (ms : MGs) : MG := fun d env => match d with
  | .tup ds => ms ds env
  | _ => none
theorem sg_tup {es : List Expr} {kk : Nat} {ms : MGs} {ws : List Nat} (hK : X.K = G.K) (hc : X.calm = true) (h : SGs X G es ws ms) {n : Nat} (hlen : ∀ ds env env', ms ds env = some env' → ds.length = n)
    (hn : (assignEach es X.env).length = n := by rfl) (hst : (assignEach es X.env).findIdx? (·.1) = none := by rfl) : SG X G (.Tuple es kk pos) ws (mgTup ms) := PG.imp (pg_tup hc h hn hst) fun v σ H Q ⟨env, d, env', s, r, e, q⟩ => by
  unfold mgTup at e
  split at e
  · rename_i ds
    obtain ⟨a, vs, rfl, h1, r1⟩ := r.tup_inv
    exact ⟨a, vs, rfl, by rw [hK]; exact h1, by rw [← r1.length]; exact hlen _ _ _ e, env, ds, env', s, r1, e, q⟩
  · cases e
theorem mgNil_len {ds env env'} (h : mgNil ds env = some env') : ds.length = 0 := by
  cases ds with
  | nil => rfl
  | cons a b => cases h
theorem mgCons_len {m : MG} {ms : MGs} {n : Nat} (hs : ∀ ds env env', ms ds env = some env' → ds.length = n) : ∀ ds env env', mgCons m ms ds env = some env' → ds.length = n + 1 := fun ds env env' h => by
  cases ds with
  | nil => cases h
  | cons d r =>
    have h : ((m d env).bind fun e => ms r e) = some env' := h
    cases z : m d env with
    | none => rw [z] at h; cases h
    | some e1 => rw [z] at h; rw [List.length_cons, hs r e1 env' h]

/-! ### assignment -/
def mAsg (m : ME) (mt : MG) : MS := fun env => bindS (m env) fun d s => match mt d s with
  | some s' => .nx s'
  | none => .stuck
theorem ss_asg {tg : Expr} {m : ME} {mt : MG} {ws : List Nat} (h : SE X G e m) (hg : SG X G tg ws mt) (hs : swapsWithSole [tg] e pos.line X.env = pure false := by rfl) (hw : swappedStores [tg] e X.env = pure none := by rfl)
    (h1 : (assignEach [tg] X.env).map (·.2) = [assign tg X.env] := by rfl) : SS X G (.Assign [tg] e pos) (mAsg m mt) := PS.imp (ps_asg h hg hs hw h1) fun D σ H ⟨env, s, q⟩ => by
  refine (TEo.bindS s (PostS G D σ H) (fun z => z) (fun _ z => z) q).mono fun x H1 ⟨d, e1, ⟨s1, st1, g1⟩, q1⟩ => ?_
  split at q1
  · rename_i e2 he
    exact ⟨e1, d, e2, s1, g1, he, fun σ' H' a b _ _ => q1 σ' H' a (st1.keep.trans b)⟩
  · exact q1.elim
def mSet (i : Nat) (m : ME) : MS := fun env => bindS (m env) fun d s => .nx (s.set i (some d))
theorem ss_set {i : Nat} {x : Str} {m : ME} {pos' : Pos} (hN : X.N.Nodup) (hi : (G.ow.contains i) = false) (hn : X.N[i]? = some x) (hx : Loc X.env.scope x) (h : SE X G e m) (hs : swapsWith e (some (.Name x pos')) pos.line X.env = pure false := by rfl)
    (hf : X.fn x = true ∨ X.env.scope.names.lookup x = some .local := by first | exact .inl rfl | exact .inr rfl | assumption) : SS X G (.Assign [.Name x pos'] e pos) (mSet i m) := PS.imp (ps_set hN hn hx h hs hf) fun D σ H ⟨env, s, q⟩ => by
  refine (TEo.bindS s (PostS G D σ H) (fun z => z) (fun _ z => z) q).mono fun x H1 ⟨d, e1, ⟨s1, st1, g1⟩, q1⟩ => ?_
  obtain ⟨a, b⟩ := s1.set (i := i) (by simpa using hi) g1
  exact q1 _ _ a (st1.keep.trans b)

/-! ### what is one's own is changed -/
theorem SR.write {σ : St} {H : Hp} {env : En} (s : SR G σ H env) {i : Nat} {a : Addr} {o : HO} {d : D} (hi : i ∈ G.ow) (e : σ[i]? = some (some (.ref a))) (hl : i < env.length) (no : OwnAt G.K G.mg (upd H a o) (Av G σ) a d) (nt : LamX.Tabs G.T (upd H a o)) :
    SR G σ (upd H a o) (env.set i (some d)) ∧ Stay (Ch G σ) H (upd H a o) := by
  have av : Av G σ a := .inr ⟨i, hi, e⟩
  have st : Stay (Ch G σ) H (upd H a o) := fun b u n h _ => by rw [upd_ne (fun z => n (by rw [z]; exact ⟨i, hi, e⟩))]; exact h
  refine ⟨⟨nt, fun j d' h hj => ?_, fun j d' h hj => ?_, s.fresh, s.dist, fun b h => ?_, fun b u h1 h2 h3 => ?_, fun b h => ?_, by simp [s.len], s.avT, s.exF, s.exO, fun b u h t => ?_⟩, st⟩
  · have ne : j ≠ i := fun z => hj (z ▸ hi)
    rw [List.getElem?_set_ne (Ne.symm ne)] at h
    obtain ⟨v, h1, r⟩ := s.val j d' h hj
    exact ⟨v, h1, r.stay st.av⟩
  · rcases getElem?_set_cases h with ⟨e1, e2⟩ | ⟨ne, h⟩
    · cases e2
      subst e1
      exact ⟨a, e, no⟩
    · obtain ⟨b, h1, ob⟩ := s.own j d' h hj
      refine ⟨b, h1, ob.goes (.stay st.av) fun u q _ => ?_⟩
      rw [upd_ne (fun z => ne (s.dist j hj i hi b h1 (by rw [e, z])))]
      exact q
  · by_cases z : b = a
    · subst z; rw [upd_same]; obtain ⟨u, h1, h2⟩ := no.there; rw [upd_same] at h1; exact ⟨u, h1, h2⟩
    · rw [upd_ne z]; exact s.there b h
  · by_cases z : b = a
    · subst z
      rcases s.fresh i hi b e with q | q
      · exact absurd q h1
      · exact (q u h2 h3).elim
    · rw [upd_ne z]; exact s.frame b u h1 h2 h3
  · obtain ⟨h0, h1, d0, h2⟩ := s.par b h
    refine ⟨h0, h1, ?_⟩
    by_cases z : i = 0
    · subst z; exact ⟨d, List.getElem?_set_self hl⟩
    · exact ⟨d0, by rw [List.getElem?_set_ne z]; exact h2⟩
  · by_cases z : b = a
    · obtain ⟨u, h1, h2⟩ := no.there
      exact ⟨u, by rw [z]; exact h1, h2⟩
    · rw [upd_ne z]; exact s.stays b u h t
theorem tabs_upd {T : List (Addr × Str)} {H : Hp} {a : Addr} {o u : HO} (t : LamX.Tabs T H) (h : H a = some u) (n : NotTbl u) (n2 : ∀ q, u ≠ LamX.CodeO a q) : LamX.Tabs T (upd H a o) := fun p hp => by
  obtain ⟨ps, h1, h2, h3⟩ := t p hp
  have ne : ∀ b w, H b = some w → w ≠ u → b ≠ a := fun b w e q z => q (by rw [z, h] at e; exact (Option.some.inj e).symm)
  refine ⟨ps, by rw [upd_ne (ne _ _ h1 (Ne.symm (n ps)))]; exact h1, h2, fun pos cv hc => ?_⟩
  obtain ⟨c, e1, e2⟩ := h3 pos cv hc
  refine ⟨c, e1, ?_⟩
  rw [upd_ne (fun z => ?_)]
  · exact e2
  · subst z
    rw [h] at e2
    exact n2 _ (Option.some.inj e2)
theorem lst_notCode {xs : List V} {a : Addr} : ∀ q, HO.lst xs ≠ LamX.CodeO a q := fun q z => by unfold LamX.CodeO at z; cases z
theorem dK_notCode {xs} {a : Addr} : ∀ q, HO.dK xs ≠ LamX.CodeO a q := fun q z => by unfold LamX.CodeO at z; cases z
theorem dT_notCode {xs} {a : Addr} : ∀ q, HO.dT xs ≠ LamX.CodeO a q := fun q z => by unfold LamX.CodeO at z; cases z
def setL (x : Option D) (i : Int) (d : D) : Option D := match x with
  | some (.lst ds) => (ixN ds.length i).map fun j => .lst (ds.set j d)
  | _ => none
/-- x[i] = e -/
def mStore (j : Nat) (mi m : ME) : MS := fun env => bindS (m env) fun d s => match s[j]? with
  | some (some _) => bindS (mi s) fun z s' => (match z with
    | .int i => (match setL (s'[j]?.join) i d with
      | some l => .nx (s'.set j (some l))
      | none => .stuck)
    | _ => .stuck)
  | _ => .stuck
theorem ss_store {j : Nat} {x : Str} {ie : Expr} {mi m : ME} {px tpos : Pos} (hj : (G.ow.contains j) = true) (hn : X.N[j]? = some x) (hv : Vis X.env.scope x) (hi : SE X G ie mi) (h : SE X G e m)
    (ha : ∀ v, assign (.Subscript (.Name x px) ie tpos) X.env v = (do
      let ov ← holding [v] (eval (.Name x px) X.env)
      let iv ← holding [v, ov] (eval ie X.env)
      standAt tpos
      holding [v, ov, iv] (setItem ov iv v)
      release [v, ov, iv] []) := by intro _; rfl)
    (hs : swapsWithSole [.Subscript (.Name x px) ie tpos] e pos.line X.env = pure false := by rfl) (hw : swappedStores [.Subscript (.Name x px) ie tpos] e X.env = pure none := by rfl)
    (h1 : (assignEach [.Subscript (.Name x px) ie tpos] X.env).map (·.2) = [assign (.Subscript (.Name x px) ie tpos) X.env] := by rfl)
    (hd : (x == ("__debug__" : Str)) = false := by decide) (hcd : (x == ("__classdict__" : Str)) = false := by decide) :
    SS X G (.Assign [.Subscript (.Name x px) ie tpos] e pos) (mStore j mi m) := PS.imp (ps_asg h (pg_sub (pe_var hn hv hd hcd) hi set_list ha) hs hw h1) fun D σ H ⟨env, s, q⟩ => by
  have hj' : j ∈ G.ow := by simpa using hj
  refine (TEo.bindS s (PostS G D σ H) (fun z => z) (fun _ z => z) q).mono fun v H1 ⟨d, e1, ⟨s1, st1, g1⟩, q1⟩ => ?_
  split at q1
  rotate_left
  · exact q1.elim
  rename_i d0 hd0
  obtain ⟨a, ea, _⟩ := s1.own j d0 hd0 hj'
  refine ⟨.ref a, ea, ?_⟩
  refine (TEo.bindS s1 (PostS G D σ H) (fun z => z) (fun _ z => z) q1).mono fun iv H2 ⟨z, e2, ⟨s2, st2, g2⟩, q2⟩ => ?_
  split at q2
  · rename_i i
    cases g2
    split at q2
    · rename_i l hl
      unfold setL at hl
      split at hl
      · rename_i ds hds
        have hds' := join_some hds
        obtain ⟨a2, ea2, vs, h3, r3⟩ := s2.own j _ hds' hj'
        rw [ea] at ea2
        cases ea2
        cases z : ixN ds.length i with
        | none => rw [z] at hl; cases hl
        | some n =>
          rw [z] at hl
          cases hl
          refine ⟨a, vs, i, n, rfl, rfl, h3, by rw [← r3.length]; exact z, ?_⟩
          have rr := (Reps.set (g1.stay st2.av) n r3)
          have st3 : Stay (Ch G σ) H2 (upd H2 a (.lst (vs.set n v))) := fun b u nb h _ => by rw [upd_ne (fun z => nb (by rw [z]; exact ⟨j, hj', ea⟩))]; exact h
          obtain ⟨w1, w2⟩ := s2.write (o := .lst (vs.set n v)) (d := .lst (ds.set n d)) hj' ea (by have := (List.getElem?_eq_some_iff.mp hds').1; exact this) ⟨_, upd_same, rr.stay st3.av⟩ (tabs_upd s2.tabs h3 notTbl_lst lst_notCode)
          exact q2 σ _ w1 ((st1.trans st2).trans w2).keep
      · cases hl
    · exact q2.elim
  · exact q2.elim
end
end FT

set_option Elab.async false
set_option linter.all false
set_option maxRecDepth 100000
set_option maxHeartbeats 1000000
/-! FTF: append, new lists of one's own, loops, comprehensions. -/
namespace FT
open PySem PySem.Spec PyProof.Rows L2
section
variable {X : Cx} {G : Gh} {st : Stmt} {sts : List Stmt} {e : Expr} {pos : Pos} {k : Nat}

/-! ### append -/
def appL (x : Option D) (d : D) : Option D := match x with
  | some (.lst ds) => if ds.length ≤ 1000000 then some (.lst (ds ++ [d])) else none
  | _ => none
def mApp (j : Nat) (m : ME) : MS := fun env => match env[j]? with
  | some (some (.lst _)) => bindS (m env) fun d s => (match appL (s[j]?.join) d with
    | some l => .nx (s.set j (some l))
    | none => .stuck)
  | _ => .stuck
theorem ss_app {j : Nat} {x : Str} {m : ME} {px apos cpos : Pos} (hj : (G.ow.contains j) = true) (hK : X.K = G.K) (hn : X.N[j]? = some x) (hv : Vis X.env.scope x) (h : SE X G e m)
    (hbase : attributeBase (.Name x px) "append" X.env (eval (.Name x px) X.env) = eval (.Name x px) X.env := by rfl)
    (hfew : ((backTo cpos (starEach (e :: []) X.env)).all (fun x => !x.1) && (backToKw cpos (keywordEach [] X.env)).all (fun x => x.1.isSome)
      && decide ((e :: ([] : List Expr)).length + ([] : List Keyword).length + (if ([] : List Keyword).isEmpty then 0 else 1) < 30)) = true := by rfl)
    (hline : (apos.endLine == cpos.line) = true := by rfl) (hs : starEach (e :: []) X.env = (false, eval e X.env) :: starEach [] X.env := by rfl) (hplain : (backTo cpos (starEach [] X.env)).any (·.1) = false := by rfl)
    (hsw : swapsWith (.Call (.Attribute (.Name x px) "append" apos) [e] [] cpos) none pos.line X.env = pure false := by rfl)
    (hd : (x == ("__debug__" : Str)) = false := by decide) (hcd : (x == ("__classdict__" : Str)) = false := by decide) :
    SS X G (.Expr (.Call (.Attribute (.Name x px) "append" apos) [e] [] cpos) pos) (mApp j m) :=
  PS.imp (ps_expr (pe_bm PySem.F.plainAttrs_list PySem.F.slot_list_append PySem.F.type_list_append mt_append (pe_var hn hv hd hcd) (pa_cons h pa_nil hs) hbase hfew hline hs hplain) hsw) fun D σ H ⟨env, s, q⟩ => by
  have hj' : j ∈ G.ow := by simpa using hj
  unfold mApp at q
  split at q
  rotate_left
  · exact q.elim
  rename_i ds0 hd0
  obtain ⟨a, ea, vs0, h0, r0⟩ := s.own j _ hd0 hj'
  refine ⟨.ref a, ea, .inl ⟨rfl, vs0, .of h0⟩, ?_⟩
  refine (TEo.bindS s (PostS G D σ H) (fun z => z) (fun _ z => z) q).mono fun v H1 ⟨d, e1, ⟨s1, st1, g1⟩, q1⟩ => ?_
  split at q1
  · rename_i l hl
    unfold appL at hl
    split at hl
    · rename_i ds hds
      split at hl
      · rename_i hlen
        cases hl
        have hds' := join_some hds
        obtain ⟨a2, ea2, vs, h3, r3⟩ := s1.own j _ hds' hj'
        rw [ea] at ea2
        cases ea2
        refine ⟨a, vs, v, rfl, rfl, h3, Nat.lt_of_le_of_lt (by rw [← r3.length]; exact hlen) (by decide), ?_⟩
        have rr := r3.snoc g1
        have st3 : Stay (Ch G σ) H1 (upd H1 a (.lst (vs ++ [v]))) := fun b u nb h _ => by rw [upd_ne (fun z => nb (by rw [z]; exact ⟨j, hj', ea⟩))]; exact h
        obtain ⟨w1, w2⟩ := s1.write (o := .lst (vs ++ [v])) (d := .lst (ds ++ [d])) hj' ea (List.getElem?_eq_some_iff.mp hds').1 ⟨_, upd_same, rr.stay st3.av⟩ (tabs_upd s1.tabs h3 notTbl_lst lst_notCode)
        exact q1 σ _ w1 (st1.trans w2).keep
      · cases hl
    · cases hl
  · exact q1.elim

/-! ### new things of one's own -/
def Av1 (G : Gh) (σ : St) (p : Addr) : Addr → Prop := fun a => Av G σ a ∨ a = p
structure NewOk (G : Gh) (σ : St) (H H' : Hp) (env' : En) (p : Addr) (d : D) : Prop where
  sr : SR G σ H' env'
  val : ∀ i d, env'[i]? = some (some d) → i ∉ G.ow → ∃ v, σ[i]? = some (some v) ∧ Rep G.K G.mg H' (Av1 G σ p) d v
  own : ∀ i d, env'[i]? = some (some d) → i ∈ G.ow → ∃ a, σ[i]? = some (some (.ref a)) ∧ OwnAt G.K G.mg H' (Av1 G σ p) a d
  keep : ∀ d v, Rep G.K G.mg H (Av G σ) d v → Rep G.K G.mg H' (Av1 G σ p) d v
  new : NoO G.H0 p
  nav : ¬ Av G σ p
  at_ : OwnAt G.K G.mg H' (Av1 G σ p) p d
def PostF (G : Gh) (σ : St) (H : Hp) (Q : VK) : R D → Prop
  | .stuck => False
  | .err e => PostE G e
  | .ok d env' => ∀ p H', NewOk G σ H H' env' p d → Q (.ref p) H'
def TFo (G : Gh) (m : ME) : TE := fun σ H Q => ∃ env, SR G σ H env ∧ PostF G σ H Q (m env)
/-- an expression that makes something new -/
def SF (X : Cx) (G : Gh) (e : Expr) (m : ME) : Prop := PE X e (TFo G m)
theorem goes_new {av : Addr → Prop} {H : Hp} {p : Addr} {o : HO} (n : H p = none) : Goes av (fun a => av a ∨ a = p) H (upd H p o) :=
  ⟨fun b u nb h _ => ⟨by rw [upd_ne (ne_of_none h n)]; exact h, fun z => z.elim nb (ne_of_none h n)⟩⟩
theorem SR.newOk {σ : St} {H Hb : Hp} {env : En} (s : SR G σ Hb env) (st : Stay (Ch G σ) H Hb) {p : Addr} (n : Hb p = none) {o : HO} {d : D} (at_ : OwnAt G.K G.mg (upd Hb p o) (Av1 G σ p) p d) : NewOk G σ H (upd Hb p o) env p d where
  sr := s.ext (Ext.upd n)
  val := fun i d h hi => let ⟨v, h1, r⟩ := s.val i d h hi; ⟨v, h1, r.goes (goes_new n)⟩
  own := fun i d h hi => by
    obtain ⟨a, h1, r⟩ := s.own i d h hi
    exact ⟨a, h1, r.goes (goes_new n) fun o q _ => by rw [upd_ne (ne_of_none q n)]; exact q⟩
  keep := fun d v r => (r.stay st.av).goes (goes_new n)
  new := s.isNew n
  nav := s.newA n
  at_ := at_
theorem sf_lst {es : List Expr} {m : MA} (h : SA X G es m) (hl : es.length ≤ 1000 := by decide) : SF X G (.List es pos) (mLst m) := PE.imp (pe_lst h.pa) fun σ H Q ⟨env, s, q⟩ => by
  refine (TAo.bind s (PostF G σ H Q) (fun z => z) (fun _ z => z) q).mono fun xs H1 ⟨ds, e1, eq, s1, st1, g1, q1⟩ => ?_
  refine ⟨size1000 (by rw [← g1.length, h.len _ _ _ eq]; exact hl), fun p n => ?_⟩
  exact q1 p _ (s1.newOk st1 n ⟨xs, upd_same, g1.goes (goes_new n)⟩)
theorem ss_setF {i : Nat} {x : Str} {m : ME} {pos' : Pos} (hN : X.N.Nodup) (hi : (G.ow.contains i) = true) (hi0 : i = 0 → G.pa = none) (hn : X.N[i]? = some x) (hx : Loc X.env.scope x) (h : SF X G e m) (hs : swapsWith e (some (.Name x pos')) pos.line X.env = pure false := by rfl)
    (hf : X.fn x = true ∨ X.env.scope.names.lookup x = some .local := by first | exact .inl rfl | exact .inr rfl | assumption) : SS X G (.Assign [.Name x pos'] e pos) (mSet i m) := PS.imp (ps_set hN hn hx h hs hf) fun D σ H ⟨env, s, q⟩ => by
  have hi' : i ∈ G.ow := by simpa using hi
  refine ⟨env, s, ?_⟩
  unfold mSet at q
  cases r : m env with
  | stuck => rw [r] at q; exact q
  | err e => rw [r] at q; exact q
  | ok d env' =>
    rw [r] at q
    refine fun p H' N => ?_
    have less : ∀ a, Av G (σ.set i (some (.ref p))) a → Av1 G σ p a := fun a h => by
      rcases h with h | ⟨j, hj, h⟩
      · exact .inl (.inl h)
      · rcases getElem?_set_cases h with ⟨_, e⟩ | ⟨_, h⟩
        · cases e; exact .inr rfl
        · exact .inl (.inr ⟨j, hj, h⟩)
    have up : ∀ {j a}, (σ.set i (some (.ref p)))[j]? = some (some (.ref a)) → (j = i ∧ a = p) ∨ (j ≠ i ∧ σ[j]? = some (some (.ref a))) := fun {j a} h => by
      rcases getElem?_set_cases h with ⟨e, e2⟩ | h
      · cases e2; exact .inl ⟨e, rfl⟩
      · exact .inr h
    have notP : ∀ {j a}, j ∈ G.ow → σ[j]? = some (some (.ref a)) → a ≠ p := fun {j a} hj h z => N.nav (.inr ⟨j, hj, by rw [← z]; exact h⟩)
    refine q _ _ ⟨N.sr.tabs, fun j d' h hj => ?_, fun j d' h hj => ?_, fun j hj a h => ?_, fun j hj l hl a h1 h2 => ?_, fun a h => ?_, N.sr.frame, fun a h => ?_, by simp [N.sr.len], N.sr.avT, N.sr.exF, fun j hj a h => ?_, N.sr.stays⟩ fun d v r => (N.keep d v r).less less
    · have ne : j ≠ i := fun e => hj (e ▸ hi')
      rw [List.getElem?_set_ne (Ne.symm ne)] at h
      obtain ⟨v, h1, r1⟩ := N.val j d' h hj
      exact ⟨v, by rw [List.getElem?_set_ne (Ne.symm ne)]; exact h1, r1.less less⟩
    · rcases getElem?_set_cases h with ⟨e1, e2⟩ | ⟨ne, h⟩
      · cases e2
        subst e1
        have hl : j < σ.length := by rw [← N.sr.len]; simpa using (List.getElem?_eq_some_iff.mp h).1
        exact ⟨p, List.getElem?_set_self hl, N.at_.goes (.less less) fun _ q _ => q⟩
      · obtain ⟨a, h1, o⟩ := N.own j d' h hj
        exact ⟨a, by rw [List.getElem?_set_ne (Ne.symm ne)]; exact h1, o.goes (.less less) fun _ q _ => q⟩
    · rcases up h with ⟨_, e⟩ | ⟨_, h⟩
      · rw [e]; exact .inr N.new
      · exact s.fresh j hj a h
    · rcases up h1 with ⟨e1, p1⟩ | ⟨n1, h1⟩
      · rcases up h2 with ⟨e2, _⟩ | ⟨_, h2⟩
        · rw [e1, e2]
        · exact absurd p1 (notP hl h2)
      · rcases up h2 with ⟨_, p2⟩ | ⟨_, h2⟩
        · exact absurd p2 (notP hj h1)
        · exact s.dist j hj l hl a h1 h2
    · rcases less a h with h | h
      · exact N.sr.there a h
      · rw [h]; exact N.at_.there
    · have ne : (0 : Nat) ≠ i := fun z => by rw [hi0 z.symm] at h; cases h
      obtain ⟨h0, h1, d0, h2⟩ := N.sr.par a h
      exact ⟨h0, by rw [List.getElem?_set_ne (Ne.symm ne)]; exact h1, d0, by rw [List.getElem?_set_ne (Ne.symm ne)]; exact h2⟩
    · rcases up h with ⟨_, e⟩ | ⟨_, h⟩
      · rw [e]; exact fun z => N.nav (.inl (.inr z))
      · exact s.exO j hj a h
/-- return [..], where a new list is promised -/
theorem ss_retF {m : ME} (h : SF X G e m) (hl : ∀ env d s, m env = .ok d s → ∃ ds, d = .lst ds) : SS X G (.Return (some e) pos) (mRet m) := PS.imp (ps_ret h) fun D σ H ⟨env, s, q⟩ => by
  refine ⟨env, s, ?_⟩
  unfold mRet at q
  cases r : m env with
  | stuck => rw [r] at q; exact q
  | err e => rw [r] at q; exact q
  | ok d env' =>
    rw [r] at q
    obtain ⟨ds, rfl⟩ := hl _ _ _ r
    intro p H' N
    obtain ⟨vs, h1, r1⟩ := N.at_
    exact q _ _ ⟨N.sr.tabs, N.sr.frame, .lst h1 (fun z => N.nav (.inl (.inl z))) (r1.less fun a z => .inl (.inl (.inl z))), N.sr.parOwn, N.sr.stays, fun _ => ⟨p, rfl, N.new, vs, h1, r1.less fun a z => z.elim (fun z => .inl (.inl (.inl z))) .inr⟩⟩
theorem mLst_lst {m : MA} : ∀ env d s, mLst m env = .ok d s → ∃ ds, d = .lst ds := fun env d s h => by
  unfold mLst at h
  cases r : m env with
  | stuck => rw [r] at h; cases h
  | err e => rw [r] at h; cases h
  | ok ds e1 => rw [r] at h; cases h; exact ⟨ds, rfl⟩

/-! ### what is walked -/
structure JOk (K : PySem.W.Frag) (mg : Str → Option Value) (J : It) (ds : List D) (av : Addr → Prop) (H : Hp) (P : Nat → (Addr → Prop) → Hp → Prop) : Prop where
  at0 : P 0 av H
  keep : ∀ i av H av' H', P i av H → (∀ d v, Rep K mg H av d v → Rep K mg H' av' d v) → P i av' H'
  stop : ∀ i av H, P i av H → ds.length ≤ i → J.stop i H
  go : ∀ i av H d, (∀ a, av a → ∃ o, H a = some o) → P i av H → ds[i]? = some d → J.go i H ∧ ∀ x H', J.yld i H x H' → Ext H H' ∧ Rep K mg H' av d x ∧ P (i + 1) av H'
abbrev MI := En → R (List D)
def PostI (G : Gh) (σ : St) (H : Hp) (Q : It → Hp → Prop) : R (List D) → Prop
  | .stuck => False
  | .err e => PostE G e
  | .ok ds env' => ∀ J P H', SR G σ H' env' → Stay (Ch G σ) H H' → JOk G.K G.mg J ds (Av G σ) H' P → Q J H'
def TIo (G : Gh) (m : MI) : TI := fun σ H Q => ∃ env, SR G σ H env ∧ PostI G σ H Q (m env)
def SI (X : Cx) (G : Gh) (tg e : Expr) (m : MI) : Prop := PI X tg e (TIo G m)
theorem PI.imp {tg e : Expr} {t t' : TI} (h : PI X tg e t) (i : ∀ σ H Q, t' σ H Q → t σ H Q) : PI X tg e t' := ⟨fun pins s σ H Q I q => h.run pins s σ H Q I (i σ H Q q)⟩
def seqOf : D → Option (List D)
  | .lst ds => some ds
  | _ => none
def tupOf : D → Option (List D)
  | .tup ds => some ds
  | _ => none
def mIter (f : D → Option (List D)) (m : ME) : MI := fun env => (m env).bind fun d s => match f d with
  | some ds => .ok ds s
  | none => .stuck
theorem jok_list {a : Addr} {ds : List D} {K : PySem.W.Frag} {mg : Str → Option Value} {av : Addr → Prop} {H : Hp} (h : Rep K mg H av (.lst ds) (.ref a)) : JOk K mg (Itl K a) ds av H (fun _ av H => Rep K mg H av (.lst ds) (.ref a)) where
  at0 := h
  keep := fun _ _ _ _ _ p k => k _ _ p
  stop := fun i av H p hl => by
    obtain ⟨a', vs, e, h1, r1⟩ := p.lst_inv
    cases e
    exact ⟨vs, .of h1, by rw [← r1.length]; exact hl⟩
  go := fun i av H d _ p hd => by
    obtain ⟨a', vs, e, h1, r1⟩ := p.lst_inv
    cases e
    obtain ⟨v, hv, rv⟩ := r1.get hd
    refine ⟨⟨vs, v, .of h1, hv⟩, fun x H' ⟨e, y⟩ => ?_⟩
    subst e
    have := y vs (.of h1)
    rw [hv] at this
    cases this
    exact ⟨.refl _, rv, p⟩
theorem jok_tup {a : Addr} {ds : List D} {K : PySem.W.Frag} {mg : Str → Option Value} {av : Addr → Prop} {H : Hp} (h : Rep K mg H av (.tup ds) (.ref a)) : JOk K mg (Itt K a) ds av H (fun _ av H => Rep K mg H av (.tup ds) (.ref a)) where
  at0 := h
  keep := fun _ _ _ _ _ p k => k _ _ p
  stop := fun i av H p hl => by
    obtain ⟨a', vs, e, h1, r1⟩ := p.tup_inv
    cases e
    exact ⟨vs, h1, by rw [← r1.length]; exact hl⟩
  go := fun i av H d _ p hd => by
    obtain ⟨a', vs, e, h1, r1⟩ := p.tup_inv
    cases e
    obtain ⟨v, hv, rv⟩ := r1.get hd
    refine ⟨⟨vs, v, h1, hv⟩, fun x H' ⟨e, y⟩ => ?_⟩
    subst e
    have := y vs (h1)
    rw [hv] at this
    cases this
    exact ⟨.refl _, rv, p⟩
theorem si_list {tg : Expr} {m : ME} (hK : X.K = G.K) (h : SE X G e m) : SI X G tg e (mIter seqOf m) := PI.imp (pi_list h) fun σ H Q ⟨env, s, q⟩ => by
  refine (TEo.bind s (PostI G σ H Q) (fun z => z) (fun _ z => z) q).mono fun x H1 ⟨d, e1, ⟨s1, st1, g1⟩, q1⟩ => ?_
  cases d with
  | lst ds =>
    have g2 := g1
    obtain ⟨a, vs, rfl, h1, r1⟩ := g1.lst_inv
    refine ⟨a, rfl, ⟨vs, .of h1⟩, ?_⟩
    rw [hK]
    exact q1 _ _ H1 s1 st1 (jok_list g2)
  | _ => exact q1.elim
theorem si_tup {tg : Expr} {m : ME} (hK : X.K = G.K) (h : SE X G e m) : SI X G tg e (mIter tupOf m) := PI.imp (pi_tup h) fun σ H Q ⟨env, s, q⟩ => by
  refine (TEo.bind s (PostI G σ H Q) (fun z => z) (fun _ z => z) q).mono fun x H1 ⟨d, e1, ⟨s1, st1, g1⟩, q1⟩ => ?_
  cases d with
  | tup ds =>
    have g2 := g1
    obtain ⟨a, vs, rfl, h1, r1⟩ := g1.tup_inv
    rw [hK]
    refine ⟨a, rfl, ⟨vs, h1⟩, ?_⟩
    exact q1 _ _ H1 s1 st1 (jok_tup g2)
  | _ => exact q1.elim
def rangeD (lo hi : Int) : List D := (List.range (hi - lo).toNat).map fun i => .int (lo + (i : Nat))
theorem rangeD_get {lo hi : Int} {i : Nat} {d : D} (h : (rangeD lo hi)[i]? = some d) : i < (hi - lo).toNat ∧ d = .int (lo + (i : Nat)) := by
  unfold rangeD at h
  rw [List.getElem?_map] at h
  cases q : (List.range (hi - lo).toNat)[i]? with
  | none => rw [q] at h; cases h
  | some j =>
    rw [q] at h
    obtain ⟨hl, e⟩ := List.getElem?_eq_some_iff.mp q
    simp at e hl
    subst e
    cases h
    exact ⟨by omega, rfl⟩
theorem jok_range {lo hi : Int} {K : PySem.W.Frag} {mg : Str → Option Value} {av : Addr → Prop} {H : Hp} : JOk K mg (Itr lo (hi - lo).toNat) (rangeD lo hi) av H (fun _ _ _ => True) where
  at0 := True.intro
  keep := fun _ _ _ _ _ p _ => p
  stop := fun i av H _ hl => by
    have : (hi - lo).toNat ≤ i := by simpa [rangeD] using hl
    exact this
  go := fun i av H d _ _ hd => by
    obtain ⟨h1, e⟩ := rangeD_get hd
    subst e
    refine ⟨h1, fun x H' ⟨e, y⟩ => ?_⟩
    subst e y
    exact ⟨.refl _, .int _, True.intro⟩
def mRng1 (m : MA) : MI := fun env => (m env).bind fun ds s => match ds with
  | [.int j] => if -1000000000 ≤ j ∧ j ≤ 1000000000 then .ok (rangeD 0 j) s else .stuck
  | _ => .stuck
def mRng2 (m : MA) : MI := fun env => (m env).bind fun ds s => match ds with
  | [.int i, .int j] => if (-1000000000 ≤ i ∧ i ≤ 1000000000) ∧ -1000000000 ≤ j ∧ j ≤ 1000000000 then .ok (rangeD i j) s else .stuck
  | _ => .stuck
theorem si_rng1 {tg a : Expr} {m : MA} {p : Pos} (hg : Gl X "range") (hm : X.mg "range" = none) (h : SA X G [a] m) (hs : starEach [a] X.env = [(false, eval a X.env)] := by rfl) : SI X G tg (.Call (.Name "range" p) [a] [] pos) (mRng1 m) :=
  PI.imp (pi_range1 hg hm h.pa hs) fun σ H Q ⟨env, s, q⟩ => by
  refine (TAo.bind s (PostI G σ H Q) (fun z => z) (fun _ z => z) q).mono fun xs H1 ⟨ds, e1, eq, s1, st1, g1, q1⟩ => ?_
  split at q1
  · rename_i j
    split at q1
    · rename_i hb
      cases g1 with
      | cons r t =>
        cases t
        cases r
        refine ⟨j, rfl, by omega, by omega, ?_⟩
        have := q1 _ _ H1 s1 st1 (jok_range (lo := 0) (hi := j))
        rw [Int.sub_zero] at this
        exact this
    · exact q1.elim
  · exact q1.elim
theorem si_rng2 {tg a b : Expr} {m : MA} {p : Pos} (hg : Gl X "range") (hm : X.mg "range" = none) (h : SA X G [a, b] m) (hs : starEach [a, b] X.env = [(false, eval a X.env), (false, eval b X.env)] := by rfl) (hs2 : starEach [b] X.env = [(false, eval b X.env)] := by rfl) : SI X G tg (.Call (.Name "range" p) [a, b] [] pos) (mRng2 m) :=
  PI.imp (pi_range2 hg hm h.pa hs hs2) fun σ H Q ⟨env, s, q⟩ => by
  refine (TAo.bind s (PostI G σ H Q) (fun z => z) (fun _ z => z) q).mono fun xs H1 ⟨ds, e1, eq, s1, st1, g1, q1⟩ => ?_
  split at q1
  · rename_i i j
    split at q1
    · rename_i hb
      cases g1 with
      | cons r t =>
        cases t with
        | cons r2 t2 =>
        cases t2
        cases r
        cases r2
        exact ⟨i, j, rfl, ⟨by omega, by omega, by omega, by omega⟩, q1 _ _ H1 s1 st1 jok_range⟩
    · exact q1.elim
  · exact q1.elim

/-! ### for -/
def forL (mt : MG) (mb : MS) : List D → MS
  | [], env => .nx env
  | d :: ds, env => match mt d env with
    | none => .stuck
    | some e1 => (match mb e1 with
      | .nx e2 => forL mt mb ds e2
      | .ct e2 => forL mt mb ds e2
      | .bk e2 => .nx e2
      | r => r)
def mFor (mi : MI) (mt : MG) (mb : MS) : MS := fun env => bindS (mi env) fun ds s => forL mt mb ds s
theorem ss_for {tg iter : Expr} {body : List Stmt} {mi : MI} {mt : MG} {mb : MS} {vs : List Nat} (x : XS X G k) (hi : SI X G tg iter mi) (hg : SG X G tg vs mt) (hb : SSs X G body mb)
    (hs : ∀ x, foldedSetIterable iter X.env x = pure x := by intro _; rfl) : SS X G (.For tg iter body [] pos) (mFor mi mt mb) := PS.imp (ps_for x.po x.calm hi hg hb hs) fun D σ H ⟨env, s, q⟩ => by
  refine ⟨env, s, ?_⟩
  unfold mFor at q
  cases r : mi env with
  | stuck => rw [r] at q; exact q
  | err e => rw [r] at q; exact q
  | ok ds env1 =>
    rw [r] at q
    have q : PostS G D σ H (forL mt mb ds env1) := q
    intro J P H1 s1 st1 J1
    refine ⟨fun i m σ' H' => ∃ env', SR G σ' H' env' ∧ Keep G σ H σ' H' ∧ P i (Av G σ') H' ∧ i ≤ ds.length ∧ m = ds.length - i ∧ PostS G D σ H (forL mt mb (ds.drop i) env'), ⟨ds.length, env1, s1, st1.keep, J1.at0, Nat.zero_le _, rfl, q⟩, ?_⟩
    rintro i m σ2 H2 ⟨e2, s2, k2, p2, hi, rfl, q2⟩
    by_cases hlt : i < ds.length
    · refine .inr ?_
      have hd : ds[i]? = some ds[i] := List.getElem?_eq_getElem hlt
      obtain ⟨go, yl⟩ := J1.go i _ H2 _ (fun a h => let ⟨o, q, _⟩ := s2.there a h; ⟨o, q⟩) p2 hd
      refine ⟨go, fun σ' H' => ∃ env', SR G σ' H' env' ∧ Keep G σ H σ' H' ∧ P (i + 1) (Av G σ') H' ∧ PostS G D σ H (forL mt mb (ds.drop (i + 1)) env'), fun σ' H' ⟨env', a, b, c, d⟩ => ⟨ds.length - (i + 1), by omega, env', a, b, c, hlt, rfl, d⟩, fun y H3 hy => ?_⟩
      obtain ⟨ex3, r3, p3⟩ := yl y H3 hy
      rw [List.drop_eq_getElem_cons hlt] at q2
      have q2 : PostS G D σ H (match mt ds[i] e2 with
        | none => .stuck
        | some e1 => (match mb e1 with
          | .nx e2 => forL mt mb (ds.drop (i + 1)) e2
          | .ct e2 => forL mt mb (ds.drop (i + 1)) e2
          | .bk e2 => .nx e2
          | r => r)) := q2
      cases z : mt ds[i] e2 with
      | none => rw [z] at q2; exact q2.elim
      | some e3 =>
        rw [z] at q2
        refine ⟨e2, ds[i], e3, s2.ext ex3, r3, z, fun σ4 H4 s4 k4 o4 e4 => ⟨e3, s4, ?_⟩⟩
        have k24 : Keep G σ2 H2 σ4 H4 := ((Ext.stay ex3 _).keep).trans k4
        have q2 : PostS G D σ H (match mb e3 with
          | .nx e2 => forL mt mb (ds.drop (i + 1)) e2
          | .ct e2 => forL mt mb (ds.drop (i + 1)) e2
          | .bk e2 => .nx e2
          | r => r) := q2
        cases w : mb e3 with
        | stuck => rw [w] at q2; exact q2
        | err e => rw [w] at q2; exact q2
        | rt d e => rw [w] at q2; exact q2
        | nx e5 => rw [w] at q2; exact fun σ' H' a b => ⟨e5, a, (k2.trans k24).trans b, J1.keep _ _ _ _ _ p3 (k4.trans b), q2⟩
        | ct e5 => rw [w] at q2; exact fun σ' H' a b => ⟨e5, a, (k2.trans k24).trans b, J1.keep _ _ _ _ _ p3 (k4.trans b), q2⟩
        | bk e5 => rw [w] at q2; exact fun σ' H' a b => q2 σ' H' a ((k2.trans k24).trans b)
    · refine .inl ⟨J1.stop i _ H2 p2 (by omega), ?_⟩
      rw [List.drop_eq_nil_of_le (by omega)] at q2
      exact q2 σ2 H2 s2 k2

/-! ### while -/
def whileL (t : MT) (mb : MS) : Nat → MS
  | 0, _ => .stuck
  | n + 1, env => bindS (t env) fun k s => if k = true then (match mb s with
    | .nx e2 => whileL t mb n e2
    | .ct e2 => whileL t mb n e2
    | .bk e2 => .nx e2
    | r => r) else .nx s
def mWhile (n : Nat) (t : MT) (mb : MS) : MS := whileL t mb n
theorem ss_while {c : Expr} {body : List Stmt} {t : MT} {mb : MS} {n : Nat} (x : XS X G k) (hc : ST X G c t) (hb : SSs X G body mb) : SS X G (.While c body [] pos) (mWhile n t mb) := PS.imp (ps_while x.po hc hb) fun D σ H ⟨env, s, q⟩ => by
  refine ⟨fun m σ' H' => ∃ env', SR G σ' H' env' ∧ Keep G σ H σ' H' ∧ PostS G D σ H (whileL t mb m env'), ⟨n, env, s, .refl _ _ _, q⟩, ?_⟩
  rintro m σ2 H2 ⟨e2, s2, k2, q2⟩
  cases m with
  | zero => exact q2.elim
  | succ m =>
    refine (TTo.bindS s2 (PostS G D σ H) (fun z => z) (fun _ z => z) q2).mono fun b H3 ⟨e3, s3, st3, q3⟩ => ?_
    cases b with
    | false =>
      rw [if_neg Bool.false_ne_true] at q3 ⊢
      exact q3 σ2 H3 s3 (k2.trans st3.keep)
    | true =>
      rw [if_pos rfl] at q3 ⊢
      refine ⟨fun σ' H' => ∃ env', SR G σ' H' env' ∧ Keep G σ H σ' H' ∧ PostS G D σ H (whileL t mb m env'), fun σ' H' h => ⟨m, Nat.lt_succ_self m, h⟩, e3, s3, ?_⟩
      have k3 := k2.trans st3.keep
      cases w : mb e3 with
      | stuck => rw [w] at q3; exact q3
      | err e => rw [w] at q3; exact q3
      | rt d e => rw [w] at q3; exact q3
      | nx e5 => rw [w] at q3; exact fun σ' H' a b => ⟨e5, a, k3.trans b, q3⟩
      | ct e5 => rw [w] at q3; exact fun σ' H' a b => ⟨e5, a, k3.trans b, q3⟩
      | bk e5 => rw [w] at q3; exact fun σ' H' a b => q3 σ' H' a (k3.trans b)
end
end FT

set_option Elab.async false
set_option linter.all false
set_option maxRecDepth 100000
set_option maxHeartbeats 1000000
/-! FTG: comprehensions, calls of defs, defs by their bodies. -/
namespace FT
open PySem PySem.Spec PyProof.Rows L2

/-! ### comprehensions -/
def wipeE (vs : List Nat) (e : En) : En := vs.foldr (fun v e => e.set v none) e
def resE (vs : List Nat) (e0 e : En) : En := vs.foldr (fun v e => e.set v (e0[v]?.join)) e
theorem wipeE_len : ∀ (vs : List Nat) (e : En), (wipeE vs e).length = e.length
  | [], e => rfl
  | v :: vs, e => by
    show ((wipeE vs e).set v none).length = e.length
    rw [List.length_set, wipeE_len vs e]
theorem resE_len (e0 : En) : ∀ (vs : List Nat) (e : En), (resE vs e0 e).length = e.length
  | [], e => rfl
  | v :: vs, e => by
    show ((resE vs e0 e).set v _).length = e.length
    rw [List.length_set, resE_len e0 vs e]
theorem wipeE_some : ∀ {vs : List Nat} {e : En} {i : Nat} {d : D}, (wipeE vs e)[i]? = some (some d) → e[i]? = some (some d) ∧ i ∉ vs
  | [], e, i, d, h => ⟨h, by simp⟩
  | v :: vs, e, i, d, h => by
    have h : ((wipeE vs e).set v none)[i]? = some (some d) := h
    by_cases z : v = i
    · subst z
      by_cases hl : v < (wipeE vs e).length
      · rw [List.getElem?_set_self hl] at h; cases h
      · rw [List.getElem?_eq_none (by simpa using hl)] at h; cases h
    · rw [List.getElem?_set_ne z] at h
      obtain ⟨a, b⟩ := wipeE_some h
      exact ⟨a, fun q => by rcases List.mem_cons.mp q with q | q; exact z q.symm; exact b q⟩
theorem resE_some {e0 : En} : ∀ {vs : List Nat} {e : En} {i : Nat} {d : D}, (resE vs e0 e)[i]? = some (some d) → (i ∈ vs ∧ e0[i]? = some (some d)) ∨ (i ∉ vs ∧ e[i]? = some (some d))
  | [], e, i, d, h => .inr ⟨by simp, h⟩
  | v :: vs, e, i, d, h => by
    have h : ((resE vs e0 e).set v (e0[v]?.join))[i]? = some (some d) := h
    by_cases z : v = i
    · subst z
      by_cases hl : v < (resE vs e0 e).length
      · rw [List.getElem?_set_self hl] at h
        exact .inl ⟨by simp, join_some (Option.some.inj h)⟩
      · rw [List.getElem?_eq_none (by simpa using hl)] at h; cases h
    · rw [List.getElem?_set_ne z] at h
      rcases resE_some h with ⟨a, b⟩ | ⟨a, b⟩
      · exact .inl ⟨List.mem_cons_of_mem _ a, b⟩
      · exact .inr ⟨fun q => by rcases List.mem_cons.mp q with q | q; exact z q.symm; exact a q, b⟩
theorem wipeE_get : ∀ {vs : List Nat} {e : En} {i : Nat}, i ∉ vs → (wipeE vs e)[i]? = e[i]?
  | [], _, _, _ => rfl
  | v :: vs, e, i, h => by
    show ((wipeE vs e).set v none)[i]? = e[i]?
    rw [List.getElem?_set_ne (fun z => h (by rw [z]; exact List.mem_cons_self)), wipeE_get (fun z => h (List.mem_cons_of_mem _ z))]
theorem resE_get : ∀ {vs : List Nat} {e0 e : En} {i : Nat}, i ∉ vs → (resE vs e0 e)[i]? = e[i]?
  | [], _, _, _, _ => rfl
  | v :: vs, e0, e, i, h => by
    show ((resE vs e0 e).set v (e0[v]?.join))[i]? = e[i]?
    rw [List.getElem?_set_ne (fun z => h (by rw [z]; exact List.mem_cons_self)), resE_get (fun z => h (List.mem_cons_of_mem _ z))]
theorem wipe_get : ∀ {σ : L2.St} {vs : List Nat} {i : Nat}, i ∉ vs → (wipe σ vs)[i]? = σ[i]?
  | _, [], _, _ => rfl
  | σ, v :: vs, i, h => by
    show ((wipe σ vs).set v none)[i]? = σ[i]?
    rw [List.getElem?_set_ne (fun z => h (by rw [z]; exact List.mem_cons_self)), wipe_get (fun z => h (List.mem_cons_of_mem _ z))]
theorem wipe_in : ∀ {σ : L2.St} {vs : List Nat} {i : Nat}, i ∈ vs → i < σ.length → (wipe σ vs)[i]? = some none
  | σ, v :: vs, i, h, hl => by
    show ((wipe σ vs).set v none)[i]? = some none
    by_cases z : v = i
    · subst z
      rw [List.getElem?_set_self (by rw [wipe_length]; exact hl)]
    · rw [List.getElem?_set_ne z]
      rcases List.mem_cons.mp h with q | q
      · exact absurd q.symm z
      · exact wipe_in q hl
theorem wipe_eq {σ σ' : L2.St} {vs : List Nat} (o : Only vs σ σ') : wipe σ' vs = wipe σ vs := by
  apply List.ext_getElem?
  intro i
  by_cases h : i ∈ vs
  · by_cases hl : i < σ.length
    · rw [wipe_in h hl, wipe_in h (by rw [o.1]; exact hl)]
    · rw [List.getElem?_eq_none (by rw [wipe_length, o.1]; omega), List.getElem?_eq_none (by rw [wipe_length]; omega)]
  · rw [wipe_get h, wipe_get h, o.2 i h]
theorem wipe_wipe {σ : L2.St} {vs : List Nat} : wipe (wipe σ vs) vs = wipe σ vs := wipe_eq ⟨wipe_length _ _, fun j h => wipe_get h⟩
theorem wipe_only {σ : L2.St} {vs : List Nat} : Only vs σ (wipe σ vs) := ⟨wipe_length _ _, fun j h => wipe_get h⟩

def Gh.inC (G : Gh) (D : Addr) : Gh := { G with ex := fun a => G.ex a ∨ a = D, E := fun _ _ _ => False }
section
variable {G : Gh} {σ : St} {H H' : Hp} {env : En}
theorem av_inC {D a : Addr} : Av (G.inC D) σ a ↔ Av G σ a ∨ a = D := by
  unfold Av Gh.inC
  constructor
  · rintro ((h | h | h) | h)
    · exact .inl (.inl (.inl h))
    · exact .inl (.inl (.inr h))
    · exact .inr h
    · exact .inl (.inr h)
  · rintro (((h | h) | h) | h)
    · exact .inl (.inl h)
    · exact .inl (.inr (.inl h))
    · exact .inr h
    · exact .inl (.inr (.inr h))
theorem av_wipe {vs : List Nat} (hv : ∀ i ∈ vs, i ∉ G.ow) (a : Addr) : Av G (wipe σ vs) a ↔ Av G σ a := by
  unfold Av
  constructor
  · rintro (h | ⟨j, hj, h⟩)
    · exact .inl h
    · exact .inr ⟨j, hj, by rw [← wipe_get (vs := vs) fun z => hv j z hj]; exact h⟩
  · rintro (h | ⟨j, hj, h⟩)
    · exact .inl h
    · exact .inr ⟨j, hj, by rw [wipe_get (vs := vs) fun z => hv j z hj]; exact h⟩
/-- into the comprehension: its names forgotten, its list avoided -/
theorem SR.enter (s : SR G σ H env) {vs : List Nat} (hv : ∀ i ∈ vs, i ∉ G.ow) {D : Addr} (n : H D = none) {o : HO} (no : NotTbl o) : SR (G.inC D) (wipe σ vs) (upd H D o) (wipeE vs env) := by
  have g : Goes (Av G σ) (Av (G.inC D) (wipe σ vs)) H (upd H D o) := ⟨fun b u nb h _ => ⟨by rw [upd_ne (ne_of_none h n)]; exact h, fun z => by
    rcases av_inC.mp z with z | z
    · exact nb ((av_wipe hv b).mp z)
    · exact ne_of_none h n z⟩⟩
  refine ⟨s.tabs.ext (Ext.upd n), fun i d h hi => ?_, fun i d h hi => ?_, fun i hi a h => ?_, fun i hi j hj a h1 h2 => ?_, fun a h => ?_, fun b u h1 h2 h3 => ?_, fun a h => ?_, by rw [wipeE_len, wipe_length]; exact s.len, s.avT, fun a h => ?_, fun i hi a h => ?_, fun b u h t => ?_⟩
  · obtain ⟨h1, h2⟩ := wipeE_some h
    obtain ⟨v, e, r⟩ := s.val i d h1 hi
    exact ⟨v, by rw [wipe_get h2]; exact e, r.goes g⟩
  · obtain ⟨h1, h2⟩ := wipeE_some h
    obtain ⟨a, e, r⟩ := s.own i d h1 hi
    exact ⟨a, by rw [wipe_get h2]; exact e, r.goes g fun u q _ => by rw [upd_ne (ne_of_none q n)]; exact q⟩
  · rw [wipe_get (vs := vs) fun z => hv i z hi] at h
    exact s.fresh i hi a h
  · rw [wipe_get (vs := vs) fun z => hv i z hi] at h1
    rw [wipe_get (vs := vs) fun z => hv j z hj] at h2
    exact s.dist i hi j hj a h1 h2
  · rcases av_inC.mp h with h | h
    · obtain ⟨u, q, t⟩ := s.there a ((av_wipe hv a).mp h)
      exact ⟨u, by rw [upd_ne (ne_of_none q n)]; exact q, t⟩
    · exact ⟨o, by rw [h, upd_same], no⟩
  · have q := s.frame b u h1 h2 h3
    rw [upd_ne (ne_of_none q n)]; exact q
  · obtain ⟨h0, h1, d0, h2⟩ := s.par a h
    have n0 : (0 : Nat) ∉ vs := fun z => hv 0 z h0
    refine ⟨h0, by rw [wipe_get n0]; exact h1, d0, ?_⟩
    have : ∀ vs : List Nat, 0 ∉ vs → (wipeE vs env)[0]? = env[0]? := fun vs => by
      induction vs with
      | nil => intro _; rfl
      | cons v vs ih =>
        intro hn
        show ((wipeE vs env).set v none)[0]? = env[0]?
        rw [List.getElem?_set_ne (fun z => hn (by rw [z]; exact List.mem_cons_self)), ih fun z => hn (List.mem_cons_of_mem _ z)]
    rw [this vs n0]; exact h2
  · rcases h with h | h
    · exact s.exF a h
    · rw [h]; exact s.isNew n
  · rw [wipe_get (vs := vs) fun z => hv i z hi] at h
    rintro (z | z)
    · exact s.exO i hi a h z
    · obtain ⟨o', q, _⟩ := s.there a (.inr ⟨i, hi, h⟩)
      rw [z, n] at q; cases q
  · obtain ⟨u', q, t'⟩ := s.stays b u h t
    exact ⟨u', by rw [upd_ne (ne_of_none q n)]; exact q, t'⟩
/-- the comprehension's list is written -/
theorem SR.writeC {D : Addr} {o u : HO} (s : SR (G.inC D) σ H env) (h : H D = some u) (nu : NotTbl u) (nc : ∀ q, u ≠ LamX.CodeO D q) (no : NotTbl o) : SR (G.inC D) σ (upd H D o) env ∧ Stay (Av (G.inC D) σ) H (upd H D o) := by
  have av : Av (G.inC D) σ D := av_inC.mpr (.inr rfl)
  have st : Stay (Av (G.inC D) σ) H (upd H D o) := fun b w nb q _ => by rw [upd_ne (fun z => nb (by rw [z]; exact av))]; exact q
  have nD : NoO (G.inC D).H0 D := s.exF D (.inr rfl)
  refine ⟨⟨tabs_upd s.tabs h nu nc, fun i d h hi => ?_, fun i d h1 hi => ?_, s.fresh, s.dist, fun a h => ?_, fun b w h1 h2 h3 => ?_, s.par, s.len, s.avT, s.exF, s.exO, fun b w q t => ?_⟩, st⟩
  · obtain ⟨v, e, r⟩ := s.val i d h hi
    exact ⟨v, e, r.stay st⟩
  · obtain ⟨a, e, r⟩ := s.own i d h1 hi
    refine ⟨a, e, r.goes (.stay st) fun w q _ => ?_⟩
    rw [upd_ne (fun z => ?_)]
    · exact q
    · exact s.exO i hi a e (.inr z)
  · by_cases z : a = D
    · exact ⟨o, by rw [z, upd_same], no⟩
    · rw [upd_ne z]; exact s.there a h
  · by_cases z : b = D
    · rw [z] at h2; exact (nD w h2 h3).elim
    · rw [upd_ne z]; exact s.frame b w h1 h2 h3
  · by_cases z : b = D
    · exact ⟨o, by rw [z, upd_same], no⟩
    · rw [upd_ne z]; exact s.stays b w q t
/-- a turn's end: the names forgotten again -/
theorem SR.wipes (s : SR G σ H env) {vs : List Nat} (hv : ∀ i ∈ vs, i ∉ G.ow) : SR G (wipe σ vs) H (wipeE vs env) := by
  have less : ∀ a, Av G (wipe σ vs) a → Av G σ a := fun a h => (av_wipe hv a).mp h
  refine ⟨s.tabs, fun i d h hi => ?_, fun i d h hi => ?_, fun i hi a h => ?_, fun i hi j hj a h1 h2 => ?_, fun a h => s.there a (less a h), s.frame, fun a h => ?_, by rw [wipeE_len, wipe_length]; exact s.len, s.avT, s.exF, fun i hi a h => ?_, s.stays⟩
  · obtain ⟨h1, h2⟩ := wipeE_some h
    obtain ⟨v, e, r⟩ := s.val i d h1 hi
    exact ⟨v, by rw [wipe_get h2]; exact e, r.less less⟩
  · obtain ⟨h1, h2⟩ := wipeE_some h
    obtain ⟨a, e, r⟩ := s.own i d h1 hi
    exact ⟨a, by rw [wipe_get h2]; exact e, r.goes (.less less) fun u q _ => q⟩
  · rw [wipe_get (vs := vs) fun z => hv i z hi] at h
    exact s.fresh i hi a h
  · rw [wipe_get (vs := vs) fun z => hv i z hi] at h1
    rw [wipe_get (vs := vs) fun z => hv j z hj] at h2
    exact s.dist i hi j hj a h1 h2
  · obtain ⟨h0, h1, d0, h2⟩ := s.par a h
    have n0 : (0 : Nat) ∉ vs := fun z => hv 0 z h0
    exact ⟨h0, by rw [wipe_get n0]; exact h1, d0, by rw [wipeE_get n0]; exact h2⟩
  · rw [wipe_get (vs := vs) fun z => hv i z hi] at h
    exact s.exO i hi a h
/-- out of the comprehension -/
theorem SR.leave {D : Addr} {H1 : Hp} {e1 env' : En} {vs : List Nat} (s1 : SR G σ H1 e1) (s : SR (G.inC D) (wipe σ vs) H env') (hv : ∀ i ∈ vs, i ∉ G.ow) (k : ∀ d v, Rep G.K G.mg H1 (Av G σ) d v → Rep G.K G.mg H (Av (G.inC D) (wipe σ vs)) d v) : SR G σ H (resE vs e1 env') := by
  have less : ∀ a, Av G σ a → Av (G.inC D) (wipe σ vs) a := fun a h => av_inC.mpr (.inl ((av_wipe hv a).mpr h))
  refine ⟨s.tabs, fun i d h hi => ?_, fun i d h hi => ?_, s1.fresh, s1.dist, fun a h => s.there a (less a h), s.frame, fun a h => ?_, ?_, s1.avT, s1.exF, s1.exO, s.stays⟩
  · rcases resE_some h with ⟨h1, h2⟩ | ⟨h1, h2⟩
    · obtain ⟨v, e, r⟩ := s1.val i d h2 hi
      exact ⟨v, e, (k d v r).less less⟩
    · obtain ⟨v, e, r⟩ := s.val i d h2 hi
      exact ⟨v, by rw [← wipe_get h1]; exact e, Rep.less less r⟩
  · rcases resE_some h with ⟨h1, h2⟩ | ⟨h1, h2⟩
    · exact absurd hi (hv i h1)
    · obtain ⟨a, e, r⟩ := s.own i d h2 hi
      exact ⟨a, by rw [← wipe_get h1]; exact e, OwnAt.goes r (.less less) fun u q _ => q⟩
  · obtain ⟨h0, h1, d0, h2⟩ := s.par a h
    have n0 : (0 : Nat) ∉ vs := fun z => hv 0 z h0
    rw [wipe_get n0] at h1
    exact ⟨h0, h1, d0, by rw [resE_get n0]; exact h2⟩
  · rw [resE_len, s.len, wipe_length]
end

def mYes : MT := fun env => .ok true env
def lcL (mt : MG) (tt : MT) (te : ME) (vs : List Nat) : List D → List D → En → R (List D)
  | [], acc, e => .ok acc e
  | d :: ds, acc, e => match mt d e with
    | none => .stuck
    | some e1 => (match tt e1 with
      | .ok true e2 => (match te e2 with
        | .ok y e3 => if acc.length ≤ 1000000 then lcL mt tt te vs ds (acc ++ [y]) (wipeE vs e3) else .stuck
        | _ => .stuck)
      | .ok false e2 => lcL mt tt te vs ds acc (wipeE vs e2)
      | _ => .stuck)
def mLc (mi : MI) (mt : MG) (tt : MT) (te : ME) (vs : List Nat) : ME := fun env => (mi env).bind fun ds e1 => (lcL mt tt te vs ds [] (wipeE vs e1)).bind fun acc e2 => .ok (.lst acc) (resE vs e1 e2)
theorem lcL_noerr {mt : MG} {tt : MT} {te : ME} {vs : List Nat} : ∀ {ds acc : List D} {e : En} {x : Er}, lcL mt tt te vs ds acc e = .err x → False
  | [], acc, e, x, h => by unfold lcL at h; cases h
  | d :: ds, acc, e, x, h => by
    unfold lcL at h
    split at h
    · cases h
    · split at h
      · split at h
        · split at h
          · exact lcL_noerr h
          · cases h
        · cases h
      · exact lcL_noerr h
      · cases h
theorem PE.ex {X : Cx} {e : Expr} {t : Addr → TE} (h : ∀ a, PE X e (t a)) : PE X e (fun σ H Q => ∃ a, t a σ H Q) := ⟨fun pins s σ H Q I ⟨a, q⟩ => (h a).run pins s σ H Q I q⟩
theorem PG.ex {X : Cx} {e : Expr} {t : Addr → TG} (h : ∀ a, PG X e (t a)) : PG X e (fun v σ H Q => ∃ a, t a v σ H Q) := ⟨fun pins s σ H v u Q I r ⟨a, q⟩ => (h a).run pins s σ H v u Q I r q⟩
theorem PTs.ex {X : Cx} {e : List Expr} {t : Addr → TT} (h : ∀ a, PTs X e (t a)) : PTs X e (fun σ H Q => ∃ a, t a σ H Q) := ⟨fun pins s σ H Q I ⟨a, q⟩ => (h a).run pins s σ H Q I q⟩
def STs (X : Cx) (G : Gh) (es : List Expr) (m : MT) : Prop := PTs X es (TTo G m)
section
variable {X : Cx} {G : Gh} {k : Nat} {pos : Pos}
theorem sts_nil : STs X G [] mYes := ⟨fun pins s σ H Q I ⟨env, r, q⟩ => pts_nil.run pins s σ H Q I (q H r (.refl _ _))⟩
theorem sts_one {c : Expr} {m : MT} (h : ST X G c m) : STs X G [c] m := pts_one h
def PostLc (G : Gh) (σ : St) (H : Hp) (Q : VK) (vs : List Nat) (e1 : En) : R (List D) → Prop
  | .ok acc e2 => Post G σ H Q (.ok (.lst acc) (resE vs e1 e2))
  | _ => False
theorem lc_imp {mi : MI} {mt : MG} {tt : MT} {te : ME} {vs : List Nat} (hv : ∀ i ∈ vs, i ∉ G.ow) {σ : St} {H : Hp} {Q : VK} (h : TEo G (mLc mi mt tt te vs) σ H Q) :
    tLc (TIo G mi) (fun v σ H Q => ∃ a, TGo (G.inC a) vs mt v σ H Q) (fun σ H Q => ∃ a, TTo (G.inC a) tt σ H Q) (fun σ H Q => ∃ a, TEo (G.inC a) te σ H Q) vs σ H Q := by
  obtain ⟨env, s, q⟩ := h
  refine ⟨env, s, ?_⟩
  unfold mLc at q
  cases r : mi env with
  | stuck => rw [r] at q; exact q
  | err e => rw [r] at q; exact q
  | ok ds e1 =>
    rw [r] at q
    have q : Post G σ H Q ((lcL mt tt te vs ds [] (wipeE vs e1)).bind fun acc e2 => .ok (.lst acc) (resE vs e1 e2)) := q
    intro J P H1 s1 st1 J1 L nL
    -- errors do not leave a comprehension
    have q : PostLc G σ H Q vs e1 (lcL mt tt te vs ds [] (wipeE vs e1)) := by
      cases z : lcL mt tt te vs ds [] (wipeE vs e1) with
      | stuck => rw [z] at q; exact q
      | err e => exact (lcL_noerr z).elim
      | ok acc e2 => rw [z] at q; exact q
    have chw : ∀ {σ5 : St} {a : Addr}, wipe σ5 vs = wipe σ vs → Ch (G.inC L) σ5 a → Ch G σ a := fun {σ5 a} w ⟨j, hj, h⟩ => ⟨j, hj, by rw [← wipe_get (vs := vs) fun z => hv j z hj, ← w, wipe_get (vs := vs) fun z => hv j z hj]; exact h⟩
    have sE := s1.enter (o := .lst []) hv nL notTbl_lst
    have gE : ∀ d v, Rep G.K G.mg H1 (Av G σ) d v → Rep G.K G.mg (upd H1 L (.lst [])) (Av (G.inC L) (wipe σ vs)) d v := fun d v r => r.goes ⟨fun b u nb h _ => ⟨by rw [upd_ne (ne_of_none h nL)]; exact h, fun z => by
      rcases av_inC.mp z with z | z
      · exact nb ((av_wipe hv b).mp z)
      · exact ne_of_none h nL z⟩⟩
    refine ⟨fun i m H' => ∃ env' acc accV, SR (G.inC L) (wipe σ vs) H' env' ∧ (∀ d v, Rep G.K G.mg H1 (Av G σ) d v → Rep G.K G.mg H' (Av (G.inC L) (wipe σ vs)) d v) ∧ P i (Av (G.inC L) (wipe σ vs)) H' ∧ i ≤ ds.length ∧ m = ds.length - i ∧ (∀ b o, ¬ Ch G σ b → H1 b = some o → NotTbl o → H' b = some o) ∧
      H' L = some (.lst accV) ∧ Reps G.K G.mg H' (Av (G.inC L) (wipe σ vs)) acc accV ∧ PostLc G σ H Q vs e1 (lcL mt tt te vs (ds.drop i) acc env'), ⟨ds.length, wipeE vs e1, [], [], sE, gE, J1.keep _ _ _ _ _ J1.at0 gE, Nat.zero_le _, rfl, fun b o _ h _ => by rw [upd_ne (ne_of_none h nL)]; exact h, upd_same, .nil, q⟩, ?_⟩
    rintro i m H2 ⟨env2, acc, accV, s2, k2, p2, hi, rfl, S2, hL, rA, q2⟩
    by_cases hlt : i < ds.length
    · refine .inr ?_
      have hd : ds[i]? = some ds[i] := List.getElem?_eq_getElem hlt
      obtain ⟨go, yl⟩ := J1.go i _ H2 _ (fun a h => let ⟨o, z, _⟩ := s2.there a h; ⟨o, z⟩) p2 hd
      refine ⟨go, fun H' => ∃ env' acc accV, SR (G.inC L) (wipe σ vs) H' env' ∧ (∀ d v, Rep G.K G.mg H1 (Av G σ) d v → Rep G.K G.mg H' (Av (G.inC L) (wipe σ vs)) d v) ∧ P (i + 1) (Av (G.inC L) (wipe σ vs)) H' ∧ (∀ b o, ¬ Ch G σ b → H1 b = some o → NotTbl o → H' b = some o) ∧
        H' L = some (.lst accV) ∧ Reps G.K G.mg H' (Av (G.inC L) (wipe σ vs)) acc accV ∧ PostLc G σ H Q vs e1 (lcL mt tt te vs (ds.drop (i + 1)) acc env'), fun H' ⟨a, b, c, h1, h2, h3, h4, h5, h6, h7⟩ => ⟨ds.length - (i + 1), by omega, a, b, c, h1, h2, h3, hlt, rfl, h4, h5, h6, h7⟩, fun y H3 hy => ?_⟩
      obtain ⟨ex3, r3, p3⟩ := yl y H3 hy
      rw [List.drop_eq_getElem_cons hlt] at q2
      unfold lcL at q2
      cases z : mt ds[i] env2 with
      | none => rw [z] at q2; exact q2.elim
      | some e3 =>
        rw [z] at q2
        refine ⟨L, env2, ds[i], e3, s2.ext ex3, r3, z, fun σ4 H4 s4 k4 o4 eH => ?_⟩
        subst eH
        have w4 : wipe σ4 vs = wipe σ vs := (wipe_eq o4).trans wipe_wipe
        refine ⟨w4, L, e3, s4, ?_⟩
        have k3 : ∀ d v, Rep G.K G.mg H1 (Av G σ) d v → Rep G.K G.mg H4 (Av (G.inC L) σ4) d v := fun d v r => k4 d v ((k2 d v r).ext ex3)
        have kP : P (i + 1) (Av (G.inC L) σ4) H4 := J1.keep _ _ _ _ _ p3 k4
        have hL4 : H4 L = some (.lst accV) := ex3 _ _ hL
        have rA4 : Reps G.K G.mg H4 (Av (G.inC L) σ4) acc accV := Reps.keep k4 (rA.ext ex3)
        have back : ∀ {σ5 : St} {a : Addr}, wipe σ5 vs = wipe σ vs → (Av (G.inC L) (wipe σ vs) a → Av (G.inC L) σ5 a) := fun {σ5 a} w h => by
          rw [← w] at h
          rcases av_inC.mp h with h | h
          · exact av_inC.mpr (.inl ((av_wipe hv a).mp h))
          · exact av_inC.mpr (.inr h)
        have less : ∀ {σ5 : St}, wipe σ5 vs = wipe σ vs → ∀ a, Av (G.inC L) (wipe σ vs) a → Av (G.inC L) σ5 a := fun w a h => back w h
        have nCh : ∀ {σ5 : St}, SR (G.inC L) σ5 H4 e3 → ¬ Ch (G.inC L) σ5 L := fun {σ5} s ⟨j, hj, h⟩ => s.exO j hj L h (.inr rfl)
        have q2 : PostLc G σ H Q vs e1 (match tt e3 with
          | .ok true e2 => (match te e2 with
            | .ok y e3 => if acc.length ≤ 1000000 then lcL mt tt te vs (ds.drop (i + 1)) (acc ++ [y]) (wipeE vs e3) else .stuck
            | _ => .stuck)
          | .ok false e2 => lcL mt tt te vs (ds.drop (i + 1)) acc (wipeE vs e2)
          | _ => .stuck) := q2
        cases w : tt e3 with
        | stuck => rw [w] at q2; exact q2.elim
        | err e => rw [w] at q2; exact q2.elim
        | ok b e4 =>
          rw [w] at q2
          intro H5 s5 st5
          have hL5 : H5 L = some (.lst accV) := st5 L _ (nCh s4) hL4 notTbl_lst
          have k5 : ∀ d v, Rep G.K G.mg H1 (Av G σ) d v → Rep G.K G.mg H5 (Av (G.inC L) σ4) d v := fun d v r => (k3 d v r).stay st5.av
          have rA5 := rA4.stay st5.av
          have P5 : P (i + 1) (Av (G.inC L) σ4) H5 := J1.keep _ _ _ _ _ kP fun d v r => r.stay st5.av
          have S5 : ∀ b o, ¬ Ch G σ b → H1 b = some o → NotTbl o → H5 b = some o := fun b o n h t => st5 b o (fun z => n (chw w4 z)) (ex3 _ _ (S2 b o n h t)) t
          cases b with
          | false =>
            rw [if_neg Bool.false_ne_true]
            have s6 := s5.wipes (vs := vs) hv
            rw [w4] at s6
            exact ⟨_, acc, accV, s6, fun d v r => (k5 d v r).less (less w4), J1.keep _ _ _ _ _ P5 (fun d v r => r.less (less w4)), S5, hL5, rA5.less (less w4), q2⟩
          | true =>
            rw [if_pos rfl]
            have q2 : PostLc G σ H Q vs e1 (match te e4 with
              | .ok y e3 => if acc.length ≤ 1000000 then lcL mt tt te vs (ds.drop (i + 1)) (acc ++ [y]) (wipeE vs e3) else .stuck
              | _ => .stuck) := q2
            refine ⟨L, e4, s5, ?_⟩
            cases u : te e4 with
            | stuck => rw [u] at q2; exact q2.elim
            | err e => rw [u] at q2; exact q2.elim
            | ok y5 e5 =>
              rw [u] at q2
              have q2 : PostLc G σ H Q vs e1 (if acc.length ≤ 1000000 then lcL mt tt te vs (ds.drop (i + 1)) (acc ++ [y5]) (wipeE vs e5) else .stuck) := q2
              split at q2
              · rename_i hlen
                intro yv H6 s6 st6 r6
                have nCh6 : ¬ Ch (G.inC L) σ4 L := fun ⟨j, hj, h⟩ => s5.exO j hj L h (.inr rfl)
                have hL6 : H6 L = some (.lst accV) := st6 L _ nCh6 hL5 notTbl_lst
                have rA6 := rA5.stay st6.av
                refine ⟨accV, hL6, Nat.lt_of_le_of_lt (by rw [← rA6.length]; exact hlen) (by decide), ?_⟩
                obtain ⟨s7, st7⟩ := s6.writeC (o := .lst (accV ++ [yv])) hL6 notTbl_lst lst_notCode notTbl_lst
                have s8 := s7.wipes (vs := vs) hv
                rw [w4] at s8
                refine ⟨_, acc ++ [y5], accV ++ [yv], s8, fun d v r => (((k5 d v r).stay st6.av).stay st7).less (less w4), J1.keep _ _ _ _ _ P5 (fun d v r => ((r.stay st6.av).stay st7).less (less w4)), fun b o n h t => ?_, upd_same, ((rA6.snoc r6).stay st7).less (less w4), q2⟩
                rw [upd_ne (ne_of_none h nL)]
                exact st6 b o (fun z => n (chw w4 z)) (S5 b o n h t) t
              · exact q2.elim
    · refine .inl ⟨J1.stop i _ H2 p2 (by omega), ?_⟩
      rw [List.drop_eq_nil_of_le (by omega)] at q2
      have q2 : Post G σ H Q (.ok (.lst acc) (resE vs e1 env2)) := q2
      have less : ∀ a, Av G σ a → Av (G.inC L) (wipe σ vs) a := fun a h => av_inC.mpr (.inl ((av_wipe hv a).mpr h))
      exact q2 (.ref L) H2 (s1.leave s2 hv k2) (st1.trans S2) (.lst hL (s1.newA nL) (rA.less less))
theorem XG.blk (x : XG X G k) (s : Shared) (H : Hp) (scope : Scope) (cenv : Env) (fp : List Addr) (L : Addr) : XG (X.blk s H scope cenv fp) (G.inC L) k :=
  ⟨x.K, x.mg, x.room, x.calm, x.nd, fun _ _ _ _ _ _ _ h => by
    obtain ⟨_, _, _, _, _, _, _, _, _, _, _, _, z⟩ := h
    exact z.elim⟩
theorem mem_own {own : List (Str × Nat)} {ow : List Nat} (h : (own.map (·.2)).all (fun i => !ow.contains i) = true) : ∀ i ∈ own.map (·.2), i ∉ ow := fun i hi z => by
  have := List.all_eq_true.mp h i hi
  simp at this
  exact this z
theorem se_lc {elt tg iter : Expr} {ifs : List Expr} {scope : Scope} {own : List (Str × Nat)} {mi : MI} {mt : MG} {tt : MT} {te : ME} (x : XG X G k) (hv : (own.map (·.2)).all (fun i => !G.ow.contains i) = true) (hi : SI X G tg iter mi) (ok : BlkOk X.N X.env.scope scope own)
    (hg : ∀ (s : Shared) (H : Hp) (C : Addr) (cl : List (Str × Addr)) (fp : List Addr) (L : Addr), SG (X.blk s H scope (compEnvC scope cl C X.env) fp) (G.inC L) tg (own.map (·.2)) mt)
    (ht : ∀ (s : Shared) (H : Hp) (C : Addr) (cl : List (Str × Addr)) (fp : List Addr) (L : Addr), STs (X.blk s H scope (compEnvC scope cl C X.env) fp) (G.inC L) ifs tt)
    (he : ∀ (s : Shared) (H : Hp) (C : Addr) (cl : List (Str × Addr)) (fp : List Addr) (L : Addr), SE (X.blk s H scope (compEnvC scope cl C X.env) fp) (G.inC L) elt te)
    (hs : ∀ x, foldedSetIterable iter X.env x = pure x := by intro _; rfl) : SE X G (.ListComp elt [⟨tg, iter, ifs, 0⟩] scope pos) (mLc mi mt tt te (own.map (·.2))) :=
  PE.imp (pe_lc x.calm x.nd hi ok (fun s H C cl fp => PG.ex (hg s H C cl fp)) (fun s H C cl fp => PTs.ex (ht s H C cl fp)) (fun s H C cl fp => PE.ex (he s H C cl fp)) hs) fun _ _ _ h => lc_imp (mem_own hv) h
theorem ss_setLc {i : Nat} {y : Str} {py spos : Pos} {elt tg iter : Expr} {ifs : List Expr} {scope : Scope} {own : List (Str × Nat)} {mi : MI} {mt : MG} {tt : MT} {te : ME} (x : XG X G k) (hiw : (G.ow.contains i) = false) (hy : X.N[i]? = some y) (hyl : X.env.scope.names.lookup y = some .local)
    (hsw : swapsWith (.ListComp elt [⟨tg, iter, ifs, 0⟩] scope pos) (some (.Name y py)) spos.line X.env = pure true) (hv : (own.map (·.2)).all (fun i => !G.ow.contains i) = true) (hi : SI X G tg iter mi) (ok : BlkOk X.N X.env.scope scope own)
    (hg : ∀ (s : Shared) (H : Hp) (C : Addr) (cl : List (Str × Addr)) (fp : List Addr) (L : Addr), SG (X.blk s H scope (compEnvC scope cl C X.env) fp) (G.inC L) tg (own.map (·.2)) mt)
    (ht : ∀ (s : Shared) (H : Hp) (C : Addr) (cl : List (Str × Addr)) (fp : List Addr) (L : Addr), STs (X.blk s H scope (compEnvC scope cl C X.env) fp) (G.inC L) ifs tt)
    (he : ∀ (s : Shared) (H : Hp) (C : Addr) (cl : List (Str × Addr)) (fp : List Addr) (L : Addr), SE (X.blk s H scope (compEnvC scope cl C X.env) fp) (G.inC L) elt te)
    (hs : ∀ x, foldedSetIterable iter X.env x = pure x := by intro _; rfl) : SS X G (.Assign [.Name y py] (.ListComp elt [⟨tg, iter, ifs, 0⟩] scope pos) spos) (mSet i (mLc mi mt tt te (own.map (·.2)))) :=
  PS.imp (ps_setLc x.calm x.nd hy hyl hsw hi ok (fun s H C cl fp => PG.ex (hg s H C cl fp)) (fun s H C cl fp => PTs.ex (ht s H C cl fp)) (fun s H C cl fp => PE.ex (he s H C cl fp)) hs) fun D σ H ⟨env, s, q⟩ =>
    lc_imp (mem_own hv) ((TEo.bindS s (PostS G D σ H) (fun z => z) (fun _ z => z) q).mono fun x H1 ⟨d, e1, ⟨s1, st1, g1⟩, q1⟩ => by
      obtain ⟨a, b⟩ := s1.set (i := i) (by simpa using hiw) g1
      exact q1 _ _ a (st1.keep.trans b))
end

/-! ### defs -/
/-- the arguments: the first one is what is changed (own), or all are values -/
def ArgsOk (K : PySem.W.Frag) (mg : Str → Option Value) (own : Bool) (H : Hp) (av : Addr → Prop) (pa : Option Addr) (ds : List D) (vs : List V) : Prop := match own with
  | false => pa = none ∧ Reps K mg H av ds vs
  | true => ∃ a d0 ds' vs', pa = some a ∧ av a ∧ ds = d0 :: ds' ∧ vs = .ref a :: vs' ∧ OwnAt K mg H av a d0 ∧ Reps K mg H av ds' vs'
/-- what holds behind a call -/
structure CallOk (K : PySem.W.Frag) (mg : Str → Option Value) (T : List (Addr × Str)) (fr : Bool) (H : Hp) (av : Addr → Prop) (pa : Option Addr) (d o : D) (v : V) (H' : Hp) : Prop where
  tabs : LamX.Tabs T H'
  frame : ∀ b u, pa ≠ some b → H b = some u → NotTbl u → H' b = some u
  stays : ∀ b u, H b = some u → NotTbl u → ∃ u', H' b = some u' ∧ NotTbl u'
  rep : Rep K mg H' av d v
  par : ∀ a, pa = some a → OwnAt K mg H' av a o
  fr : fr = true → ∃ p, v = .ref p ∧ NoO H p ∧ OwnAt K mg H' (fun a => av a ∨ a = p) p d
def ErrIs' (mg : Str → Option Value) (e : Er) (cls : Value) (dd : Option Addr) (H' : Hp) : Prop :=
  ∃ c, mg e.cls = some (.ref c) ∧ cls = .ref c ∧ match e.attr with
    | none => dd = none
    | some (f, i) => ∃ da, dd = some da ∧ H' da = some (.xd [(f, .int i)])
def PostC (K : PySem.W.Frag) (mg : Str → Option Value) (T : List (Addr × Str)) (fr : Bool) (H : Hp) (av : Addr → Prop) (pa : Option Addr) (Q : VK) (E : XK) : RF → Prop
  | .stuck => False
  | .err e => pa = none ∧ ∀ cls dd H', LamX.Tabs T H' → (∀ b u, H b = some u → NotTbl u → H' b = some u) → ErrIs' mg e cls dd H' → E cls dd H'
  | .ok d o => ∀ v H', CallOk K mg T fr H av pa d o v H' → Q v H'
def spF (K : PySem.W.Frag) (mg : Str → Option Value) (T : List (Addr × Str)) (n : Nat) (own fr : Bool) (F : Fn) : Sp := fun vs H Q E => ∃ (av : Addr → Prop) (pa : Option Addr) (ds : List D), LamX.Tabs T H ∧ (∀ a, av a → ∃ o, H a = some o ∧ NotTbl o) ∧ ds.length = n ∧
  ArgsOk K mg own H av pa ds vs ∧ PostC K mg T fr H av pa Q E (F ds)
theorem ArgsOk.length {K : PySem.W.Frag} {mg : Str → Option Value} {own : Bool} {H : Hp} {av : Addr → Prop} {pa : Option Addr} {ds : List D} {vs : List V} (h : ArgsOk K mg own H av pa ds vs) : ds.length = vs.length := by
  cases own with
  | false => exact h.2.length
  | true =>
    obtain ⟨a, d0, ds', vs', _, _, rfl, rfl, _, r⟩ := h
    simp [r.length]
/-- the state at a def's entry -/
def startE (n : Nat) (ds : List D) : En := ds.map some ++ List.replicate (n - ds.length) none
def ownOut (own : Bool) (env : En) : D := if own = true then (env[0]?.join).getD .non else .non
/-- a def's denotation by its body's -/
def bodyF (own : Bool) (n : Nat) (m : MS) : Fn := fun ds => match m (startE n ds) with
  | .nx env => .ok .non (ownOut own env)
  | .rt d env => .ok d (ownOut own env)
  | .err e => if own = true then .stuck else .err e
  | _ => .stuck
def ghOf (K : PySem.W.Frag) (mg : Str → Option Value) (T : List (Addr × Str)) (ow : List Nat) (fr : Bool) (av : Addr → Prop) (H : Hp) (pa : Option Addr) (E : XK) : Gh := ⟨K, mg, T, ow, av, fun _ => False, H, pa, fr, E⟩
theorem startE_get {n : Nat} {ds : List D} {i : Nat} {d : D} (h : (startE n ds)[i]? = some (some d)) : ds[i]? = some d := by
  unfold startE at h
  by_cases hi : i < ds.length
  · rw [List.getElem?_append_left (by simpa using hi), List.getElem?_map] at h
    cases q : ds[i]? with
    | none => rw [q] at h; cases h
    | some a => rw [q] at h; cases h; rfl
  · rw [List.getElem?_append_right (by simpa using hi), List.getElem?_replicate] at h
    split at h <;> cases h
theorem start_get {N : List Str} {vs : List V} {i : Nat} {v : V} (h : (L2.start N vs)[i]? = some (some v)) : vs[i]? = some v := by
  unfold L2.start at h
  by_cases hi : i < vs.length
  · rw [List.getElem?_append_left (by simpa using hi), List.getElem?_map] at h
    cases q : vs[i]? with
    | none => rw [q] at h; cases h
    | some a => rw [q] at h; cases h; rfl
  · rw [List.getElem?_append_right (by simpa using hi), List.getElem?_replicate] at h
    split at h <;> cases h
theorem start_at {N : List Str} {vs : List V} {i : Nat} {v : V} (h : vs[i]? = some v) : (L2.start N vs)[i]? = some (some v) := by
  unfold L2.start
  have hi := (List.getElem?_eq_some_iff.mp h).1
  rw [List.getElem?_append_left (by simpa using hi), List.getElem?_map, h] <;> rfl
/-- the state at the entry is represented -/
theorem SR.start {K : PySem.W.Frag} {mg : Str → Option Value} {T : List (Addr × Str)} {ow : List Nat} {fr own : Bool} {av : Addr → Prop} {H : Hp} {pa : Option Addr} {E : XK} {ds : List D} {vs : List V} {N : List Str} (tabs : LamX.Tabs T H) (avT : ∀ a, av a → ∃ o, H a = some o ∧ NotTbl o)
    (h : ArgsOk K mg own H av pa ds vs) (how : ∀ i ∈ ow, i < ds.length → own = true ∧ i = 0) (how2 : own = true → 0 ∈ ow) : SR (ghOf K mg T ow fr av H pa E) (L2.start N vs) H (startE N.length ds) := by
  have hl := h.length
  have owRef : ∀ i ∈ ow, ∀ a, (L2.start N vs)[i]? = some (some (.ref a)) → i = 0 ∧ pa = some a := fun i hi a e => by
    have e1 := start_get e
    have hi2 : i < ds.length := by rw [hl]; exact (List.getElem?_eq_some_iff.mp e1).1
    obtain ⟨ho, h0⟩ := how i hi hi2
    subst ho h0
    obtain ⟨a', d0, ds', vs', hp, _, rfl, rfl, _, _⟩ := h
    cases e1
    exact ⟨rfl, hp⟩
  have avS : ∀ a, Av (ghOf K mg T ow fr av H pa E) (L2.start N vs) a → av a := fun a h' => by
    rcases h' with (h' | h') | ⟨i, hi, e⟩
    · exact h'
    · exact h'.elim
    · obtain ⟨rfl, hp⟩ := owRef i hi a e
      cases own with
      | false => rw [h.1] at hp; cases hp
      | true =>
        obtain ⟨a', d0, ds', vs', hp', hav, _⟩ := h
        rw [hp] at hp'
        cases hp'
        exact hav
  refine ⟨tabs, fun i d e hi => ?_, fun i d e hi => ?_, fun i hi a e => .inl (owRef i hi a e).2, fun i hi j hj a e1 e2 => ?_, fun a h' => avT a (avS a h'), fun b o _ e _ => e, fun a hp => ?_, ?_, avT, fun a z => z.elim, fun i hi a e z => z, fun b o e t => ⟨o, e, t⟩⟩
  · have e1 := startE_get e
    cases own with
    | false =>
      obtain ⟨v, e2, r⟩ := h.2.get e1
      exact ⟨v, start_at e2, r.less avS⟩
    | true =>
      obtain ⟨a, d0, ds', vs', hp, hav, rfl, rfl, o, r⟩ := h
      cases i with
      | zero => exact absurd (how2 rfl) hi
      | succ i =>
        obtain ⟨v, e2, r2⟩ := r.get (by simpa using e1)
        exact ⟨v, start_at (by simpa using e2), r2.less avS⟩
  · have e1 := startE_get e
    obtain ⟨ho, h0⟩ := how i hi (List.getElem?_eq_some_iff.mp e1).1
    subst ho h0
    obtain ⟨a, d0, ds', vs', hp, hav, rfl, rfl, o, r⟩ := h
    cases e1
    exact ⟨a, start_at rfl, o.goes (.less avS) fun _ q _ => q⟩
  · rw [(owRef i hi a e1).1, (owRef j hj a e2).1]
  · cases own with
    | false => rw [h.1] at hp; cases hp
    | true =>
      obtain ⟨a', d0, ds', vs', hp', hav, rfl, rfl, o, r⟩ := h
      have e : a = a' := by
        have hp : pa = some a := hp
        rw [hp'] at hp
        exact (Option.some.inj hp).symm
      subst e
      exact ⟨how2 rfl, start_at rfl, d0, by simp [startE]⟩
  · unfold startE L2.start
    simp [hl]
end FT

set_option Elab.async false
set_option linter.all false
set_option maxRecDepth 100000
set_option maxHeartbeats 1000000
/-! FTH: calls of defs, defs by their bodies, raise. -/
namespace FT
open PySem PySem.Spec PyProof.Rows L2

/-- a def of the module that keeps its promise -/
def Known (P : Program) (w : World) (K : PySem.W.Frag) (mg : Str → Option Value) (T : List (Addr × Str)) (base : Heap) (x : Str) (k : Nat) (own fr : Bool) (n : Nat) (F : Fn) : Prop :=
  ∃ (f : Addr) (fd : FuncData) (ps : List Str), mg x = some (.ref f) ∧ PySem.W.keepIn K (.ref f) = true ∧ Binds K fd ps [] ∧ ps.length = n ∧ FnOk P w K mg base (L2N.CX P w) k f fd ps (spF K mg T n own fr F)
theorem Known.mono {P : Program} {w : World} {K : PySem.W.Frag} {mg : Str → Option Value} {T : List (Addr × Str)} {base : Heap} {x : Str} {j k : Nat} {own fr : Bool} {n : Nat} {F : Fn} (h : Known P w K mg T base x j own fr n F) (l : j ≤ k) : Known P w K mg T base x k own fr n F := by
  obtain ⟨f, fd, ps, h1, h2, h3, h4, h5⟩ := h
  exact ⟨f, fd, ps, h1, h2, h3, h4, h5.mono l⟩
section
variable {P : Program} {w : World} {K : PySem.W.Frag} {mg : Str → Option Value} {T : List (Addr × Str)} {base : Heap}
theorem fn_ok {x qual : Str} {st : Stmt} {f : Addr} {fd : FuncData} {N ps : List Str} {k : Nat} {own fr : Bool} {ow : List Nat} {m : MS} {n l : Nat} (F : Fun K x qual st f fd) (hm : mg x = some (.ref f)) (S : FnScope N ps (defScope st)) (hn : ps.length = n) (hN : N.length = l)
    (hb : ∀ (kV doc pm : Value) (an : Option Addr) (cdv ct : Value) (us : List Value), us.length = ps.length → bindArgs (PySem.W.fnOf x qual (defArgs st) (defBody st) (defScope st) .none kV doc pm an cdv ct) ⟨us, []⟩ = pure (ps.zip us))
    (how : (ow.all fun i => decide (n ≤ i) || (own && i == 0)) && (!own || ow.contains 0) = true)
    (body : ∀ (cdv : Value), fd.code = cdv → ∀ (A : Around) (outer : List Env) (s : Shared) (H : Hp) (av : Addr → Prop) (pa : Option Addr) (E : XK), (own = false → pa = none) →
      XS (cxOf (L2N.CX P w) P w K mg base N qual (defScope st) f cdv A outer s H E) (ghOf K mg T ow fr av H pa E) k →
      SSs (cxOf (L2N.CX P w) P w K mg base N qual (defScope st) f cdv A outer s H E) (ghOf K mg T ow fr av H pa E) (defBody st) m)
    (hfr : fr = true → ∀ env e, m env ≠ .nx e) :
    FnOk P w K mg base (L2N.CX P w) (k + 1) f fd ps (spF K mg T n own fr (bodyF own l m)) := by
  subst hn hN
  obtain ⟨oc, od, kV, doc, pm, an, cdv, ct, osl, rfl, lk, hcd⟩ := F.ex
  refine fn_of lk hcd S (fun vs H Q E h => ?_) fun A outer s H vs Q E hr h => ?_
  · obtain ⟨av, pa, ds, _, _, hl, ha, _⟩ := h
    rw [← ha.length, hl]
  · obtain ⟨av, pa, ds, tabs, avT, hl, ha, hq⟩ := h
    have tk : L2N.Takes (cxOf (L2N.CX P w) P w K mg base N qual (defScope st) f cdv A outer s H E) (fun cls d _ H => E cls d H) := L2N.takes_of rfl rfl rfl rfl
    have pa0 : own = false → pa = none := fun z => by subst z; exact ha.1
    simp only [Bool.and_eq_true, Bool.or_eq_true, List.all_eq_true, decide_eq_true_eq, beq_iff_eq, Bool.not_eq_true', List.contains_iff_mem] at how
    have b := body cdv rfl A outer s H av pa E pa0 ⟨⟨rfl, rfl, hr, rfl, S.nd, L2N.passes_call tk fun _ _ _ _ z => z⟩, passes_of (K := fun e s'' => L2N.CX P w outer H s E e s'') rfl, tk⟩
    refine ⟨_, b, startE N.length ds, SR.start tabs avT ha (fun i hi hlt => ?_) (fun z => ?_), ?_⟩
    · rcases how.1 i hi with z | z
      · omega
      · exact z
    · rcases how.2 with q | q
      · rw [z] at q; cases q
      · exact q
    · unfold bodyF at hq
      cases r : m (startE N.length ds) with
      | stuck => rw [r] at hq; exact hq.elim
      | bk e => rw [r] at hq; exact hq.elim
      | ct e => rw [r] at hq; exact hq.elim
      | err e =>
        rw [r] at hq
        have hq : PostC K mg T fr H av pa Q E (if own = true then .stuck else .err e) := hq
        split at hq
        · exact hq.elim
        · exact fun cls dd H' ⟨t, fm, ei⟩ => hq.2 cls dd H' t (fun b u h1 h2 => fm b u (by rw [show (ghOf K mg T ow fr av H pa E).pa = pa from rfl, hq.1]; exact fun z => nomatch z) h1 h2) ei
      | rt d e =>
        rw [r] at hq
        intro v H' R
        refine hq v H' ⟨R.tabs, fun b u h1 h2 h3 => R.frame b u h1 h2 h3, R.stays, R.rep, fun a hp => ?_, R.fr⟩
        obtain ⟨d0, h1, o⟩ := R.par a hp
        have ho : own = true := by
          cases own with
          | true => rfl
          | false => rw [pa0 rfl] at hp; cases hp
        unfold ownOut
        rw [if_pos ho, h1]
        exact o
      | nx e =>
        rw [r] at hq
        intro σ' H' s' k'
        have ff : fr = false := by
          cases fr with
          | false => rfl
          | true => exact absurd r (hfr rfl _ _)
        have R := s'.ret (G := ghOf K mg T ow fr av H pa E) ff (Rep.non (K := K) (mg := mg))
        refine hq .non H' ⟨R.tabs, fun b u h1 h2 h3 => R.frame b u h1 h2 h3, R.stays, .non, fun a hp => ?_, fun z => by rw [ff] at z; cases z⟩
        obtain ⟨d0, h1, o⟩ := R.par a hp
        have ho : own = true := by
          cases own with
          | true => rfl
          | false => rw [pa0 rfl] at hp; cases hp
        unfold ownOut
        rw [if_pos ho, h1]
        exact o
theorem def_okT {x qual : Str} {st : Stmt} {f : Addr} {fd : FuncData} {N ps : List Str} {k : Nat} {own fr : Bool} {ow : List Nat} {m : MS} {n l : Nat} (F : Fun K x qual st f fd) (hm : mg x = some (.ref f)) (S : FnScope N ps (defScope st)) (hn : ps.length = n) (hN : N.length = l)
    (hb : ∀ (kV doc pm : Value) (an : Option Addr) (cdv ct : Value) (us : List Value), us.length = ps.length → bindArgs (PySem.W.fnOf x qual (defArgs st) (defBody st) (defScope st) .none kV doc pm an cdv ct) ⟨us, []⟩ = pure (ps.zip us))
    (how : (ow.all fun i => decide (n ≤ i) || (own && i == 0)) && (!own || ow.contains 0) = true)
    (body : ∀ (cdv : Value), fd.code = cdv → ∀ (A : Around) (outer : List Env) (s : Shared) (H : Hp) (av : Addr → Prop) (pa : Option Addr) (E : XK), (own = false → pa = none) →
      XS (cxOf (L2N.CX P w) P w K mg base N qual (defScope st) f cdv A outer s H E) (ghOf K mg T ow fr av H pa E) k →
      SSs (cxOf (L2N.CX P w) P w K mg base N qual (defScope st) f cdv A outer s H E) (ghOf K mg T ow fr av H pa E) (defBody st) m)
    (hfr : fr = true → ∀ env e, m env ≠ .nx e) :
    Known P w K mg T base x (k + 1) own fr n (bodyF own l m) := ⟨f, fd, ps, hm, F.kp, F.binds hb, hn, fn_ok F hm S hn hN hb how body hfr⟩
theorem def_ok {x qual : Str} {st : Stmt} {f : Addr} {fd : FuncData} {N ps : List Str} {k : Nat} {own fr : Bool} {ow : List Nat} {m : MS} {n l : Nat} (F : Fun K x qual st f fd) (hm : mg x = some (.ref f)) (S : FnScope N ps (defScope st)) (hn : ps.length = n) (hN : N.length = l)
    (hb : ∀ (kV doc pm : Value) (an : Option Addr) (cdv ct : Value) (us : List Value), us.length = ps.length → bindArgs (PySem.W.fnOf x qual (defArgs st) (defBody st) (defScope st) .none kV doc pm an cdv ct) ⟨us, []⟩ = pure (ps.zip us))
    (how : (ow.all fun i => decide (n ≤ i) || (own && i == 0)) && (!own || ow.contains 0) = true)
    (body : ∀ (cdv : Value) (A : Around) (outer : List Env) (s : Shared) (H : Hp) (av : Addr → Prop) (pa : Option Addr) (E : XK), (own = false → pa = none) →
      XS (cxOf (L2N.CX P w) P w K mg base N qual (defScope st) f cdv A outer s H E) (ghOf K mg T ow fr av H pa E) k →
      SSs (cxOf (L2N.CX P w) P w K mg base N qual (defScope st) f cdv A outer s H E) (ghOf K mg T ow fr av H pa E) (defBody st) m)
    (hfr : fr = true → ∀ env e, m env ≠ .nx e) :
    Known P w K mg T base x (k + 1) own fr n (bodyF own l m) := def_okT F hm S hn hN hb how (fun cdv _ => body cdv) hfr
/-- a block that ends with a return is never left by its end -/
theorem noNx_seq {a b : MS} (h : ∀ env e, b env ≠ .nx e) : ∀ env e, mSeq a b env ≠ .nx e := fun env e q => by
  unfold mSeq at q
  split at q
  · exact h _ _ q
  · rename_i r hr
    exact hr e q
theorem noNx_ret {m : ME} : ∀ env e, mRet m env ≠ .nx e := fun env e q => by
  unfold mRet at q
  cases r : m env with
  | stuck => rw [r] at q; cases q
  | err x => rw [r] at q; cases q
  | ok d s => rw [r] at q; cases q
end

/-! ### calls -/
section
variable {X : Cx} {G : Gh} {k : Nat}
theorem SR.after {σ : St} {H H' : Hp} {env : En} (s : SR G σ H env) (tabs : LamX.Tabs G.T H') (frame : ∀ b u, H b = some u → NotTbl u → H' b = some u) (stays : ∀ b u, H b = some u → NotTbl u → ∃ u', H' b = some u' ∧ NotTbl u') : SR G σ H' env := by
  have st : Stay (Av G σ) H H' := fun b o _ h t => frame b o h t
  exact ⟨tabs, fun i d h hi => let ⟨v, h1, r⟩ := s.val i d h hi; ⟨v, h1, r.stay st⟩, fun i d h hi => let ⟨a, h1, o⟩ := s.own i d h hi; ⟨a, h1, o.goes (.stay st) fun o q t => frame _ _ q t⟩, s.fresh, s.dist,
    fun a h => let ⟨o, h1, t⟩ := s.there a h; ⟨o, frame a o h1 t, t⟩, fun b o h1 h2 h3 => frame b o (s.frame b o h1 h2 h3) h3, s.par, s.len, s.avT, s.exF, s.exO, fun b o h t => let ⟨o', q, t'⟩ := s.stays b o h t; stays b o' q t'⟩
theorem SR.afterOwn {σ : St} {H H' : Hp} {env : En} (s : SR G σ H env) {j : Nat} {a : Addr} {o : D} (hj : j ∈ G.ow) (e : σ[j]? = some (some (.ref a))) (hl : j < env.length) (tabs : LamX.Tabs G.T H')
    (frame : ∀ b u, some a ≠ some b → H b = some u → NotTbl u → H' b = some u) (stays : ∀ b u, H b = some u → NotTbl u → ∃ u', H' b = some u' ∧ NotTbl u') (no : OwnAt G.K G.mg H' (Av G σ) a o) : SR G σ H' (env.set j (some o)) ∧ Stay (Ch G σ) H H' := by
  have av : Ch G σ a := ⟨j, hj, e⟩
  have st : Stay (Ch G σ) H H' := fun b u n h t => frame b u (fun z => n (by cases z; exact av)) h t
  refine ⟨⟨tabs, fun i d h hi => ?_, fun i d h hi => ?_, s.fresh, s.dist, fun b h => ?_, fun b u h1 h2 h3 => ?_, fun b h => ?_, by simp [s.len], s.avT, s.exF, s.exO, fun b u h t => let ⟨o', q, t'⟩ := s.stays b u h t; stays b o' q t'⟩, st⟩
  · have ne : i ≠ j := fun z => hi (z ▸ hj)
    rw [List.getElem?_set_ne (Ne.symm ne)] at h
    obtain ⟨v, h1, r⟩ := s.val i d h hi
    exact ⟨v, h1, r.stay st.av⟩
  · rcases getElem?_set_cases h with ⟨e1, e2⟩ | ⟨ne, h⟩
    · cases e2
      subst e1
      exact ⟨a, e, no⟩
    · obtain ⟨b, h1, ob⟩ := s.own i d h hi
      exact ⟨b, h1, ob.goes (.stay st.av) fun u q t => frame b u (fun z => ne (s.dist i hi j hj b h1 (by cases z; exact e))) q t⟩
  · by_cases z : a = b
    · subst z; exact no.there
    · obtain ⟨u, h1, t⟩ := s.there b h
      exact ⟨u, frame b u (fun q => z (Option.some.inj q)) h1 t, t⟩
  · by_cases z : a = b
    · subst z
      rcases s.fresh j hj a e with q | q
      · exact absurd q h1
      · exact (q u h2 h3).elim
    · exact frame b u (fun q => z (Option.some.inj q)) (s.frame b u h1 h2 h3) h3
  · obtain ⟨h0, h1, d0, h2⟩ := s.par b h
    refine ⟨h0, h1, ?_⟩
    by_cases z : j = 0
    · subst z; exact ⟨o, List.getElem?_set_self hl⟩
    · exact ⟨d0, by rw [List.getElem?_set_ne z]; exact h2⟩
def mCall (F : Fn) (ms : MA) : ME := fun env => (ms env).bind fun ds s => match F ds with
  | .stuck => .stuck
  | .err e => .err e
  | .ok d _ => .ok d s
def mCallO (F : Fn) (j : Nat) (ms : MA) : ME := fun env => match env[j]? with
  | some (some (.lst _)) => (ms env).bind fun ds s => (match s[j]?.join with
    | some d0 => (match F (d0 :: ds) with
      | .ok d o => .ok d (s.set j (some o))
      | _ => .stuck)
    | none => .stuck)
  | _ => .stuck
theorem err_of {σ : St} {H : Hp} {env : En} (s : SR G σ H env) {e : Er} {cls : Value} {dd : Option Addr} {H' : Hp} (p : PostE G e) (t : LamX.Tabs G.T H') (fm : ∀ b u, H b = some u → NotTbl u → H' b = some u) (ei : ErrIs' G.mg e cls dd H') : G.E cls dd H' :=
  p cls dd H' ⟨t, fun b o h1 h2 h3 => fm b o (s.frame b o h1 h2 h3) h3, ei⟩
section
variable {base : Heap} {x : Str} {j n : Nat} {fr : Bool} {F : Fn} {p pos : Pos} {e : Expr} {es : List Expr}
theorem se_call {ms : MA} (xg : XG X G k) (hf : Known X.prog X.w X.K X.mg G.T X.base x j false fr n F) (hj : j ≤ k) (hg : Gl X x) (ha : SA X G (e :: es) ms) (hn : (e :: es).length = n) (hdb : (x == ("__debug__" : Str)) = false := by decide)
    (he : starEach (e :: es) X.env = (false, eval e X.env) :: starEach es X.env := by rfl) (hpl : (backTo pos (starEach es X.env)).any (·.1) = false := by rfl) : SE X G (.Call (.Name x p) (e :: es) [] pos) (mCall F ms) := by
  obtain ⟨f, fd, ps, h1, h2, h3, h4, h5⟩ := hf
  refine PE.imp (pe_call h5 (xg.room.mono hj) hg h1 h2 h3 .nil xg.pass ha.pa hdb he hpl) fun σ H Q ⟨env, s, q⟩ => ?_
  refine (TAo.bind s (Post G σ H Q) (fun z => z) (fun _ z => z) q).mono fun xs H1 ⟨ds, e1, eq, s1, st1, g1, q1⟩ => ?_
  rw [List.append_nil]
  refine ⟨Av G σ, none, ds, s1.tabs, fun a h => s1.there a h, by rw [ha.len _ _ _ eq]; exact hn, ⟨rfl, by rw [xg.K, xg.mg]; exact g1⟩, ?_⟩
  rw [xg.K, xg.mg]
  cases r : F ds with
  | stuck => rw [r] at q1; exact q1.elim
  | err e => rw [r] at q1; exact ⟨rfl, fun cls dd H' t fm ei => err_of s1 q1 t fm ei⟩
  | ok d o =>
    rw [r] at q1
    intro v H' c
    have fm : ∀ b u, H1 b = some u → NotTbl u → H' b = some u := fun b u h t => c.frame b u (fun z => nomatch z) h t
    exact q1 v H' (s1.after c.tabs fm c.stays) (st1.trans fun b o _ h t => fm b o h t) c.rep
/-- f(..) makes something new -/
theorem sf_call {ms : MA} (xg : XG X G k) (hf : Known X.prog X.w X.K X.mg G.T X.base x j false true n F) (hj : j ≤ k) (hg : Gl X x) (ha : SA X G (e :: es) ms) (hn : (e :: es).length = n) (hdb : (x == ("__debug__" : Str)) = false := by decide)
    (he : starEach (e :: es) X.env = (false, eval e X.env) :: starEach es X.env := by rfl) (hpl : (backTo pos (starEach es X.env)).any (·.1) = false := by rfl) : SF X G (.Call (.Name x p) (e :: es) [] pos) (mCall F ms) := by
  obtain ⟨f, fd, ps, h1, h2, h3, h4, h5⟩ := hf
  refine PE.imp (pe_call h5 (xg.room.mono hj) hg h1 h2 h3 .nil xg.pass ha.pa hdb he hpl) fun σ H Q ⟨env, s, q⟩ => ?_
  refine (TAo.bind s (PostF G σ H Q) (fun z => z) (fun _ z => z) q).mono fun xs H1 ⟨ds, e1, eq, s1, st1, g1, q1⟩ => ?_
  rw [List.append_nil]
  refine ⟨Av G σ, none, ds, s1.tabs, fun a h => s1.there a h, by rw [ha.len _ _ _ eq]; exact hn, ⟨rfl, by rw [xg.K, xg.mg]; exact g1⟩, ?_⟩
  rw [xg.K, xg.mg]
  cases r : F ds with
  | stuck => rw [r] at q1; exact q1.elim
  | err e => rw [r] at q1; exact ⟨rfl, fun cls dd H' t fm ei => err_of s1 q1 t fm ei⟩
  | ok d o =>
    rw [r] at q1
    intro v H' c
    have fm : ∀ b u, H1 b = some u → NotTbl u → H' b = some u := fun b u h t => c.frame b u (fun z => nomatch z) h t
    obtain ⟨pp, rfl, np, op⟩ := c.fr rfl
    have s2 := s1.after c.tabs fm c.stays
    have g : Goes (Av G σ) (Av1 G σ pp) H1 H' := ⟨fun b u nb h t => ⟨fm b u h t, fun z => z.elim nb (np.ne h t)⟩⟩
    exact q1 pp H' ⟨s2, fun i d h hi => let ⟨v, h1, r⟩ := s1.val i d h hi; ⟨v, h1, r.goes g⟩, fun i d h hi => let ⟨a, h1, o⟩ := s1.own i d h hi; ⟨a, h1, o.goes g fun o q t => fm _ _ q t⟩, fun d v r => (r.stay st1.av).goes g, s1.isNew' np, s1.newA' np, op⟩
/-- f(own, ..) -/
theorem se_callO {ms : MA} {i : Nat} {y : Str} {py : Pos} (xg : XG X G k) (hf : Known X.prog X.w X.K X.mg G.T X.base x j true fr n F) (hj : j ≤ k) (hg : Gl X x) (hi : (G.ow.contains i) = true) (hN : X.N[i]? = some y) (hv : Vis X.env.scope y) (ha : SA X G es ms) (hn : es.length + 1 = n)
    (hdb : (x == ("__debug__" : Str)) = false := by decide) (hd : (y == ("__debug__" : Str)) = false := by decide) (hcd : (y == ("__classdict__" : Str)) = false := by decide)
    (he : starEach (.Name y py :: es) X.env = (false, eval (.Name y py) X.env) :: starEach es X.env := by rfl) (hpl : (backTo pos (starEach es X.env)).any (·.1) = false := by rfl) : SE X G (.Call (.Name x p) (.Name y py :: es) [] pos) (mCallO F i ms) := by
  obtain ⟨f, fd, ps, h1, h2, h3, h4, h5⟩ := hf
  have hi' : i ∈ G.ow := by simpa using hi
  refine PE.imp (pe_call h5 (xg.room.mono hj) hg h1 h2 h3 .nil xg.pass (pa_cons (pe_var hN hv hd hcd) ha.pa he) hdb he hpl) fun σ H Q ⟨env, s, q⟩ => ?_
  unfold mCallO at q
  split at q
  rotate_left
  · exact q.elim
  rename_i l0 hl0
  obtain ⟨a, ea, _⟩ := s.own i _ hl0 hi'
  refine ⟨.ref a, ea, ?_⟩
  refine (TAo.bind s (Post G σ H Q) (fun z => z) (fun _ z => z) q).mono fun xs H1 ⟨ds, e1, eq, s1, st1, g1, q1⟩ => ?_
  show spF X.K X.mg G.T n true fr F ((V.ref a :: xs) ++ []) H1 Q G.E
  rw [List.append_nil]
  split at q1
  rotate_left
  · exact q1.elim
  rename_i d0 hd0
  have hd0' := join_some hd0
  obtain ⟨a2, ea2, o0⟩ := s1.own i _ hd0' hi'
  rw [ea] at ea2
  cases ea2
  refine ⟨Av G σ, some a, d0 :: ds, s1.tabs, fun a h => s1.there a h, by rw [List.length_cons, ha.len _ _ _ eq]; exact hn, ⟨a, d0, ds, xs, rfl, .inr ⟨i, hi', ea⟩, rfl, rfl, by rw [xg.K, xg.mg]; exact o0, by rw [xg.K, xg.mg]; exact g1⟩, ?_⟩
  rw [xg.K, xg.mg]
  cases r : F (d0 :: ds) with
  | stuck => rw [r] at q1; exact q1.elim
  | err e => rw [r] at q1; exact q1.elim
  | ok d o =>
    rw [r] at q1
    intro v H' c
    obtain ⟨w1, w2⟩ := s1.afterOwn hi' ea (List.getElem?_eq_some_iff.mp hd0').1 c.tabs c.frame c.stays (c.par a rfl)
    exact q1 v H' w1 (st1.trans w2) c.rep
end

/-! ### raise -/
def mRaise (e : Er) : MS := fun _ => .err e
/-- what the class of an error is -/
structure ErrC (K : PySem.W.Frag) (mg : Str → Option Value) (x : Str) (C : Addr) : Prop where
  gC : mg x = some (.ref C)
  kC : PySem.W.keepIn K (.ref C) = true
  xC : PySem.W.excIn K C [.type "ValueError", .type "Exception", .type "BaseException", .type "object"] "ValueError.__new__" = true
  bC : PySem.W.subIn K (.ref C) (.type "BaseException") = some true
  tC : PySem.W.typeIn K (.ref C) = some (.type "type")
theorem ss_raise {x m : Str} {i : Nat} {p p2 pos pos2 : Pos} (xs : XS X G k) (c : ∃ C, ErrC G.K G.mg x C) (hg : Gl X x) (hdb : (x == ("__debug__" : Str)) = false := by decide) :
    SS X G (.Raise (some (.Call (.Name x p) [.Constant (.str m) i p2] [] pos)) none pos2) (mRaise ⟨x, none⟩) := by
  obtain ⟨C, c⟩ := c
  refine PS.imp (L2N.ps_raise xs.calm xs.tk (L2N.pmk_own PySem.F.excBase_ValueError (C := C) (by rw [xs.K]; exact c.xC) (by rw [xs.mg]; exact c.gC) (by rw [xs.K]; exact c.kC) (raises_own (by rw [xs.K]; exact c.bC) (by rw [xs.K]; exact c.tC)) hg hdb)) fun D σ H ⟨env, s, q⟩ => ?_
  exact q (.ref C) none H ⟨s.tabs, s.frame, C, c.gC, rfl, rfl⟩
/-- a def of the module as it stands behind the top -/
def DefIn (K : PySem.W.Frag) (mg : Str → Option Value) (x : Str) (st : Stmt) : Prop := ∃ f fd, mg x = some (.ref f) ∧ Fun K x x st f fd
@[irreducible] def FUEL : Nat := 1000000000
end
end FT

set_option Elab.async false
set_option linter.all false
set_option maxRecDepth 100000
set_option maxHeartbeats 1000000
/-! FTI: built-in functions and methods. -/
namespace FT
open PySem PySem.Spec PyProof.Rows L2

section
variable {K : PySem.W.Frag} {mg : Str → Option Value} {H : Hp} {av : Addr → Prop}
theorem RepTs.one {d : D} {vs : List V} (r : RepTs K mg H av [d] vs) : ∃ v, vs = [v] ∧ RepT K mg H av d v := by
  cases r with
  | cons a b => cases b; exact ⟨_, rfl, a⟩
theorem RepTs.two {d e : D} {vs : List V} (r : RepTs K mg H av [d, e] vs) : ∃ v w, vs = [v, w] ∧ RepT K mg H av d v ∧ RepT K mg H av e w := by
  cases r with
  | cons a b =>
    obtain ⟨w, rfl, q⟩ := b.one
    exact ⟨_, w, rfl, a, q⟩
theorem RepT.ty {n : String} {v : V} (r : RepT K mg H av (.ty n) v) : v = .ty n := by
  cases r with
  | val r => cases r; rfl
  | own o => exact o.elim
end

def fLen : List D → Option D
  | [.lst ds] => some (.int ds.length)
  | [.tup ds] => some (.int ds.length)
  | [.scr ns] => some (.int ns.length)
  | [.str x] => if x.length ≤ 1000000 then some (.int x.length) else none
  | _ => none
section
variable {X : Cx} {G : Gh} {k : Nat}
theorem cf_len (x : XG X G k) : CallR X (.builtin "len") (rFn G fLen) := by
  intro pins s σ H xs us Q I r ⟨av, ds, d, h, hg, hav, q⟩
  unfold fLen at hg
  split at hg
  · cases hg
    obtain ⟨v, rfl, h1⟩ := h.one
    obtain ⟨a, vs, rfl, e1, p1⟩ := h1.lst
    exact call_len_seq pins s σ H _ us Q I r ⟨a, vs, rfl, .inl (x.sqL (.of e1)), by rw [← p1.length]; exact q _ H (.refl _) (.int _)⟩
  · cases hg
    obtain ⟨v, rfl, h1⟩ := h.one
    obtain ⟨a, vs, rfl, e1, p1⟩ := h1.tup
    exact call_len_seq pins s σ H _ us Q I r ⟨a, vs, rfl, .inr (x.sqT e1), by rw [← p1.length]; exact q _ H (.refl _) (.int _)⟩
  · cases hg
    obtain ⟨v, rfl, h1⟩ := h.one
    obtain ⟨a, rfl, e1⟩ := h1.scr
    exact call_len_seq pins s σ H _ us Q I r ⟨a, _, rfl, .inl (x.sqL e1), by rw [List.length_map]; exact q _ H (.refl _) (.int _)⟩
  · split at hg
    · rename_i hl
      cases hg
      obtain ⟨v, rfl, h1⟩ := h.one
      have e := h1.str
      subst e
      exact call_len_str pins s σ H _ us Q I r ⟨_, rfl, line_of hl, q _ H (.refl _) (.int _)⟩
    · cases hg
  · cases hg
def fAbs : List D → Option D
  | [.int i] => some (.int i.natAbs)
  | _ => none
theorem cf_abs : CallR X (.builtin "abs") (rFn G fAbs) := by
  intro pins s σ H xs us Q I r ⟨av, ds, d, h, hg, hav, q⟩
  unfold fAbs at hg
  split at hg
  · rename_i i
    cases hg
    obtain ⟨v, rfl, h1⟩ := h.one
    have e := h1.int
    subst e
    refine call_abs pins s σ H _ us Q I r ⟨_, rfl, ?_⟩
    have e : (if i < 0 then -i else i) = (i.natAbs : Int) := by split <;> omega
    rw [e]
    exact q _ H (.refl _) (.int _)
  · cases hg
def fInt : List D → Option D
  | [.int i] => some (.int i)
  | [.bl b] => some (.int (if b then 1 else 0))
  | [.str x] => if x.length ≤ 640 then (PySem.intText? x).map D.int else none
  | _ => none
theorem cf_int : CallR X (.type "int") (rFn G fInt) := by
  intro pins s σ H xs us Q I r ⟨av, ds, d, h, hg, hav, q⟩
  unfold fInt at hg
  split at hg
  · cases hg
    obtain ⟨v, rfl, h1⟩ := h.one
    have e := h1.int
    subst e
    exact call_int1 pins s σ H _ us Q I r (.inl ⟨_, rfl, q _ H (.refl _) (.int _)⟩)
  · cases hg
    obtain ⟨v, rfl, h1⟩ := h.one
    have e := h1.bl
    subst e
    exact call_int1 pins s σ H _ us Q I r (.inr ⟨_, rfl, q _ H (.refl _) (.int _)⟩)
  · split at hg
    · rename_i x hl
      obtain ⟨v, rfl, h1⟩ := h.one
      have e := h1.str
      subst e
      cases z : PySem.intText? x with
      | none => rw [z] at hg; cases hg
      | some n =>
        rw [z] at hg
        cases hg
        exact call_int_str pins s σ H _ us Q I r ⟨x, n, rfl, z, hl, q _ H (.refl _) (.int _)⟩
    · cases hg
  · cases hg
def fStr : List D → Option D
  | [.int i] => if i.natAbs < 2 ^ 500 then some (.str (toString i)) else none
  | [.str x] => some (.str x)
  | _ => none
theorem cf_str : CallR X (.type "str") (rFn G fStr) := by
  intro pins s σ H xs us Q I r ⟨av, ds, d, h, hg, hav, q⟩
  unfold fStr at hg
  split at hg
  · split at hg
    · rename_i hl
      cases hg
      obtain ⟨v, rfl, h1⟩ := h.one
      have e := h1.int
      subst e
      exact call_str_int pins s σ H _ us Q I r ⟨_, rfl, by have := PySem.Flt.log2_lt_of (k := 500) (by omega) hl; omega, q _ H (.refl _) (.str _)⟩
    · cases hg
  · cases hg
    obtain ⟨v, rfl, h1⟩ := h.one
    have e := h1.str
    subst e
    exact SkE.call_str_str pins s σ H _ us Q I r ⟨_, rfl, q _ H (.refl _) (.str _)⟩
  · cases hg
def fMax : List D → Option D
  | [.int i, .int j] => some (.int (max i j))
  | _ => none
def fMin : List D → Option D
  | [.int i, .int j] => some (.int (min i j))
  | _ => none
theorem cf_max (x : XG X G k) : CallR X (.builtin "max") (rFn G fMax) := by
  intro pins s σ H xs us Q I r ⟨av, ds, d, h, hg, hav, q⟩
  unfold fMax at hg
  split at hg
  · rename_i i j
    cases hg
    obtain ⟨v, w, rfl, h1, h2⟩ := h.two
    have e := h1.int
    have e2 := h2.int
    subst e e2
    refine call_max2 x.calm pins s σ H _ us Q I r ⟨_, _, rfl, ?_⟩
    have e : (if j > i then j else i) = max i j := by split <;> omega
    rw [e]
    exact q _ H (.refl _) (.int _)
  · cases hg
theorem cf_min (x : XG X G k) : CallR X (.builtin "min") (rFn G fMin) := by
  intro pins s σ H xs us Q I r ⟨av, ds, d, h, hg, hav, q⟩
  unfold fMin at hg
  split at hg
  · rename_i i j
    cases hg
    obtain ⟨v, w, rfl, h1, h2⟩ := h.two
    have e := h1.int
    have e2 := h2.int
    subst e e2
    refine call_min2 x.calm pins s σ H _ us Q I r ⟨_, _, rfl, ?_⟩
    have e : (if j < i then j else i) = min i j := by split <;> omega
    rw [e]
    exact q _ H (.refl _) (.int _)
  · cases hg
def fTuple : List D → Option D
  | [.lst ds] => some (.tup ds)
  | [.tup ds] => some (.tup ds)
  | _ => none
theorem cf_tuple (x : XG X G k) : CallR X (.type "tuple") (rFn G fTuple) := by
  intro pins s σ H xs us Q I r ⟨av, ds, d, h, hg, hav, q⟩
  unfold fTuple at hg
  split at hg
  · cases hg
    obtain ⟨v, rfl, h1⟩ := h.one
    obtain ⟨a, vs, rfl, e1, p1⟩ := h1.lst
    exact call_tuple_of pins s σ H _ us Q I r ⟨a, vs, rfl, .inl ⟨x.sqL (.of e1), fun p n => q _ _ (Ext.upd n) (.tup upd_same (new_no hav n) (p1.ext (Ext.upd n)))⟩⟩
  · cases hg
    obtain ⟨v, rfl, h1⟩ := h.one
    have t := h1.rep
    obtain ⟨a, vs, rfl, e1, p1⟩ := h1.tup
    exact call_tuple_of pins s σ H _ us Q I r ⟨a, vs, rfl, .inr ⟨x.sqT e1, q _ H (.refl _) t⟩⟩
  · cases hg
def fList : List D → Option D
  | [.lst ds] => some (.lst ds)
  | [.tup ds] => some (.lst ds)
  | _ => none
theorem cf_list (x : XG X G k) : CallR X (.type "list") (rFn G fList) := by
  intro pins s σ H xs us Q I r ⟨av, ds, d, h, hg, hav, q⟩
  unfold fList at hg
  split at hg
  · cases hg
    obtain ⟨v, rfl, h1⟩ := h.one
    obtain ⟨a, vs, rfl, e1, p1⟩ := h1.lst
    exact call_list_of pins s σ H _ us Q I r ⟨a, vs, rfl, .inl (x.sqL (.of e1)), fun p n => q _ _ (Ext.upd n) (.lst upd_same (new_no hav n) (p1.ext (Ext.upd n)))⟩
  · cases hg
    obtain ⟨v, rfl, h1⟩ := h.one
    obtain ⟨a, vs, rfl, e1, p1⟩ := h1.tup
    exact call_list_of pins s σ H _ us Q I r ⟨a, vs, rfl, .inr (x.sqT e1), fun p n => q _ _ (Ext.upd n) (.lst upd_same (new_no hav n) (p1.ext (Ext.upd n)))⟩
  · cases hg

/-! ### isinstance -/
def tyD : D → Option String
  | .non => some "NoneType"
  | .bl _ => some "bool"
  | .int _ => some "int"
  | .str _ => some "str"
  | .tup _ => some "tuple"
  | .lst _ => some "list"
  | _ => none
def isT (t T : String) : Option Bool := if ["int", "bool", "str", "tuple", "list"].contains T = true then some (decide (t = T) || (decide (t = "bool") && decide (T = "int"))) else none
def anyT (t : String) : List D → Option Bool
  | [] => some false
  | .ty T :: r => (isT t T).bind fun b => (anyT t r).map fun c => b || c
  | _ => none
def fIsi : List D → Option D
  | [x, .ty T] => (tyD x).bind fun t => (isT t T).map D.bl
  | [x, .tup Ts] => (tyD x).bind fun t => (anyT t Ts).map D.bl
  | _ => none
def tyNames : List String := ["NoneType", "bool", "int", "str", "tuple", "list"]
theorem kit_isT (K : PySem.W.Frag) {t T : String} {b : Bool} (ht : t ∈ tyNames) (h : isT t T = some b) : PySem.W.kitOne K (.type t) (.type T) = some b := by
  unfold isT at h
  split at h
  · rename_i hT
    cases h
    have hT' : T ∈ ["int", "bool", "str", "tuple", "list"] := by simpa using hT
    simp only [tyNames, List.mem_cons, List.not_mem_nil, or_false] at ht hT'
    rcases ht with rfl | rfl | rfl | rfl | rfl | rfl <;> rcases hT' with rfl | rfl | rfl | rfl | rfl <;> kernel_rfl
  · cases h
theorem tyD_mem {d : D} {t : String} (h : tyD d = some t) : t ∈ tyNames := by
  cases d <;> simp only [tyD, Option.some.injEq, reduceCtorEq] at h <;> subst h <;> decide
theorem RepT.tyX {K : PySem.W.Frag} {mg : Str → Option Value} {H : Hp} {av : Addr → Prop} {d : D} {v : V} {t : String} (r : RepT K mg H av d v) (h : tyD d = some t) : TyX K H v (.type t) := by
  cases r with
  | val r =>
    cases r with
    | non => cases h; exact .base .non
    | bl b => cases h; exact .base (.bl b)
    | int i => cases h; exact .base (.int i)
    | str x => cases h; exact .base (.str x)
    | tup e n q => cases h; exact .base (.tup e)
    | ktup q r _ =>
      cases h
      obtain ⟨o, its, n, e, c, _⟩ := q
      exact .kTuple e c
    | lst e n q => cases h; exact .base (.lst e)
    | scr e n => cases h
    | kscr q => cases h
    | fn e => cases h
    | ty n => cases h
    | ref a => cases h
  | own o =>
    cases d with
    | lst ds => cases h; obtain ⟨vs, e, _⟩ := o; exact .base (.lst e)
    | dcI ds => cases h
    | dcT ds => cases h
    | _ => exact o.elim
theorem anyT_kit (K : PySem.W.Frag) {t : String} (ht : t ∈ tyNames) : ∀ {Ts : List D} {b : Bool} {mg : Str → Option Value} {H : Hp} {av : Addr → Prop} {vs : List V}, anyT t Ts = some b → Reps K mg H av Ts vs → ∃ us, Paired ClsV vs us ∧ PySem.W.kitAny K (.type t) us = some b
  | [], b, mg, H, av, vs, h, r => by cases r; cases h; exact ⟨[], .nil, rfl⟩
  | d :: Ts, b, mg, H, av, vs, h, r => by
    cases r with
    | cons r1 rt =>
      cases r1 with
      | ty T =>
        unfold anyT at h
        cases z : isT t T with
        | none => rw [z] at h; cases h
        | some b0 =>
          rw [z] at h
          have k := kit_isT K ht z
          have h : ((anyT t Ts).map fun c => b0 || c) = some b := h
          cases z2 : anyT t Ts with
          | none => rw [z2] at h; cases h
          | some c =>
            rw [z2] at h
            obtain ⟨us, p, q⟩ := anyT_kit K ht z2 rt
            refine ⟨.type T :: us, .cons (.ty T) p, ?_⟩
            unfold PySem.W.kitAny
            rw [k]
            cases b0 with
            | true => cases h; rfl
            | false => cases h; exact q
      | _ => cases h
theorem cf_isi (x : XG X G k) : CallR X (.builtin "isinstance") (rFn G fIsi) := by
  intro pins s σ H xs us Q I r ⟨av, ds, d, h, hg, hav, q⟩
  unfold fIsi at hg
  split at hg
  · rename_i y T
    obtain ⟨v, w, rfl, h1, h2⟩ := h.two
    have e := h2.ty
    subst e
    cases z : tyD y with
    | none => rw [z] at hg; cases hg
    | some t =>
      rw [z] at hg
      have hg : (isT t T).map D.bl = some d := hg
      cases z2 : isT t T with
      | none => rw [z2] at hg; cases hg
      | some b =>
        rw [z2] at hg
        cases hg
        have ty : TyX X.K H v (.type t) := by rw [x.K]; exact h1.tyX z
        exact call_isi pins s σ H _ us Q I r ⟨v, .ty T, .type t, .type T, b, rfl, .ty T, ty, kit_isT _ (tyD_mem z) z2, q _ H (.refl _) (.bl _)⟩
  · rename_i y Ts
    obtain ⟨v, w, rfl, h1, h2⟩ := h.two
    cases h2 with
    | own o => exact o.elim
    | val h2 =>
    cases z : tyD y with
    | none => rw [z] at hg; cases hg
    | some t =>
      rw [z] at hg
      have hg : (anyT t Ts).map D.bl = some d := hg
      cases z2 : anyT t Ts with
      | none => rw [z2] at hg; cases hg
      | some b =>
        rw [z2] at hg
        cases hg
        have ty : TyX X.K H v (.type t) := by rw [x.K]; exact h1.tyX z
        cases h2 with
        | @tup a vs ds e n rs =>
          obtain ⟨us', p, kk⟩ := anyT_kit G.K (tyD_mem z) z2 rs
          rw [← x.K] at kk
          exact call_isiT pins s σ H _ us Q I r ⟨v, a, vs, .type t, us', b, rfl, e, p, ty, kk, q _ H (.refl _) (.bl _)⟩
        | ktup k0 rs _ =>
          obtain ⟨us', p, kk⟩ := anyT_kit G.K (tyD_mem z) z2 rs
          rw [← x.K] at kk
          obtain ⟨⟨oc, od, dt, sl⟩, its, n, e1, e2, e3, _, rv⟩ := k0
          simp only at e2 e3
          subst e2 e3
          have e4 := ClsV.all p rv
          subst e4
          exact call_isiK pins s σ H _ us Q I r ⟨v, _, od, its.toList, n, sl, .type t, b, rfl, by rw [x.K]; exact e1, ty, kk, q _ H (.refl _) (.bl _)⟩
  · cases hg
end
end FT

set_option Elab.async false
set_option linter.all false
set_option maxRecDepth 100000
set_option maxHeartbeats 1000000
/-! FTJ: methods of texts; short words for derivations. -/
namespace FT
open PySem PySem.Spec PyProof.Rows L2
section
variable {X : Cx} {G : Gh} {k : Nat} {a b e : Expr} {pos : Pos}
/-! ### methods of a text, of one argument -/
def rM1 (G : Gh) (g : Str → D → Option D) : V → List V → Hp → VK → Prop := fun x xs H Q => ∃ (a : Str) (y : V) (av : Addr → Prop) (dy d : D), x = .str a ∧ xs = [y] ∧ RepT G.K G.mg H av dy y ∧ g a dy = some d ∧ (∀ a, av a → ∃ o, H a = some o) ∧ ∀ v H', Ext H H' → Rep G.K G.mg H' av d v → Q v H'
def mM1 (g : Str → D → Option D) (m : ME) (mb : MO) : ME := fun env => (m env).bind fun d e1 => match d with
  | .str a => (mb e1).bind fun r2 e2 => lift1 (g a) (r2 e2) e2
  | _ => .stuck
theorem se_m1 {id : String} {name : Str} {apos : Pos} {g : Str → D → Option D} {m : ME} {mb : MO} (slot : Slot "str" name id) (ty : typeOf (.builtin id) = pure (.type "method_descriptor")) (rule : MtR X id (rM1 G g)) (ho : SE X G a m) (he : SO X G e mb)
    (hs : starEach [e] X.env = [(false, eval e X.env)] := by rfl) (hbase : attributeBase a name X.env (eval a X.env) = eval a X.env := by rfl) (hline : (apos.endLine == pos.line) = true := by rfl) :
    SE X G (.Call (.Attribute a name apos) [e] [] pos) (mM1 g m mb) := PE.imp (pe_m1 slot ty rule ho he hs hbase hline) fun σ H Q ⟨env, s, q⟩ => by
  refine (TEo.bind s (Post G σ H Q) (fun z => z) (fun _ z => z) q).mono fun x H1 ⟨d, e1, ⟨s1, st1, g1⟩, q1⟩ => ?_
  cases g1 with
  | str z =>
    refine ⟨⟨z, rfl⟩, ?_⟩
    have q1 : Post G σ H Q ((mb e1).bind fun r2 e2 => lift1 (g z) (r2 e2) e2) := q1
    refine (TOo.bind s1 (Post G σ H Q) (fun z => z) (fun _ z => z) q1).mono fun y H2 ⟨r2, e2, ⟨s2, st2, g2⟩, q2⟩ => ?_
    unfold lift1 at q2
    split at q2
    · rename_i d2 h2
      split at q2
      · rename_i d hd
        exact ⟨z, y, Av G σ, d2, d, rfl, rfl, g2 H2 e2 s2 (.refl _ _) _ h2, hd, fun a ha => let ⟨o, z, _⟩ := s2.there a ha; ⟨o, z⟩, fun v H' e r => q2 v H' (s2.ext e) ((st1.trans st2).trans (e.stay _)) r⟩
      · exact q2.elim
    · exact q2.elim
  | _ => exact q1.elim
def strs? : List D → Option (List Str)
  | [] => some []
  | .str x :: r => (strs? r).map (x :: ·)
  | _ => none
theorem strs_reps {K : PySem.W.Frag} {mg : Str → Option Value} {H : Hp} {av : Addr → Prop} : ∀ {ds : List D} {vs : List V} {ys : List Str}, strs? ds = some ys → Reps K mg H av ds vs → vs = ys.map V.str
  | [], vs, ys, h, r => by cases r; cases h; rfl
  | d :: ds, vs, ys, h, r => by
    cases r with
    | cons r1 rt =>
      cases r1 with
      | str x =>
        have h : (strs? ds).map (x :: ·) = some ys := h
        cases z : strs? ds with
        | none => rw [z] at h; cases h
        | some zs =>
          rw [z] at h
          cases h
          rw [strs_reps z rt] <;> rfl
      | _ => cases h
theorem reps_strs {K : PySem.W.Frag} {mg : Str → Option Value} {H : Hp} {av : Addr → Prop} : ∀ ys : List Str, Reps K mg H av (ys.map D.str) (ys.map V.str)
  | [] => .nil
  | y :: r => .cons (.str y) (reps_strs r)
def gJoin (a : Str) : D → Option D
  | .lst ds => (strs? ds).bind fun ys => if (ys.map (·.length)).sum + ys.length * a.length ≤ 1000000 then some (.str (Txt.join a ys)) else none
  | .tup ds => (strs? ds).bind fun ys => if (ys.map (·.length)).sum + ys.length * a.length ≤ 1000000 then some (.str (Txt.join a ys)) else none
  | _ => none
theorem mt_gJoin0 (hK : X.K = G.K) : MtR X "str.join" (rM1 G gJoin) := by
  intro pins s σ H v xs u us Q I rv rs ⟨a, y, av, dy, d, ex, exs, h1, hg, hav, q⟩
  subst ex exs
  unfold gJoin at hg
  split at hg
  · rename_i ds
    cases z : strs? ds with
    | none => rw [z] at hg; cases hg
    | some ys =>
      rw [z] at hg
      have hg : (if (ys.map (·.length)).sum + ys.length * a.length ≤ 1000000 then some (D.str (Txt.join a ys)) else none) = some d := hg
      split at hg
      · rename_i hl
        cases hg
        obtain ⟨p, vs, rfl, e1, p1⟩ := h1.lst
        have e := strs_reps z p1
        subst e
        exact mt_join pins s σ H _ _ u us Q I rv rs ⟨a, p, ys, rfl, rfl, .inl (by rw [hK]; exact .of e1), by omega, q _ H (.refl _) (.str _)⟩
      · cases hg
  · rename_i ds
    cases z : strs? ds with
    | none => rw [z] at hg; cases hg
    | some ys =>
      rw [z] at hg
      have hg : (if (ys.map (·.length)).sum + ys.length * a.length ≤ 1000000 then some (D.str (Txt.join a ys)) else none) = some d := hg
      split at hg
      · rename_i hl
        cases hg
        obtain ⟨p, vs, rfl, e1, p1⟩ := h1.tup
        have e := strs_reps z p1
        subst e
        exact mt_join pins s σ H _ _ u us Q I rv rs ⟨a, p, ys, rfl, rfl, .inr (by rw [hK]; exact e1), by omega, q _ H (.refl _) (.str _)⟩
      · cases hg
  · cases hg
theorem mt_gJoin (x : XG X G k) : MtR X "str.join" (rM1 G gJoin) := mt_gJoin0 x.K
def gSplit (a : Str) : D → Option D
  | .str b => if b.length ≠ 0 ∧ a.length ≤ 1000000 then some (.lst ((Txt.split a b).map D.str)) else none
  | _ => none
theorem mt_gSplit : MtR X "str.split" (rM1 G gSplit) := by
  intro pins s σ H v xs u us Q I rv rs ⟨a, y, av, dy, d, ex, exs, h1, hg, hav, q⟩
  subst ex exs
  unfold gSplit at hg
  split at hg
  · rename_i b
    split at hg
    · rename_i hl
      cases hg
      have e := h1.str
      subst e
      exact mt_split pins s σ H _ _ u us Q I rv rs ⟨a, b, rfl, rfl, by simpa using hl.1, Nat.le_trans (Nat.add_le_add_right hl.2 2) (by decide), fun p n => q _ _ (Ext.upd n) (.lst upd_same (new_no hav n) (reps_strs _))⟩
    · cases hg
  · cases hg
theorem se_join {apos : Pos} {m : ME} {mb : MO} (x : XG X G k) (ho : SE X G a m) (he : SO X G e mb) (hs : starEach [e] X.env = [(false, eval e X.env)] := by rfl) (hbase : attributeBase a "join" X.env (eval a X.env) = eval a X.env := by rfl) (hline : (apos.endLine == pos.line) = true := by rfl) :
    SE X G (.Call (.Attribute a "join" apos) [e] [] pos) (mM1 gJoin m mb) := se_m1 PySem.F.slot_str_join PySem.F.type_str_join (mt_gJoin x) ho he hs hbase hline
theorem se_split {apos : Pos} {m : ME} {mb : MO} (ho : SE X G a m) (he : SO X G e mb) (hs : starEach [e] X.env = [(false, eval e X.env)] := by rfl) (hbase : attributeBase a "split" X.env (eval a X.env) = eval a X.env := by rfl) (hline : (apos.endLine == pos.line) = true := by rfl) :
    SE X G (.Call (.Attribute a "split" apos) [e] [] pos) (mM1 gSplit m mb) := se_m1 PySem.F.slot_str_split PySem.F.type_str_split mt_gSplit ho he hs hbase hline

/-! ### short words -/
theorem sv (i : Nat) {x : Str} {pos : Pos} (hi : (G.ow.contains i) = false := by rfl) (hN : X.N[i]? = some x := by rfl) (hv : Vis X.env.scope x := by first | exact Or.inl rfl | exact Or.inr (Or.inl rfl) | exact Or.inr (Or.inr rfl))
    (hd : (x == ("__debug__" : Str)) = false := by decide) (hcd : (x == ("__classdict__" : Str)) = false := by decide) : SE X G (.Name x pos) (mVar i) := se_var hi hN hv hd hcd
theorem so (i : Nat) {x : Str} {pos : Pos} (hi : (G.ow.contains i) = true := by rfl) (hN : X.N[i]? = some x := by rfl) (hv : Vis X.env.scope x := by first | exact Or.inl rfl | exact Or.inr (Or.inl rfl) | exact Or.inr (Or.inr rfl))
    (hd : (x == ("__debug__" : Str)) = false := by decide) (hcd : (x == ("__classdict__" : Str)) = false := by decide) : SO X G (.Name x pos) (mOwn i) := so_own hi hN hv hd hcd
/-- a built-in class as a value -/
theorem se_ty {x : Str} {n : String} {pos : Pos} (hg : Gl X x) (hm : X.mg x = none) (hv : bootBuiltins x = some (.type n)) (hn : x ≠ "__name__" := by decide) (hd : (x == ("__debug__" : Str)) = false := by decide) : SE X G (.Name x pos) (mLit (.ty n)) :=
  se_lit (pe_bltn (v := .ty n) hg hm hv rfl hn hd) fun _ _ => .ty n
/-- a def as a value -/
theorem se_fn {x : Str} {st : Stmt} {pos : Pos} (xg : XG X G k) (hg : Gl X x) (h : DefIn G.K G.mg x st) (hd : (x == ("__debug__" : Str)) = false := by decide) : SE X G (.Name x pos) (mLit (.fn x)) := by
  obtain ⟨f, fd, e, _⟩ := h
  exact se_lit (pe_glob (v := .ref f) hg (by rw [xg.mg]; exact e) rfl hd) fun _ _ => .fn e
/-- -a -/
def gNeg : D → Option D
  | .int i => some (.int (-i))
  | _ => none
def mOp1 (g : D → Option D) (m : ME) : ME := fun env => (m env).bind fun d s => lift1 g (some d) s
theorem se_neg {m : ME} (h : SE X G a m) : SE X G (.UnaryOp .USub a pos) (mOp1 gNeg m) := PE.imp (pe_un un_neg h) fun σ H Q ⟨env, s, q⟩ => by
  refine (TEo.bind s (Post G σ H Q) (fun z => z) (fun _ z => z) q).mono fun x H1 ⟨d, e1, ⟨s1, st1, g1⟩, q1⟩ => ?_
  cases g1 with
  | int i => exact ⟨i, rfl, q1 _ H1 s1 st1 (.int _)⟩
  | _ => exact q1.elim
end
theorem bt_len : bootBuiltins "len" = some (.builtin "len") := by decide +kernel
theorem bt_abs : bootBuiltins "abs" = some (.builtin "abs") := by decide +kernel
theorem bt_min : bootBuiltins "min" = some (.builtin "min") := by decide +kernel
theorem bt_max : bootBuiltins "max" = some (.builtin "max") := by decide +kernel
theorem bt_isinstance : bootBuiltins "isinstance" = some (.builtin "isinstance") := by decide +kernel
theorem bt_all : bootBuiltins "all" = some (.builtin "all") := by decide +kernel
theorem bt_sum : bootBuiltins "sum" = some (.builtin "sum") := by decide +kernel
theorem bt_sorted : bootBuiltins "sorted" = some (.builtin "sorted") := by decide +kernel
theorem bt_int : bootBuiltins "int" = some (.type "int") := by decide +kernel
theorem bt_str : bootBuiltins "str" = some (.type "str") := by decide +kernel
theorem bt_bool : bootBuiltins "bool" = some (.type "bool") := by decide +kernel
theorem bt_tuple : bootBuiltins "tuple" = some (.type "tuple") := by decide +kernel
theorem bt_list : bootBuiltins "list" = some (.type "list") := by decide +kernel
theorem bt_set : bootBuiltins "set" = some (.type "set") := by decide +kernel
def fAll : List D → Option D
  | [.lst ds] => (bls? ds).map fun bs => .bl (bs.all id)
  | _ => none
where bls? : List D → Option (List Bool)
  | [] => some []
  | .bl x :: r => (bls? r).map (x :: ·)
  | _ => none
theorem bls_reps {K : PySem.W.Frag} {mg : Str → Option Value} {H : Hp} {av : Addr → Prop} : ∀ {ds : List D} {vs : List V} {ys : List Bool}, fAll.bls? ds = some ys → Reps K mg H av ds vs → vs = ys.map V.bl
  | [], vs, ys, h, r => by cases r; cases h; rfl
  | d :: ds, vs, ys, h, r => by
    cases r with
    | cons r1 rt =>
      cases r1 with
      | bl x =>
        have h : (fAll.bls? ds).map (x :: ·) = some ys := h
        cases z : fAll.bls? ds with
        | none => rw [z] at h; cases h
        | some zs =>
          rw [z] at h
          cases h
          rw [bls_reps z rt] <;> rfl
      | _ => cases h
theorem cf_all {X : Cx} {G : Gh} {k : Nat} (x : XG X G k) : CallR X (.builtin "all") (rFn G fAll) := by
  intro pins s σ H xs us Q I r ⟨av, ds, d, h, hg, hav, q⟩
  unfold fAll at hg
  split at hg
  · rename_i ds
    obtain ⟨v, rfl, h1⟩ := h.one
    obtain ⟨a, vs, rfl, e1, p1⟩ := h1.lst
    cases z : fAll.bls? ds with
    | none => rw [z] at hg; cases hg
    | some bs =>
      rw [z] at hg
      cases hg
      have e := bls_reps z p1
      subst e
      exact cr_all x.calm pins s σ H _ us Q I r ⟨a, bs, rfl, x.sqL (.of e1), q _ H (.refl _) (.bl _)⟩
  · cases hg
section
variable {X : Cx} {G : Gh} {k : Nat} {pos : Pos}
/-- a, b = x, y with plain local names -/
def mPar (is : List Nat) (ms : MA) : MS := fun env => bindS (ms env) fun ds s => if ds.length = is.length then .nx ((is.zip ds).foldl (fun e p => e.set p.1 (some p.2)) s) else .stuck
theorem TAo.bindS {G : Gh} {σ : St} {H : Hp} {m : MA} {k : List D → En → RS} {env : En} (s : SR G σ H env) (PP : RS → Prop) (hs : ¬ PP .stuck) (he : ∀ e, PP (.err e) → PostE G e) (h : PP (FT.bindS (m env) k)) :
    TAo G m σ H (fun x H1 => ∃ ds env1, SR G σ H1 env1 ∧ Stay (Ch G σ) H H1 ∧ Reps G.K G.mg H1 (Av G σ) ds x ∧ PP (k ds env1)) := by
  refine ⟨env, s, ?_⟩
  cases q : m env with
  | stuck => rw [q] at h; exact (hs h).elim
  | err e => rw [q] at h; exact he e h
  | ok d env1 => rw [q] at h; exact fun v H' a b c => ⟨d, env1, a, b, c, h⟩
theorem ss_par {i j : Nat} {x y : Str} {a b : Expr} {ms : MA} {px py pt : Pos} {kt k2 pt2} (xg : XG X G k) (wi : (G.ow.contains i) = false) (wj : (G.ow.contains j) = false) (hi : X.N[i]? = some x) (hj : X.N[j]? = some y) (hij : i ≠ j)
    (hx : X.env.scope.names.lookup x = some .local) (hy : X.env.scope.names.lookup y = some .local) (ha : SA X G [a, b] ms)
    (hw : swappedStores [.Tuple [.Name x px, .Name y py] kt pt] (.Tuple [a, b] k2 pt2) X.env = pure (some [x, y]))
    (hs : swapsWithSole [.Tuple [.Name x px, .Name y py] kt pt] (.Tuple [a, b] k2 pt2) pos.line X.env = pure false := by rfl) :
    SS X G (.Assign [.Tuple [.Name x px, .Name y py] kt pt] (.Tuple [a, b] k2 pt2) pos) (mPar [i, j] ms) := PS.imp (ps_par xg.calm xg.nd hi hj hij hx hy ha.pa hw hs) fun D σ H ⟨env, s, q⟩ => by
  refine (TAo.bindS s (PostS G D σ H) (fun z => z) (fun _ z => z) q).mono fun xs H1 ⟨ds, e1, s1, st1, g1, q1⟩ => ?_
  split at q1
  rotate_left
  · exact q1.elim
  rename_i hl
  match ds, hl, g1 with
  | [d1, d2], _, .cons r1 (.cons r2 .nil) =>
    obtain ⟨s2, k2⟩ := s1.set (i := i) (by simpa using wi) r1
    obtain ⟨s3, k3⟩ := s2.set (i := j) (by simpa using wj) (k2 _ _ r2)
    exact ⟨_, _, rfl, q1 _ _ s3 ((st1.keep.trans k2).trans k3)⟩
theorem ss_par3 {i j l : Nat} {x y z : Str} {a b c : Expr} {ms : MA} {px py pz pt : Pos} {kt k2 pt2} (xg : XG X G k) (wi : (G.ow.contains i) = false) (wj : (G.ow.contains j) = false) (wl : (G.ow.contains l) = false) (hi : X.N[i]? = some x) (hj : X.N[j]? = some y) (hl : X.N[l]? = some z)
    (hij : i ≠ j) (hil : i ≠ l) (hjl : j ≠ l)
    (hx : X.env.scope.names.lookup x = some .local) (hy : X.env.scope.names.lookup y = some .local) (hz : X.env.scope.names.lookup z = some .local) (ha : SA X G [a, b, c] ms)
    (hw : swappedStores [.Tuple [.Name x px, .Name y py, .Name z pz] kt pt] (.Tuple [a, b, c] k2 pt2) X.env = pure (some [x, y, z]))
    (hs : swapsWithSole [.Tuple [.Name x px, .Name y py, .Name z pz] kt pt] (.Tuple [a, b, c] k2 pt2) pos.line X.env = pure false := by rfl) :
    SS X G (.Assign [.Tuple [.Name x px, .Name y py, .Name z pz] kt pt] (.Tuple [a, b, c] k2 pt2) pos) (mPar [i, j, l] ms) := PS.imp (ps_par3 xg.calm xg.nd hi hj hl hij hil hjl hx hy hz ha.pa hw hs) fun D σ H ⟨env, s, q⟩ => by
  refine (TAo.bindS s (PostS G D σ H) (fun z => z) (fun _ z => z) q).mono fun xs H1 ⟨ds, e1, s1, st1, g1, q1⟩ => ?_
  split at q1
  rotate_left
  · exact q1.elim
  rename_i hl
  match ds, hl, g1 with
  | [d1, d2, d3], _, .cons r1 (.cons r2 (.cons r3 .nil)) =>
    obtain ⟨s2, k2⟩ := s1.set (i := i) (by simpa using wi) r1
    obtain ⟨s3, k3⟩ := s2.set (i := j) (by simpa using wj) (k2 _ _ r2)
    obtain ⟨s4, k4⟩ := s3.set (i := l) (by simpa using wl) (k3 _ _ (k2 _ _ r3))
    exact ⟨_, _, _, rfl, q1 _ _ s4 (((st1.keep.trans k2).trans k3).trans k4)⟩
end
end FT

set_option Elab.async false
set_option linter.all false
set_option maxRecDepth 100000
set_option maxHeartbeats 1000000
/-! FTK: walking and unpacking while an exception is handled. -/
namespace FT
open PySem PySem.Spec PyProof.Rows L2 HotX

section
variable {prog : Program} {w : World} {A : Around} {E : Value → Shared → Prop} {s : Shared}
/-- an exception that says: no more items; its context is the handled one -/
theorem stop_hot {α : Type} {x1 : Addr} {Q : α → Shared → Prop} (hot : HotAt A x1 s.heap)
    (q : ∀ g e, (∀ b o, s.heap.get? b = some o → g.get? b = some o) → (∃ o, g.get? e = some o ∧ o.cls = .type "StopIteration") → E (.ref e) { s with heap := g }) :
    wpAny (model prog w) A (do let e ← newExc (.type "StopIteration") []; (raiseNew e : Sem α)) Q E s := by
  obtain ⟨hd, o1, v1, p1, p2, p3⟩ := hot
  unfold newExc newTuple
  refine wpAny_bind (wpAny_bind (wpAny_newObj_type
    (wpAny_bind (m := firstArgMember _ _) (wpAny_of_eq (a := Value.none) (by first | rfl | (unfold firstArgMember; rfl))
      (wpAny_newObj_type ?_ (by size_fits)))) (by size_fits)))
  have k0 := Heap.get?_push_of_some { cls := .type "tuple", data := .seq ([] : List Value).toArray } p1
  refine raiseNew_hot (x1 := x1) ⟨hd, o1, v1, Heap.get?_push_of_some _ k0, p2, p3⟩ (Nat.ne_of_lt (Heap.lt_size k0)) (Heap.get?_push_size _ rfl) rfl
    (by first | (simp; done) | (simp; omega) | (simp only [Array.size_append]; simp; omega)) (q _ _ (fun b o e => ?_) ⟨_, Heap.get?_update_self _ (Heap.get?_push_size _ rfl) rfl, rfl⟩)
  have k1 := Heap.get?_push_of_some { cls := .type "tuple", data := .seq ([] : List Value).toArray } e
  rw [Heap.get?_update_other _ _ (Nat.ne_of_gt (Heap.lt_size k1))]
  exact Heap.get?_push_of_some _ k1

/-- the handled one stands where it stood -/
theorem hotOn {A B : Around} {x1 : Addr} {h g : Heap} (hot : HotAt A x1 h) (e : B.handled = A.handled) (k : ∀ o, h.get? x1 = some o → g.get? x1 = some o) : HotAt B x1 g :=
  ⟨e.trans hot.1, let ⟨o, v, a, b, c⟩ := hot.2; ⟨o, v, k o a, b, c⟩⟩

theorem stopL_hot {it l x1 : Addr} {i : Nat} {its : Array Value} {Q : Value → Shared → Prop} (hot : HotAt A x1 s.heap) (nx : x1 ≠ it) (hi : s.heap.IsListIter it l i) (hl : s.heap.IsList l its) (hx : its[i]? = none)
    (q : ∀ g e, Heap.ExtBut it s.heap g → (∃ o, g.get? e = some o ∧ o.cls = .type "StopIteration") → E (.ref e) { s with heap := g }) : wpAny (model prog w) A (Builtin.SmallTypes.nextOf (.ref it)) Q E s := by
  obtain ⟨oi, gi, ci, di⟩ := id hi
  obtain ⟨ol, gl, _, nl, dl⟩ := hl
  unfold Builtin.SmallTypes.nextOf
  refine wpAny_bind (wpAny_callSpecial?_slot (name := Str.ofString "__next__") hi.typeIs slot_listiter_next (wpAny_call_entry slot_listiter_next hi.typeIs entry_listiter_next ?_ (args_listiter_next _)))
  show wpAny _ _ (field (.ref it) 0 >>= _) _ _ s
  refine wpAny_bind (wpAny_field gi di (x := .ref l) rfl ?_)
  show wpAny _ _ (ite ((Value.ref l == Value.none) = true) _ _) _ _ s
  rw [if_neg (by exact Bool.false_ne_true)]
  show wpAny _ _ (field (.ref it) 1 >>= _) _ _ s
  refine wpAny_bind (wpAny_field gi di (x := .int i 0) rfl ?_)
  refine wpAny_bind (m := seqItems? (.ref l)) (wpAny_seqItems gl dl ?_)
  simp only [Int.toNat_natCast, hx]
  refine wpAny_bind (wpAny_rule (wpAny_bind (wpAny_setField gi di (by simp) ?_)))
  refine stop_hot (x1 := x1) (hotOn hot rfl fun o h => ?_) fun g e k t => q g e (fun b o hb h => k b o ?_) t
  · show Heap.get? (Heap.update s.heap it _) x1 = some o
    rw [Heap.get?_update_other _ _ (Ne.symm nx)]; exact h
  · show Heap.get? (Heap.update s.heap it _) b = some o
    rw [Heap.get?_update_other _ _ (Ne.symm hb)]; exact h

theorem stopT_hot {it t x1 : Addr} {i : Nat} {its : Array Value} {Q : Option Value → Shared → Prop} (hot : HotAt A x1 s.heap) (nx : x1 ≠ it) (hi : IsTupIter s.heap it t i) (ht : IsTup s.heap t its) (hx : its[i]? = none)
    (q : ∀ g, Heap.ExtBut it s.heap g → Q none { s with heap := g }) : wpAny (model prog w) A (pyNext (.ref it)) Q E s := by
  obtain ⟨oi, gi, ci, di⟩ := id hi
  obtain ⟨ot, gt, _, nt, dt⟩ := ht
  unfold pyNext
  refine wpAny_bind (wpAny_attempt (wpAny_callSpecial?_slot (name := Str.ofString "__next__") hi.typeIs slot_tupleiter_next (wpAny_call_entry slot_tupleiter_next hi.typeIs entry_tupleiter_next ?_ (args_tupleiter_next _))))
  show wpAny _ _ (field (.ref it) 0 >>= _) _ _ s
  refine wpAny_bind (wpAny_field gi di (x := .ref t) rfl ?_)
  show wpAny _ _ (ite ((Value.ref t == Value.none) = true) _ _) _ _ s
  rw [if_neg (by exact Bool.false_ne_true)]
  show wpAny _ _ (field (.ref it) 1 >>= _) _ _ s
  refine wpAny_bind (wpAny_field gi di (x := .int i 0) rfl ?_)
  refine wpAny_bind (m := seqItems? (.ref t)) (wpAny_seqItems gt dt ?_)
  simp only [Int.toNat_natCast, hx]
  refine wpAny_bind (wpAny_rule (wpAny_bind (wpAny_setField gi di (by simp) ?_)))
  refine stop_hot (x1 := x1) (hotOn hot rfl fun o h => ?_) fun g e k ⟨o, ho, hc⟩ => ?_
  · show Heap.get? (Heap.update s.heap it _) x1 = some o
    rw [Heap.get?_update_other _ _ (Ne.symm nx)]; exact h
  · refine wpAny_bind (wpAny_isInstance (T := "StopIteration") (b := true) ⟨o, ho, hc⟩ isSubtype_stop (wpAny_pure (q g fun b o hb h => k b o ?_)))
    show Heap.get? (Heap.update s.heap it _) b = some o
    rw [Heap.get?_update_other _ _ (Ne.symm hb)]; exact h

/-- (a, b, ..) = a tuple -/
theorem unpack_hot {env : Env} {es : List Expr} {k} {pos : Pos} {t x1 : Addr} {its : Array Value} {Q : Unit → Shared → Prop} (hot : HotAt A x1 s.heap) (ht : IsTup s.heap t its) (hn : (assignEach es env).length = its.size) (hs : (assignEach es env).findIdx? (·.1) = none)
    (q : ∀ g, Heap.ExtBut s.heap.objs.size s.heap g → wpAny (model prog w) A (assignInOrder ((assignEach es env).map (·.2)) its.toList) Q E { s with heap := g }) :
    wpAny (model prog w) A (assign (.Tuple es k pos) env (.ref t)) Q E s := by
  have lt : t ≠ s.heap.objs.size := by obtain ⟨o, e, _⟩ := ht; exact Nat.ne_of_lt (Heap.lt_size e)
  have lx : x1 ≠ s.heap.objs.size := by obtain ⟨_, o, v, e, _⟩ := hot; exact Nat.ne_of_lt (Heap.lt_size e)
  rw [assign_Tuple]
  refine wpAny_bind (wpAny_standAt ?_)
  unfold unpack
  rw [hn, hs]
  refine wpAny_bind (wpAny_holding ?_)
  unfold unpackItems notIterableAtAll
  refine wpAny_bind (wpAny_bind (wpAny_specialOf ht.typeIs slot_tuple_iter.lookup (wpAny_pure ?_)))
  rw [if_neg (by exact Bool.false_ne_true)]
  refine wpAny_bind (wpAny_holding (iter_tuple ht (wpAny_bind (wpAny_holding (draw_tuple lt its.size 0 _ _ ⟨_, Heap.get?_push_size _ rfl, rfl, rfl⟩ (ht.push _) (by omega) fun g1 i1 b1 => ?_)))))
  rw [show List.take its.size (List.drop 0 its.toList) = its.toList by rw [List.drop_zero]; exact List.take_of_length_le (by simp), if_neg (by simp)]
  have e1 : ∀ b o, b ≠ s.heap.objs.size → s.heap.get? b = some o → g1.get? b = some o := fun b o hb e => b1.extBut b o hb (Heap.get?_push_of_some _ e)
  refine wpAny_bind (wpAny_holding (stopT_hot (x1 := x1) (hotOn hot rfl fun o e => e1 _ o lx e) lx i1 ((ht.push _).extBut b1.extBut lt) (by simp) fun g2 e2 => ?_))
  rw [Option.isSome_none, if_neg (by exact Bool.false_ne_true)]
  exact wpAny_pure (q g2 fun b o hb e => e2 b o hb (e1 b o hb e))

/-- both walked to the end of the shorter one -/
theorem stopZ_hot {z TI TO i1 i2 l1 l2 x1 : Addr} {k1 k2 : Nat} {xs ys : Array Value} {a b : Value} {Q : Option Value → Shared → Prop} (hot : HotAt A x1 s.heap) (nx : x1 ∉ [z, TI, TO, i1, i2]) (D : ZipApart z TI TO i1 i2 l1 l2)
    (gz : IsZip s.heap z TI TO .none) (gI : IsPair s.heap TI (.ref i1) (.ref i2)) (gO : IsPair s.heap TO a b) (g1 : s.heap.IsListIter i1 l1 k1) (g2 : s.heap.IsListIter i2 l2 k2) (hl1 : s.heap.IsList l1 xs) (hl2 : s.heap.IsList l2 ys)
    (hend : xs[k1]? = none ∨ ys[k2]? = none) (q : ∀ g, (∀ c o, c ∉ [z, TI, TO, i1, i2] → s.heap.get? c = some o → g.get? c = some o) → Q none { s with heap := g }) : wpAny (model prog w) A (pyNext (.ref z)) Q E s := by
  have ty : s.TypeIs (.ref z) "zip" := ⟨_, gz, rfl⟩
  simp only [List.mem_cons, List.not_mem_nil, or_false, not_or] at nx
  obtain ⟨xz, xI, xO, x1', x2'⟩ := nx
  unfold pyNext
  refine wpAny_bind (wpAny_attempt (wpAny_callSpecial?_slot (name := Str.ofString "__next__") ty F.slot_zip_next (wpAny_call_entry F.slot_zip_next ty F.entry_zip_next ?_ (F.args_zip_next_1 _))))
  have fin : ∀ (g : Heap) (e : Addr), (∀ c o, c ≠ z → c ≠ TO → c ≠ i1 → c ≠ i2 → s.heap.get? c = some o → g.get? c = some o) → (∃ o, g.get? e = some o ∧ o.cls = .type "StopIteration") →
      wpAny (model prog w) A (do let b ← isInstance (.ref e) (.type "StopIteration"); if b then pure none else throw (.ref e) : Sem (Option Value)) Q E { s with heap := g } := fun g e k ⟨o, ho, hc⟩ =>
    wpAny_bind (wpAny_isInstance (T := "StopIteration") (b := true) ⟨o, ho, hc⟩ isSubtype_stop (wpAny_pure (q g fun c o hc h => by
      simp only [List.mem_cons, List.not_mem_nil, or_false, not_or] at hc
      exact k c o hc.1 hc.2.2.1 hc.2.2.2.1 hc.2.2.2.2 h)))
  show wpAny _ _ (field (.ref z) 2 >>= _) _ _ _
  refine wpAny_bind (wpAny_field gz rfl (x := .bool false) rfl ?_)
  show wpAny _ _ (field (.ref z) 3 >>= _) _ _ _
  refine wpAny_bind (wpAny_field gz rfl (x := .ref TI) rfl (wpAny_bind (wpAny_seqItems gI rfl ?_)))
  show wpAny _ _ (Builtin.SmallTypes.ownedTupleIsFree (.ref z) >>= _) _ _ _
  unfold Builtin.SmallTypes.ownedTupleIsFree
  refine wpAny_bind (wpAny_bind (wpAny_field gz rfl (x := .none) rfl (wpAny_pure ?_)))
  simp only [if_true]
  refine wpAny_bind (wpAny_rule (wpAny_bind (wpAny_field gz rfl (x := .ref TO) rfl (wpAny_bind (wpAny_setField_rec gz (by simp) fun ha gza sa => ?_)))))
  replace gza : IsZip ha z TI TO .ellipsis := gza
  simp only [List.zipIdx_cons, List.zipIdx_nil, List.forIn_cons, List.forIn_nil]
  refine wpAny_bind (wpAny_bind (wpAny_bind (wpAny_onRaise ?_)))
  show wpAny _ _ (Builtin.SmallTypes.nextOf (.ref i1) >>= _) _ _ _
  have hotA := hotOn (B := A) hot rfl fun o e => sa.extBut _ o xz e
  cases hx : xs[k1]? with
  | none =>
    refine wpAny_bind (stopL_hot (x1 := x1) (hotOn hotA rfl fun _ e => e) x1' (g1.extBut sa.extBut D.i1z) (hl1.extBut sa.extBut D.l1z) hx fun hb e sb he => ?_)
    obtain ⟨oe, goe, ce⟩ := he
    have gzb : IsZip hb z TI TO .ellipsis := sb _ _ D.i1z.symm gza
    have ne : e ≠ z := fun y => by subst y; rw [gzb] at goe; cases goe; simp at ce
    exact wpAny_setField_rec gzb (by simp) fun hc _ sc => fin hc e (fun c o c1 _ c3 _ y => sc.extBut _ _ c1 (sb _ _ c3 (sa.extBut _ _ c1 y))) ⟨oe, sc.extBut _ _ ne goe, ce⟩
  | some x =>
    have hy : ys[k2]? = none := hend.resolve_left fun h => by rw [hx] at h; cases h
    refine wpAny_bind (wpAny_nextOf_list_item (g1.extBut sa.extBut D.i1z) (hl1.extBut sa.extBut D.l1z) hx fun hb g1b sb => wpAny_pure ?_)
    have gOb : IsPair hb TO a b := sb.extBut _ _ D.TOi1 (sa.extBut _ _ D.TOz gO)
    refine wpAny_bind (wpAny_seqItems gOb rfl (wpAny_bind (wpAny_updateSeq_pair gOb fun hc gOc sc => wpAny_bind (wpAny_letGo (wpAny_pure ?_)))))
    refine wpAny_bind (wpAny_bind (wpAny_onRaise ?_))
    show wpAny _ _ (Builtin.SmallTypes.nextOf (.ref i2) >>= _) _ _ _
    refine wpAny_bind (stopL_hot (x1 := x1) (hotOn hotA rfl fun o e => sc.extBut _ o xO (sb.extBut _ o x1' e)) x2' (((g2.extBut sa.extBut D.i2z).extBut sb.extBut D.i12.symm).extBut sc.extBut D.TOi2.symm)
      (((hl2.extBut sa.extBut D.l2z).extBut sb.extBut D.l2i1).extBut sc.extBut D.l2TO) hy fun hd e sd he => ?_)
    obtain ⟨oe, goe, ce⟩ := he
    have gzd : IsZip hd z TI TO .ellipsis := sd _ _ D.i2z.symm (sc.extBut _ _ D.TOz.symm (sb.extBut _ _ D.i1z.symm gza))
    have ne : e ≠ z := fun y => by subst y; rw [gzd] at goe; cases goe; simp at ce
    exact wpAny_setField_rec gzd (by simp) fun hf _ sf => fin hf e (fun c o c1 c2 c3 c4 y => sf.extBut _ _ c1 (sd _ _ c4 (sc.extBut _ _ c2 (sb.extBut _ _ c3 (sa.extBut _ _ c1 y))))) ⟨oe, sf.extBut _ _ ne goe, ce⟩
end
end FT

set_option Elab.async false
set_option linter.all false
set_option maxRecDepth 100000
set_option maxHeartbeats 1000000
/-! FTL: [.. for a, b in zip(..) if ..] while an exception is handled. -/
namespace FT
open PySem PySem.Spec PyProof.Rows L2 HotX L2H

/-- in every state of X the handled exception stands, at none of fp -/
def HotK (X : Cx) (fp : List Addr) : Prop := ∀ (pins : List (Addr × Obj)) (σ : St) (H : Hp) (s : Shared), Inv X pins σ H s → ∃ x1, HotAt X.A x1 s.heap ∧ x1 ∉ fp
theorem pg_tupK {X : Cx} {fp : List Addr} {es : List Expr} {k : Nat} {pos : Pos} {t : TGs} {n : Nat} (hc : HotK X fp) (h : PGs X es t) (hn : (assignEach es X.env).length = n := by rfl)
    (hst : (assignEach es X.env).findIdx? (·.1) = none := by rfl) : PG X (.Tuple es k pos) (gTup X.K n t) := ⟨fun pins s σ H v u Q I r hw => by
  obtain ⟨a, xs, e1, hq, hl, hw⟩ := hw
  subst e1
  cases r
  obtain ⟨x1, hot, _⟩ := hc _ _ _ _ I
  obtain ⟨its, rv, ht, _⟩ := I.tuple hq
  have ln : (assignEach es X.env).length = its.toArray.size := by rw [hn, ← hl, rv.length]; simp
  refine unpack_hot hot ht ln hst fun g hx => h.run pins _ σ H xs _ Q (I.kept (t' := s.toks) fun b o e => hx b o (Nat.ne_of_lt (Heap.lt_size e)) e) (by simpa using rv) hw⟩

structure ZSt (h : Heap) (z TI TO i1 i2 a b : Addr) (i : Nat) : Prop where
  gz : IsZip h z TI TO .none
  gI : IsPair h TI (.ref i1) (.ref i2)
  gO : ∃ x y, IsPair h TO x y
  g1 : h.IsListIter i1 a i
  g2 : h.IsListIter i2 b i
section
variable {h g : Heap} {z TI TO i1 i2 a b : Addr} {i : Nat}
theorem ZSt.on (st : ZSt h z TI TO i1 i2 a b i) (k : ∀ c o, c ∈ [z, TI, TO, i1, i2] → h.get? c = some o → g.get? c = some o) : ZSt g z TI TO i1 i2 a b i :=
  ⟨k z _ (by simp) st.gz, k TI _ (by simp) st.gI, let ⟨x, y, q⟩ := st.gO; ⟨x, y, k TO _ (by simp) q⟩, st.g1.at fun o q => k i1 o (by simp) q, st.g2.at fun o q => k i2 o (by simp) q⟩
theorem ZSt.obj (st : ZSt h z TI TO i1 i2 a b i) : ∀ c ∈ [z, TI, TO, i1, i2], ∃ o, h.get? c = some o ∧ ∀ v, o.data ≠ .cell v := by
  obtain ⟨p1, p2, ⟨x, y, p3⟩, ⟨o1, p4, _, d4⟩, ⟨o2, p5, _, d5⟩⟩ := st
  intro c hc
  simp only [List.mem_cons, List.not_mem_nil, or_false] at hc
  rcases hc with q | q | q | q | q <;> subst q
  · exact ⟨_, p1, fun v q => nomatch q⟩
  · exact ⟨_, p2, fun v q => nomatch q⟩
  · exact ⟨_, p3, fun v q => nomatch q⟩
  · exact ⟨o1, p4, fun v q => by rw [d4] at q; cases q⟩
  · exact ⟨o2, p5, fun v q => by rw [d5] at q; cases q⟩
end
/-- what a turn takes -/
theorem zturn {X : Cx} {pins : List (Addr × Obj)} {s : Shared} {σ : St} {H : Hp} {E : Value → Shared → Prop} {Q : Option Value → Shared → Prop} {es : List Expr} {kk : Nat} {tp : Pos} {z TI TO i1 i2 a b : Addr} {i : Nat} {xs ys : List V} {x y : V} (D : ZipApart z TI TO i1 i2 a b)
    (I : Inv X pins σ H s) (hf : ∀ c ∈ [z, TI, TO, i1, i2], FpOk X pins H c) (st : ZSt s.heap z TI TO i1 i2 a b i) (qa : SqL X.K H a xs) (qb : SqL X.K H b ys) (ex : xs[i]? = some x) (ey : ys[i]? = some y)
    (q : ∀ u s1, wpAny (model X.prog X.w) X.A (letOwnedTupleGo (.Tuple es kk tp) (.ref z) u) (fun _ s2 => ∃ T, u = .ref T ∧ H T = none ∧ Inv X pins σ (upd H T (.tup [x, y])) s2 ∧ ZSt s2.heap z TI TO i1 i2 a b (i + 1) ∧ ∀ c ∈ [z, TI, TO, i1, i2], upd H T (.tup [x, y]) c = none) E s1 → Q (some u) s1) :
    wpAny (model X.prog X.w) X.A (pyNext (.ref z)) Q E s := by
  obtain ⟨ia, ra, pa, _⟩ := I.list qa
  obtain ⟨ib, rb, pb, _⟩ := I.list qb
  obtain ⟨u, eu, ru⟩ := ra.get ex
  obtain ⟨v, ev, rv⟩ := rb.get ey
  obtain ⟨x0, y0, gO⟩ := st.gO
  have lz : z < s.heap.objs.size := Heap.lt_size st.gz
  refine wpAny_pyNext_zip_item D st.gz st.gI gO st.g1 st.g2 pa.isList pb.isList (x := u) (y := v) (by simpa using eu) (by simpa using ev) fun g z1 O1 a1 b1 T1 sz k => q _ _ (wpAny_letOwnedTupleGo_zip (s := { s with heap := g }) z1 fun f z2 sb => ?_)
  have nT : H s.heap.objs.size = none := I.hok.fresh (Nat.le_refl _)
  have fT : f.get? s.heap.objs.size = some { cls := .type "tuple", data := .seq #[u, v] } := (sb.2 _ (Nat.ne_of_gt lz)).trans T1
  have kk : ∀ c o, c ∉ [z, TI, TO, i1, i2] → s.heap.get? c = some o → f.get? c = some o := fun c o hc e => by
    simp only [List.mem_cons, List.not_mem_nil, or_false, not_or] at hc
    exact (sb.2 c hc.1).trans (k c o hc.1 hc.2.2.1 hc.2.2.2.1 hc.2.2.2.2 e)
  refine ⟨s.heap.objs.size, rfl, nT, I.turnedNew (t' := s.toks) kk hf (Nat.le_refl _) ⟨by show 2 ≤ sizeLine; decide, [u, v], .cons ru (.cons rv .nil), ⟨_, fT, rfl, _, rfl⟩⟩,
    ⟨z2, (sb.2 _ D.TIz).trans (k _ _ D.TIz D.TITO D.TIi1 D.TIi2 st.gI), ⟨u, v, (sb.2 _ D.TOz).trans O1⟩, a1.at fun o e => (sb.2 _ D.i1z).trans e, b1.at fun o e => (sb.2 _ D.i2z).trans e⟩, fun c hc => ?_⟩
  obtain ⟨o, e, _⟩ := st.obj c hc
  rw [upd_ne (Nat.ne_of_lt (Heap.lt_size e))]
  exact (hf c hc).1

/-- the reading: W i, what holds ahead of turn i -/
def tLcZ (K : PySem.W.Frag) (ta : TA) (g : TG) (tt : TT) (te : TE) (vs : List Nat) : TE := fun σ H Q => ta σ H fun us H1 => ∃ a b xs ys, us = [.ref a, .ref b] ∧ xs.length = ys.length ∧ SqL K H1 a xs ∧ SqL K H1 b ys ∧ ∀ D, H1 D = none → ∃ W : Nat → Hp → Prop, W 0 (upd H1 D (.lst [])) ∧
  (∀ i H', W i H' → SqL K H' a xs ∧ SqL K H' b ys ∧ i ≤ xs.length) ∧ (∀ H', W xs.length H' → Q (.ref D) H') ∧
  ∀ i x y H', W i H' → xs[i]? = some x → ys[i]? = some y → ∀ T, H' T = none → g (.ref T) (wipe σ vs) (upd H' T (.tup [x, y])) fun σ2 H2 => wipe σ2 vs = wipe σ vs ∧ tt σ2 H2 fun ok H3 =>
    if ok = true then te σ2 H3 fun v H4 => ∃ acc, H4 D = some (.lst acc) ∧ acc.length < sizeLine ∧ W (i + 1) (upd H4 D (.lst (acc ++ [v]))) else W (i + 1) H3

/-- hot blocks -/
theorem hot_blk {X : Cx} {pins : List (Addr × Obj)} {σ : St} {H : Hp} {s : Shared} {scope : Scope} {ce : Env} {fp : List Addr} (hc : HotC X) (I : Inv X pins σ H s) (hf : ∀ c ∈ fp, FpOk X pins H c) : HotK (X.blk s H scope ce fp) fp := by
  obtain ⟨p, ⟨hh, v1, e1, c1⟩, hp⟩ := hc
  obtain ⟨g1, g2, g3, g4, _⟩ := I.pin p (List.mem_append_left _ hp)
  have nf : p.1 ∉ fp := fun z => (hf _ z).2.2.2.2.2 p (List.mem_append_left _ hp) rfl
  have ns : p.1 ∉ frs X.stack := fun z => by
    rcases List.mem_cons.mp (I.stkSub _ z) with q | q
    · exact g3 q
    · exact g4 q
  exact fun pins' σ' H' s' J => ⟨p.1, ⟨hh, p.2, v1, J.base.keep p.1 p.2 g1 g2 ns nf, e1, c1⟩, nf⟩

section
variable {X : Cx}
theorem pe_lcZ {elt e1 e2 : Expr} {es : List Expr} {kk : Nat} {tp p zp : Pos} {ifs : List Expr} {scope : Scope} {own : List (Str × Nat)} {pos : Pos} {ta : TA} {g : TG} {tt : TT} {te : TE} (hc : HotC X) (hN : X.N.Nodup) (hz : Gl X "zip") (hm : X.mg "zip" = none) (ha : PA X [e1, e2] ta)
    (ok : BlkOk X.N X.env.scope scope own)
    (hg : ∀ (s : Shared) (H : Hp) (ce : Env) (fp : List Addr), ce.scope = relS scope X.env.scope → HotK (X.blk s H scope ce fp) fp → PG (X.blk s H scope ce fp) (.Tuple es kk tp) g)
    (ht : ∀ (s : Shared) (H : Hp) (C : Addr) (cl : List (Str × Addr)) (fp : List Addr), PTs (X.blk s H scope (compEnvC scope cl C X.env) fp) ifs tt)
    (he : ∀ (s : Shared) (H : Hp) (C : Addr) (cl : List (Str × Addr)) (fp : List Addr), PE (X.blk s H scope (compEnvC scope cl C X.env) fp) elt te)
    (hs : starEach [e1, e2] X.env = (false, eval e1 X.env) :: starEach [e2] X.env := by rfl) (hpl : (backTo zp (starEach [e2] X.env)).any (·.1) = false := by rfl)
    (hfs : ∀ x, foldedSetIterable (.Call (.Name "zip" p) [e1, e2] [] zp) X.env x = pure x := by intro _; rfl) :
    PE X (.ListComp elt [⟨.Tuple es kk tp, .Call (.Name "zip" p) [e1, e2] [] zp, ifs, 0⟩] scope pos) (tLcZ X.K ta g tt te (own.map (·.2))) := by
  refine ⟨fun pins s σ H Q I hw => ?_⟩
  rw [eval_ListComp]
  have fr : ∀ y ∈ scope.names, y.2 = .free → ∃ c, X.env.cells.lookup y.1 = some c := fun y hy e => (ok.free y hy e).elim (fun k => I.ok.has _ (.inl k)) fun k => I.ok.has _ (.inr k)
  refine wpAny_comprehension_free (use := none) rfl hfs (closure_ok fr) ok.kind (fun y hy e => by rw [ok.uniq y hy, e]) ?_
  refine Call_ (ld_blt I hz hm PyProof.Rows.boot_zip (PyProof.Rows.callWith_type1 (thn (ha.run zp pins s σ H _ I hw) fun us s1 ⟨vs, H1, I1, r1, q1⟩ => ?_) hs hpl))
  obtain ⟨a, b, xs, ys, ev, el, qa, qb, q1⟩ := q1
  subst ev
  cases r1 with | cons ra r1 => cases r1 with | cons rb r1 =>
  cases r1; cases ra; cases rb
  obtain ⟨ia, ea, pa, _⟩ := I1.list qa
  obtain ⟨ib, eb, pb, _⟩ := I1.list qb
  refine call_zip_2 pa.isList pb.isList fun h2 gz gI gO ga gb sz2 k2 => wpAny_pyIter_zip gz ?_
  have AP := PySem.W.ktu_apart s1.heap.objs.size a b pa.lt pb.lt
  generalize hz0 : s1.heap.objs.size + 4 = z at *
  generalize hz1 : s1.heap.objs.size + 2 = TI at *
  generalize hz2 : s1.heap.objs.size + 3 = TO at *
  generalize hz3 : s1.heap.objs.size + 1 = i2 at *
  generalize hz4 : s1.heap.objs.size = i1 at *
  have st2 : ZSt h2 z TI TO i1 i2 a b 0 := ⟨gz, gI, ⟨_, _, gO⟩, ga, gb⟩
  have I2 : Inv X pins σ H1 { s1 with heap := h2 } := I1.kept (t' := s1.toks) k2
  have f2 : ∀ c ∈ [z, TI, TO, i1, i2], FpOk X pins H1 c := fun c hc => by
    have le : s1.heap.objs.size ≤ c := by
      simp only [List.mem_cons, List.not_mem_nil, or_false] at hc
      rcases hc with q | q | q | q | q <;> omega
    exact I1.fpOk le (I1.hok.fresh le)
  refine wpAny_newObj_type (newEnv_comp ?_) (by show 0 ≤ sizeLine; decide)
  generalize hD : h2.objs.size = D
  have hDn : H1 D = none := I2.hok.fresh (Nat.le_of_eq hD)
  obtain ⟨W, w0, wSq, wEnd, wStep⟩ := q1 D hDn
  generalize hs3 : ({ s1 with heap := h2.push { cls := .type "list", data := .seq ([] : List Value).toArray } } : Shared) = s3
  have eh3 : s3.heap = h2.push { cls := .type "list", data := .seq ([] : List Value).toArray } := by rw [← hs3]
  have k3 : ∀ c o, h2.get? c = some o → s3.heap.get? c = some o := fun c o e => by rw [eh3]; exact Heap.get?_push_of_some _ e
  have I3 : Inv X pins σ (upd H1 D (.lst [])) s3 := by
    rw [← hs3]
    exact I2.laid (t' := s1.toks) (fun c o e => Heap.get?_push_of_some _ e) (Nat.le_of_eq hD) ⟨Nat.zero_le _, [], 0, .nil, by rw [← hD]; exact Heap.get?_push_size _ rfl⟩
  have f3 : ∀ c ∈ [z, TI, TO, i1, i2], FpOk X pins (upd H1 D (.lst [])) c ∧ c < s3.heap.objs.size := fun c hc => by
    obtain ⟨o, e, _⟩ := st2.obj c hc
    have lt : c < h2.objs.size := Heap.lt_size e
    refine ⟨⟨?_, (f2 c hc).2⟩, Heap.lt_size (k3 c o e)⟩
    rw [upd_ne (by rw [← hD]; exact Nat.ne_of_lt lt)]
    exact (f2 c hc).1
  have hK := fun ce => hot_blk (scope := scope) (ce := ce) hc I3 fun c hc => (f3 c hc).1
  have I4 := block_start I3 ok hN f3
  have pg := hg s3 (upd H1 D (.lst [])) (compEnvC scope (cellsFrom (s3.heap.objs.size + 1) scope.names (cloFrom X.env.cells scope.names [])) s3.heap.objs.size X.env) [z, TI, TO, i1, i2] rfl (hK _)
  have pt := ht s3 (upd H1 D (.lst [])) s3.heap.objs.size (cellsFrom (s3.heap.objs.size + 1) scope.names (cloFrom X.env.cells scope.names [])) [z, TI, TO, i1, i2]
  have pe := he s3 (upd H1 D (.lst [])) s3.heap.objs.size (cellsFrom (s3.heap.objs.size + 1) scope.names (cloFrom X.env.cells scope.names [])) [z, TI, TO, i1, i2]
  have hKe := hK (compEnvC scope (cellsFrom (s3.heap.objs.size + 1) scope.names (cloFrom X.env.cells scope.names [])) s3.heap.objs.size X.env)
  show codeAny _ _ (.compStart (.ListComp elt [⟨.Tuple es kk tp, .Call (.Name "zip" p) [e1, e2] [] zp, ifs, 0⟩] scope pos) 0 (.ref z) (.ref D)
    (compEnvC scope (cellsFrom (s3.heap.objs.size + 1) scope.names (cloFrom X.env.cells scope.names [])) s3.heap.objs.size X.env)) (compPost (model X.prog X.w) X.A X.xe none (EP X pins σ Q) (.ref D) s3.heap.objs.size)
    { s3 with heap := pushCells (s3.heap.push { cls := .type "dict", data := .dict #[] }) scope.names }
  generalize hce : compEnvC scope (cellsFrom (s3.heap.objs.size + 1) scope.names (cloFrom X.env.cells scope.names [])) s3.heap.objs.size X.env = ce at I4 pg pt pe hKe ⊢
  have eL : ce.locals = s3.heap.objs.size := by subst hce; rfl
  generalize hH3 : upd H1 D (.lst []) = H3 at I3 I4 pg pt pe w0 f3 hKe
  generalize hs4 : ({ s3 with heap := pushCells (s3.heap.push { cls := .type "dict", data := .dict #[] }) scope.names } : Shared) = s4 at I4 ⊢
  have st4 : ZSt s4.heap z TI TO i1 i2 a b 0 := st2.on fun c o _ e => by rw [← hs4]; exact pushCells_keeps _ _ _ _ (Heap.get?_push_of_some _ (k3 c o e))
  have stat : ∀ {σ' : St} {H' : Hp} {s' : Shared}, Inv (X.blk s3 H3 scope ce [z, TI, TO, i1, i2]) [] σ' H' s' → (∀ c ∈ [z, TI, TO, i1, i2], H' c = none) → ∀ c ∈ [z, TI, TO, i1, i2], FpOk (X.blk s3 H3 scope ce [z, TI, TO, i1, i2]) [] H' c :=
    fun J hn c hc => ⟨hn c hc, (J.ok.exf c hc).1, J.ok.exfs c hc, .inl hc, fun x d e => (J.ok.exf c hc).2 x d e, fun q hq => absurd (show q ∈ ([] : List (Addr × Obj)) ++ [] from hq) (by simp)⟩
  have loop : codeAny (model X.prog X.w) X.A (.compLoop (.ListComp elt [⟨.Tuple es kk tp, .Call (.Name "zip" p) [e1, e2] [] zp, ifs, 0⟩] scope pos) 0 (.ref z) (.ref D) ce) (compPost (model X.prog X.w) X.A X.xe none (EP X pins σ Q) (.ref D) s3.heap.objs.size) s4 := by
    refine compLoop_any (fun n s' => ∃ i H', n + i = xs.length ∧ Inv (X.blk s3 H3 scope ce [z, TI, TO, i1, i2]) [] (wipe σ (own.map (·.2))) H' s' ∧ ZSt s'.heap z TI TO i1 i2 a b i ∧ (∀ c ∈ [z, TI, TO, i1, i2], H' c = none) ∧ W i H') ?_ xs.length
      ⟨0, H3, rfl, I4, st4, fun c hc => (f3 c hc).1.1, w0⟩
    rintro n s5 ⟨i, H5, en, I5, st5, n5, w5⟩
    obtain ⟨q5a, q5b, l5⟩ := wSq i H5 w5
    by_cases hi : i < xs.length
    · -- a turn
      obtain ⟨x, ex⟩ : ∃ x, xs[i]? = some x := ⟨xs[i], List.getElem?_eq_getElem hi⟩
      obtain ⟨y, ey⟩ : ∃ y, ys[i]? = some y := ⟨ys[i]'(by omega), List.getElem?_eq_getElem (by omega)⟩
      refine zturn (X := X.blk s3 H3 scope ce [z, TI, TO, i1, i2]) (es := es) (kk := kk) (tp := tp) AP I5 (stat I5 n5) st5 q5a q5b ex ey fun u s6 h6 => ?_
      refine thn h6 fun _ s7 ⟨T, eu, nT, I7, st7, n7⟩ => ?_
      subst eu
      have I7' := I7.pinned (stat I7 n7) st7.obj
      refine thnF (pg.run _ s7 _ _ (.ref T) _ _ I7' rfl (wStep i x y H5 w5 ex ey T nT)) fun _ s8 ⟨σ8, H8, I8, hw8, q8⟩ => ?_
      refine thnF (pt.run _ s8 σ8 H8 _ I8 q8) fun bb s9 ⟨H9, I9, q9⟩ => ?_
      have fin : ∀ {s' : Shared} {H' : Hp}, Inv (X.blk s3 H3 scope ce [z, TI, TO, i1, i2]) ([] ++ pinsAt [z, TI, TO, i1, i2] s7.heap) σ8 H' s' → W (i + 1) H' →
          ∃ m, m < n ∧ ∃ i H', m + i = xs.length ∧ Inv (X.blk s3 H3 scope ce [z, TI, TO, i1, i2]) [] (wipe σ (own.map (·.2))) H' s' ∧ ZSt s'.heap z TI TO i1 i2 a b i ∧ (∀ c ∈ [z, TI, TO, i1, i2], H' c = none) ∧ W i H' := fun {s' H'} J w => by
        have pin : ∀ c ∈ [z, TI, TO, i1, i2], ∀ o, s7.heap.get? c = some o → s'.heap.get? c = some o ∧ H' c = none := fun c hc o e =>
          let y := J.pin (c, o) (List.mem_append_right _ (List.mem_append_right _ (mem_pinsAt hc e)))
          ⟨y.1, y.2.1⟩
        refine ⟨n - 1, by omega, i + 1, H', by omega, (J.unpinned (pins := [])).weak (by rw [← hw8, wipe_length]) (fun j v e => ?_), st7.on fun c o hc e => (pin c hc o e).1, fun c hc => ?_, w⟩
        · rw [← hw8] at e
          exact (wipe_some e).1
        · obtain ⟨o, e, _⟩ := st7.obj c hc
          exact (pin c hc o e).2
      cases bb with
      | false =>
        simp only [Bool.false_eq_true, if_false] at q9 ⊢
        exact fin I9 q9
      | true =>
        simp only [if_true] at q9 ⊢
        refine thnF (pe.run _ s9 σ8 H9 _ I9 q9) fun v s10 ⟨yv, H10, I10, r10, acc, hD10, hz10, nx⟩ => ?_
        exact app_ok (X := X.blk s3 H3 scope ce [z, TI, TO, i1, i2]) I10 hD10 hz10 r10 fun s11 I11 => fin I11 nx
    · -- the end
      have ei : i = xs.length := by omega
      subst ei
      obtain ⟨ja, ra5, pa5, _⟩ := I5.list q5a
      obtain ⟨x1, hot, nx⟩ := hKe _ _ _ _ I5
      obtain ⟨u0, v0, gO5⟩ := st5.gO
      have la := ra5.length
      refine stopZ_hot (x1 := x1) hot nx AP st5.gz st5.gI gO5 st5.g1 st5.g2 pa5.isList ((I5.list q5b).choose_spec.2.1).isList (.inl (by simp; omega)) fun g6 k6 => ?_
      have I6 : Inv (X.blk s3 H3 scope ce [z, TI, TO, i1, i2]) [] (wipe σ (own.map (·.2))) H5 { s5 with heap := g6 } := I5.turnedL (t' := s5.toks) k6 (stat I5 n5)
      have I7 : Inv X pins σ H5 { s5 with heap := g6 } := I3.call' (ch := [z, TI, TO, i1, i2]) I6.os I6.base I6.hok I6.bare fun c hc => ⟨(f3 c hc).1.2.2.2.1, (f3 c hc).1.2.1, (f3 c hc).1.2.2.2.2.1, (f3 c hc).1.2.2.2.2.2⟩
      have nC : H5 s3.heap.objs.size = none := by
        have y : H5 ce.locals = none := I6.free
        rwa [eL] at y
      obtain ⟨m, hn, _⟩ := I6.loc
      have hn : g6.Ns ce.locals m := hn
      rw [eL] at hn
      obtain ⟨f0, f1, f2', f3', f4, f5⟩ := I3.fpOk (H' := H5) (Nat.le_refl _) nC
      exact ⟨m, hn, fun h'' sb => ⟨.ref D, H5, I7.turned (t' := s5.toks) (fun c o hc e => (sb.2 c hc).trans e) f0 f1 f3' f4 f5, rfl, wEnd H5 w5⟩⟩
  exact codeAny_compStart_list loop (wpAny_pyIter_zip st4.gz loop)
end
end FT

set_option Elab.async false
set_option linter.all false
set_option maxRecDepth 100000
set_option maxHeartbeats 2000000
/-! FTM: isinstance of the handled exception; the def that tells its kinds. -/
namespace FT
open PySem PySem.Spec PyProof.Rows L2 HotX L2H PySem.W

section
variable {prog : Program} {w : World} {A : Around} {E : Value → Shared → Prop} {s : Shared} {K : Frag} {x D : Addr} {ox : Obj} {od : Option Obj}
theorem findObj_any {name : Str} {a g : Value} (hc : (clsIn K D).isSome = true) (ha : findIn K (.ref D) name = some (some a)) (hg : specialIn K a "__get__" = some (some g)) (ht : takesIn K a = some true) : findObj K D od name = some (.bind g a) := by
  unfold findObj
  obtain ⟨cd, e⟩ := Option.isSome_iff_exists.mp hc
  simp only [e, ha, Option.bind_some, hg, ht]
theorem classX {Q : Option Value → Shared → Prop} (C : L2.ExcC K D) (X : K.In s.heap) (I : InstAt s.heap x ox D od) (q : Q (some (.ref D)) { s with toks := s.toks + 1 }) : wpAny (model prog w) A (getAttr? (.ref x) "__class__") Q E s := by
  have hf : findObj K D od "__class__" = some (.bind (.builtin "getset_descriptor.__get__") (.builtin "object.__class__")) :=
    findObj_any (by obtain ⟨cd, h, _⟩ := any_some C.hd; rw [h]; rfl) C.ha C.hn C.ht
  obtain ⟨h0, g0, d0, t0, o0⟩ := s
  have T0 := I.type (M := model prog w)
  have T1 := looks_findIn (M := model prog w) X C.hg
  have T2 := looks_findIn (M := model prog w) X C.hk
  have T3 := looks_find (M := model prog w) X I hf
  have isB : Looks (model prog w) h0 (isInstance (.ref x) (.type "BaseException")) true := T0.andThen (looks_subIn X C.hs)
  have ne : (Value.builtin "BaseException.__getattribute__" == Value.builtin "object.__getattribute__") = false := by decide +kernel
  unfold getAttr? getAttrBy? getAttrBy
  refine wpAny_bind (wpAny_mkText (wpAny_bind (wpAny_attempt (wpAny_holding (wpAny_bind (T0.at (wpAny_bind (T1.at ?_))))))))
  show wpAny _ _ (ite ((onTheHeap (Value.ref D) && Value.builtin "BaseException.__getattribute__" == Value.builtin "object.__getattribute__") = true) _ _) _ _ _
  rw [if_neg (by rw [ne]; exact Bool.false_ne_true)]
  unfold getAttrByItsOwn hookBefore
  refine wpAny_bind ?_
  rw [if_pos (by rfl : onTheHeap (Value.ref D) = true)]
  refine T2.at (wpAny_bind (wpAny_attempt (wpAny_holding ?_)))
  unfold callGetattribute
  rw [if_neg (by exact Bool.false_ne_true)]
  unfold boundAndCalled
  rw [PySem.F.excAttr_ValueError.ga.bind (.ref x)]
  refine wpAny_bind (wpAny_pure ?_)
  show wpAny _ _ (call (.builtin "BaseException.__getattribute__") [.ref x, .str "__class__" t0]) _ _ _
  refine wpAny_call (codeAny_call_builtin PySem.F.excAttr_ValueError.ga.plain PySem.F.entry_bexc_ga ?_)
  refine @check_slot (model prog w) _ _ ⟨h0, g0, d0, t0 + 1, o0⟩ "BaseException.__getattribute__" "BaseException" "__getattribute__" (.ref x) [.str "__class__" t0] [] _ (by decide +kernel) (by decide +kernel) isB (PySem.F.args_bexc_ga (.ref x) (.str "__class__" t0)) ?_
  unfold Builtin.«object.__getattribute__»
  refine wpAny_bind (wpAny_of_eq (a := ((Value.ref x : Value), [Value.str "__class__" t0])) (by first | rfl | (unfold slotArgs; rfl)) ?_)
  refine wpAny_bind (wpAny_pure (wpAny_bind (T0.at (wpAny_bind (T3.at (wpAny_bind (wpAny_holding (wpAny_call (class_get (s := ⟨h0, g0, d0, t0 + 1, o0⟩) (ox := ox) (od := od) X I C.hm (wpAny_pure ?_))))))))))
  show wpAny _ _ (handedOut (.ref D)) _ _ _
  rw [handedOut_of (v := .ref D) rfl]
  first
    | exact wpAny_pure (wpAny_pure q)
    | exact wpAny_pure q
    | exact wpAny_pure (wpAny_bind (wpAny_pure (wpAny_pure q)))
theorem kitX_any (C : L2.ExcC K D) : KitX K (.ref x) (.ref D) (fun h => ∃ od, InstAt h x ox D od) := by
  obtain ⟨cd, hc, _⟩ := any_some C.hd
  refine ⟨fun _ _ _ ⟨_, I⟩ => I.type, fun _ _ X _ => ?_, fun h tp dd its n sl X htp => ?_, fun X ⟨_, I⟩ k => classX C X I k⟩
  · unfold clsIn at hc
    split at hc
    · rename_i c' d' cd' sl' ho
      intro A' Q' E' s' k q
      unfold isType loadHead
      exact wpAny_bind (wpAny_loadPart (k _ _ (X _ _ ho)) (wpAny_pure q))
    · cases hc
  · refine Bool.eq_false_iff.mpr fun q => ?_
    obtain rfl : D = tp := Value.ref.inj (beq_iff_eq.mp q)
    unfold clsIn at hc
    split at hc
    · rename_i c' d' cd' sl' ho
      cases (X _ _ ho).symm.trans htp
    · cases hc
end

/-- the exception's object, its own dict's content -/
def ErrO (D : Addr) (oe : Obj) (H : Hp) : Prop := oe.cls = .ref D ∧ (∃ vs, oe.data = .fields vs) ∧ (oe.dict = none ∨ ∃ dd fs, oe.dict = some dd ∧ H dd = some (.xd fs))
theorem ErrO.inst {X : Cx} {pins : List (Addr × Obj)} {σ : St} {H : Hp} {s : Shared} {p : Addr × Obj} {D : Addr} (e : ErrO D p.2 H) (hp : p ∈ X.pn) (I : Inv X pins σ H s) : ∃ od, InstAt s.heap p.1 p.2 D od := by
  obtain ⟨e1, ⟨vs, e2⟩, e3⟩ := e
  obtain ⟨g, _⟩ := I.pin p (List.mem_append_left _ hp)
  have nc : notCls p.2 = true := by unfold notCls; rw [e2] <;> rfl
  rcases e3 with e3 | ⟨dd, fs, e3, e4⟩
  · exact ⟨none, g, e1, nc, by rw [e3]; trivial⟩
  · have z : ObjOk X.prog X.w H s.heap dd (.xd fs) := I.hok dd _ e4
    obtain ⟨mA, hns, hr⟩ := z
    obtain ⟨o, ho, _⟩ := lookIn_ns hns
    exact ⟨some o, g, e1, nc, by rw [e3]; exact ho⟩
theorem call_isX {X : Cx} {p : Addr × Obj} {D : Addr} {c : Value} {b : Bool} (hp : p ∈ X.pn) (C : L2.ExcC X.K D) (hk : kitOne X.K (.ref D) c = some b) :
    CallR X (.builtin "isinstance") (fun xs H Q => ErrO D p.2 H ∧ (∃ v, xs = [.ref p.1, v] ∧ ∀ u, RelV v u → u = c) ∧ Q (.bl b) H) := by
  intro pins s σ H xs us Q I r ⟨e, ⟨v, ex, hv⟩, q⟩
  subst ex
  cases r with | cons r1 r => cases r with | cons r2 r =>
  cases r
  cases r1
  obtain rfl := hv _ r2
  exact kia_one (kitX_any C) I.kIn (e.inst hp I) hk (fun z => nomatch z) fun tk => ⟨.bl b, H, I.kept (t' := tk) fun _ _ z => z, rfl, q⟩

/-- isinstance(e, C): the slot i bears the exception -/
def mKind (a : Addr) (i : Nat) (b : Bool) : ME := fun env => match env[i]? with
  | some (some (.ref c)) => if c = a then .ok (.bl b) env else .stuck
  | _ => .stuck
section
variable {X : Cx} {G : Gh}
theorem se_kindV {p : Addr × Obj} {D : Addr} {c : Value} {v : V} {b : Bool} {i : Nat} {x y : Str} {p1 p2 p3 pos : Pos} (hp : p ∈ X.pn) (C : L2.ExcC X.K D) (hk : kitOne X.K (.ref D) c = some b) (hv : ∀ u, RelV v u → u = c)
    (he : ErrO D p.2 G.H0) (hpa : G.pa = none) (hi : (G.ow.contains i) = false) (hN : X.N[i]? = some x) (hvs : Vis X.env.scope x) (hy : PE X (.Name y p3) (tC v)) (hg : Gl X "isinstance") (hm : X.mg "isinstance" = none)
    (hs : starEach [.Name x p2, .Name y p3] X.env = (false, eval (.Name x p2) X.env) :: starEach [.Name y p3] X.env := by rfl) (hs2 : starEach [.Name y p3] X.env = (false, eval (.Name y p3) X.env) :: starEach [] X.env := by rfl)
    (hpl : (backTo pos (starEach [.Name y p3] X.env)).any (·.1) = false := by rfl)
    (hd : (x == ("__debug__" : Str)) = false := by decide) (hcd : (x == ("__classdict__" : Str)) = false := by decide) : SE X G (.Call (.Name "isinstance" p1) [.Name x p2, .Name y p3] [] pos) (mKind p.1 i b) := by
  refine PE.imp (pe_callB (call_isX hp C hk) hg hm boot_isinstance (pa_cons (pe_var hN hvs hd hcd) (pa_cons hy pa_nil hs2) hs) (by decide) (by decide) hs hpl) fun σ H Q ⟨env, s, q⟩ => ?_
  unfold mKind at q
  split at q
  · rename_i c0 e0
    split at q
    · rename_i ec
      subst ec
      obtain ⟨v0, e1, r⟩ := s.val i _ e0 (by simpa using hi)
      cases r
      refine ⟨_, e1, ?_⟩
      refine ⟨⟨he.1, he.2.1, he.2.2.imp id fun ⟨dd, fs, h1, h2⟩ => ⟨dd, fs, h1, s.frame dd _ (by rw [hpa]; exact fun z => nomatch z) h2 (fun _ z => nomatch z)⟩⟩, ⟨v, rfl, hv⟩, q _ H s (.refl _ _) (.bl b)⟩
    · exact q.elim
  · exact q.elim
end
end FT

set_option Elab.async false
set_option linter.all false
set_option maxRecDepth 100000
set_option maxHeartbeats 2000000
/-! FTN: [w for w, g in zip(ws, gs) if g], as a denotation, where an exception is handled. -/
namespace FT
open PySem PySem.Spec PyProof.Rows L2 HotX L2H

def selB (ws : List D) (bs : List Bool) : List D := (ws.zip bs).filterMap fun p => if p.2 = true then some p.1 else none
def bools? : List D → Option (List Bool)
  | [] => some []
  | .bl b :: r => (bools? r).map (b :: ·)
  | _ => none
def mLcZ (iw ig j l : Nat) : ME := fun env => match env[iw]?.join, env[ig]?.join with
  | some (.lst ws), some (.lst gs) => (match bools? gs with
    | some bs => if ws.length = bs.length ∧ ws.length ≤ 1000 ∧ j < env.length ∧ l < env.length then .ok (.lst (selB ws bs)) env else .stuck
    | none => .stuck)
  | _, _ => .stuck
theorem bools_reps {K : PySem.W.Frag} {mg : Str → Option Value} {H : Hp} {av : Addr → Prop} : ∀ {gs : List D} {bs : List Bool} {vs : List V}, bools? gs = some bs → Reps K mg H av gs vs → vs = bs.map V.bl
  | [], _, _, h, .nil => by cases h; rfl
  | d :: ds, bs, _, h, .cons r t => by
    cases d with
    | bl b =>
      have h : (bools? ds).map (b :: ·) = some bs := h
      cases z : bools? ds with
      | none => rw [z] at h; cases h
      | some cs =>
        rw [z] at h
        cases h
        cases r
        rw [bools_reps z t] <;> rfl
    | _ => cases h
theorem selB_take {ws : List D} {bs : List Bool} {i : Nat} {w : D} {b : Bool} (h1 : ws[i]? = some w) (h2 : bs[i]? = some b) : selB (ws.take (i + 1)) (bs.take (i + 1)) = selB (ws.take i) (bs.take i) ++ (if b = true then [w] else []) := by
  obtain ⟨l1, e1⟩ := List.getElem?_eq_some_iff.mp h1
  obtain ⟨l2, e2⟩ := List.getElem?_eq_some_iff.mp h2
  unfold selB
  rw [List.take_succ_eq_append_getElem l1, List.take_succ_eq_append_getElem l2, List.zip_append (by simp; omega), List.filterMap_append, e1, e2]
  cases b <;> simp
theorem selB_len (ws : List D) (bs : List Bool) : (selB ws bs).length ≤ ws.length := by
  unfold selB
  exact Nat.le_trans (List.length_filterMap_le _ _) (by rw [List.length_zip]; omega)

section
variable {X : Cx} {G : Gh}
theorem se_lcZ {iw ig j l : Nat} {xw xg y z : Str} {p1 p2 p3 p4 p5 p6 p7 tp zp pos : Pos} {kk : Nat} {scope : Scope} (hK : X.K = G.K) (hc : HotC X) (hN : X.N.Nodup) (hz : Gl X "zip") (hm : X.mg "zip" = none)
    (ww : (G.ow.contains iw) = false) (wg : (G.ow.contains ig) = false) (hw : X.N[iw]? = some xw) (hwv : Vis X.env.scope xw) (hg : X.N[ig]? = some xg) (hgv : Vis X.env.scope xg) (hj : X.N[j]? = some y) (hl : X.N[l]? = some z) (ne : j ≠ l)
    (ok : BlkOk X.N X.env.scope scope [(y, j), (z, l)]) (lj : (relS scope X.env.scope).names.lookup y = some .local) (ll : (relS scope X.env.scope).names.lookup z = some .local)
    (hs : starEach [.Name xw p1, .Name xg p2] X.env = (false, eval (.Name xw p1) X.env) :: starEach [.Name xg p2] X.env := by rfl) (hs2 : starEach [.Name xg p2] X.env = (false, eval (.Name xg p2) X.env) :: starEach [] X.env := by rfl)
    (hpl : (backTo zp (starEach [.Name xg p2] X.env)).any (·.1) = false := by rfl) (hfs : ∀ x, foldedSetIterable (.Call (.Name "zip" p3) [.Name xw p1, .Name xg p2] [] zp) X.env x = pure x := by intro _; rfl)
    (hd : ∀ x ∈ [xw, xg, y, z], (x == ("__debug__" : Str)) = false ∧ (x == ("__classdict__" : Str)) = false := by decide) :
    SE X G (.ListComp (.Name y p4) [⟨.Tuple [.Name y p5, .Name z p6] kk tp, .Call (.Name "zip" p3) [.Name xw p1, .Name xg p2] [] zp, [.Name z p7], 0⟩] scope pos) (mLcZ iw ig j l) := by
  have dw := hd xw (by simp)
  have dg := hd xg (by simp)
  have dy := hd y (by simp)
  have dz := hd z (by simp)
  refine PE.imp (pe_lcZ (g := gTup X.K 2 (gCons (gName j) (gCons (gName l) gNil))) (tt := tB (tVar l)) (te := tVar j) hc hN hz hm (pa_cons (pe_var hw hwv dw.1 dw.2) (pa_cons (pe_var hg hgv dg.1 dg.2) pa_nil hs2) hs) ok
    (fun s H ce fp hsc hot => pg_tupK hot (pgs_cons (pg_name hN hj (.inl (by rw [hsc]; exact lj)) (.inr (by rw [hsc]; exact lj))) (pgs_cons (pg_name hN hl (.inl (by rw [hsc]; exact ll)) (.inr (by rw [hsc]; exact ll))) pgs_nil)))
    (fun s H C cl fp => pts_one (pt_val (pe_var hl (.inl ll) dz.1 dz.2))) (fun s H C cl fp => pe_var hj (.inl lj) dy.1 dy.2) hs hpl hfs) fun σ H Q ⟨env, s, q⟩ => ?_
  unfold mLcZ at q
  split at q
  rotate_left
  · exact q.elim
  rename_i ws gs e1 e2
  split at q
  rotate_left
  · exact q.elim
  rename_i bs hb
  split at q
  rotate_left
  · exact q.elim
  rename_i hle
  obtain ⟨v1, f1, r1⟩ := s.val iw _ (join_some e1) (by simpa using ww)
  obtain ⟨v2, f2, r2⟩ := s.val ig _ (join_some e2) (by simpa using wg)
  obtain ⟨a, xs, rfl, h1, r1⟩ := r1.lst_inv
  obtain ⟨b, ys, rfl, h2, r2⟩ := r2.lst_inv
  have eb := bools_reps hb r2
  subst eb
  have lx := r1.length
  refine ⟨_, f1, _, f2, a, b, xs, bs.map V.bl, rfl, by simp; omega, .of h1, .of h2, fun A nA => ?_⟩
  have jl : j < σ.length ∧ l < σ.length := by
    rw [← s.len]
    exact hle.2.2
  refine ⟨fun i H' => i ≤ xs.length ∧ Ext H H' ∧ ∃ acc, H' A = some (.lst acc) ∧ Reps G.K G.mg H (Av G σ) (selB (ws.take i) (bs.take i)) acc, ⟨Nat.zero_le _, Ext.upd nA, [], upd_same, by simp [selB]; exact .nil⟩,
    fun i H' ⟨hi, e, _⟩ => ⟨.of (e _ _ h1), .of (e _ _ h2), hi⟩, fun H' ⟨_, e, acc, hA, r⟩ => q _ H' (s.ext e) (e.stay _) (.lst hA (s.newA nA) (by
      rw [List.take_of_length_le (by omega), List.take_of_length_le (by omega)] at r
      exact r.ext e)), fun i x y H' ⟨hi, e, acc, hA, r⟩ ex ey T nT => ?_⟩
  obtain ⟨bb, eb, rfl⟩ : ∃ bb, bs[i]? = some bb ∧ y = V.bl bb := by
    rw [List.getElem?_map] at ey
    cases z : bs[i]? with
    | none => rw [z] at ey; cases ey
    | some bb => rw [z] at ey; cases ey; exact ⟨bb, rfl, rfl⟩
  have hil : i < xs.length := (List.getElem?_eq_some_iff.mp ex).1
  obtain ⟨w, ew⟩ : ∃ w, ws[i]? = some w := ⟨ws[i]'(by omega), List.getElem?_eq_getElem (by omega)⟩
  obtain ⟨x', ex', rx⟩ := r1.get ew
  rw [ex] at ex'
  cases ex'
  have nA' : A ≠ T := ne_of_none hA nT
  have eT : Ext H' (upd H' T (.tup [x, V.bl bb])) := Ext.upd nT
  refine ⟨T, _, rfl, .of upd_same, rfl, x, _, rfl, V.bl bb, _, rfl, rfl, ?_, ⟨V.bl bb, ?_, bb, rfl, ?_⟩⟩
  · have h : wipe (((wipe σ [j, l]).set j (some x)).set l (some (V.bl bb))) [j, l] = wipe (wipe σ [j, l]) [j, l] := wipe_eq ⟨by simp, fun k hk => by
      simp only [List.mem_cons, List.not_mem_nil, or_false, not_or] at hk
      rw [List.getElem?_set_ne (Ne.symm hk.2), List.getElem?_set_ne (Ne.symm hk.1)]⟩
    exact h.trans wipe_wipe
  · exact List.getElem?_set_self (by rw [List.length_set, wipe_length]; exact jl.2)
  · have sel := selB_take ew eb
    cases bb with
    | false =>
      simp only [Bool.false_eq_true, if_false, List.append_nil] at sel ⊢
      exact ⟨hil, e.trans eT, acc, eT _ _ hA, by rw [sel]; exact r⟩
    | true =>
      simp only [if_true] at sel ⊢
      refine ⟨x, ?_, acc, eT _ _ hA, ?_, hil, fun c o ec => ?_, acc ++ [x], upd_same, ?_⟩
      · rw [List.getElem?_set_ne ne.symm]
        exact List.getElem?_set_self (by rw [wipe_length]; exact jl.1)
      · rw [← r.length]
        exact Nat.lt_of_le_of_lt (selB_len _ _) (Nat.lt_of_lt_of_le (by rw [List.length_take]; omega) (show 1000 ≤ sizeLine by decide))
      · rw [upd_ne (ne_of_none ec nA)]
        exact eT _ _ (e _ _ ec)
      · rw [sel]
        exact r.snoc rx
end
end FT

set_option Elab.async false
set_option linter.all false
set_option maxRecDepth 100000
set_option maxHeartbeats 2000000
/-! FTO: the def that tells an error's kinds. -/
namespace FT
open PySem PySem.Spec PyProof.Rows L2 HotX L2H

def kindNames : List Str := [Str.ofString "Fallen", Str.ofString "InvalidNumber", Str.ofString "InvalidPlace", Str.ofString "InvalidScript", Str.ofString "InvalidSeen", Str.ofString "InvalidText", Str.ofString "InvalidTree",
  Str.ofString "InvalidWays", Str.ofString "InvalidWord", Str.ofString "NothingToUndo", Str.ofString "TooMany", Str.ofString "Unlike"]
/-- what is known of an error's class -/
structure KindC (K : PySem.W.Frag) (mg : Str → Option Value) (er : Str) (D : Addr) : Prop where
  m : mg er = some (.ref D)
  mem : er ∈ kindNames
  exc : L2.ExcC K D
  kit : ∀ y ∈ kindNames, ∃ C, mg y = some (.ref C) ∧ PySem.W.kitOne K (.ref D) (.ref C) = some (y == er)
  kv : PySem.W.kitOne K (.ref D) (.type "ValueError") = some true
section
variable {X : Cx} {G : Gh}
theorem se_kind (i : Nat) {p : Addr × Obj} {D : Addr} {er x y : Str} {p1 p2 p3 pos : Pos} (hp : p ∈ X.pn) (C : KindC X.K X.mg er D) (he : ErrO D p.2 G.H0) (hpa : G.pa = none) (hm : X.mg "isinstance" = none) (hy : y ∈ kindNames := by decide) (hi : (G.ow.contains i) = false := by rfl) (hN : X.N[i]? = some x := by rfl)
    (hvs : Vis X.env.scope x := by exact Or.inl rfl) (hgy : Gl X y := by rfl) (hg : Gl X "isinstance" := by rfl)
    (hs : starEach [.Name x p2, .Name y p3] X.env = (false, eval (.Name x p2) X.env) :: starEach [.Name y p3] X.env := by rfl) (hs2 : starEach [.Name y p3] X.env = (false, eval (.Name y p3) X.env) :: starEach [] X.env := by rfl)
    (hpl : (backTo pos (starEach [.Name y p3] X.env)).any (·.1) = false := by rfl)
    (hd : (x == ("__debug__" : Str)) = false := by decide) (hcd : (x == ("__classdict__" : Str)) = false := by decide) (hdy : (y == ("__debug__" : Str)) = false := by decide) : SE X G (.Call (.Name "isinstance" p1) [.Name x p2, .Name y p3] [] pos) (mKind p.1 i (y == er)) := by
  obtain ⟨Cy, e1, e2⟩ := C.kit y hy
  exact se_kindV hp C.exc e2 (v := .ref Cy) (fun u r => r) he hpa hi hN hvs (pe_glob (v := .ref Cy) hgy e1 rfl hdy) hg hm hs hs2 hpl hd hcd
theorem se_kindE (i : Nat) {p : Addr × Obj} {D : Addr} {er x : Str} {p1 p2 p3 pos : Pos} (hp : p ∈ X.pn) (C : KindC X.K X.mg er D) (he : ErrO D p.2 G.H0) (hpa : G.pa = none) (hm : X.mg "isinstance" = none) (hmv : X.mg "ValueError" = none) (hi : (G.ow.contains i) = false := by rfl) (hN : X.N[i]? = some x := by rfl)
    (hvs : Vis X.env.scope x := by exact Or.inl rfl) (hgy : Gl X "ValueError" := by rfl) (hg : Gl X "isinstance" := by rfl)
    (hs : starEach [.Name x p2, .Name "ValueError" p3] X.env = (false, eval (.Name x p2) X.env) :: starEach [.Name "ValueError" p3] X.env := by rfl) (hs2 : starEach [.Name "ValueError" p3] X.env = (false, eval (.Name "ValueError" p3) X.env) :: starEach [] X.env := by rfl)
    (hpl : (backTo pos (starEach [.Name "ValueError" p3] X.env)).any (·.1) = false := by rfl)
    (hd : (x == ("__debug__" : Str)) = false := by decide) (hcd : (x == ("__classdict__" : Str)) = false := by decide) : SE X G (.Call (.Name "isinstance" p1) [.Name x p2, .Name "ValueError" p3] [] pos) (mKind p.1 i true) :=
  se_kindV hp C.exc C.kv (v := .ty "ValueError") (fun u r => r) he hpa hi hN hvs (pe_bltn (v := .ty "ValueError") hgy hmv (by kernel_rfl) rfl (by decide) (by decide)) hg hm hs hs2 hpl hd hcd
end

/-- a def called where p is handled, by its body -/
theorem fn_hot {CX : CXT} {P : Program} {w : World} {K : PySem.W.Frag} {mg : Str → Option Value} {base : Heap} {k : Nat} {f : Addr} {name qual : Str} {params : Arguments} {body : List Stmt} {scope : Scope} {dV kV doc pm cdv ct oc : Value} {an od : Option Addr}
    {osl : Array (Option Value)} {N ps : List Str} {A : Around} {outer : List Env} {s : Shared} {H : Hp} {args : Args} {us : List Value} {vs : List V} {Q : VK} {E : XK} {p : Addr × Obj}
    (lk : K.lookup f = some ⟨oc, od, .func (PySem.W.fnOf name qual params body scope dV kV doc pm an cdv ct), osl⟩) (hcd : PySem.W.codeIn K cdv qual = true) (S : FnScope N ps scope) (hr : RoomH (k + 1) A) (pin : PinOk outer H s p) (e0 : Env0 P w K mg base A outer s H)
    (hb : BindsTo s (PySem.W.fnOf name qual params body scope dV kV doc pm an cdv ct) args (ps.zip us)) (r : Vals vs us) (hl : vs.length = ps.length)
    (go : RoomH k (A.deeper (envOfC qual scope s.heap.objs.size f cdv)) → ∃ t, PSs (cxH CX P w K mg base N qual scope f cdv A outer s H E p) body t ∧ t { nx := fun _ H' => Q .non H', rt := Q } (L2.start N vs) H) :
    codeAny (model P w) A (.call (.ref f) args) (CR CX outer P w H s Q E) s := by
  have inK : K.In s.heap := e0.mod.kin.keeps fun b o e => (e0.bs b o e).1
  have kinds : ∀ y ∈ ps.zip us, scope.names.lookup y.1 = some .local ∨ (scope.names.lookup y.1 = some .cell ∧ ((cellsFrom (s.heap.objs.size + 1) scope.names []).lookup y.1).isSome = true) := fun y hy =>
    (S.par y.1 (List.of_mem_zip (show (y.1, y.2) ∈ ps.zip us from hy)).1).imp (fun q => q) fun q => ⟨q, PySem.W.cellsFrom_some _ _ _ (.inl q)⟩
  refine codeAny_call_function hr.depth (inK _ _ lk) rfl S.co S.gen rfl (PySem.W.codeRec_of inK hcd) (hb _ _ _ _ (wpAny_newFunctionEnv_cells S.kind kinds fun env he s1 x => ?_))
  subst he
  obtain ⟨t, ht, hq⟩ := go (hr.deeper _)
  refine ⟨(e0.mod.nolimit.keeps fun b o e => (e0.bs b o e).1).keeps x.toInCall.keep, codeAny_func (wpAny_mono (ht.run [] s1 _ H _ (inv_startH S pin e0 hl r x) hq) (fun fl s' hs => ?_) fun e s' hs => hs)⟩
  cases fl with
  | ret u =>
    obtain ⟨v, σ', H', J, rv, q⟩ := hs
    exact ⟨v, H', J.os, J.bare, J.base, J.hok, rv, q⟩
  | next =>
    obtain ⟨σ', H', J, q⟩ := hs
    exact ⟨V.non, H', J.os, J.bare, J.base, J.hok, rfl, q⟩
  | brk => obtain ⟨_, _, _, q⟩ := hs; exact q.elim
  | cont => obtain ⟨_, _, _, q⟩ := hs; exact q.elim

/-! ### the def -/
def mKinds (a : Addr) (er : Str) : MS :=
  let is := fun x => mKind a 0 (Str.ofString x == er)
  let st := fun x => mLit (.str (Str.ofString x))
  mSeq (mSet 1 (mLst (mConsA (is "Fallen") (mConsA (is "InvalidNumber") (mConsA (is "InvalidPlace") mNilA)))))
  (mSeq (mSet 1 (mOp2 gAdd (mV (mVar 1)) (mV (mLst (mConsA (is "InvalidScript") (mConsA (is "InvalidSeen") (mConsA (is "InvalidText") mNilA)))))))
  (mSeq (mSet 1 (mOp2 gAdd (mV (mVar 1)) (mV (mLst (mConsA (is "InvalidTree") (mConsA (is "InvalidWays") (mConsA (is "InvalidWord") mNilA)))))))
  (mSeq (mSet 1 (mOp2 gAdd (mV (mVar 1)) (mV (mLst (mConsA (is "NothingToUndo") (mConsA (is "TooMany") (mConsA (is "Unlike") mNilA)))))))
  (mSeq (mSet 1 (mOp2 gAdd (mV (mVar 1)) (mV (mLst (mConsA (mKind a 0 true) mNilA)))))
  (mSeq (mSet 2 (mLst (mConsA (st "Fallen") (mConsA (st "InvalidNumber") (mConsA (st "InvalidPlace") (mConsA (st "InvalidScript") (mConsA (st "InvalidSeen") (mConsA (st "InvalidText") (mConsA (st "InvalidTree") mNilA)))))))))
  (mSeq (mSet 2 (mOp2 gAdd (mV (mVar 2)) (mV (mLst (mConsA (st "InvalidWays") (mConsA (st "InvalidWord") (mConsA (st "NothingToUndo") (mConsA (st "TooMany") (mConsA (st "Unlike") (mConsA (st "+") mNilA)))))))))) 
  (mRet (mM1 gJoin (mLit (.str (Str.ofString " "))) (mV (mLcZ 2 1 3 4)))))))))) 
theorem mKind_ok {a : Addr} {b : Bool} {env : En} (h : env[0]? = some (some (.ref a))) : mKind a 0 b env = .ok (.bl b) env := by
  unfold mKind
  rw [h]
  exact if_pos rfl
def kindStr (er : Str) : Str := er ++ Str.ofString " +"
def kindWords : List D := [.str (Str.ofString "Fallen"), .str (Str.ofString "InvalidNumber"), .str (Str.ofString "InvalidPlace"), .str (Str.ofString "InvalidScript"), .str (Str.ofString "InvalidSeen"), .str (Str.ofString "InvalidText"),
  .str (Str.ofString "InvalidTree"), .str (Str.ofString "InvalidWays"), .str (Str.ofString "InvalidWord"), .str (Str.ofString "NothingToUndo"), .str (Str.ofString "TooMany"), .str (Str.ofString "Unlike"), .str (Str.ofString "+")]
def kindBools (er : Str) : List Bool := kindNames.map (· == er) ++ [true]
theorem mKind3 {a : Addr} {b1 b2 b3 : Bool} {env : En} (h : env[0]? = some (some (.ref a))) : mLst (mConsA (mKind a 0 b1) (mConsA (mKind a 0 b2) (mConsA (mKind a 0 b3) mNilA))) env = .ok (.lst [.bl b1, .bl b2, .bl b3]) env := by
  simp only [mLst, mConsA, mNilA, R.bind, mKind_ok h]
theorem mKind1 {a : Addr} {b1 : Bool} {env : En} (h : env[0]? = some (some (.ref a))) : mLst (mConsA (mKind a 0 b1) mNilA) env = .ok (.lst [.bl b1]) env := by
  simp only [mLst, mConsA, mNilA, R.bind, mKind_ok h]
/-- one more piece of a list -/
theorem mMore {i : Nat} {m : ME} {env : En} {xs ys : List D} (h : env[i]? = some (some (.lst xs))) (hm : m env = .ok (.lst ys) env) (hl : xs.length + ys.length ≤ 1000000) : mSet i (mOp2 gAdd (mV (mVar i)) (mV m)) env = .nx (env.set i (some (.lst (xs ++ ys)))) := by
  have e1 : mVar i env = .ok (.lst xs) env := by unfold mVar; rw [h]
  simp only [mSet, mOp2, mV, e1, R.bind, hm, lift2, gAdd, if_pos hl, bindS]
theorem mSeq_nx {m m' : MS} {env e1 : En} (h : m env = .nx e1) : mSeq m m' env = m' e1 := by unfold mSeq; rw [h]
theorem mKinds_run (a : Addr) (er : Str) : ∃ env', mKinds a er (startE 5 [.ref a]) = bindS (lift1 (gJoin (Str.ofString " ")) (some (.lst (selB kindWords (kindBools er)))) env') fun d s => .rt d s := by
  refine ⟨[some (.ref a), some (.lst ((kindBools er).map D.bl)), some (.lst kindWords), none, none], ?_⟩
  unfold mKinds
  have e0 : startE 5 [D.ref a] = [some (.ref a), none, none, none, none] := rfl
  rw [e0, mSeq_nx (show mSet 1 _ [some (.ref a), none, none, none, none] = .nx _ from by unfold mSet; rw [mKind3 rfl]; rfl), mSeq_nx (mMore rfl (mKind3 rfl) (by simp)), mSeq_nx (mMore rfl (mKind3 rfl) (by simp)), mSeq_nx (mMore rfl (mKind3 rfl) (by simp)), mSeq_nx (mMore rfl (mKind1 rfl) (by simp))]
  rfl
theorem kind_str {er : Str} (h : er ∈ kindNames) : gJoin (Str.ofString " ") (.lst (selB kindWords (kindBools er))) = some (.str (kindStr er)) := by
  simp only [kindNames, List.mem_cons, List.not_mem_nil, or_false] at h
  rcases h with h | h | h | h | h | h | h | h | h | h | h | h <;> subst h <;> rfl
/-- the def «kinds» keeps its promise where an exception is handled -/
def KnownK (P : Program) (w : World) (K : PySem.W.Frag) (mg : Str → Option Value) (T : List (Addr × Str)) (base : Heap) (k : Nat) : Prop :=
  ∃ (f : Addr) (fd : FuncData), mg "_law_kinds" = some (.ref f) ∧ PySem.W.keepIn K (.ref f) = true ∧ Binds K fd [Str.ofString "_law_e"] [] ∧ ∀ (er : Str) (D : Addr), KindC K mg er D → ∀ (A : Around) (outer : List Env) (s : Shared) (H : Hp) (args : Args) (p : Addr × Obj) (Q : VK) (E : XK),
    RoomH k A → Hot1 A p → PinOk outer H s p → ErrO D p.2 H → Env0 P w K mg base A outer s H → BindsTo s fd args [(Str.ofString "_law_e", .ref p.1)] → LamX.Tabs T H →
    (∀ H', LamX.Tabs T H' → (∀ b u, H b = some u → NotTbl u → H' b = some u) → (∀ b u, H b = some u → NotTbl u → ∃ u', H' b = some u' ∧ NotTbl u') → Q (.str (kindStr er)) H') → codeAny (model P w) A (.call (.ref f) args) (CR (L2N.CX P w) outer P w H s Q E) s
section
variable {P : Program} {w : World} {K : PySem.W.Frag} {mg : Str → Option Value} {T : List (Addr × Str)} {base : Heap} {k : Nat}
theorem kinds_known {st : Stmt} {f : Addr} {fd : FuncData} {N : List Str} (F : Fun K "_law_kinds" "_law_kinds" st f fd) (hm : mg "_law_kinds" = some (.ref f)) (S : FnScope N [Str.ofString "_law_e"] (defScope st)) (hN : N.length = 5)
    (hb : ∀ (kV doc pm : Value) (an : Option Addr) (cdv ct : Value) (us : List Value), us.length = 1 → bindArgs (PySem.W.fnOf "_law_kinds" "_law_kinds" (defArgs st) (defBody st) (defScope st) .none kV doc pm an cdv ct) ⟨us, []⟩ = pure ([Str.ofString "_law_e"].zip us))
    (body : ∀ (cdv : Value) (A : Around) (outer : List Env) (s : Shared) (H : Hp) (E : XK) (p : Addr × Obj) (er : Str) (D : Addr), KindC K mg er D → ErrO D p.2 H → HotC (cxH (L2N.CX P w) P w K mg base N "_law_kinds" (defScope st) f cdv A outer s H E p) →
      SSs (cxH (L2N.CX P w) P w K mg base N "_law_kinds" (defScope st) f cdv A outer s H E p) (ghOf K mg T [] false (fun _ => False) H none E) (defBody st) (mKinds p.1 er)) : KnownK P w K mg T base (k + 1) := by
  refine ⟨f, fd, hm, F.kp, F.binds hb, fun er D KC A outer s H args p Q E hr hot pin he e0 bt tabs q => ?_⟩
  obtain ⟨oc, od, kV, doc, pm, an, cdv, ct, osl, rfl, lk, hcd⟩ := F.ex
  refine fn_hot (us := [.ref p.1]) (vs := [.ref p.1]) (ps := [Str.ofString "_law_e"]) lk hcd S hr pin e0 bt (.cons rfl .nil) rfl fun _ => ?_
  refine ⟨_, body cdv A outer s H E p er D KC he ⟨p, hot, List.mem_cons_self⟩, startE N.length [.ref p.1], SR.start (own := false) tabs (fun a z => z.elim) ⟨rfl, .cons (.ref p.1) .nil⟩ (fun i hi => nomatch hi) (fun z => nomatch z), ?_⟩
  rw [hN]
  obtain ⟨env', e⟩ := mKinds_run p.1 er
  rw [e]
  have e2 : lift1 (gJoin (Str.ofString " ")) (some (FT.D.lst (selB kindWords (kindBools er)))) env' = .ok (.str (kindStr er)) env' := by
    simp only [lift1, kind_str KC.mem]
  rw [e2]
  intro v H' R
  have rv := R.rep
  cases rv
  exact q H' R.tabs (fun b u h n => R.frame b u (fun z => nomatch z) h n) R.stays
end
/-- kinds(e) where e is handled -/
def mTellK (a : Addr) (i : Nat) (er : Str) : ME := fun env => match env[i]? with
  | some (some (.ref c)) => if c = a then .ok (.str (kindStr er)) env else .stuck
  | _ => .stuck
section
variable {X : Cx} {G : Gh} {k : Nat}
theorem se_tellK (i : Nat) {p : Addr × Obj} {D : Addr} {er x : Str} {p1 p2 pos : Pos} (hf : KnownK X.prog X.w X.K X.mg G.T X.base k) (hr : RoomH k X.A) (hp : p ∈ X.pn) (hot : Hot1 X.A p) (KC : KindC X.K X.mg er D) (he : ErrO D p.2 G.H0) (hpa : G.pa = none)
    (hi : (G.ow.contains i) = false := by rfl) (hN : X.N[i]? = some x := by rfl) (hvs : Vis X.env.scope x := by exact Or.inl rfl) (hg : Gl X "_law_kinds" := by rfl)
    (hs : starEach [.Name x p2] X.env = (false, eval (.Name x p2) X.env) :: starEach [] X.env := by rfl) (hpl : (backTo pos (starEach [] X.env)).any (·.1) = false := by rfl)
    (hd : (x == ("__debug__" : Str)) = false := by decide) (hcd : (x == ("__classdict__" : Str)) = false := by decide) : SE X G (.Call (.Name "_law_kinds" p1) [.Name x p2] [] pos) (mTellK p.1 i er) := by
  obtain ⟨f, fd, h1, h2, h3, run⟩ := hf
  refine ⟨fun pins s σ H Q I ⟨env, sr, q⟩ => ?_⟩
  unfold mTellK at q
  split at q
  rotate_left
  · exact q.elim
  rename_i c0 e0
  split at q
  rotate_left
  · exact q.elim
  rename_i ec
  subst ec
  obtain ⟨v0, e1, r0⟩ := sr.val i _ e0 (by simpa using hi)
  cases r0
  refine wpAny_Call_Name_kw (ld_glob I hg h1 ?_ (by decide))
  refine PySem.W.callWith_K (h₀ := X.base) I.ok.mod.kin h2 (thn ((pa_cons (pe_var hN hvs hd hcd) pa_nil hs).run pos pins s σ H (fun vs H1 => vs = [.ref p.1] ∧ H1 = H) I ⟨_, e1, rfl, rfl⟩) fun us s1 ⟨vs, H1, I1, r, ev, eH⟩ => ⟨I1.kIn, ?_⟩) hs hpl
  subst ev eH
  cases r with | cons ru r =>
  cases r
  obtain rfl : _ = Value.ref p.1 := ru
  have P1 := I1.pin p (List.mem_append_left _ hp)
  have pin : PinOk X.stack H1 s1 p := ⟨P1.1, P1.2.1, fun hm => (List.mem_cons.mp (I1.stkSub p.1 hm)).elim P1.2.2.1 P1.2.2.2.1, P1.2.2.2.2⟩
  have b := h3 s1 [.ref p.1] I1.kIn rfl
  refine wpAny_call (codeAny_mono (run er D KC X.A X.stack s1 H1 ⟨[.ref p.1], []⟩ p Q (fun _ _ _ => False) hr hot pin ⟨he.1, he.2.1, he.2.2.imp id fun ⟨dd, fs, z1, z2⟩ => ⟨dd, fs, z1, sr.frame dd _ (by rw [hpa]; exact fun z => nomatch z) z2 (fun _ z => nomatch z)⟩⟩ I1.env0 b sr.tabs
    fun H' t fm stays => q _ H' (sr.after t fm stays) (fun b o _ h t => fm b o h t) (.str _)) fun r s' hq => ?_)
  cases r with
  | error e =>
    obtain ⟨_, _, _, _, _, _, _, _, _, _, _, _, z⟩ := (show L2N.CX X.prog X.w X.stack H1 s1 (fun _ _ _ => False) e s' from hq)
    exact z.elim
  | ok fl =>
    cases fl with
    | ret u => exact I1.after hq
    | next => exact False.elim hq
    | brk => exact False.elim hq
    | cont => exact False.elim hq
end
end FT

set_option Elab.async false
set_option linter.all false
set_option maxRecDepth 100000
set_option maxHeartbeats 2000000
/-! FTP: try with clauses «except X as n»; a lambda that is called in a try. -/
namespace FT
open PySem PySem.Spec PyProof.Rows L2 HotX L2H

/-- what a suite's end does to the name -/
abbrev Ends.gone (D : Ends) (i : Nat) : Ends := { nx := fun σ H => D.nx (σ.set i none) H, rt := D.rt, bk := fun σ H => D.bk (σ.set i none) H, ct := fun σ H => D.ct (σ.set i none) H }
abbrev TSu := Addr → Obj → TS
/-- what the clauses wish of an exception of the body -/
def wClauses (K : PySem.W.Frag) (i : Nat) (Wout : WX) (D : Ends) : List (Value × TSu) → WX
  | [] => Wout
  | (c, ts) :: r => fun cls d σ H => ∃ b, PySem.W.exmOne K cls c = some b ∧ (b = true → ∀ a oe, H a = none → L2N.Zn cls d oe → (∃ vs, oe.data = .fields vs) → ts a oe (Ends.gone D i) (σ.set i (some (.ref a))) H) ∧ (b = false → wClauses K i Wout D r cls d σ H)
inductive Clauses (X : Cx) (n : Str) : List ExceptHandler → List (Value × TSu) → Prop
  | nil : Clauses X n [] []
  | cons {x : Str} {c : Value} {ts : TSu} {b₀ : Stmt} {suite : List Stmt} {np pos' : Pos} {hds : List ExceptHandler} {l : List (Value × TSu)} (hc : Names X x c)
      (hsu : ∀ (a : Addr) (oe : Obj) (pn : List (Addr × Obj)), PSs (X.suite a ((a, oe) :: pn)) (b₀ :: suite) (ts a oe)) (r : Clauses X n hds l) :
      Clauses X n (.ExceptHandler (some (.Name x np)) (some n) (b₀ :: suite) pos' :: hds) ((c, ts) :: l)
section
variable {X : Cx} {n : Str} {i : Nat} {body : List Stmt} {h₀ : ExceptHandler} {hds : List ExceptHandler} {l : List (Value × TSu)} {pos : Pos} {tb : WX → TS} {Wout : WX}
theorem ps_try_clauses (hs : X.stack = X.env :: X.outer) (hf : X.env.frame = some X.env.locals) (hN : X.N.Nodup) (hi : X.N[i]? = some n) (hln : X.env.kindOf n = some .local) (tk : L2N.Takes X Wout)
    (hb : ∀ (W : WX) (pn : List (Addr × Obj)) (xe : Value → Shared → Prop), L2N.Takes (X.tr pn xe) W → PassesOwn (model X.prog X.w) X.A X.env xe → PSs (X.tr pn xe) body (tb W))
    (hh : Clauses X n (h₀ :: hds) l) : PS X (.Try body (h₀ :: hds) [] [] pos) (fun D σ H => tb (wClauses X.K i Wout D l) D σ H) := by
  refine ⟨fun pins s σ H D I h => ?_⟩
  have ok := I.ok
  refine wpAny_Try_except (wpAny_mono ((hb (wClauses X.K i Wout D l) (X.pn ++ pins) _ (fun u s' xx => ?_) PassesOwn.looking).run [] s σ H D (I.toTry _) h) (fun f s1 q => ?_) (fun e s1 he => he))
  · obtain ⟨a, B, sI, pins', σ', H', cls, d, rfl, J', nb, up, sky, na, os, ag, w⟩ := xx
    have J : Inv X pins σ' H' sI := J'.ofTry ok
    show wpAny (model X.prog X.w) X.A (noteFrame (.ref a) X.env) _ _ _
    refine L2N.Sky.land L2N.Zn.steady (by rw [ok.frames, hs]) hf (by rw [← hs]; exact sky) fun g fl upg => ?_
    obtain ⟨og, vg, eg, zg, dg⟩ := fl.there
    have nfr : a ∉ frs (X.env :: X.outer) := fun hm => by
      obtain ⟨_, o', e', hnf⟩ := fl.2.2.1.mem hm
      rw [eg] at e'; cases e'
      exact hnf _ dg
    have nL : a ≠ X.env.locals := fun z => nfr (List.mem_filterMap.mpr ⟨X.env, List.mem_cons_self, by rw [hf, z]⟩)
    have nF : a ∉ X.fs := fun hm => by
      obtain ⟨e, he, q⟩ := List.mem_filterMap.mp hm
      exact nfr (List.mem_filterMap.mpr ⟨e, List.mem_cons_of_mem _ he, q⟩)
    have J3 : Inv X pins σ' H' { s' with heap := g } := J.landed nb fl.1 (up.trans upg) os ag
    have S := J3.suite eg dg na nL nF
    have try_ : ∀ {hs' : List ExceptHandler} {l' : List (Value × TSu)}, Clauses X n hs' l' → wClauses X.K i Wout D l' cls d σ' H' → wpAny (model X.prog X.w) X.A (handleBy (.ref a) X.env hs') (SP X pins D) X.xe { s' with heap := g } := by
      intro hs' l' hk
      induction hk with
      | nil =>
        intro w
        refine wpAny_handleBy_nil ?_
        obtain ⟨k1, k2, k3, oe, vs, T, oT, ts', he, hz, hd, h1, hr⟩ := id fl
        unfold PySem.passOn
        refine wpAny_bind (wpAny_field he hd h1 ?_)
        rw [if_neg (by simp : ¬ ((Value.ref T == Value.none) = true))]
        have go : wpAny (model X.prog X.w) X.A (setFlight (.ref a) X.env.frame) (fun _ s4 => wpAny (model X.prog X.w) X.A (throw (.ref a) : Sem Flow) (SP X pins D) X.xe s4) X.xe { s' with heap := g } := by
          rw [hf]
          exact HandSPX.setFlight_upZ fl fun g4 hg4 up4 => wpAny_throw (tk _ _ ⟨a, B, sI, pins, σ', H', cls, d, rfl, J, nb, (up.trans upg).trans up4, .inr (.inr (by rw [hs]; exact hg4)), na, os, ag, w⟩)
        first
          | exact wpAny_bind (wpAny_pure (wpAny_bind go))
          | exact wpAny_bind go
      | @cons x c ts b₀ suite np pos' hs2 l2 hc hsu r ih =>
        intro w
        obtain ⟨b, hb1, yes, no⟩ := w
        refine wpAny_handleBy_cons (codeAny_handlers_test ?_) (by intro q; cases q)
        have LT : PySem.W.Looks (model X.prog X.w) g (typeOf (.ref a)) cls := fun A Q E s k q => wpAny_typeOf_ref (k _ _ eg) (by rw [zg.1]; exact q)
        have LM := PySem.W.exm_one (M := model X.prog X.w) J3.kIn LT hb1
        have name : ∀ {Q : Value → Shared → Prop} {E : Value → Shared → Prop}, Q c { s' with heap := g } → wpAny (model X.prog X.w) (X.A.mark (some (.ref a))) (eval (.Name x np) X.env) Q E { s' with heap := g } := fun {Q E} q => by
          obtain ⟨hg, hdbg, hm | ⟨hm, hv, hnn⟩⟩ := hc
          · exact ld_glob (X := X.suite a ((a, og) :: (X.pn ++ pins))) S hg hm q hdbg
          · exact ld_blt (X := X.suite a ((a, og) :: (X.pn ++ pins))) S hg hm hv q hnn hdbg
        refine name (LM.here ?_)
        cases b with
        | false =>
          show wpAny _ X.A (handleBy (.ref a) X.env hs2) _ _ _
          exact ih (no rfl)
        | true =>
          refine codeAny_handlers_suite_as (HandSPX.lands_againZ fl fun g4 fl4 up4 => ?_)
          obtain ⟨oe, ve, ee, ze, de⟩ := fl4.there
          have J4 : Inv X pins σ' H' { s' with heap := g4 } := J.landed nb fl4.1 ((up.trans upg).trans up4) os ag
          have S4 := J4.suite ee de na nL nF
          refine store_ok (X := X.suite a ((a, oe) :: (X.pn ++ pins))) (v := .ref a) S4 hN hi (.inl hln) rfl (fun s5 S5 => ?_) (.inr hln)
          refine wpAny_mono ((hsu a oe (X.pn ++ pins)).run [] s5 _ H' _ S5 (yes rfl a oe na ze ⟨_, de⟩)) (fun f s6 q6 => ?_) (fun _ _ z => z.elim)
          have fin : ∀ {σ6 : St} {H6 : Hp} {Q : Shared → Prop}, Inv (X.suite a ((a, oe) :: (X.pn ++ pins))) [] σ6 H6 s6 → (∀ s7, Inv X pins (σ6.set i none) H6 s7 → Q s7) →
              wpAny (model X.prog X.w) X.A (do bindName X.env n .none; unbindBehindTheSuite X.env n pos') (fun _ s7 => Q s7) X.xe s6 := fun {σ6 H6 Q} S6 hq => gone_ok (S6.unsuite ok) hN hi hln hq
          cases f with
          | next => obtain ⟨σ6, H6, S6, q⟩ := q6; exact fin S6 fun s7 J7 => ⟨_, _, J7, q⟩
          | brk => obtain ⟨σ6, H6, S6, q⟩ := q6; exact fin S6 fun s7 J7 => ⟨_, _, J7, q⟩
          | cont => obtain ⟨σ6, H6, S6, q⟩ := q6; exact fin S6 fun s7 J7 => ⟨_, _, J7, q⟩
          | ret u => obtain ⟨v6, σ6, H6, S6, r6, q⟩ := q6; exact fin S6 fun s7 J7 => ⟨_, _, _, J7, r6, q⟩
    exact try_ hh w
  · cases f with
    | next => obtain ⟨σ', H', J', q⟩ := q; exact wpAny_execs_nil ⟨σ', H', J'.ofTry ok, q⟩
    | brk => obtain ⟨σ', H', J', q⟩ := q; exact ⟨σ', H', J'.ofTry ok, q⟩
    | cont => obtain ⟨σ', H', J', q⟩ := q; exact ⟨σ', H', J'.ofTry ok, q⟩
    | ret u => obtain ⟨v, σ', H', J', r, q⟩ := q; exact ⟨v, σ', H', J'.ofTry ok, r, q⟩
end

/-! ### lambdas -/
/-- the context of a lambda's body, an exception's context None -/
def lamN (X : Cx) (A : Around) (outer : List Env) (s : Shared) (H : Hp) (E : XK) (scope : Scope) (f c' : Addr) : Cx :=
  { LamX.lamCx X A outer s H E scope f c' with
    xe := fun e s' => wpAny (model X.prog X.w) (A.deeper (LamX.lamEnv X scope s.heap.objs.size f c')) (leaving (LamX.lamEnv X scope s.heap.objs.size f c') e) (fun _ s'' => L2N.CX X.prog X.w outer H s E e s'') (fun e' s'' => L2N.CX X.prog X.w outer H s E e' s'') s' }
section
variable {X : Cx} {pins : List (Addr × Obj)} {σ : St} {H : Hp} {s : Shared}
/-- x() in the def that got the lambda -/
theorem pe_run {Eg : XK} {Ng : List Str} {qg : Str} {sg : Scope} {g f c' : Addr} {cdg pm ctv : Value} {params : Arguments} {body : Expr} {scope : Scope} {k i : Nat} {a : Str} {pn : List (Addr × Obj)} {xe : Value → Shared → Prop} {W : WX} {E : Hp → XK} {tb : Hp → TE} {p1 p2 : Pos}
    (I : Inv X pins σ H s) (L : LamX.LamS X.env.scope scope) (hf : s.heap.get? f = some (PySem.W.kla_obj "<lambda>" (X.env.qual ++ "<lambda>") params body scope (cloFrom X.env.cells scope.names []) pm c' ctv)) (hfn : H f = none) (hfr : f ∉ frs X.stack)
    (hbind : bindArgs (PySem.W.kla_fn "<lambda>" (X.env.qual ++ "<lambda>") params body scope (cloFrom X.env.cells scope.names []) pm (.ref c') ctv) ⟨[], []⟩ = pure [])
    (tk : L2N.Takes ((cxOf (L2N.CX X.prog X.w) X.prog X.w X.K X.mg X.base Ng qg sg g cdg X.A X.stack s H Eg).tr pn xe) W) (hr : Room (k + 1) (X.A.deeper (envOfC qg sg s.heap.objs.size g cdg)))
    (hbody : ∀ (A : Around) (outer : List Env) (s : Shared) (H : Hp), Room k (A.deeper (LamX.lamEnv X scope s.heap.objs.size f c')) → PE (lamN X A outer s H (E H) scope f c') body (tb H))
    (hN : Ng[i]? = some a) (hv : Vis sg a) (hd : (a == ("__debug__" : Str)) = false := by decide) (hcd : (a == ("__classdict__" : Str)) = false := by decide) :
    PE ((cxOf (L2N.CX X.prog X.w) X.prog X.w X.K X.mg X.base Ng qg sg g cdg X.A X.stack s H Eg).tr pn xe) (.Call (.Name a p1) [] [] p2)
      (fun σZ HZ Q => σZ[i]? = some (some (.ref f)) ∧ HZ c' = some (LamX.CodeO c' (X.env.qual ++ "<lambda>")) ∧ (∀ cls d H', E HZ cls d H' → W cls d σZ H') ∧ tb HZ σ HZ Q) := by
  refine ⟨fun pinsZ sZ σZ HZ Q IZ ⟨hs, hc, hW, ht⟩ => ?_⟩
  refine wpAny_Call_Name_kw (thn ((pe_var (pos := p1) (i := i) hN hv hd hcd).run pinsZ sZ σZ HZ (fun v H1 => v = .ref f ∧ H1 = HZ) IZ ⟨.ref f, hs, rfl, rfl⟩) fun u s1 ⟨v, H1, I1, r1, ev, eH⟩ => ?_)
  subst ev eH
  obtain rfl : u = Value.ref f := r1
  have of1 : s1.heap.get? f = some (PySem.W.kla_obj "<lambda>" (X.env.qual ++ "<lambda>") params body scope (cloFrom X.env.cells scope.names []) pm c' ctv) := I1.base.keep f _ hf hfn hfr (fun z => nomatch (show f ∈ ([] : List Addr) from z))
  obtain ⟨⟨oc, vs, t, hoc, hdc, hvc⟩, _, _⟩ := I1.hok c' _ hc
  refine PySem.W.callWith_F0 ⟨_, _, _, _, of1⟩ ?_
  have rc : codeAny (model X.prog X.w) (X.A.deeper (envOfC qg sg s.heap.objs.size g cdg)) (.call (.ref f) ⟨[], []⟩) (CR (L2N.CX X.prog X.w) (envOfC qg sg s.heap.objs.size g cdg :: X.stack) X.prog X.w H1 s1 Q (E H1)) s1 := by
    refine PySem.W.kla_callFunE hr.depth of1 rfl L.co L.gen rfl ⟨c', oc, vs, t, rfl, hoc, hdc, hvc⟩ ?_
    rw [hbind]
    refine wpAny_pure (wpAny_newFunctionEnv (fun y hy => (L.own y hy).2) (fun y hy => absurd hy (by simp)) (fun h₁ hns hsb => ⟨I1.nolimit.fresh _ hsb, ?_⟩) L.kind)
    have kp : ∀ b o, s1.heap.get? b = some o → h₁.get? b = some o := fun b o e => hsb.extBut b o (Nat.ne_of_lt (Heap.lt_size e)) (Heap.get?_push_of_some _ e)
    have J0 : Inv (LamX.lamCx X (X.A.deeper (envOfC qg sg s.heap.objs.size g cdg)) (envOfC qg sg s.heap.objs.size g cdg :: X.stack) s1 H1 (E H1) scope f c') [] σ H1 { s1 with heap := h₁, toks := s1.toks + ([] : List (Str × Value)).length } :=
      LamX.lam_start2 I L I1.env0 hr.hd I1.base hns kp
    have J : Inv (lamN X (X.A.deeper (envOfC qg sg s.heap.objs.size g cdg)) (envOfC qg sg s.heap.objs.size g cdg :: X.stack) s1 H1 (E H1) scope f c') [] σ H1 { s1 with heap := h₁, toks := s1.toks + ([] : List (Str × Value)).length } := J0.wish _
    show codeAny _ _ (.expr body (LamX.lamEnv X scope s1.heap.objs.size f c')) _ _
    refine PySem.W.kla_codeExpr (wpAny_mono ((hbody _ _ s1 H1 (hr.deeper _)).run [] _ _ H1 Q J ht) (fun v s' ⟨w', H', J', rv, q⟩ => ⟨w', H', J'.os, J'.bare, J'.base, J'.hok, rv, q⟩) fun e s' hq => hq)
  refine wpAny_call (codeAny_mono rc fun r s' hq => ?_)
  cases r with
  | error e => exact tk e s' (L2N.XE.of_call I1 (fun cls d H' z => hW cls d H' z) hq)
  | ok fl =>
    cases fl with
    | ret u => exact I1.after hq
    | next => exact False.elim hq
    | brk => exact False.elim hq
    | cont => exact False.elim hq
end
end FT

set_option Elab.async false
set_option linter.all false
set_option maxRecDepth 100000
set_option maxHeartbeats 2000000
/-! FTQ: told(lambda: ..), as a denotation. -/
namespace FT
open PySem PySem.Spec PyProof.Rows L2 HotX L2H

/-! ### the suites -/
def mAttr (a : Addr) (i : Nat) (z : Int) : ME := fun env => match env[i]? with
  | some (some (.ref c)) => if c = a then .ok (.int z) env else .stuck
  | _ => .stuck
section
variable {X : Cx} {G : Gh} {k : Nat}
theorem se_attr (i : Nat) {a D dd : Addr} {oe : Obj} {pn : List (Addr × Obj)} {x f : Str} {z : Int} {p1 pos : Pos} (T : L2.XfC X.K D) (hno : PySem.W.findIn X.K (.ref D) f = some none) (hcls : oe.cls = .ref D) (hdict : oe.dict = some dd) (hfs : ∃ vs, oe.data = .fields vs)
    (hd0 : G.H0 dd = some (.xd [(f, .int z)])) (hpa : G.pa = none) (hi : (G.ow.contains i) = false := by rfl) (hN : X.N[i]? = some x := by rfl) (hvs : Vis X.env.scope x := by exact Or.inl rfl) (hb : attributeBase (.Name x p1) f X.env (eval (.Name x p1) X.env) = eval (.Name x p1) X.env := by rfl)
    (hd : (x == ("__debug__" : Str)) = false := by decide) (hcd : (x == ("__classdict__" : Str)) = false := by decide) : SE (X.suite a ((a, oe) :: pn)) G (.Attribute (.Name x p1) f pos) (mAttr a i z) := by
  refine PE.imp (L2.pe_xf (a := a) (C := D) (oe := oe) (cls := .ref D) (d := some dd) (n := f) T hno ⟨hcls, hdict⟩ hfs (pe_var (X := X.suite a ((a, oe) :: pn)) hN hvs hd hcd) hb) fun σ H Q ⟨env, s, q⟩ => ?_
  unfold mAttr at q
  split at q
  rotate_left
  · exact q.elim
  rename_i c0 e0
  split at q
  rotate_left
  · exact q.elim
  rename_i ec
  subst ec
  obtain ⟨v0, e1, r0⟩ := s.val i _ e0 (by simpa using hi)
  cases r0
  exact ⟨_, e1, rfl, rfl, dd, _, .int z, rfl, s.frame dd _ (by rw [hpa]; exact fun z => nomatch z) hd0 (fun _ z => nomatch z), by simp [List.lookup], q _ H s (.refl _ _) (.int z)⟩
end
def mSuite0 (a : Addr) (er : Str) : MS := mSet 1 (mTup (mConsA (mTellK a 2 er) mNilA))
def mSuite1 (a : Addr) (er : Str) (z : Int) : MS := mSet 1 (mTup (mConsA (mTellK a 2 er) (mConsA (mAttr a 2 z) mNilA)))
/-- what a suite asks for -/
def tSuite (K : PySem.W.Frag) (mg : Str → Option Value) (T : List (Addr × Str)) (f? : Option Str) : TSu := fun a oe D σ H => ∃ (er : Str) (C : Addr) (av : Addr → Prop), KindC K mg er C ∧ ErrO C oe H ∧ (∃ vs : Array Value, oe.data = .fields vs ∧ vs[2]? = some .none) ∧ match f? with
  | none => TSo (ghOf K mg T [] false av H none (fun _ _ _ => False)) (mSuite0 a er) D σ H
  | some f => ∃ (z : Int) (dd : Addr), L2.XfC K C ∧ PySem.W.findIn K (.ref C) f = some none ∧ oe.dict = some dd ∧ H dd = some (.xd [(f, .int z)]) ∧ TSo (ghOf K mg T [] false av H none (fun _ _ _ => False)) (mSuite1 a er z) D σ H
section
variable {X : Cx} {k : Nat} {T : List (Addr × Str)} {a : Addr} {oe : Obj} {pn : List (Addr × Obj)} {f : Str} {y e : Str} {r2 r3 r4 r5 r6 r7 r8 r9 : Pos} {k1 : Nat}
theorem suite0 (hf : KnownK X.prog X.w X.K X.mg T X.base k) (hr : RoomH k X.A) (nd : X.N.Nodup) (h1 : X.N[1]? = some y) (h2 : X.N[2]? = some e) (hy : X.env.scope.names.lookup y = some .local) (he : X.env.scope.names.lookup e = some .local) (hg : Gl X "_law_kinds")
    (hd : (e == ("__debug__" : Str)) = false) (hcd : (e == ("__classdict__" : Str)) = false) :
    PSs (X.suite a ((a, oe) :: pn)) [.Assign [.Name y r2] (.Tuple [.Call (.Name "_law_kinds" r3) [.Name e r4] [] r5] k1 r8) r9] (tSuite X.K X.mg T none a oe) := ⟨fun pins s σ H D I ⟨er, C, av, KC, eo, hot, h⟩ => by
  have R : SSs (X.suite a ((a, oe) :: pn)) (ghOf X.K X.mg T [] false av H none (fun _ _ _ => False)) [.Assign [.Name y r2] (.Tuple [.Call (.Name "_law_kinds" r3) [.Name e r4] [] r5] k1 r8) r9] (mSuite0 a er) :=
    ss_one (ss_set (i := 1) nd rfl h1 (.inl hy) (se_tup (sa_cons (se_tellK 2 (p := (a, oe)) hf ⟨hr.dp, hr.un⟩ List.mem_cons_self ⟨rfl, hot⟩ KC eo rfl rfl h2 (.inl he) hg rfl rfl hd hcd) sa_nil) (hl := by simp)) rfl (.inr hy))
  exact R.run pins s σ H D I h⟩
theorem suite1 (hf : KnownK X.prog X.w X.K X.mg T X.base k) (hr : RoomH k X.A) (nd : X.N.Nodup) (h1 : X.N[1]? = some y) (h2 : X.N[2]? = some e) (hy : X.env.scope.names.lookup y = some .local) (he : X.env.scope.names.lookup e = some .local) (hg : Gl X "_law_kinds")
    (hd : (e == ("__debug__" : Str)) = false) (hcd : (e == ("__classdict__" : Str)) = false) :
    PSs (X.suite a ((a, oe) :: pn)) [.Assign [.Name y r2] (.Tuple [.Call (.Name "_law_kinds" r3) [.Name e r4] [] r5, .Attribute (.Name e r6) f r7] k1 r8) r9] (tSuite X.K X.mg T (some f) a oe) := ⟨fun pins s σ H D I ⟨er, C, av, KC, eo, hot, z, dd, xf, no, ed, hd0, h⟩ => by
  have R : SSs (X.suite a ((a, oe) :: pn)) (ghOf X.K X.mg T [] false av H none (fun _ _ _ => False)) [.Assign [.Name y r2] (.Tuple [.Call (.Name "_law_kinds" r3) [.Name e r4] [] r5, .Attribute (.Name e r6) f r7] k1 r8) r9] (mSuite1 a er z) :=
    ss_one (ss_set (i := 1) nd rfl h1 (.inl hy) (se_tup (sa_cons (se_tellK 2 (p := (a, oe)) hf ⟨hr.dp, hr.un⟩ List.mem_cons_self ⟨rfl, hot⟩ KC eo rfl rfl h2 (.inl he) hg rfl rfl hd hcd)
      (sa_cons (se_attr 2 xf no eo.1 ed eo.2.1 hd0 rfl rfl h2 (.inl he) rfl hd hcd) sa_nil)) (hl := by simp)) rfl (.inr hy))
  exact R.run pins s σ H D I h⟩
end

/-! ### the def -/
theorem takesF {X : Cx} : L2N.Takes X (fun _ _ _ _ => False) := fun _ _ ⟨_, _, _, _, _, _, _, _, _, _, _, _, _, _, _, _, z⟩ => z.elim
def tTell (K : PySem.W.Frag) (mg : Str → Option Value) (T : List (Addr × Str)) (C1 C2 C3 : Addr) (tA : WX → TE) : TS :=
  tSeq (tAsg (tC .non) (gName 1)) (tSeq (fun D σ H => (fun W => tAsg (tTup (tCons (tC (.str (Str.ofString "told"))) (tCons (tA W) tNil))) (gName 1)) (wClauses K 2 (fun _ _ _ _ => False) D
    [(.ref C1, tSuite K mg T (some (Str.ofString "limit"))), (.ref C2, tSuite K mg T (some (Str.ofString "line"))), (.ref C3, tSuite K mg T none)]) D σ H) (tRet (tVar 1)))
section
variable {X : Cx} {k : Nat} {T : List (Addr × Str)} {so y e : Str} {q1 q2 q3 q4 q5 q6 q7 q8 q9 q10 q11 q12 u1 u2 u3 u4 u5 u6 u7 u8 u9 v1 v2 v3 v4 v5 v6 v7 v8 v9 w1 w2 w3 w4 w5 w8 w9 t1 t2 t3 : Pos} {j1 j2 k1 k2 k3 k4 : Nat}
theorem pss_tell {C1 C2 C3 : Addr} {tA : WX → TE} (hf : KnownK X.prog X.w X.K X.mg T X.base k) (hr : RoomH k X.A) (hs : X.stack = X.env :: X.outer) (hfr : X.env.frame = some X.env.locals) (nd : X.N.Nodup) (h1 : X.N[1]? = some y) (h2 : X.N[2]? = some e)
    (hy : X.env.scope.names.lookup y = some .local) (he : X.env.scope.names.lookup e = some .local) (hke : X.env.kindOf e = some .local) (hg : Gl X "_law_kinds") (n1 : Names X "TooMany" (.ref C1)) (n2 : Names X "InvalidText" (.ref C2)) (n3 : Names X "TreeError" (.ref C3))
    (hd : (e == ("__debug__" : Str)) = false) (hcd : (e == ("__classdict__" : Str)) = false) (hdy : (y == ("__debug__" : Str)) = false) (hcdy : (y == ("__classdict__" : Str)) = false)
    (hact : ∀ (W : WX) (pn : List (Addr × Obj)) (xe : Value → Shared → Prop) (p1 p2 : Pos), L2N.Takes (X.tr pn xe) W → PE (X.tr pn xe) (.Call (.Name so p1) [] [] p2) (tA W)) :
    PSs X [.Assign [.Name y q1] (.Constant .none j1 q2) q3,
      .Try [.Assign [.Name y q4] (.Tuple [.Constant (.str (Str.ofString "told")) j2 q5, .Call (.Name so q6) [] [] q7] k1 q8) q9]
        [.ExceptHandler (some (.Name "TooMany" u1)) (some e) [.Assign [.Name y u2] (.Tuple [.Call (.Name "_law_kinds" u3) [.Name e u4] [] u5, .Attribute (.Name e u6) "limit" u7] k2 u8) u9] q10,
         .ExceptHandler (some (.Name "InvalidText" v1)) (some e) [.Assign [.Name y v2] (.Tuple [.Call (.Name "_law_kinds" v3) [.Name e v4] [] v5, .Attribute (.Name e v6) "line" v7] k3 v8) v9] q11,
         .ExceptHandler (some (.Name "TreeError" w1)) (some e) [.Assign [.Name y w2] (.Tuple [.Call (.Name "_law_kinds" w3) [.Name e w4] [] w5] k4 w8) w9] q12] [] [] t1,
      .Return (some (.Name y t2)) t3] (tTell X.K X.mg T C1 C2 C3 tA) :=
  pss_cons (ps_set nd h1 (.inl hy) pe_non rfl (.inr hy)) (pss_cons (ps_try_clauses (i := 2) hs hfr nd h2 hke takesF
    (fun W pn xe tk _ => pss_one (ps_set nd h1 (.inl hy) (pe_tup (pa_cons pe_str (pa_cons (hact W pn xe _ _ tk) pa_nil))) rfl (.inr hy)))
    (.cons n1 (fun a oe pn => suite1 hf hr nd h1 h2 hy he hg hd hcd) (.cons n2 (fun a oe pn => suite1 hf hr nd h1 h2 hy he hg hd hcd) (.cons n3 (fun a oe pn => suite0 hf hr nd h1 h2 hy he hg hd hcd) .nil))))
    (pss_one (ps_ret (pe_var h1 (.inl hy) hdy hcdy))))
end
end FT

set_option Elab.async false
set_option linter.all false
set_option maxRecDepth 100000
set_option maxHeartbeats 2000000
/-! FTR: told(lambda: ..), the rule. -/
namespace FT
open PySem PySem.Spec PyProof.Rows L2 HotX L2H

structure TellF (K : PySem.W.Frag) (mg : Str → Option Value) (C1 C2 C3 : Addr) (ers : List Str) : Prop where
  m1 : mg "TooMany" = some (.ref C1)
  m2 : mg "InvalidText" = some (.ref C2)
  m3 : mg "TreeError" = some (.ref C3)
  er : ∀ er ∈ ers, ∃ D, KindC K mg er D ∧ PySem.W.exmOne K (.ref D) (.ref C1) = some (er == Str.ofString "TooMany") ∧ PySem.W.exmOne K (.ref D) (.ref C2) = some (er == Str.ofString "InvalidText") ∧ PySem.W.exmOne K (.ref D) (.ref C3) = some true ∧
    (er = Str.ofString "TooMany" → L2.XfC K D ∧ PySem.W.findIn K (.ref D) "limit" = some none) ∧ (er = Str.ofString "InvalidText" → L2.XfC K D ∧ PySem.W.findIn K (.ref D) "line" = some none)
def toldK (ers : List Str) (e : Er) : Option D :=
  if e.cls ∈ ers then
    if e.cls = Str.ofString "TooMany" then (match e.attr with
      | some (f, i) => if f = Str.ofString "limit" then some (.tup [.str (kindStr e.cls), .int i]) else none
      | none => none)
    else if e.cls = Str.ofString "InvalidText" then (match e.attr with
      | some (f, i) => if f = Str.ofString "line" then some (.tup [.str (kindStr e.cls), .int i]) else none
      | none => none)
    else (match e.attr with
      | none => some (.tup [.str (kindStr e.cls)])
      | some _ => none)
  else none
/-- the def that calls what it got and tells how it went -/
def KnownT (P : Program) (w : World) (K : PySem.W.Frag) (mg : Str → Option Value) (T : List (Addr × Str)) (base : Heap) (k : Nat) (ers : List Str) : Prop :=
  ∃ (st : Stmt) (g : Addr) (fd : FuncData) (N : List Str) (so : Str) (C1 C2 C3 : Addr), mg "_law_call" = some (.ref g) ∧ Fun K "_law_call" "_law_call" st g fd ∧ FnScope N [so] (defScope st) ∧ N.length = 3 ∧ N[0]? = some so ∧ Vis (defScope st) so ∧
    (so == ("__debug__" : Str)) = false ∧ (so == ("__classdict__" : Str)) = false ∧ TellF K mg C1 C2 C3 ers ∧
    (∀ (kV doc pm : Value) (an : Option Addr) (cdv ct : Value) (us : List Value), us.length = 1 → bindArgs (PySem.W.fnOf "_law_call" "_law_call" (defArgs st) (defBody st) (defScope st) .none kV doc pm an cdv ct) ⟨us, []⟩ = pure ([so].zip us)) ∧
    ∀ (cdv : Value) (A : Around) (outer : List Env) (s : Shared) (H : Hp) (E : XK) (tA : WX → TE), Room k (A.deeper (envOfC "_law_call" (defScope st) s.heap.objs.size g cdv)) →
      (∀ (W : WX) (pn : List (Addr × Obj)) (xe : Value → Shared → Prop) (p1 p2 : Pos), L2N.Takes ((cxOf (L2N.CX P w) P w K mg base N "_law_call" (defScope st) g cdv A outer s H E).tr pn xe) W →
        PE ((cxOf (L2N.CX P w) P w K mg base N "_law_call" (defScope st) g cdv A outer s H E).tr pn xe) (.Call (.Name so p1) [] [] p2) (tA W)) →
      PSs (cxOf (L2N.CX P w) P w K mg base N "_law_call" (defScope st) g cdv A outer s H E) (defBody st) (tTell K mg T C1 C2 C3 tA)
def mTold (ers : List Str) (ow : List Nat) (m : ME) : ME := fun env => match m (wipeE ow env) with
  | .ok d _ => .ok (.tup [.str (Str.ofString "told"), d]) env
  | .err e => (match toldK ers e with
    | some d => .ok d env
    | none => .stuck)
  | .stuck => .stuck
theorem av_lam {G : Gh} {σ : St} {H : Hp} {E : XK} (a : Addr) (h : Av (ghOf G.K G.mg G.T [] false (Av G σ) H none E) σ a) : Av G σ a := by
  rcases h with (h | h) | ⟨i, hi, _⟩
  · exact h
  · exact h.elim
  · cases hi
theorem SR.lam {G : Gh} {σ : St} {H : Hp} {env : En} (s : SR G σ H env) (E : XK) : SR (ghOf G.K G.mg G.T [] false (Av G σ) H none E) σ H (wipeE G.ow env) where
  tabs := s.tabs
  val := fun i d h _ => by
    obtain ⟨h1, h2⟩ := wipeE_some h
    obtain ⟨v, e, r⟩ := s.val i d h1 h2
    exact ⟨v, e, r.less av_lam⟩
  own := fun i d h hi => nomatch hi
  fresh := fun i hi => nomatch hi
  dist := fun i hi => nomatch hi
  there := fun a h => s.there a (av_lam a h)
  frame := fun b o _ h _ => h
  par := fun a h => nomatch h
  len := (wipeE_len _ _).trans s.len
  avT := fun a h => s.there a h
  exF := fun a h => h.elim
  exO := fun i hi => nomatch hi
  stays := fun b o h t => ⟨o, h, t⟩
/-- the state ahead of a suite -/
theorem sr_suite {K : PySem.W.Frag} {mg : Str → Option Value} {T : List (Addr × Str)} {H : Hp} {av : Addr → Prop} {E : XK} (f a : Addr) (tabs : LamX.Tabs T H) (avT : ∀ a, av a → ∃ o, H a = some o ∧ NotTbl o) :
    SR (ghOf K mg T [] false av H none E) [some (.ref f), some .non, some (.ref a)] H [some (.ref f), some .non, some (.ref a)] where
  tabs := tabs
  val := fun i d h _ => match i, h with
    | 0, h => by cases h; exact ⟨_, rfl, .ref f⟩
    | 1, h => by cases h; exact ⟨_, rfl, .non⟩
    | 2, h => by cases h; exact ⟨_, rfl, .ref a⟩
    | i + 3, h => by simp at h
  own := fun i d h hi => nomatch hi
  fresh := fun i hi => nomatch hi
  dist := fun i hi => nomatch hi
  there := fun b h => by
    rcases h with (h | h) | ⟨i, hi, _⟩
    · exact avT b h
    · exact h.elim
    · cases hi
  frame := fun b o _ h _ => h
  par := fun b h => nomatch h
  len := rfl
  avT := avT
  exF := fun b h => h.elim
  exO := fun i hi => nomatch hi
  stays := fun b o h t => ⟨o, h, t⟩
/-- a suite's end: what is told -/
theorem suite_end0 {K : PySem.W.Frag} {mg : Str → Option Value} {T : List (Addr × Str)} {H : Hp} {av : Addr → Prop} {σ : St} {f a : Addr} {er : Str} {D : Ends} (hs : σ = [some (.ref f), some .non, some (.ref a)]) (tabs : LamX.Tabs T H) (avT : ∀ a, av a → ∃ o, H a = some o ∧ NotTbl o)
    (q : ∀ v H', LamX.Tabs T H' → (∀ b u, H b = some u → NotTbl u → H' b = some u) → Rep K mg H' av (.tup [.str (kindStr er)]) v → ∀ σ' : St, σ'[1]? = some (some v) → D.nx σ' H') : TSo (ghOf K mg T [] false av H none (fun _ _ _ => False)) (mSuite0 a er) D σ H := by
  subst hs
  refine ⟨_, sr_suite f a tabs avT, ?_⟩
  have e : mSuite0 a er [some (.ref f), some .non, some (.ref a)] = .nx [some (.ref f), some (.tup [.str (kindStr er)]), some (.ref a)] := by
    simp [mSuite0, mSet, mTup, mConsA, mNilA, mTellK, R.bind, bindS]
  rw [e]
  intro σ' H' s _
  obtain ⟨v, e1, r⟩ := s.val 1 _ rfl (fun z => nomatch z)
  exact q v H' s.tabs (fun b u h t => s.frame b u (fun z => nomatch z) h t) (r.less fun a h => .inl (.inl h)) σ' e1
theorem suite_end1 {K : PySem.W.Frag} {mg : Str → Option Value} {T : List (Addr × Str)} {H : Hp} {av : Addr → Prop} {σ : St} {f a : Addr} {er : Str} {z : Int} {D : Ends} (hs : σ = [some (.ref f), some .non, some (.ref a)]) (tabs : LamX.Tabs T H) (avT : ∀ a, av a → ∃ o, H a = some o ∧ NotTbl o)
    (q : ∀ v H', LamX.Tabs T H' → (∀ b u, H b = some u → NotTbl u → H' b = some u) → Rep K mg H' av (.tup [.str (kindStr er), .int z]) v → ∀ σ' : St, σ'[1]? = some (some v) → D.nx σ' H') : TSo (ghOf K mg T [] false av H none (fun _ _ _ => False)) (mSuite1 a er z) D σ H := by
  subst hs
  refine ⟨_, sr_suite f a tabs avT, ?_⟩
  have e : mSuite1 a er z [some (.ref f), some .non, some (.ref a)] = .nx [some (.ref f), some (.tup [.str (kindStr er), .int z]), some (.ref a)] := by
    simp [mSuite1, mSet, mTup, mConsA, mNilA, mTellK, mAttr, R.bind, bindS]
  rw [e]
  intro σ' H' s _
  obtain ⟨v, e1, r⟩ := s.val 1 _ rfl (fun z => nomatch z)
  exact q v H' s.tabs (fun b u h t => s.frame b u (fun z => nomatch z) h t) (r.less fun a h => .inl (.inl h)) σ' e1

section
variable {X : Cx} {G : Gh} {k : Nat}
theorem se_told {ers : List Str} {c P : Addr} {params : Arguments} {body : Expr} {scope : Scope} {m : ME} {p lpos pos : Pos} (xg : XG X G (k + 2)) (hf : KnownT X.prog X.w X.K X.mg G.T X.base (k + 1) ers) (hg : Gl X "_law_call") (TB : LamX.TabB X.base X.mg c P) (hcode : X.env.code = .ref c)
    (hmT : (P, X.env.qual ++ "<lambda>") ∈ G.T) (hu : ∀ p ∈ G.T, p.1 = P → p.2 = X.env.qual ++ "<lambda>") (L : LamX.LamS X.env.scope scope)
    (hbody : ∀ (A : Around) (outer : List Env) (s : Shared) (H : Hp) (E : XK) (f c' : Addr) (av : Addr → Prop), XG (lamN X A outer s H E scope f c') (ghOf G.K G.mg G.T [] false av H none E) k → SE (lamN X A outer s H E scope f c') (ghOf G.K G.mg G.T [] false av H none E) body m)
    (hdef : defaultsOf params X.env = ([], []) := by rfl)
    (hbind : ∀ (q : Str) (cl : List (Str × Addr)) (pm cv ctv : Value), bindArgs (PySem.W.kla_fn "<lambda>" q params body scope cl pm cv ctv) ⟨[], []⟩ = pure [] := by intros; rfl) :
    SE X G (.Call (.Name "_law_call" p) [.Lambda params body scope lpos] [] pos) (mTold ers G.ow m) := by
  obtain ⟨st, g, fd, N, so, C1, C2, C3, hm, F, S, hN3, hN0, hvso, hd, hcd, TF, hbd, hst⟩ := hf
  refine ⟨fun pins s σ H Q I ⟨env, sr, q⟩ => ?_⟩
  refine wpAny_Call_Name_kw (ld_glob I hg hm ?_ (by decide))
  refine PySem.W.callWith_K (h₀ := X.base) I.ok.mod.kin F.kp ?_ (by rfl) (by rfl)
  show wpAny _ _ (spliced ((false, eval (.Lambda params body scope lpos) X.env) :: backTo pos (starEach [] X.env))) _ _ s
  refine Calls.spliced_cons (LamX.lam_make2 I TB hcode hmT hu sr.tabs hdef (L.has I.ok) fun f c' pm' ctv H1 s' I1 eN T1 hf hfn hfr hco => ?_)
  refine Calls.spliced_nil ⟨I1.kIn, ?_⟩
  have fm1 : ∀ b u, H b = some u → NotTbl u → H1 b = some u := fun b u h t => eN b u h t
  have sr1 : SR G σ H1 env := sr.after T1 fm1 fun b u h t => ⟨u, fm1 b u h t, t⟩
  have b1 := F.binds (ps := [so]) hbd s' [.ref f] I1.kIn rfl
  obtain ⟨oc, od, kV, doc, pm, an, cdv, ct, osl, rfl, lk, hcdv⟩ := F.ex
  have hN : N = [so, N.getD 1 so, N.getD 2 so] := by
    match N, hN3, hN0 with
    | [a, b, c], _, e => cases e; rfl
  have e0 : L2.start N [V.ref f] = [some (.ref f), none, none] := by
    unfold L2.start
    rw [hN3] <;> rfl
  have rc : codeAny (model X.prog X.w) X.A (.call (.ref g) ⟨[.ref f], []⟩) (CR (L2N.CX X.prog X.w) X.stack X.prog X.w H1 s' Q (fun _ _ _ => False)) s' := by
    refine LamX.run_ofS (k := k + 1) (N := N) (ps := [so]) (us := [.ref f]) (vs := [.ref f]) lk hcdv S xg.room I1.env0 b1 (.cons rfl .nil) rfl fun hr' => ?_
    -- the lambda as it runs
    have act := fun (W : WX) (pn : List (Addr × Obj)) (xe : Value → Shared → Prop) (p1 p2 : Pos) (tk : L2N.Takes ((cxOf (L2N.CX X.prog X.w) X.prog X.w X.K X.mg X.base N "_law_call" (defScope st) g cdv X.A X.stack s' H1 (fun _ _ _ => False)).tr pn xe) W) =>
      pe_run (k := k) (i := 0) (p1 := p1) (p2 := p2) (E := fun HZ cls dd H' => ∃ e, m (wipeE G.ow env) = .err e ∧ ErrAt (ghOf G.K G.mg G.T [] false (Av G σ) HZ none (fun _ _ _ => False)) e cls dd H') (tb := fun HZ => TEo (ghOf G.K G.mg G.T [] false (Av G σ) HZ none (fun cls dd H' => ∃ e, m (wipeE G.ow env) = .err e ∧ ErrAt (ghOf G.K G.mg G.T [] false (Av G σ) HZ none (fun _ _ _ => False)) e cls dd H')) m)
        I1 L hf hfn hfr (hbind _ _ _ _ _) tk hr' (fun A outer s2 H2 hr2 => hbody A outer s2 H2 _ f c' (Av G σ) ⟨xg.K, xg.mg, hr2, rfl, xg.nd, L2N.passes_call (L2N.takes_of rfl rfl rfl rfl) fun _ _ _ _ z => z⟩) hN0 hvso hd hcd
    refine ⟨_, hst cdv X.A X.stack s' H1 (fun _ _ _ => False) _ hr' act, ?_⟩
    rw [e0]
    -- the reading
    refine ⟨rfl, hco, fun cls dd H' ⟨e, em, tb, fr, ei⟩ => ?_, wipeE G.ow env, sr1.lam _, ?_⟩
    · -- an error
      obtain ⟨cc, ec, rfl, eattr⟩ := ei
      have fmE : ∀ b u, H1 b = some u → NotTbl u → H' b = some u := fun b u h t => fr b u (fun z => nomatch z) h t
      have avT : ∀ a, Av G σ a → ∃ o, H' a = some o ∧ NotTbl o := fun a ha => let ⟨o, h, t⟩ := sr1.there a ha; ⟨o, fmE a o h t, t⟩
      unfold mTold at q
      rw [em] at q
      have fin : ∀ {d : FT.D}, toldK ers e = some d → ∀ v H2, LamX.Tabs G.T H2 → (∀ b u, H' b = some u → NotTbl u → H2 b = some u) → Rep X.K X.mg H2 (Av G σ) d v → ∀ σ' : St, σ'[1]? = some (some v) → (tRet (tVar 1)) { nx := fun _ H' => Q .non H', rt := Q } (σ'.set 2 none) H2 := fun {d} hd v H2 t2 f2 r σ' e1 => by
        simp only [hd] at q
        have fm2 : ∀ b u, H b = some u → NotTbl u → H2 b = some u := fun b u h t => f2 b u (fmE b u (fm1 b u h t) t) t
        refine ⟨v, by rw [List.getElem?_set_ne (by decide)]; exact e1, ?_⟩
        rw [xg.K, xg.mg] at r
        exact q v H2 (sr.after t2 fm2 fun b u h t => ⟨u, fm2 b u h t, t⟩) (fun b o _ h t => fm2 b o h t) r
      by_cases hin : e.cls ∈ ers
      rotate_left
      · simp only [toldK, if_neg hin] at q
        exact q.elim
      obtain ⟨D0, KC, x1, x2, x3, a1, a2⟩ := TF.er e.cls hin
      have eD : cc = D0 := by
        have z := KC.m
        rw [show (ghOf G.K G.mg G.T [] false (Av G σ) H1 none (fun _ _ _ => False)).mg = X.mg from xg.mg.symm] at ec
        rw [ec] at z
        cases z; rfl
      subst eD
      by_cases t1 : e.cls = Str.ofString "TooMany"
      · refine ⟨true, by rw [x1, t1] <;> rfl, fun _ a oe na zn fs => ?_, fun z => nomatch z⟩
        cases ea : e.attr with
        | none => simp only [toldK, if_pos hin, if_pos t1, ea] at q; exact q.elim
        | some fi =>
          obtain ⟨f0, i0⟩ := fi
          rw [ea] at eattr
          obtain ⟨da, rfl, hda⟩ := eattr
          by_cases tf : f0 = Str.ofString "limit"
          · subst tf
            have hk : toldK ers e = some (.tup [.str (kindStr e.cls), .int i0]) := by simp only [toldK, if_pos hin, if_pos t1, ea, if_true]
            obtain ⟨vs, ev⟩ := fs
            refine ⟨e.cls, cc, Av G σ, KC, ⟨zn.1, ⟨vs, ev⟩, .inr ⟨da, _, zn.2.1, hda⟩⟩, ⟨vs, ev, zn.2.2 vs ev⟩, i0, da, (a1 t1).1, (a1 t1).2, zn.2.1, hda, ?_⟩
            rw [xg.K, xg.mg]
            exact suite_end1 (f := f) rfl tb avT fun v H2 t2 f2 r σ' e1 => fin hk v H2 t2 f2 (by rw [xg.K, xg.mg]; exact r) σ' e1
          · simp only [toldK, if_pos hin, if_pos t1, ea, if_neg tf] at q; exact q.elim
      · refine ⟨false, by rw [x1, beq_eq_false_iff_ne.mpr t1], fun z => (nomatch z), fun _ => ?_⟩
        by_cases t2 : e.cls = Str.ofString "InvalidText"
        · refine ⟨true, by rw [x2, t2] <;> rfl, fun _ a oe na zn fs => ?_, fun z => nomatch z⟩
          cases ea : e.attr with
          | none => simp only [toldK, if_pos hin, if_neg t1, if_pos t2, ea] at q; exact q.elim
          | some fi =>
            obtain ⟨f0, i0⟩ := fi
            rw [ea] at eattr
            obtain ⟨da, rfl, hda⟩ := eattr
            by_cases tf : f0 = Str.ofString "line"
            · subst tf
              have hk : toldK ers e = some (.tup [.str (kindStr e.cls), .int i0]) := by simp only [toldK, if_pos hin, if_neg t1, if_pos t2, ea, if_true]
              obtain ⟨vs, ev⟩ := fs
              refine ⟨e.cls, cc, Av G σ, KC, ⟨zn.1, ⟨vs, ev⟩, .inr ⟨da, _, zn.2.1, hda⟩⟩, ⟨vs, ev, zn.2.2 vs ev⟩, i0, da, (a2 t2).1, (a2 t2).2, zn.2.1, hda, ?_⟩
              rw [xg.K, xg.mg]
              exact suite_end1 (f := f) rfl tb avT fun v H2 t2 f2 r σ' e1 => fin hk v H2 t2 f2 (by rw [xg.K, xg.mg]; exact r) σ' e1
            · simp only [toldK, if_pos hin, if_neg t1, if_pos t2, ea, if_neg tf] at q; exact q.elim
        · refine ⟨false, by rw [x2, beq_eq_false_iff_ne.mpr t2], fun z => (nomatch z), fun _ => ?_⟩
          refine ⟨true, x3, fun _ a oe na zn fs => ?_, fun z => nomatch z⟩
          cases ea : e.attr with
          | some fi => simp only [toldK, if_pos hin, if_neg t1, if_neg t2, ea] at q; exact q.elim
          | none =>
            rw [ea] at eattr
            subst eattr
            have hk : toldK ers e = some (.tup [.str (kindStr e.cls)]) := by simp only [toldK, if_pos hin, if_neg t1, if_neg t2, ea]
            obtain ⟨vs, ev⟩ := fs
            refine ⟨e.cls, cc, Av G σ, KC, ⟨zn.1, ⟨vs, ev⟩, .inl zn.2.1⟩, ⟨vs, ev, zn.2.2 vs ev⟩, ?_⟩
            rw [xg.K, xg.mg]
            exact suite_end0 (f := f) rfl tb avT fun v H2 t2 f2 r σ' e1 => fin hk v H2 t2 f2 (by rw [xg.K, xg.mg]; exact r) σ' e1
    · -- a value
      unfold mTold at q
      cases r : m (wipeE G.ow env) with
      | stuck => rw [r] at q; exact q.elim
      | err e => exact fun cls dd H' h => ⟨e, rfl, h⟩
      | ok d env' =>
        rw [r] at q
        intro v H' s2 st2 rv
        have rv : Rep G.K G.mg H' (Av G σ) d v := rv.less fun a h => .inl (.inl h)
        refine ⟨by show 2 ≤ sizeLine; decide, fun pA nA => ⟨_, rfl, ?_⟩⟩
        have fm2 : ∀ b u, H b = some u → NotTbl u → upd H' pA (.tup [.str (Str.ofString "told"), v]) b = some u := fun b u h t => Ext.upd nA _ _ (s2.frame b u (fun z => nomatch z) (fm1 b u h t) t)
        have sr2 : SR G σ (upd H' pA (.tup [.str (Str.ofString "told"), v])) env := sr.after (s2.tabs.ext (Ext.upd nA)) fm2 fun b u h t => ⟨u, fm2 b u h t, t⟩
        have npA : ¬ Av G σ pA := fun ha => by
          obtain ⟨o, h, t⟩ := sr1.there pA ha
          have z := s2.frame pA o (fun z => nomatch z) h t
          rw [nA] at z; cases z
        exact q _ _ sr2 (fun b o _ h t => fm2 b o h t) (.tup upd_same npA (.cons (.str _) (.cons (rv.ext (Ext.upd nA)) .nil)))
  refine wpAny_call (codeAny_mono rc fun r s2 hq => ?_)
  cases r with
  | error e =>
    obtain ⟨_, _, _, _, _, _, _, _, _, _, _, _, z⟩ := (show L2N.CX X.prog X.w X.stack H1 s' (fun _ _ _ => False) e s2 from hq)
    exact z.elim
  | ok fl =>
    cases fl with
    | ret u => exact I1.after hq
    | next => exact False.elim hq
    | brk => exact False.elim hq
    | cont => exact False.elim hq
end
end FT

set_option Elab.async false
set_option linter.all false
set_option maxRecDepth 100000
set_option maxHeartbeats 1000000
/-! FTS: the facts of a top, by Bools. -/
namespace FT
open PySem PySem.Spec PyProof.Rows L2 He

section
variable {K : PySem.W.Frag} {h : Heap} {mg : Str → Option Value}
/-! ### constants -/
mutual
def conB (K : PySem.W.Frag) : D → Value → Bool
  | .non, .none => true
  | .bl b, .bool c => b == c
  | .int i, .int j _ => decide (i = j)
  | .str x, .str y _ => decide (x = y)
  | .tup ds, .ref a => (match K.lookup a with
    | some ⟨.type c, _, .seq its _, _⟩ => decide (c = "tuple") && (decide (its.size ≤ sizeLine) && (consB K ds its.toList && ds.all D.isStr))
    | _ => false)
  | _, _ => false
def consB (K : PySem.W.Frag) : List D → List Value → Bool
  | [], [] => true
  | d :: ds, u :: us => conB K d u && consB K ds us
  | _, _ => false
end
mutual
theorem conB_ok : ∀ {d : D} {u : Value}, conB K d u = true → ∃ v, RelV v u ∧ ∀ H av, Rep K mg H av d v
  | .non, .none, _ => ⟨.non, rfl, fun _ _ => .non⟩
  | .bl b, .bool c, h => ⟨.bl b, by rw [show b = c from eq_of_beq (by simpa [conB] using h)]; rfl, fun _ _ => .bl b⟩
  | .int i, .int j t, h => ⟨.int i, ⟨t, by rw [show i = j from by simpa [conB] using h]⟩, fun _ _ => .int i⟩
  | .str x, .str y t, h => ⟨.str x, ⟨t, by rw [show x = y from by simpa [conB] using h]⟩, fun _ _ => .str x⟩
  | .tup ds, .ref a, h => by
    unfold conB at h
    cases q : K.lookup a with
    | none => rw [q] at h; cases h
    | some o =>
      obtain ⟨oc, od, dt, osl⟩ := o
      rw [q] at h
      cases oc with
      | type c =>
        cases dt with
        | seq its n =>
          have h : (decide (c = "tuple") && (decide (its.size ≤ sizeLine) && (consB K ds its.toList && ds.all D.isStr))) = true := h
          simp only [Bool.and_eq_true, decide_eq_true_eq] at h
          obtain ⟨e1, e2, e3, e4⟩ := h
          obtain ⟨vs, r, R⟩ := consB_ok e3
          exact ⟨.ref a, rfl, fun H av => .ktup ⟨_, its, n, q, congrArg Value.type e1, rfl, e2, r⟩ (R H av) e4⟩
        | _ => cases h
      | _ => cases dt <;> cases h
theorem consB_ok : ∀ {ds : List D} {us : List Value}, consB K ds us = true → ∃ vs, Vals vs us ∧ ∀ H av, Reps K mg H av ds vs
  | [], [], _ => ⟨[], .nil, fun _ _ => .nil⟩
  | d :: ds, u :: us, h => by
    simp only [consB, Bool.and_eq_true] at h
    obtain ⟨v, r, R⟩ := conB_ok h.1
    obtain ⟨vs, rs, Rs⟩ := consB_ok h.2
    exact ⟨v :: vs, .cons r rs, fun H av => .cons (R H av) (Rs H av)⟩
end
def gloB (K : PySem.W.Frag) (x : Str) (d : D) : Bool := match PySem.W.nsIn K mainGlobals x with
  | some (some u) => conB K d u
  | _ => false
theorem gloB_ok (X : K.In h) (G : h.Ns mainGlobals mg) {x : Str} {d : D} (c : gloB K x d = true) : GloD K mg x d := by
  unfold gloB at c
  split at c
  · rename_i u e
    obtain ⟨v, r, R⟩ := conB_ok (mg := mg) c
    exact ⟨v, u, PySem.W.mg_of X G e, r, R⟩
  · cases c
/-! ### errors -/
def isG (K : PySem.W.Frag) (x : Str) : Bool := eqO (PySem.W.nsIn K mainGlobals x) (some (some (.ref (ga K x))))
theorem isG_ok (X : K.In h) (G : h.Ns mainGlobals mg) {x : Str} (c : isG K x = true) : mg x = some (.ref (ga K x)) := PySem.W.mg_of X G (eqO_ok c)
def isF (K : PySem.W.Frag) (x : Str) : Bool := eqO (PySem.W.nsIn K mainGlobals x) (some none)
theorem isF_ok (X : K.In h) (G : h.Ns mainGlobals mg) {x : Str} (c : isF K x = true) : mg x = none := PySem.W.mg_none_of X G (eqO_ok c)
def errB (K : PySem.W.Frag) (x : Str) : Bool := isG K x && (PySem.W.excIn K (ga K x) veBase "ValueError.__new__" && (PySem.W.keepIn K (.ref (ga K x)) && (decide (PySem.W.subIn K (.ref (ga K x)) (.type "BaseException") = some true) && decide (PySem.W.typeIn K (.ref (ga K x)) = some (.type "type")))))
theorem errB_ok (X : K.In h) (G : h.Ns mainGlobals mg) {x : Str} (c : errB K x = true) : ∃ C, ErrC K mg x C := by
  simp only [errB, Bool.and_eq_true, decide_eq_true_eq] at c
  obtain ⟨c1, c2, c3, c4, c5⟩ := c
  exact ⟨_, isG_ok X G c1, c3, c2, c4, c5⟩
def excB (K : PySem.W.Frag) (D : Addr) : Bool := eqO (PySem.W.findIn K (.ref D) "__getattribute__") (some (some (.builtin "BaseException.__getattribute__"))) && (eqO (PySem.W.findIn K (.ref D) "__getattr__") (some none) &&
  (decide (PySem.W.subIn K (.ref D) (.type "BaseException") = some true) && (PySem.W.hasDictIn K D && (eqO (PySem.W.findIn K (.ref D) "__class__") (some (some (.builtin "object.__class__"))) &&
  (eqO (PySem.W.specialIn K (.builtin "object.__class__") "__get__") (some (some (.builtin "getset_descriptor.__get__"))) && (decide (PySem.W.takesIn K (.builtin "object.__class__") = some true) && decide (PySem.W.mroIn K D (.type "object") = some true)))))))
theorem excB_ok {D : Addr} (c : excB K D = true) : L2.ExcC K D := by
  simp only [excB, Bool.and_eq_true, decide_eq_true_eq] at c
  obtain ⟨c1, c2, c3, c4, c5, c6, c7, c8⟩ := c
  exact ⟨eqO_ok c1, eqO_ok c2, c3, c4, eqO_ok c5, eqO_ok c6, c7, c8⟩
def kindB (K : PySem.W.Frag) (x : Str) : Bool := isG K x && (decide (x ∈ kindNames) && (excB K (ga K x) && ((kindNames.all fun y => isG K y && decide (PySem.W.kitOne K (.ref (ga K x)) (.ref (ga K y)) = some (y == x))) && decide (PySem.W.kitOne K (.ref (ga K x)) (.type "ValueError") = some true))))
theorem kindB_ok (X : K.In h) (G : h.Ns mainGlobals mg) {x : Str} (c : kindB K x = true) : KindC K mg x (ga K x) := by
  simp only [kindB, Bool.and_eq_true, decide_eq_true_eq, List.all_eq_true] at c
  obtain ⟨c1, c2, c3, c4, c5⟩ := c
  exact ⟨isG_ok X G c1, c2, excB_ok c3, fun y hy => ⟨_, isG_ok X G (c4 y hy).1, (c4 y hy).2⟩, c5⟩
def tellB (K : PySem.W.Frag) (ers : List Str) : Bool := isG K "TooMany" && (isG K "InvalidText" && (isG K "TreeError" && ers.all fun x => kindB K x && (decide (PySem.W.exmOne K (.ref (ga K x)) (.ref (ga K "TooMany")) = some (x == Str.ofString "TooMany")) &&
  (decide (PySem.W.exmOne K (.ref (ga K x)) (.ref (ga K "InvalidText")) = some (x == Str.ofString "InvalidText")) && (decide (PySem.W.exmOne K (.ref (ga K x)) (.ref (ga K "TreeError")) = some true) &&
  ((x != Str.ofString "TooMany" || (L2.xfB K (ga K x) && eqO (PySem.W.findIn K (.ref (ga K x)) "limit") (some none))) && (x != Str.ofString "InvalidText" || (L2.xfB K (ga K x) && eqO (PySem.W.findIn K (.ref (ga K x)) "line") (some none)))))))))
theorem tellB_ok (X : K.In h) (G : h.Ns mainGlobals mg) {ers : List Str} (c : tellB K ers = true) : ∃ C1 C2 C3, TellF K mg C1 C2 C3 ers := by
  simp only [tellB, Bool.and_eq_true, Bool.or_eq_true, decide_eq_true_eq, List.all_eq_true, bne_iff_ne] at c
  obtain ⟨c1, c2, c3, c4⟩ := c
  refine ⟨_, _, _, isG_ok X G c1, isG_ok X G c2, isG_ok X G c3, fun er he => ?_⟩
  obtain ⟨d1, d2, d3, d4, d5, d6⟩ := c4 er he
  exact ⟨_, kindB_ok X G d1, d2, d3, d4, fun z => (d5.resolve_left fun q => q z).imp L2.xfB_ok eqO_ok, fun z => (d6.resolve_left fun q => q z).imp L2.xfB_ok eqO_ok⟩
/-! ### defs -/
def dOf (x : Str) (st : Stmt) : DefD := ⟨(x, none), x, x, defArgs st, defBody st, defScope st, [], []⟩
theorem dOf_in (X : K.In h) (G : h.Ns mainGlobals mg) {fa : List Fa} {fn : List DefD} (c : SaysD fa fn K) {x : Str} {st : Stmt} (hd : dOf x st ∈ fn) (hx : isG K x = true) : DefIn K mg x st := by
  obtain ⟨fd, F⟩ := c.defs hd
  obtain ⟨oc, od, dV, kV, doc, pm, an, cdv, ct, osl, e, lk, hc, hdv, _⟩ := F.ex
  rcases hdv with ⟨_, z⟩ | ⟨z, _⟩
  · subst z
    exact ⟨ga K x, fd, isG_ok X G hx, ⟨oc, od, kV, doc, pm, an, cdv, ct, osl, e, lk, hc⟩, F.kp⟩
  · exact absurd rfl z
end
end FT

set_option Elab.async false
set_option linter.all false
set_option maxRecDepth 100000
set_option maxHeartbeats 1000000
/-! FTT: the end of a law. -/
namespace FT
open PySem PySem.Spec PyProof.Rows L2 HotX L2H He

section
variable {P : Program} {w : World} {K : PySem.W.Frag} {mg : Str → Option Value} {T : List (Addr × Str)} {base : Heap} {j k : Nat} {ers : List Str}
theorem KnownK.mono (h : KnownK P w K mg T base j) (l : j ≤ k) : KnownK P w K mg T base k := by
  obtain ⟨f, fd, h1, h2, h3, h4⟩ := h
  exact ⟨f, fd, h1, h2, h3, fun er D KC A outer s H args p Q E hr => h4 er D KC A outer s H args p Q E (hr.mono l)⟩
theorem KnownT.mono (h : KnownT P w K mg T base j ers) (l : j ≤ k) : KnownT P w K mg T base k ers := by
  obtain ⟨st, g, fd, N, so, C1, C2, C3, h1, h2, h3, h4, h5, h6, h7, h8, h9, h10, h11⟩ := h
  exact ⟨st, g, fd, N, so, C1, C2, C3, h1, h2, h3, h4, h5, h6, h7, h8, h9, h10, fun cdv A outer s H E tA hr => h11 cdv A outer s H E tA (hr.mono l)⟩
theorem rep_scr {H : Hp} {a : Addr} {ns : List Int} {av : Addr → Prop} (h : SqL K H a (ns.map V.int)) (n : ¬ av a) : Rep K mg H av (.scr ns) (.ref a) := by
  rcases h with h | h
  · exact .scr h n
  · exact .kscr h
/-- what the end of a law asks for -/
theorem law_at {l : PySem.W.OpenLaw} {n : Nat} {x q : Str} {fa c Pt : Addr} {h : Heap} {fd : FuncData} {F : Fn} (hT : h.get? Pt = some { cls := .none, data := .fields #[] }) (nT : K.lookup Pt = none) (hd : PySem.W.CodeHd h c Pt)
    (hb : ∀ (s : Shared) (u : Value), BindsTo s fd ⟨[u], []⟩ [(x, u)]) (den : ∀ ns : List Int, ns.length ≤ n → (∀ z ∈ ns, Builtin.Int.intBits z ≤ 1048576) → ∃ o, F [.scr ns] = .ok (.bl true) o)
    (fnok : ∀ base : Heap, K.In base → base.Ns mainGlobals mg → LamX.TabB base mg c Pt → FnOk l.prog w K mg base (L2N.CX l.prog w) k fa fd [x] (spF K mg [(Pt, q)] 1 false false F)) : LamX.LawAtS l w K (L2N.CX l.prog w) k n x mg fa h := by
  refine ⟨fd, [(c, Pt)], spF K mg [(Pt, q)] 1 false false F, fun p hp => ?_, fun p hp => ?_, fun p hp => ?_, hb, fun H a ns h1 h2 h3 h4 => ?_, fun base b1 b2 b3 => fnok base b1 b2 (b3 (c, Pt) (by simp))⟩
  · obtain rfl : p = (c, Pt) := by simpa using hp
    exact hT
  · obtain rfl : p = (c, Pt) := by simpa using hp
    exact nT
  · obtain rfl : p = (c, Pt) := by simpa using hp
    exact hd
  · obtain ⟨o, e⟩ := den ns h1 h2
    refine ⟨fun _ => False, none, [.scr ns], fun p hp => ?_, fun a z => z.elim, rfl, ⟨rfl, .cons (rep_scr h4 fun z => z) .nil⟩, ?_⟩
    · obtain rfl : p = (Pt, q) := by simpa using hp
      exact LamX.TabS.nil (h3 (c, Pt) (by simp))
    · rw [e]
      intro v H' C
      have r := C.rep
      cases r
      rfl
/-- a law without a lambda: no table -/
theorem law_at0 {l : PySem.W.OpenLaw} {n : Nat} {x : Str} {fa : Addr} {h : Heap} {fd : FuncData} {F : Fn}
    (hb : ∀ (s : Shared) (u : Value), BindsTo s fd ⟨[u], []⟩ [(x, u)]) (den : ∀ ns : List Int, ns.length ≤ n → (∀ z ∈ ns, Builtin.Int.intBits z ≤ 1048576) → ∃ o, F [.scr ns] = .ok (.bl true) o)
    (fnok : ∀ base : Heap, K.In base → base.Ns mainGlobals mg → FnOk l.prog w K mg base (L2N.CX l.prog w) k fa fd [x] (spF K mg [] 1 false false F)) : LamX.LawAtS l w K (L2N.CX l.prog w) k n x mg fa h := by
  refine ⟨fd, [], spF K mg [] 1 false false F, fun p hp => (nomatch hp), fun p hp => (nomatch hp), fun p hp => (nomatch hp), hb, fun H a ns h1 h2 h3 h4 => ?_, fun base b1 b2 b3 => fnok base b1 b2⟩
  obtain ⟨o, e⟩ := den ns h1 h2
  refine ⟨fun _ => False, none, [.scr ns], fun p hp => (nomatch hp), fun a z => z.elim, rfl, ⟨rfl, .cons (rep_scr h4 fun z => z) .nil⟩, ?_⟩
  rw [e]
  intro v H' C
  have r := C.rep
  cases r
  rfl
theorem noErr {H : Hp} {s : Shared} {e : Value} {s' : Shared} (h : L2N.CX P w [] H s (fun _ _ _ => False) e s') : False := by
  obtain ⟨_, _, _, _, _, _, _, _, _, _, _, _, z⟩ := h
  exact z
end
end FT

set_option Elab.async false
set_option linter.all false
set_option maxRecDepth 100000
set_option maxHeartbeats 1000000
set_option exponentiation.threshold 10000
/-! FTU: computing with denotations. -/
namespace FT
open PySem PySem.Spec PyProof.Rows L2

def gR (o : Option D) (s : En) : R D := match o with
  | some d => .ok d s
  | none => .stuck
@[simp] theorem gR_some {d : D} {s : En} : gR (some d) s = .ok d s := rfl
section
variable {α β : Type} {a : α} {s env e : En} {x : Er} {k : α → En → R β} {kS : α → En → RS}
@[simp] theorem bind_ok : (R.ok a s).bind k = k a s := rfl
@[simp] theorem bind_err : (R.err x : R α).bind k = .err x := rfl
@[simp] theorem bind_stuck : (R.stuck : R α).bind k = .stuck := rfl
@[simp] theorem bindS_ok : bindS (R.ok a s) kS = kS a s := rfl
@[simp] theorem bindS_err : bindS (R.err x : R α) kS = .err x := rfl
end
section
variable {env e1 : En} {d d' : D} {i j : Nat} {m m' ma mb : ME} {t t' : MT} {ms : MA} {a b : MS} {g : D → D → Option D} {x : Er} {q : Bool}
@[simp] theorem mLit_eq : mLit d env = .ok d env := rfl
theorem mVar_eq (h : env[i]? = some (some d)) : mVar i env = .ok d env := by unfold mVar; rw [h]
@[simp] theorem mNx_eq : mNx env = .nx env := rfl
theorem mSeq_eq (h : a env = .nx e1) : mSeq a b env = b e1 := by unfold mSeq; rw [h]
theorem mSeq_rt (h : a env = .rt d e1) : mSeq a b env = .rt d e1 := by unfold mSeq; rw [h]
theorem mSeq_err (h : a env = .err x) : mSeq a b env = .err x := by unfold mSeq; rw [h]
theorem mSet_eq (h : m env = .ok d e1) : mSet i m env = .nx (e1.set i (some d)) := by unfold mSet; rw [h]; rfl
theorem mRet_eq (h : m env = .ok d e1) : mRet m env = .rt d e1 := by unfold mRet; rw [h]; rfl
theorem mRet_err (h : m env = .err x) : mRet m env = .err x := by unfold mRet; rw [h]; rfl
theorem mIfS_eq (h : t env = .ok q e1) : mIfS t a b env = if q = true then a e1 else b e1 := by unfold mIfS; rw [h]; rfl
theorem mIfS_t (h : t env = .ok true e1) : mIfS t a b env = a e1 := by unfold mIfS; rw [h]; rfl
theorem mIfS_f (h : t env = .ok false e1) : mIfS t a b env = b e1 := by unfold mIfS; rw [h]; rfl
theorem mTst_eq (h : m env = .ok (.bl q) e1) : mTst m env = .ok q e1 := by unfold mTst; rw [h]; rfl
theorem mNotT_eq (h : t env = .ok q e1) : mNotT t env = .ok (!q) e1 := by unfold mNotT; rw [h]; rfl
theorem mAndT_t (h : t env = .ok true e1) : mAndT t t' env = t' e1 := by unfold mAndT; rw [h]; rfl
theorem mAndT_f (h : t env = .ok false e1) : mAndT t t' env = .ok false e1 := by unfold mAndT; rw [h]; rfl
theorem mOrT_t (h : t env = .ok true e1) : mOrT t t' env = .ok true e1 := by unfold mOrT; rw [h]; rfl
theorem mOrT_f (h : t env = .ok false e1) : mOrT t t' env = t' e1 := by unfold mOrT; rw [h]; rfl
theorem mAndV_t (h : m env = .ok (.bl true) e1) : mAndV m m' env = m' e1 := by unfold mAndV; rw [h]; rfl
theorem mAndV_f (h : m env = .ok (.bl false) e1) : mAndV m m' env = .ok (.bl false) e1 := by unfold mAndV; rw [h]; rfl
theorem mOrV_t (h : m env = .ok (.bl true) e1) : mOrV m m' env = .ok (.bl true) e1 := by unfold mOrV; rw [h]; rfl
theorem mOrV_f (h : m env = .ok (.bl false) e1) : mOrV m m' env = m' e1 := by unfold mOrV; rw [h]; rfl
theorem mNotV_eq (h : m env = .ok (.bl q) e1) : mNotV m env = .ok (.bl (!q)) e1 := by unfold mNotV; rw [h]; rfl
theorem mIf_t (h : t env = .ok true e1) : mIf t m m' env = m e1 := by unfold mIf; rw [h]; rfl
theorem mIf_f (h : t env = .ok false e1) : mIf t m m' env = m' e1 := by unfold mIf; rw [h]; rfl
/-- operands -/
theorem op_VV {e2 : En} {r : D} (ha : ma env = .ok d e1) (hb : mb e1 = .ok d' e2) (hg : g d d' = some r) : mOp2 g (mV ma) (mV mb) env = .ok r e2 := by
  simp only [mOp2, mV, ha, hb, R.bind, lift2, hg]
theorem op_OV {r d0 : D} (h0 : env[i]? = some (some d0)) (hb : mb env = .ok d' e1) (h1 : e1[i]? = some (some d)) (hg : g d d' = some r) : mOp2 g (mOwn i) (mV mb) env = .ok r e1 := by
  simp only [mOp2, mV, mOwn, h0, hb, R.bind, h1, Option.join, lift2, hg]
  simp [hg]
theorem fn_1 {f : List D → Option D} {r : D} (ha : ma env = .ok d e1) (hg : f [d] = some r) : mFn f (mConsO (mV ma) mNilO) env = .ok r e1 := by
  simp only [mFn, mConsO, mNilO, mV, ha, R.bind, lift1, List.mapM_cons, List.mapM_nil]
  simp [hg]
theorem fn_2 {f : List D → Option D} {r : D} {e2 : En} (ha : ma env = .ok d e1) (hb : mb e1 = .ok d' e2) (hg : f [d, d'] = some r) : mFn f (mConsO (mV ma) (mConsO (mV mb) mNilO)) env = .ok r e2 := by
  simp only [mFn, mConsO, mNilO, mV, ha, hb, R.bind, lift1, List.mapM_cons, List.mapM_nil]
  simp [hg]
theorem tup_eq {ds : List D} (h : ms env = .ok ds e1) : mTup ms env = .ok (.tup ds) e1 := by simp only [mTup, h, R.bind]
theorem lst_eq {ds : List D} (h : ms env = .ok ds e1) : mLst ms env = .ok (.lst ds) e1 := by simp only [mLst, h, R.bind]
theorem a_nil : mNilA env = .ok [] env := rfl
theorem a_cons {ds : List D} {e2 : En} (h : m env = .ok d e1) (hs : ms e1 = .ok ds e2) : mConsA m ms env = .ok (d :: ds) e2 := by simp only [mConsA, h, hs, R.bind]
theorem call_eq {F : Fn} {ds : List D} {r o : D} (h : ms env = .ok ds e1) (hF : F ds = .ok r o) : mCall F ms env = .ok r e1 := by simp only [mCall, h, hF, R.bind]
theorem call_err {F : Fn} {ds : List D} (h : ms env = .ok ds e1) (hF : F ds = .err x) : mCall F ms env = .err x := by simp only [mCall, h, hF, R.bind]
theorem callO_eq {F : Fn} {ds : List D} {r o d0 : D} {l : List D} (h0 : env[i]? = some (some (.lst l))) (h : ms env = .ok ds e1) (h1 : e1[i]? = some (some d0)) (hF : F (d0 :: ds) = .ok r o) : mCallO F i ms env = .ok r (e1.set i (some o)) := by
  simp only [mCallO, h0, h, h1, R.bind, Option.join]
  simp [hF]
theorem m1_eq {h' : Str → D → Option D} {s : Str} {r : D} {e2 : En} (ha : ma env = .ok (.str s) e1) (hb : mb e1 = .ok d' e2) (hg : h' s d' = some r) : mM1 h' ma (mV mb) env = .ok r e2 := by
  simp only [mM1, mV, ha, hb, R.bind, lift1, hg]
theorem store_eq {z : Int} {r : D} {e2 : En} (h : m env = .ok d e1) (h1 : e1[j]? = some (some d')) (hi : m' e1 = .ok (.int z) e2) {d2 : D} (h2 : e2[j]? = some (some d2)) (hs : setL (some d2) z d = some r) : mStore j m' m env = .nx (e2.set j (some r)) := by
  have e : (some (some d2)).bind id = some d2 := rfl
  simp only [mStore, h, bindS, h1, hi, h2, Option.join, e, hs]
theorem sl_hi {mh : ME} {hi : Int} {r : D} {e2 : En} (h : m env = .ok d e1) (hh : mh e1 = .ok (.int hi) e2) (hg : gSlice d none (some hi) = some r) : mSl gSlice (mV m) mNoP (mPt mh) env = .ok r e2 := by
  simp only [mSl, mV, h, R.bind, mNoP, mPt, hh, lift1, hg]
theorem asg_eq {mt : MG} (h : m env = .ok d e1) {e2 : En} (ht : mt d e1 = some e2) : mAsg m mt env = .nx e2 := by simp only [mAsg, h, bindS, ht]
theorem for_eq {mi : MI} {mt : MG} {ds : List D} (h : mi env = .ok ds e1) : mFor mi mt a env = forL mt a ds e1 := by simp only [mFor, h, bindS]
theorem rng1_eq {z : Int} (h : m env = .ok (.int z) e1) (hz : -1000000000 ≤ z ∧ z ≤ 1000000000) : mRng1 (mConsA m mNilA) env = .ok (rangeD 0 z) e1 := by
  simp only [mRng1, mConsA, mNilA, h, R.bind, if_pos hz]
theorem iter_eq {f : D → Option (List D)} {ds : List D} (h : m env = .ok d e1) (hf : f d = some ds) : mIter f m env = .ok ds e1 := by simp only [mIter, h, R.bind, hf]
theorem while_t {n : Nat} {e2 : En} (h : t env = .ok true e1) (hb : a e1 = .nx e2) : whileL t a (n + 1) env = whileL t a n e2 := by
  have z : whileL t a (n + 1) env = bindS (t env) fun k s => if k = true then (match a s with
    | .nx e2 => whileL t a n e2
    | .ct e2 => whileL t a n e2
    | .bk e2 => .nx e2
    | r => r) else .nx s := rfl
  rw [z, h, bindS_ok, if_pos rfl, hb]
theorem while_f {n : Nat} (h : t env = .ok false e1) : whileL t a (n + 1) env = .nx e1 := by
  have z : whileL t a (n + 1) env = bindS (t env) fun k s => if k = true then (match a s with
    | .nx e2 => whileL t a n e2
    | .ct e2 => whileL t a n e2
    | .bk e2 => .nx e2
    | r => r) else .nx s := rfl
  rw [z, h, bindS_ok, if_neg Bool.false_ne_true]
/-- a for by an invariant: the body goes on, each time -/
theorem for_inv {mt : MG} {mb : MS} (P : En → Prop) : ∀ (ds : List D) (env : En), P env → (∀ d ∈ ds, ∀ e, P e → ∃ e1 e2, mt d e = some e1 ∧ mb e1 = .nx e2 ∧ P e2) → ∃ e', forL mt mb ds env = .nx e' ∧ P e'
  | [], env, h, _ => ⟨env, rfl, h⟩
  | d :: ds, env, h, step => by
    obtain ⟨e1, e2, h1, h2, h3⟩ := step d List.mem_cons_self env h
    obtain ⟨e', h4, h5⟩ := for_inv P ds e2 h3 fun d' hd => step d' (List.mem_cons_of_mem _ hd)
    exact ⟨e', by simp only [forL, h1, h2, h4], h5⟩
/-- the same, with the number of the turn -/
theorem for_inv2 {mt : MG} {mb : MS} (P : Nat → En → Prop) : ∀ (ds : List D) (k : Nat) (env : En), P k env → (∀ j d e, ds[j]? = some d → P (k + j) e → ∃ e1 e2, mt d e = some e1 ∧ mb e1 = .nx e2 ∧ P (k + j + 1) e2) → ∃ e', forL mt mb ds env = .nx e' ∧ P (k + ds.length) e'
  | [], k, env, h, _ => ⟨env, rfl, h⟩
  | d :: ds, k, env, h, step => by
    obtain ⟨e1, e2, h1, h2, h3⟩ := step 0 d env rfl h
    obtain ⟨e', h4, h5⟩ := for_inv2 P ds (k + 1) e2 h3 fun j d' e hd hp => by
      obtain ⟨f1, f2, q1, q2, q3⟩ := step (j + 1) d' e hd (by rw [show k + (j + 1) = k + 1 + j by omega]; exact hp)
      exact ⟨f1, f2, q1, q2, by rw [show k + 1 + j + 1 = k + (j + 1) + 1 by omega]; exact q3⟩
    exact ⟨e', by simp only [forL, h1, h2, h4], by rw [List.length_cons, show k + (ds.length + 1) = k + 1 + ds.length by omega]; exact h5⟩
end
/-! ### numbers -/
theorem BIG_of {i : Int} (h : -(2 ^ 2000) < i ∧ i < 2 ^ 2000) : i.natAbs < BIG := by
  have h1 : i.natAbs < 2 ^ 2000 := by omega
  exact Nat.lt_of_lt_of_le h1 (by unfold BIG; exact Nat.pow_le_pow_right (by decide) (by decide))
theorem mul_int {i j : Int} (h1 : -(2 ^ 2000) < i ∧ i < 2 ^ 2000) (h2 : -(2 ^ 2000) < j ∧ j < 2 ^ 2000) : gMul (.int i) (.int j) = some (.int (i * j)) := by
  show (if i.natAbs < BIG ∧ j.natAbs < BIG then some (D.int (i * j)) else none) = _
  rw [if_pos ⟨BIG_of h1, BIG_of h2⟩]
theorem div_int {i j : Int} (h2 : 0 < j ∧ j < 2 ^ 2000) : gDiv (.int i) (.int j) = some (.int (i / j)) := by
  show (if 0 < j ∧ j.natAbs < BIG then some (D.int (i / j)) else none) = _
  rw [if_pos ⟨h2.1, BIG_of ⟨by omega, h2.2⟩⟩]
theorem mod_int {i j : Int} (h2 : 0 < j) : gMod (.int i) (.int j) = some (.int (i % j)) := by
  show (if j = 0 then none else some (D.int (i.fmod j))) = _
  rw [if_neg (by omega), Int.fmod_eq_emod_of_nonneg _ (by omega)]
end FT

set_option Elab.async false
set_option linter.all false
set_option maxRecDepth 100000
set_option maxHeartbeats 1000000
set_option exponentiation.threshold 10000
/-! FTV: equality of data, comprehensions, texts, computed. -/
namespace FT
open PySem PySem.Spec PyProof.Rows L2

/-! ### equality -/
mutual
theorem eqv_self : ∀ p : PyData, p.canLay0 = true → PyData.eqv p p = true
  | .none, _ => by simp only [PyData.eqv]
  | .bool b, _ => by simp only [PyData.eqv, beq_self_eq_true]
  | .int i, _ => by simp only [PyData.eqv, beq_self_eq_true]
  | .str x, _ => by simp only [PyData.eqv, beq_self_eq_true]
  | .list xs, h => by simp only [PyData.eqv]; exact eqvAll_self xs (by simpa only [PyData.canLay0] using h)
  | .tuple xs, h => by simp only [PyData.eqv]; exact eqvAll_self xs (by simpa only [PyData.canLay0] using h)
  | .dict xs, h => by simp only [PyData.canLay0] at h; cases h
theorem eqvAll_self : ∀ ps : List PyData, PyData.canLayAll0 ps = true → PyData.eqvAll ps ps = true
  | [], _ => by simp only [PyData.eqvAll]
  | p :: ps, h => by
    simp only [PyData.canLayAll0, Bool.and_eq_true] at h
    simp only [PyData.eqvAll, eqv_self p h.1, eqvAll_self ps h.2, Bool.and_self]
end
/-- data that may be compared, at most n deep -/
def OkAt (n : Nat) (d : D) : Prop := d.toP.canLay0 = true ∧ d.toP.depth ≤ n
theorem OkAt.okD {n : Nat} {d : D} (h : OkAt n d) (hn : n ≤ 64) : okD d = true := by
  show (d.toP.canLay0 && decide (d.toP.depth ≤ 64)) = true
  rw [h.1, decide_eq_true (Nat.le_trans h.2 hn)] <;> rfl
theorem OkAt.mono {n m : Nat} {d : D} (h : OkAt n d) (l : n ≤ m) : OkAt m d := ⟨h.1, Nat.le_trans h.2 l⟩
theorem canAll : ∀ {l : List D}, (∀ x ∈ l, x.toP.canLay0 = true) → PyData.canLayAll0 (D.toPs l) = true
  | [], _ => by simp only [D.toPs, PyData.canLayAll0]
  | x :: r, h => by
    simp only [D.toPs, PyData.canLayAll0, h x List.mem_cons_self, canAll fun y hy => h y (List.mem_cons_of_mem _ hy), Bool.and_self]
theorem depAll {n : Nat} : ∀ {l : List D}, (∀ x ∈ l, x.toP.depth ≤ n) → PyData.depthAll (D.toPs l) ≤ n
  | [], _ => by simp only [D.toPs, PyData.depthAll]; exact Nat.zero_le _
  | x :: r, h => by
    have a := h x List.mem_cons_self
    have b := depAll fun y hy => h y (List.mem_cons_of_mem _ hy)
    simp only [D.toPs, PyData.depthAll]
    omega
theorem OkAt.tup {n : Nat} {l : List D} (h : ∀ x ∈ l, OkAt n x) : OkAt (n + 1) (.tup l) := by
  have a := canAll fun x hx => (h x hx).1
  have b := depAll fun x hx => (h x hx).2
  refine ⟨by simp only [D.toP, PyData.canLay0]; exact a, ?_⟩
  simp only [D.toP, PyData.depth]
  omega
theorem OkAt.lst {n : Nat} {l : List D} (h : ∀ x ∈ l, OkAt n x) : OkAt (n + 1) (.lst l) := by
  have a := canAll fun x hx => (h x hx).1
  have b := depAll fun x hx => (h x hx).2
  refine ⟨by simp only [D.toP, PyData.canLay0]; exact a, ?_⟩
  simp only [D.toP, PyData.depth]
  omega
theorem OkAt.int (i : Int) : OkAt 1 (.int i) := ⟨rfl, by simp only [D.toP, PyData.depth]; omega⟩
theorem OkAt.bl (b : Bool) : OkAt 1 (.bl b) := ⟨rfl, by simp only [D.toP, PyData.depth]; omega⟩
theorem OkAt.non : OkAt 1 .non := ⟨rfl, by simp only [D.toP, PyData.depth]; omega⟩
theorem deq_self {n : Nat} {d : D} (h : OkAt n d) : deq d d = true := eqv_self _ h.1
/-- x == x -/
theorem eq_self {n : Nat} {d : D} (h : OkAt n d) (hn : n ≤ 64) : gEq d d = some (.bl true) := by
  have o := h.okD hn
  have q := deq_self h
  unfold gEq
  split
  · rename_i i j e; simp
  · simp only [o, and_self, if_true, q]
theorem ne_self {n : Nat} {d : D} (h : OkAt n d) (hn : n ≤ 64) : gNe d d = some (.bl false) := by
  have o := h.okD hn
  have q := deq_self h
  unfold gNe
  split
  · rename_i i j e; simp
  · simp only [o, and_self, if_true, q, Bool.not_true]
theorem eq_gen {a b : D} (h1 : okD a = true) (h2 : okD b = true) (n : ∀ x y, a = .str x → b = .str y → False) : gEq a b = some (.bl (deq a b)) := by
  unfold gEq
  split
  · exact (n _ _ rfl rfl).elim
  · simp only [h1, h2, and_self, if_true]
theorem ne_gen {a b : D} (h1 : okD a = true) (h2 : okD b = true) (n : ∀ x y, a = .str x → b = .str y → False) : gNe a b = some (.bl (!deq a b)) := by
  unfold gNe
  split
  · exact (n _ _ rfl rfl).elim
  · simp only [h1, h2, and_self, if_true]

/-! ### comprehensions -/
section
variable {mi : MI} {mt : MG} {tt : MT} {te : ME} {vs : List Nat} {env e e1 e2 : En}
theorem lc_eq {ds acc : List D} (h : mi env = .ok ds e1) (hl : lcL mt tt te vs ds [] (wipeE vs e1) = .ok acc e2) : mLc mi mt tt te vs env = .ok (.lst acc) (resE vs e1 e2) := by
  simp only [mLc, h, R.bind, hl]
theorem lc_map (f : D → D) : ∀ (ds acc : List D), acc.length + ds.length ≤ 1000000 → (∀ d ∈ ds, ∃ e1 e2 e3, mt d e = some e1 ∧ tt e1 = .ok true e2 ∧ te e2 = .ok (f d) e3 ∧ wipeE vs e3 = e) → lcL mt tt te vs ds acc e = .ok (acc ++ ds.map f) e
  | [], acc, _, _ => by simp [lcL]
  | d :: ds, acc, hl, h => by
    obtain ⟨e1, e2, e3, h1, h2, h3, h4⟩ := h d List.mem_cons_self
    have hl' : acc.length + (ds.length + 1) ≤ 1000000 := hl
    have ih := lc_map f ds (acc ++ [f d]) (by simp; omega) fun x hx => h x (List.mem_cons_of_mem _ hx)
    simp only [lcL, h1, h2, h3, h4, if_pos (show acc.length ≤ 1000000 by omega), ih, List.map_cons, List.append_assoc, List.singleton_append]
theorem lc_map2 {γ : Type} (g f : γ → D) : ∀ (l : List γ) (acc : List D), acc.length + l.length ≤ 1000000 → (∀ c ∈ l, ∃ e1 e2 e3, mt (g c) e = some e1 ∧ tt e1 = .ok true e2 ∧ te e2 = .ok (f c) e3 ∧ wipeE vs e3 = e) → lcL mt tt te vs (l.map g) acc e = .ok (acc ++ l.map f) e
  | [], acc, _, _ => by simp [lcL]
  | c :: l, acc, hl, h => by
    obtain ⟨e1, e2, e3, h1, h2, h3, h4⟩ := h c List.mem_cons_self
    have hl' : acc.length + (l.length + 1) ≤ 1000000 := hl
    have ih := lc_map2 g f l (acc ++ [f c]) (by simp; omega) fun x hx => h x (List.mem_cons_of_mem _ hx)
    simp only [List.map_cons, lcL, h1, h2, h3, h4, if_pos (show acc.length ≤ 1000000 by omega), ih, List.append_assoc, List.singleton_append]
/-- none is taken -/
theorem lc_none : ∀ (ds acc : List D), (∀ d ∈ ds, ∃ e1 e2, mt d e = some e1 ∧ tt e1 = .ok false e2 ∧ wipeE vs e2 = e) → lcL mt tt te vs ds acc e = .ok acc e
  | [], acc, _ => by simp [lcL]
  | d :: ds, acc, h => by
    obtain ⟨e1, e2, h1, h2, h3⟩ := h d List.mem_cons_self
    simp only [lcL, h1, h2, h3, lc_none ds acc fun x hx => h x (List.mem_cons_of_mem _ hx)]
/-- what is made, by an invariant -/
theorem lc_inv (P : List D → En → Prop) : ∀ (ds acc : List D) (e : En), acc.length + ds.length ≤ 1000000 → P acc e → (∀ acc e d, P acc e → d ∈ ds → ∃ e1 e2 y e3, mt d e = some e1 ∧ tt e1 = .ok true e2 ∧ te e2 = .ok y e3 ∧ P (acc ++ [y]) (wipeE vs e3)) → ∃ acc' e', lcL mt tt te vs ds acc e = .ok acc' e' ∧ P acc' e' ∧ acc'.length = acc.length + ds.length
  | [], acc, e, _, p, _ => ⟨acc, e, by simp [lcL], p, rfl⟩
  | d :: ds, acc, e, hl, p, h => by
    obtain ⟨e1, e2, y, e3, h1, h2, h3, h4⟩ := h acc e d p List.mem_cons_self
    have hl' : acc.length + (ds.length + 1) ≤ 1000000 := hl
    obtain ⟨acc', e', h5, h6, h7⟩ := lc_inv P ds (acc ++ [y]) (wipeE vs e3) (by simp; omega) h4 fun a e d' p' hd => h a e d' p' (List.mem_cons_of_mem _ hd)
    exact ⟨acc', e', by simp only [lcL, h1, h2, h3, if_pos (show acc.length ≤ 1000000 by omega), h5], h6, by rw [h7]; simp; omega⟩
end
/-! ### calls, bodies -/
section
variable {own : Bool} {n : Nat} {m : MS} {ds : List D} {d : D} {e : En} {x : Er}
theorem body_rt (h : m (startE n ds) = .rt d e) : bodyF own n m ds = .ok d (ownOut own e) := by unfold bodyF; rw [h]
theorem body_nx (h : m (startE n ds) = .nx e) : bodyF own n m ds = .ok .non (ownOut own e) := by unfold bodyF; rw [h]
theorem body_err (h : m (startE n ds) = .err x) : bodyF false n m ds = .err x := by unfold bodyF; rw [h] <;> rfl
end
/-! ### texts -/
theorem split_join {c : Nat} (hc : c < 256) {ls : List Str} (hne : ls ≠ []) (h : ∀ l ∈ ls, c ∉ l.cps.toList) : Txt.split (Txt.join (SX.S [c]) ls) (SX.S [c]) = ls := by
  have e : ls = (ls.map fun l => l.cps.toList).map SX.S := by
    rw [List.map_map]
    conv => lhs; rw [← List.map_id ls]
    exact List.map_congr_left fun l _ => (SX.S_tl l).symm
  rw [e, SX.join_S, SX.split_S (by simp) (by simp [hc]), SX.spl_join (by simpa using hne) fun p hp => ?_]
  obtain ⟨l, hl, rfl⟩ := List.mem_map.mp hp
  exact h l hl
/-! ### rules for what a block ends with -/
section
variable {R : RS → Prop} {a b : MS} {mi : MI} {mt : MG} {env e1 : En} {ds : List D}
theorem r_step (h : a env = .nx e1) (k : R (b e1)) : R (mSeq a b env) := by rw [mSeq_eq h]; exact k
theorem r_ex {Q : En → Prop} (h : ∃ e, a env = .nx e ∧ Q e) (k : ∀ e, Q e → R (b e)) : R (mSeq a b env) := by
  obtain ⟨e, h, q⟩ := h
  rw [mSeq_eq h]
  exact k e q
theorem n_step {P : En → Prop} (h : a env = .nx e1) (k : ∃ e2, b e1 = .nx e2 ∧ P e2) : ∃ e2, mSeq a b env = .nx e2 ∧ P e2 := by rw [mSeq_eq h]; exact k
theorem n_ex {P : En → Prop} (Q : En → Prop) (h : ∃ e, a env = .nx e ∧ Q e) (k : ∀ e, Q e → ∃ e2, b e = .nx e2 ∧ P e2) : ∃ e2, mSeq a b env = .nx e2 ∧ P e2 := by
  obtain ⟨e, h, q⟩ := h
  rw [mSeq_eq h]
  exact k e q
theorem t_step {d : D} (h : a env = .nx e1) (k : ∃ e2, b e1 = .rt d e2) : ∃ e2, mSeq a b env = .rt d e2 := by rw [mSeq_eq h]; exact k
theorem t_ex {d : D} (Q : En → Prop) (h : ∃ e, a env = .nx e ∧ Q e) (k : ∀ e, Q e → ∃ e2, b e = .rt d e2) : ∃ e2, mSeq a b env = .rt d e2 := by
  obtain ⟨e, h, q⟩ := h
  rw [mSeq_eq h]
  exact k e q
theorem ex_for (P : En → Prop) (h : mi env = .ok ds e1) (p : P e1) (step : ∀ d ∈ ds, ∀ e, P e → ∃ e1, mt d e = some e1 ∧ ∃ e2, a e1 = .nx e2 ∧ P e2) : ∃ e, mFor mi mt a env = .nx e ∧ P e := by
  rw [for_eq h]
  exact for_inv P ds e1 p fun d hd e pe => by
    obtain ⟨f1, h1, f2, h2, h3⟩ := step d hd e pe
    exact ⟨f1, f2, h1, h2, h3⟩
theorem ex_for2 (P : Nat → En → Prop) (h : mi env = .ok ds e1) (p : P 0 e1) (step : ∀ j d e, ds[j]? = some d → P j e → ∃ e1, mt d e = some e1 ∧ ∃ e2, a e1 = .nx e2 ∧ P (j + 1) e2) : ∃ e, mFor mi mt a env = .nx e ∧ P ds.length e := by
  rw [for_eq h]
  obtain ⟨e', h1, h2⟩ := for_inv2 (mt := mt) (mb := a) P ds 0 e1 p fun j d e hd pe => by
    rw [Nat.zero_add] at pe
    obtain ⟨f1, h1, f2, h2, h3⟩ := step j d e hd pe
    exact ⟨f1, f2, h1, h2, by rw [Nat.zero_add]; exact h3⟩
  rw [Nat.zero_add] at h2
  exact ⟨e', h1, h2⟩
end
theorem told_err {ers : List Str} {ow : List Nat} {m : ME} {env : En} {x : Er} {d : D} (h : m (wipeE ow env) = .err x) (ht : toldK ers x = some d) : mTold ers ow m env = .ok d env := by
  simp only [mTold, h, ht]
theorem told_ok {ers : List Str} {ow : List Nat} {m : ME} {env e : En} {d : D} (h : m (wipeE ow env) = .ok d e) : mTold ers ow m env = .ok (.tup [.str (Str.ofString "told"), d]) env := by
  simp only [mTold, h]
end FT

set_option Elab.async false
set_option linter.all false
set_option maxRecDepth 100000
set_option maxHeartbeats 2000000
/-! FTW: raise X(n), X with an __init__ that calls its base's and keeps n in a field. -/
namespace FT
open PySem PySem.Spec PyProof.Rows L2 L2H

section
variable {X : Cx}
/-- C(e), C's own __init__ walked; the context of what is made is None -/
theorem pmkN_oex {CX : CXT} {x : Str} {C fI : Addr} {k : Nat} {fd : FuncData} {ps : List Str} {sp : Sp} {e : Expr} {es : List Expr} {ta : TA} {p pos : Pos} (T : OexC X.K C) (iC : PySem.W.findIn X.K (.ref C) "__init__" = some (some (.ref fI))) (tI : PySem.W.typeIn X.K (.ref fI) = some (.type "function"))
    (F1 : FnOk X.prog X.w X.K X.mg X.base CX k fI fd ps sp) (hr : Room (k + 1) X.A) (hb : Binds X.K fd ps []) (hx : Passes CX X (fun _ _ _ => False)) (hg : Gl X x) (hm : X.mg x = some (.ref C)) (ha : PA X (e :: es) ta)
    (hdb : (x == ("__debug__" : Str)) = false := by decide) (he : starEach (e :: es) X.env = (false, eval e X.env) :: starEach es X.env := by rfl) (hpl : (backTo pos (starEach es X.env)).any (·.1) = false := by rfl) :
    L2N.PMk X (.Call (.Name x p) (e :: es) [] pos) (tMkO C sp [] ta) := by
  intro pins s σ H Q I h
  obtain ⟨n1, n2, n3, n4, bm, n5, n6, n7, n8, n9, j0, j1, j2, j3, j5, lC, vb⟩ := T.cls
  refine wpAny_Call_Name_kw (ld_glob I hg hm ?_ hdb)
  refine PySem.W.callWith_K (h₀ := X.base) I.ok.mod.kin T.kC (thn (ha.run pos pins s σ H _ I h) fun us s1 ⟨vs, H1, I1, r1, hz, q1⟩ => ⟨I1.kIn, ?_⟩) he hpl
  show wpAny _ _ (call (.ref C) us) _ _ _
  obtain ⟨g0, gg, dr, tk, os⟩ := s1
  have new : H1 (g0.objs.size + 1) = none := I1.hok.fresh (Nat.le_succ _)
  have sp1 := q1 (g0.objs.size + 1) new
  rw [List.append_nil] at sp1
  have up : ∀ b o, g0.get? b = some o → ((g0.push (PySem.W.kdv_tup us)).push (PySem.HandSPX.excO C g0.objs.size)).get? b = some o := fun b o q => Heap.get?_push_of_some _ (Heap.get?_push_of_some _ q)
  have there : ((g0.push (PySem.W.kdv_tup us)).push (PySem.HandSPX.excO C g0.objs.size)).get? (g0.objs.size + 1) = some (PySem.HandSPX.excO C g0.objs.size) := by heap_get
  have J : Inv X pins σ (upd H1 (g0.objs.size + 1) (exo (g0.objs.size + 1) C none)) ⟨(g0.push (PySem.W.kdv_tup us)).push (PySem.HandSPX.excO C g0.objs.size), gg, dr, tk, os⟩ :=
    I1.laid (t' := tk) (a := g0.objs.size + 1) (o := exo (g0.objs.size + 1) C none) (h' := (g0.push (PySem.W.kdv_tup us)).push (PySem.HandSPX.excO C g0.objs.size)) up (Nat.le_succ _) (exo_ok there)
  have rr : Vals (V.ref (g0.objs.size + 1) :: vs) (Value.ref (g0.objs.size + 1) :: us) := .cons rfl r1
  have ll : (Value.ref (g0.objs.size + 1) :: us).length = ps.length := by
    have z := rr.length
    rw [F1.len _ _ _ _ sp1] at z
    exact z.symm
  have b2 := hb _ (Value.ref (g0.objs.size + 1) :: us) J.kIn (by rw [List.append_nil]; exact ll)
  rw [List.append_nil] at b2
  have su : us.length ≤ sizeLine := by
    rw [← Paired.length r1, sizeLine_eq]
    omega
  refine wpAny_call (PySem.HandSPX.call_own F.excBase_ValueError (fun Y => PySem.HandSPX.refsVE_contains Y bm vb) (I1.kIn _ _ lC) (PySem.W.looks_findIn I1.kIn iC) (fun self => PySem.W.bind_fn I1.kIn self tI) su
    (codeAny_mono (F1.run _ X.stack _ _ ⟨Value.ref (g0.objs.size + 1) :: us, []⟩ (Value.ref (g0.objs.size + 1) :: us) _ _ (fun _ _ _ => False) (hr.make C us []) (J.env0.make C us []) b2 rr sp1) fun r s' hq => ?_))
  cases r with
  | error er => exact hx pins σ _ _ er s' J hq
  | ok fl =>
    cases fl with
    | ret u =>
      obtain ⟨v, H2, os2, bare2, un2, hok2, rv, ev, d, fs, ea, ed, hd1, q2⟩ := hq
      subst ev
      obtain ⟨h2, g2, d2, t2, os'⟩ := s'
      obtain ⟨t0, G, J2, kG, ge, hoe, na⟩ := mk_end0 (d2 := d2) (t2 := t2) I1 (Nat.le_succ _) up un2 hok2 os2 bare2 ea ed hd1
      refine ⟨rv, g0.objs.size + 1, _, _, ⟨G, g2, d2, t2, os'⟩, _, .ref C, some d, rfl, J2, kG, ge, hoe, ⟨rfl, rfl, fun ws hv => ?_⟩, rfl, rfl, na, rfl, bare2, raises_own T.exC T.tyC, q2⟩
      cases hv
      rfl
    | next => exact False.elim hq
    | brk => exact False.elim hq
    | cont => exact False.elim hq
/-- B.__init__(self, ..), B an own class above -/
theorem pe_binit {pl : Sem Bool} {x : Str} {B : Addr} {e : Expr} {es : List Expr} {ta : TA} {p1 p2 pos : Pos} (hg : Gl X x) (hm : X.mg x = some (.ref B)) (rd : PySem.W.readsIn X.K B (.type "type") = true) (ga : PySem.W.specialIn X.K (.ref B) "__getattribute__" = some (some (.builtin "type.__getattribute__")))
    (fv : PySem.W.findCls X.K (.ref B) (.type "type") "__init__" = some (.val (.builtin "ValueError.__init__"))) (ha : PA X (e :: es) ta) (hdb : (x == ("__debug__" : Str)) = false := by decide)
    (hc : eval (.Call (.Attribute (.Name x p1) "__init__" p2) (e :: es) [] pos) X.env = (do
      let ov ← eval (.Name x p1) X.env
      standAt p2.atName
      let (f, first) ← holding [ov] (getMethod ov "__init__" pl)
      callWith pos f first (backTo pos (starEach (e :: es) X.env)) (backToKw pos (keywordEach [] X.env))) := by rfl)
    (he : starEach (e :: es) X.env = (false, eval e X.env) :: starEach es X.env := by rfl) (hpl : (backTo pos (starEach es X.env)).any (·.1) = false := by rfl) :
    PE X (.Call (.Attribute (.Name x p1) "__init__" p2) (e :: es) [] pos) (tVeI X.K ta) := by
  refine ⟨fun pins s σ H Q I h => ?_⟩
  refine PySem.W.methodCall_KW (ld_glob I hg hm ?_ hdb) hc
  refine PySem.W.method_cls I.kIn ga (PySem.W.cls_value I.kIn rd fv (by decide +kernel) ?_)
  show wpAny _ _ (callWith pos (Value.builtin "ValueError.__init__") [] (backTo pos (starEach (e :: es) X.env)) []) _ _ _
  refine PyProof.Rows.callWith_method1 (thn (ha.run pos pins _ σ H _ (I.tok _) h) fun us s1 ⟨vs, H1, I1, r1, a, C, ws, ev, hl, T, ea, q⟩ => ?_) he hpl
  subst ev
  cases r1 with
  | @cons _ u0 _ ur ra rw' =>
    obtain rfl : u0 = Value.ref a := ra
    exact oinit_ok T I1 ea (by rw [← Paired.length rw', sizeLine_eq]; omega) fun s' J => ⟨.non, H1, J, rfl, q⟩
end
/-- what an __init__ does that keeps its number in the field f -/
def spInit (C : Addr) (f : Str) : Sp := fun vs H Q _ => ∃ (a : Addr) (i : Int), vs = [.ref a, .int i] ∧ H a = some (exo a C none) ∧ ∀ d, H d = none → d ≠ a → Q .non (upd (upd H d (exd d [(f, .int i)])) a (exo a C (some d)))
/-- an error class with such an __init__ -/
structure ErrI (P : Program) (w : World) (K : PySem.W.Frag) (mg : Str → Option Value) (base : Heap) (k : Nat) (x f : Str) (C : Addr) : Prop where
  gC : mg x = some (.ref C)
  oex : OexC K C
  init : ∃ (fI : Addr) (fd : FuncData) (ps : List Str), PySem.W.findIn K (.ref C) "__init__" = some (some (.ref fI)) ∧ PySem.W.typeIn K (.ref fI) = some (.type "function") ∧ FnOk P w K mg base (L2N.CX P w) k fI fd ps (spInit C f) ∧ Binds K fd ps []
def mRaiseI (x f : Str) (m : ME) : MS := fun env => bindS (m env) fun d _ => match d with
  | .int i => .err ⟨x, some (f, i)⟩
  | _ => .stuck
section
variable {X : Cx} {G : Gh} {j k : Nat}
theorem ss_raiseI {x f : Str} {e : Expr} {m : ME} {p pos pos2 : Pos} (xs : XS X G k) (hc : ∃ C, ErrI X.prog X.w X.K X.mg X.base j x f C) (hj : j + 1 ≤ k) (h : SE X G e m) (hg : Gl X x) (hdb : (x == ("__debug__" : Str)) = false := by decide)
    (he : starEach [e] X.env = (false, eval e X.env) :: starEach [] X.env := by rfl) (hpl : (backTo pos (starEach [] X.env)).any (·.1) = false := by rfl) :
    SS X G (.Raise (some (.Call (.Name x p) [e] [] pos)) none pos2) (mRaiseI x f m) := by
  obtain ⟨C, c⟩ := hc
  obtain ⟨fI, fd, ps, i1, i2, i3, i4⟩ := c.init
  have px : Passes (L2N.CX X.prog X.w) X (fun _ _ _ => False) := L2N.passes_call takesF fun _ _ _ _ z => z
  refine PS.imp (L2N.ps_raise xs.calm xs.tk (pmkN_oex c.oex i1 i2 i3 (xs.room.mono hj) i4 px hg c.gC (pa_cons h pa_nil he) hdb he hpl)) fun D σ H ⟨env, s, q⟩ => ?_
  refine (TEo.bindS s (PostS G D σ H) (fun z => z) (fun _ z => z) q).mono fun v H1 ⟨d, e1, ⟨s1, st1, g1⟩, q1⟩ => ?_
  cases d with
  | int i =>
    cases g1
    refine ⟨by simp, fun a na => ⟨a, i, rfl, upd_same, fun d nd ne => ⟨rfl, d, [(f, .int i)], upd_same, ?_, ?_, ?_⟩⟩⟩
    · rw [upd_ne ne, upd_same]
    · rw [upd_ne ne] at nd
      exact nd
    · have nd' : H1 d = none := by rw [upd_ne ne] at nd; exact nd
      have keep : ∀ b u, H1 b = some u → (upd (del (upd (upd (upd H1 a (exo a C none)) d (exd d [(f, .int i)])) a (exo a C (some d))) a) d (.xd [(f, .int i)])) b = some u := fun b u hb => by
        have nb : b ≠ a := fun z => by rw [z, na] at hb; cases hb
        have nb2 : b ≠ d := fun z => by rw [z, nd'] at hb; cases hb
        rw [upd_ne nb2, del_ne nb, upd_ne nb, upd_ne nb2, upd_ne nb]
        exact hb
      exact q1 (.ref C) (some d) _ ⟨s1.tabs.ext keep, fun b o h1 h2 h3 => keep b o (s1.frame b o h1 h2 h3), C, by rw [← xs.mg]; exact c.gC, rfl, d, rfl, upd_same⟩
  | _ => exact q1.elim
end
/-- such an __init__, by its text -/
structure InitT (K : PySem.W.Frag) (mg : Str → Option Value) (x B f : Str) (st : Stmt) (C : Addr) : Prop where
  gC : mg x = some (.ref C)
  oex : OexC K C
  noF : PySem.W.findIn K (.ref C) f = some none
  init : ∃ (fI : Addr) (fd : FuncData), PySem.W.findIn K (.ref C) "__init__" = some (some (.ref fI)) ∧ PySem.W.typeIn K (.ref fI) = some (.type "function") ∧ Fun K "__init__" (x ++ Str.ofString ".__init__") st fI fd
  base : ∃ Ba, mg B = some (.ref Ba) ∧ PySem.W.readsIn K Ba (.type "type") = true ∧ PySem.W.specialIn K (.ref Ba) "__getattribute__" = some (some (.builtin "type.__getattribute__")) ∧ PySem.W.findCls K (.ref Ba) (.type "type") "__init__" = some (.val (.builtin "ValueError.__init__"))
theorem err_init {P : Program} {w : World} {K : PySem.W.Frag} {mg : Str → Option Value} {base : Heap} {x B f msg self par : Str} {st : Stmt} {C : Addr} (c : InitT K mg x B f st C) (S : FnScope [self, par] [self, par] (defScope st))
    (hb : ∀ (q : Str) (kV doc pm : Value) (an : Option Addr) (cdv ct : Value) (us : List Value), us.length = 2 → bindArgs (PySem.W.fnOf "__init__" q (defArgs st) (defBody st) (defScope st) .none kV doc pm an cdv ct) ⟨us, []⟩ = pure ([self, par].zip us))
    (body : ∀ (fI : Addr) (cdv : Value) (A : Around) (outer : List Env) (s : Shared) (H : Hp) (E : XK) (Ba : Addr), mg B = some (.ref Ba) → PySem.W.readsIn K Ba (.type "type") = true → PySem.W.specialIn K (.ref Ba) "__getattribute__" = some (some (.builtin "type.__getattribute__")) →
      PySem.W.findCls K (.ref Ba) (.type "type") "__init__" = some (.val (.builtin "ValueError.__init__")) →
      PSs (cxOf (L2N.CX P w) P w K mg base [self, par] (x ++ Str.ofString ".__init__") (defScope st) fI cdv A outer s H E) (defBody st) (tSeq (tDrop (tVeI K (tCons (tVar 0) (tCons (tC (.str msg)) tNil)))) (tOst K f (tVar 0) (tVar 1)))) : ErrI P w K mg base 1 x f C := by
  obtain ⟨fI, fd, i1, i2, F⟩ := c.init
  obtain ⟨Ba, b1, b2, b3, b4⟩ := c.base
  refine ⟨c.gC, c.oex, fI, fd, [self, par], i1, i2, ?_, F.binds (ps := [self, par]) (hb _)⟩
  obtain ⟨oc, od, kV, doc, pm, an, cdv, ct, osl, rfl, lk, hcd⟩ := F.ex
  refine fn_of (N := [self, par]) lk hcd S (fun vs H Q E h => ?_) fun A outer s H vs Q E hr h => ?_
  · obtain ⟨a, i, rfl, _⟩ := h
    rfl
  · obtain ⟨a, i, rfl, ea, q⟩ := h
    refine ⟨_, body fI cdv A outer s H E Ba b1 b2 b3 b4, _, rfl, a, C, [.str msg], rfl, by simp, c.oex, ea, ?_⟩
    exact ⟨_, rfl, _, rfl, a, C, rfl, c.oex, c.noF, .inl ⟨ea, fun d nd ne => q d nd ne⟩⟩
end FT

set_option Elab.async false
set_option linter.all false
set_option maxRecDepth 100000
set_option maxHeartbeats 1000000
/-! FTX: enumerate, xs[::-1], xs.index(x). -/
namespace FT
open PySem PySem.Spec PyProof.Rows L2

section
variable {X : Cx} {G : Gh} {k : Nat}
def enumD (ds : List D) : List D := ds.zipIdx.map fun p => .tup [.int (p.2 : Nat), p.1]
def mEnum (m : ME) : MI := fun env => (m env).bind fun d s => match d with
  | .lst ds => .ok (enumD ds) s
  | _ => .stuck
theorem enumD_get {ds : List D} {i : Nat} {d : D} (h : (enumD ds)[i]? = some d) : ∃ x, ds[i]? = some x ∧ d = .tup [.int (i : Nat), x] := by
  unfold enumD at h
  rw [List.getElem?_map, List.getElem?_zipIdx] at h
  cases q : ds[i]? with
  | none => rw [q] at h; cases h
  | some x => rw [q] at h; simp at h; exact ⟨x, rfl, h.symm⟩
theorem jok_enum {a : Addr} {ds : List D} {K : PySem.W.Frag} {mg : Str → Option Value} {av : Addr → Prop} {H : Hp} (h : Rep K mg H av (.lst ds) (.ref a)) : JOk K mg (Ite K a) (enumD ds) av H (fun _ av H => Rep K mg H av (.lst ds) (.ref a)) where
  at0 := h
  keep := fun _ _ _ _ _ p k => k _ _ p
  stop := fun i av H p hl => by
    obtain ⟨a', vs, e, h1, r1⟩ := p.lst_inv
    cases e
    exact ⟨vs, .of h1, by rw [← r1.length]; simpa [enumD] using hl⟩
  go := fun i av H d hav p hd => by
    obtain ⟨x, ex, rfl⟩ := enumD_get hd
    obtain ⟨a', vs, e, h1, r1⟩ := p.lst_inv
    cases e
    obtain ⟨v, ev, rv⟩ := r1.get ex
    refine ⟨⟨vs, v, .of h1, ev⟩, fun y H' hy => ?_⟩
    obtain ⟨T, x', rfl, nT, rfl, hx⟩ := hy
    have e2 := hx vs (.of h1)
    rw [ev] at e2
    cases e2
    exact ⟨Ext.upd nT, .tup upd_same (new_no hav nT) (.cons (.int _) (.cons (rv.ext (Ext.upd nT)) .nil)), p.ext (Ext.upd nT)⟩
theorem si_enum {elts : List Expr} {kk : Nat} {tpos : Pos} {e : Expr} {m : ME} {p pos : Pos} (hK : X.K = G.K) (hg : Gl X "enumerate") (hm : X.mg "enumerate" = none) (h : SE X G e m) (hs : starEach [e] X.env = [(false, eval e X.env)] := by rfl) :
    SI X G (.Tuple elts kk tpos) (.Call (.Name "enumerate" p) [e] [] pos) (mEnum m) := PI.imp (pi_enum hg hm (pa_cons h pa_nil (by rw [hs]; rfl)) hs) fun σ H Q ⟨env, s, q⟩ => by
  refine (TEo.bind s (PostI G σ H Q) (fun z => z) (fun _ z => z) q).mono fun x H1 ⟨d, e1, ⟨s1, st1, g1⟩, q1⟩ => ?_
  cases d with
  | lst ds =>
    have g2 := g1
    obtain ⟨a, vs, rfl, h1, r1⟩ := g1.lst_inv
    refine ⟨a, vs, rfl, .of h1, ?_⟩
    rw [hK]
    exact q1 _ _ H1 s1 st1 (jok_enum g2)
  | _ => exact q1.elim
/-- xs[::-1] -/
def mRevL (m : ME) : ME := fun env => (m env).bind fun d s => match d with
  | .lst ds => .ok (.lst ds.reverse) s
  | _ => .stuck
theorem se_revL {e : Expr} {m : ME} {k : Nat} {p1 p2 p3 pos : Pos} (h : SE X G e m) : SE X G (.Subscript e (.Slice none none (some (.UnaryOp .USub (.Constant (.int 1) k p1) p2)) p3) pos) (mRevL m) := PE.imp (pe_revL h) fun σ H Q ⟨env, s, q⟩ => by
  refine (TEo.bind s (Post G σ H Q) (fun z => z) (fun _ z => z) q).mono fun x H1 ⟨d, e1, ⟨s1, st1, g1⟩, q1⟩ => ?_
  cases d with
  | lst ds =>
    obtain ⟨a, vs, rfl, h1, r1⟩ := g1.lst_inv
    exact ⟨a, vs, rfl, .of h1, fun p n => q1 _ _ (s1.ext (Ext.upd n)) (st1.trans ((Ext.upd n).stay _)) (.lst upd_same (s1.newA n) (r1.rev_aux.ext (Ext.upd n)))⟩
  | _ => exact q1.elim
/-- xs.index(x), x among them -/
def firstEq (x : D) : List D → Option Nat
  | [] => none
  | y :: r => if deq y x = true then some 0 else (firstEq x r).map (· + 1)
theorem firstEq_get {x : D} : ∀ {ds : List D} {j : Nat}, firstEq x ds = some j → (∃ y, ds[j]? = some y ∧ deq y x = true) ∧ ∀ m y, m < j → ds[m]? = some y → deq y x = false
  | [], _, h => by cases h
  | d :: ds, j, h => by
    unfold firstEq at h
    split at h
    · rename_i hd
      cases h
      exact ⟨⟨d, rfl, hd⟩, fun m y hm => absurd hm (Nat.not_lt_zero _)⟩
    · rename_i hd
      cases q : firstEq x ds with
      | none => rw [q] at h; cases h
      | some i =>
        rw [q] at h
        cases h
        obtain ⟨⟨y, e, hy⟩, no⟩ := firstEq_get q
        refine ⟨⟨y, by simpa using e, hy⟩, fun m z hm hz => ?_⟩
        cases m with
        | zero => simp at hz; subst hz; simpa using hd
        | succ m => exact no m z (by have hm : m + 1 < i + 1 := hm; omega) (by simpa using hz)
def mIndex (m mx : ME) : ME := fun env => (m env).bind fun d s => match d with
  | .lst ds => (mx s).bind fun x s' => if okD (.lst ds) = true ∧ okD x = true then (match firstEq x ds with
    | some j => .ok (.int (j : Nat)) s'
    | none => .stuck) else .stuck
  | _ => .stuck
theorem toPs_get {ds : List D} {j : Nat} {z : PyData} (h : (D.toPs ds)[j]? = some z) : ∃ d, ds[j]? = some d ∧ z = d.toP := by
  rw [toPs_map, List.getElem?_map] at h
  cases q : ds[j]? with
  | none => rw [q] at h; cases h
  | some d => rw [q] at h; cases h; exact ⟨d, rfl, rfl⟩
theorem se_index {o e : Expr} {m mx : ME} {apos cpos : Pos} (x : XG X G k) (ho : SE X G o m) (he : SE X G e mx)
    (hbase : attributeBase o "index" X.env (eval o X.env) = eval o X.env := by rfl)
    (hfew : ((backTo cpos (starEach (e :: []) X.env)).all (fun x => !x.1) && (backToKw cpos (keywordEach [] X.env)).all (fun x => x.1.isSome)
      && decide ((e :: ([] : List Expr)).length + ([] : List Keyword).length + (if ([] : List Keyword).isEmpty then 0 else 1) < 30)) = true := by rfl)
    (hline : (apos.endLine == cpos.line) = true := by rfl) (hs : starEach (e :: []) X.env = (false, eval e X.env) :: starEach [] X.env := by rfl) (hplain : (backTo cpos (starEach [] X.env)).any (·.1) = false := by rfl) :
    SE X G (.Call (.Attribute o "index" apos) [e] [] cpos) (mIndex m mx) := PE.imp (pe_bm PySem.F.plainAttrs_list PySem.F.slot_list_index PySem.F.type_list_index (mt_indexD x.units) ho (pa_cons he pa_nil hs) hbase hfew hline hs hplain) fun σ H Q ⟨env, s, q⟩ => by
  refine (TEo.bind s (Post G σ H Q) (fun z => z) (fun _ z => z) q).mono fun v H1 ⟨d, e1, ⟨s1, st1, g1⟩, q1⟩ => ?_
  cases d with
  | lst ds =>
    have g2 := g1
    obtain ⟨a, vs, rfl, h1, r1⟩ := g1.lst_inv
    refine ⟨.inl ⟨rfl, _, .of h1⟩, ?_⟩
    have q1 : Post G σ H Q ((mx e1).bind fun x s' => if okD (.lst ds) = true ∧ okD x = true then (match firstEq x ds with
      | some j => .ok (.int (j : Nat)) s'
      | none => .stuck) else .stuck) := q1
    refine (TEo.bind s1 (Post G σ H Q) (fun z => z) (fun _ z => z) q1).mono fun y H2 ⟨dx, e2, ⟨s2, st2, g3⟩, q2⟩ => ?_
    split at q2
    rotate_left
    · exact q2.elim
    rename_i ok
    split at q2
    rotate_left
    · exact q2.elim
    rename_i j hj
    obtain ⟨⟨z, ez, hz⟩, no⟩ := firstEq_get hj
    have gl : Rep G.K G.mg H2 (Av G σ) (.lst ds) (.ref a) := g2.stay st2.av
    have dl := x.dp (RepT.dp (.val gl) ok.1)
    have dy := x.dp (RepT.dp (.val g3) ok.2)
    have tl : D.toP (.lst ds) = .list (D.toPs ds) := by simp only [D.toP]
    rw [tl] at dl
    have sl : SeqAt.shaped (.list (D.toPs ds)) = true := by rw [← tl]; exact ok.1
    exact ⟨a, y, dx.toP, D.toPs ds, j, z.toP, rfl, rfl, dl, dy, sl, ok.2, by rw [toPs_map, List.getElem?_map, ez] <;> rfl, hz, fun m z' hm hz' => by
      obtain ⟨d', e', rfl⟩ := toPs_get hz'
      exact no m d' hm e', q2 _ H2 s2 (st1.trans st2) (.int _)⟩
  | _ => exact q1.elim
end
end FT

set_option Elab.async false
set_option linter.all false
set_option maxRecDepth 100000
set_option maxHeartbeats 1000000
/-! FTY: facts of error classes with an __init__. -/
namespace FT
open PySem PySem.Spec PyProof.Rows L2 He

section
variable {K : PySem.W.Frag} {h : Heap} {mg : Str → Option Value}
def oexO (C : Addr) (o : Option Obj) : Bool := match o with
  | some ⟨.type t, _, .cls ⟨_, _, .ref C' :: bm, _, _, hd, _, _, _, _, del⟩, ⟨[_, _, _, _, some (.builtin n), _]⟩⟩ => decide (t = "type") && (decide (C' = C) && (PySem.HandSPX.refsVE bm && (hd && (!del && decide (n = "ValueError.__new__")))))
  | _ => false
def oexB (K : PySem.W.Frag) (C : Addr) : Bool := oexO C (K.lookup C) && (eqO (PySem.W.findIn K (.ref C) "__setattr__") (some (some (.builtin "object.__setattr__"))) && (decide (PySem.W.subIn K (.ref C) (.type "BaseException") = some true) &&
  (decide (PySem.W.typeIn K (.ref C) = some (.type "type")) && PySem.W.keepIn K (.ref C))))
theorem oexO_ok {C : Addr} {o : Option Obj} (c : oexO C o = true) : ∃ nm q N bs bm sn sub ab col dd k0 k1 k2 k3 k5, o = some (excClassObj nm q C N bs bm true sn sub ab col dd k0 k1 k2 k3 k5 "ValueError.__new__") ∧ PySem.HandSPX.refsVE bm = true := by
  unfold oexO at c
  split at c
  · simp only [Bool.and_eq_true, decide_eq_true_eq, Bool.not_eq_true'] at c
    obtain ⟨rfl, rfl, c3, rfl, rfl, rfl⟩ := c
    exact ⟨_, _, _, _, _, _, _, _, _, _, _, _, _, _, _, rfl, c3⟩
  · cases c
theorem oexB_ok {C : Addr} (c : oexB K C = true) : OexC K C := by
  simp only [oexB, Bool.and_eq_true, decide_eq_true_eq] at c
  obtain ⟨c1, c2, c3, c4, c5⟩ := c
  exact ⟨oexO_ok c1, eqO_ok c2, c3, c4, c5⟩
/-- the i-th statement of a class -/
def clsAt (st : Stmt) (i : Nat) : Stmt := match st with
  | .ClassDef _ _ _ body _ _ _ _ _ _ _ => body.getD i (.Pass ⟨0, 0, 0, 0⟩)
  | _ => .Pass ⟨0, 0, 0, 0⟩
def dInit (x : Str) (st : Stmt) : DefD := ⟨(x, some "__init__"), "__init__", x ++ Str.ofString ".__init__", defArgs st, defBody st, defScope st, [], []⟩
def initB (K : PySem.W.Frag) (x B f : Str) : Bool := isG K x && (oexB K (ga K x) && (eqO (PySem.W.findIn K (.ref (ga K x)) f) (some none) && (eqO (PySem.W.findIn K (.ref (ga K x)) "__init__") (some (some (.ref (ma K (ga K x) "__init__")))) &&
  (decide (PySem.W.typeIn K (.ref (ma K (ga K x) "__init__")) = some (.type "function")) && (isG K B && (PySem.W.readsIn K (ga K B) (.type "type") && (eqO (PySem.W.specialIn K (.ref (ga K B)) "__getattribute__") (some (some (.builtin "type.__getattribute__"))) &&
  (match PySem.W.findCls K (.ref (ga K B)) (.type "type") "__init__" with
    | some (.val (.builtin n)) => decide (n = "ValueError.__init__")
    | _ => false))))))))
theorem initB_ok (X : K.In h) (G : h.Ns mainGlobals mg) {fa : List Fa} {fn : List DefD} (c : SaysD fa fn K) {x B f : Str} {st : Stmt} (hd : dInit x st ∈ fn) (hb : initB K x B f = true) : ∃ C, InitT K mg x B f st C := by
  simp only [initB, Bool.and_eq_true, decide_eq_true_eq] at hb
  obtain ⟨b1, b2, b3, b4, b5, b6, b7, b8, b9⟩ := hb
  obtain ⟨fd, F⟩ := c.defs hd
  obtain ⟨oc, od, dV, kV, doc, pm, an, cdv, ct, osl, e, lk, hc, hdv, _⟩ := F.ex
  rcases hdv with ⟨_, z⟩ | ⟨z, _⟩
  · subst z
    refine ⟨ga K x, isG_ok X G b1, oexB_ok b2, eqO_ok b3, ⟨_, fd, eqO_ok b4, b5, ⟨oc, od, kV, doc, pm, an, cdv, ct, osl, e, lk, hc⟩, F.kp⟩, ⟨_, isG_ok X G b6, b7, eqO_ok b8, ?_⟩⟩
    split at b9
    · rename_i n e9
      rw [e9, of_decide_eq_true b9]
    · cases b9
  · exact absurd rfl z
end
end FT

set_option Elab.async false
set_option linter.all false
set_option maxRecDepth 100000
set_option maxHeartbeats 1000000
/-! FTZ: the head's facts on a fragment that holds the interpreter's statics too. -/
namespace FT
open PySem PySem.Spec PyProof.Rows L2 He
def asS (g : Addr → Option Obj) (n : Nat) : List Addr := asD g n ++ [cStatics]
def obsS (n : Nat) (fa : List Fa) (fn : List DefD) (ts : List Tab) (tf : List Defn) (ex : PySem.W.Frag → Bool) (g : Addr → Option Obj) : AlX := (obsT fa fn ts (frT g (asS g n)), ex (frT g (asS g n)) && tabsB g tf (frT g (asS g n)))
theorem saysS_of {n : Nat} {fa : List Fa} {fn : List DefD} {ts : List Tab} {tf : List Defn} {ex : PySem.W.Frag → Bool} {w : World} {h : Heap} (e : obsS n fa fn ts tf ex h.get? = valX fn ts w) : SaysX fa fn ts tf ex w h (frT h.get? (asS h.get? n)) := by
  have e1 := congrArg (fun z : AlX => z.1) e
  have e2 : (ex (frT h.get? (asS h.get? n)) && tabsB h.get? tf (frT h.get? (asS h.get? n))) = true := congrArg (fun z : AlX => z.2) e
  obtain ⟨h1, h2⟩ := Bool.and_eq_true_iff.mp e2
  have key : ∀ p ∈ tf, PySem.W.codeHdIn (frT h.get? (asS h.get? n)) (cT (frT h.get? (asS h.get? n)) p).1 (cT (frT h.get? (asS h.get? n)) p).2 = true ∧ ∃ o, h.get? (cT (frT h.get? (asS h.get? n)) p).2 = some o ∧ emptyTab o = true := fun p hp => by
    obtain ⟨h3, h4⟩ := Bool.and_eq_true_iff.mp (List.all_eq_true.mp h2 p hp)
    cases q : h.get? (cT (frT h.get? (asS h.get? n)) p).2 with
    | none => rw [q] at h4; cases h4
    | some o => rw [q] at h4; exact ⟨h3, o, rfl, h4⟩
  exact ⟨e1, h1, fun p hp => (key p hp).1, fun p hp => let ⟨_, _, q, z⟩ := key p hp; frT_none q z, fun p hp => by
    obtain ⟨_, o, q, z⟩ := key p hp
    rw [q, emptyTab_eq z]⟩
def hookS (n : Nat) (fa : List Fa) (fn : List DefD) (ts : List Tab) (tf : List Defn) (ex : PySem.W.Frag → Bool) : PySem.W.Hook where
  α := AlX
  obs := fun s => obsS n fa fn ts tf ex s.heap.get?
  val := fun w => valX fn ts w
  says := fun w h => ∃ K : PySem.W.Frag, K.In h ∧ SaysX fa fn ts tf ex w h K
  of := fun _ _ e => ⟨_, frT_in, saysS_of e⟩
  keeps := fun _ _ _ ⟨K, hK, c⟩ k => ⟨K, PySem.W.Frag.In.keeps hK k, ⟨c.t, c.more, c.hd, c.out, fun p hp => k _ _ (c.empty p hp)⟩⟩
theorem obsS_eq {n : Nat} {fa : List Fa} {fn : List DefD} {ts : List Tab} {tf : List Defn} {ex : PySem.W.Frag → Bool} {g : Addr → Option Obj} {s : Shared} (h : ∀ a, g a = s.heap.get? a) : obsS n fa fn ts tf ex g = (hookS n fa fn ts tf ex).obs s := by
  have e : g = s.heap.get? := funext h
  rw [e] <;> rfl
end FT

set_option Elab.async false
set_option linter.all false
set_option maxRecDepth 100000
set_option maxHeartbeats 1000000
/-! FUA: a call of a local name that holds one of some defs. -/
namespace FT
open PySem PySem.Spec PyProof.Rows L2

/-- some defs, all called with n arguments -/
inductive KnownL (P : Program) (w : World) (K : PySem.W.Frag) (mg : Str → Option Value) (T : List (Addr × Str)) (base : Heap) (j n : Nat) : List (Str × Fn) → Prop where
  | nil : KnownL P w K mg T base j n []
  | cons {x : Str} {F : Fn} {l : List (Str × Fn)} : Known P w K mg T base x j false false n F → KnownL P w K mg T base j n l → KnownL P w K mg T base j n ((x, F) :: l)
theorem KnownL.get {P : Program} {w : World} {K : PySem.W.Frag} {mg : Str → Option Value} {T : List (Addr × Str)} {base : Heap} {j n : Nat} {x : Str} {F : Fn} : ∀ {l : List (Str × Fn)}, KnownL P w K mg T base j n l → l.lookup x = some F → Known P w K mg T base x j false false n F
  | [], _, e => by cases e
  | (y, F') :: l, .cons h t, e => by
    rw [List.lookup_cons] at e
    by_cases z : x = y
    · subst z
      simp at e
      subst e
      exact h
    · have zz : (x == y) = false := by simpa using z
      rw [zz] at e
      exact t.get e
def mCallV (i : Nat) (tab : List (Str × Fn)) (ms : MA) : ME := fun env => match env[i]? with
  | some (some (.fn x)) => (match tab.lookup x with
    | some F => mCall F ms env
    | none => .stuck)
  | _ => .stuck
section
variable {X : Cx} {G : Gh} {k j n i : Nat} {x : Str} {tab : List (Str × Fn)} {p pos : Pos} {e : Expr} {es : List Expr}
theorem se_callV {ms : MA} (i : Nat) (xg : XG X G k) (hf : KnownL X.prog X.w X.K X.mg G.T X.base j n tab) (hj : j ≤ k) (ha : SA X G (e :: es) ms) (hn : (e :: es).length = n) (hi : (G.ow.contains i) = false := by rfl) (hN : X.N[i]? = some x := by rfl)
    (hv : Vis X.env.scope x := by first | exact Or.inl rfl | exact Or.inr (Or.inl rfl) | exact Or.inr (Or.inr rfl))
    (hdb : (x == ("__debug__" : Str)) = false := by decide) (hcd : (x == ("__classdict__" : Str)) = false := by decide)
    (he : starEach (e :: es) X.env = (false, eval e X.env) :: starEach es X.env := by rfl) (hpl : (backTo pos (starEach es X.env)).any (·.1) = false := by rfl) : SE X G (.Call (.Name x p) (e :: es) [] pos) (mCallV i tab ms) := by
  refine ⟨fun pins s σ H Q I ⟨env, sr, q⟩ => ?_⟩
  unfold mCallV at q
  split at q
  rotate_left
  · exact q.elim
  rename_i y0 e0
  split at q
  rotate_left
  · exact q.elim
  rename_i F hF
  obtain ⟨v0, e1, r0⟩ := sr.val i _ e0 (by simpa using hi)
  cases r0 with
  | fn hmg =>
  obtain ⟨f, fd, ps, h1, h2, h3, h4, h5⟩ := hf.get hF
  rw [xg.mg, hmg] at h1
  cases h1
  refine (pe_callL (i := i) h5 (xg.room.mono hj) hN hv h2 h3 .nil xg.pass ha.pa hdb hcd he hpl).run pins s σ H Q I ⟨e1, ?_⟩
  refine (TAo.bind sr (Post G σ H Q) (fun z => z) (fun _ z => z) q).mono fun xs H1 ⟨ds, e1, eq, s1, st1, g1, q1⟩ => ?_
  rw [List.append_nil]
  refine ⟨Av G σ, none, ds, s1.tabs, fun a h => s1.there a h, by rw [ha.len _ _ _ eq]; exact hn, ⟨rfl, by rw [xg.K, xg.mg]; exact g1⟩, ?_⟩
  rw [xg.K, xg.mg]
  cases r : F ds with
  | stuck => rw [r] at q1; exact q1.elim
  | err e => rw [r] at q1; exact ⟨rfl, fun cls dd H' t fm ei => err_of s1 q1 t fm ei⟩
  | ok d o =>
    rw [r] at q1
    intro v H' c
    have fm : ∀ b u, H1 b = some u → NotTbl u → H' b = some u := fun b u h t => c.frame b u (fun z => nomatch z) h t
    exact q1 v H' (s1.after c.tabs fm c.stays) (st1.trans fun b o _ h t => fm b o h t) c.rep
end
end FT

set_option Elab.async false
set_option linter.all false
set_option maxRecDepth 100000
set_option maxHeartbeats 1000000
set_option exponentiation.threshold 10000
/-! FUB: denotations computed by simp. -/
namespace FT
open PySem PySem.Spec PyProof.Rows L2

def RS.andThen (r : RS) (b : MS) : RS := match r with
  | .nx e => b e
  | r => r
section
variable {e env : En} {d d' : D} {x : Er} {a b : MS} {m m' ma mb : ME} {t t' : MT} {ms : MA} {i j : Nat} {q : Bool} {g : D → D → Option D}
@[simp] theorem at_nx : (RS.nx e).andThen b = b e := rfl
@[simp] theorem at_rt : (RS.rt d e).andThen b = .rt d e := rfl
@[simp] theorem at_err : (RS.err x).andThen b = .err x := rfl
@[simp] theorem at_bk : (RS.bk e).andThen b = .bk e := rfl
@[simp] theorem at_ct : (RS.ct e).andThen b = .ct e := rfl
@[simp] theorem at_stuck : RS.stuck.andThen b = .stuck := rfl
@[simp] theorem bindS_stuck {α : Type} {k : α → En → RS} : bindS (R.stuck : R α) k = .stuck := rfl
@[simp] theorem x_seq : mSeq a b env = (a env).andThen b := rfl
@[simp] theorem x_nx : mNx env = .nx env := rfl
@[simp] theorem x_set : mSet i m env = bindS (m env) fun d s => .nx (s.set i (some d)) := rfl
@[simp] theorem x_ret : mRet m env = bindS (m env) fun d s => .rt d s := rfl
@[simp] theorem x_drop : mDrop m env = bindS (m env) fun _ s => .nx s := rfl
@[simp] theorem x_ifS : mIfS t a b env = bindS (t env) fun k s => if k = true then a s else b s := rfl
@[simp] theorem x_raise : mRaise x env = .err x := rfl
@[simp] theorem x_asg {mt : MG} : mAsg m mt env = bindS (m env) fun d s => match mt d s with
  | some s' => .nx s'
  | none => .stuck := rfl
@[simp] theorem x_par {is : List Nat} : mPar is ms env = bindS (ms env) fun ds s => if ds.length = is.length then .nx ((is.zip ds).foldl (fun e p => e.set p.1 (some p.2)) s) else .stuck := rfl
@[simp] theorem x_for {mi : MI} {mt : MG} : mFor mi mt a env = bindS (mi env) fun ds s => forL mt a ds s := rfl
@[simp] theorem x_lit : mLit d env = .ok d env := rfl
@[simp] theorem x_var : mVar i env = match env[i]? with
  | some (some d) => .ok d env
  | _ => .stuck := rfl
@[simp] theorem x_own : mOwn i env = match env[i]? with
  | some (some _) => .ok (fun e => e[i]?.join) env
  | _ => .stuck := rfl
@[simp] theorem x_V : mV m env = (m env).bind fun d s => .ok (fun _ => some d) s := rfl
@[simp] theorem x_op2 {oa ob : MO} : mOp2 g oa ob env = (oa env).bind fun r1 e1 => (ob e1).bind fun r2 e2 => lift2 g (r1 e2) (r2 e2) e2 := rfl
@[simp] theorem x_lift2 : lift2 g (some d) (some d') env = gR (g d d') env := rfl
@[simp] theorem x_lift1 {α : Type} {f : α → Option D} {z : α} : lift1 f (some z) env = gR (f z) env := rfl
@[simp] theorem gR_none : gR none env = .stuck := rfl
@[simp] theorem x_op1 {f : D → Option D} : mOp1 f m env = (m env).bind fun d s => gR (f d) s := rfl
@[simp] theorem x_tst : mTst m env = (m env).bind fun d s => match d with
  | .bl b => .ok b s
  | _ => .stuck := rfl
@[simp] theorem x_notT : mNotT t env = (t env).bind fun k s => .ok (!k) s := rfl
@[simp] theorem x_andT : mAndT t t' env = (t env).bind fun k s => if k = true then t' s else .ok false s := rfl
@[simp] theorem x_orT : mOrT t t' env = (t env).bind fun k s => if k = true then .ok true s else t' s := rfl
@[simp] theorem x_notV : mNotV m env = (m env).bind fun d s => match d with
  | .bl k => .ok (.bl (!k)) s
  | _ => .stuck := rfl
@[simp] theorem x_andV : mAndV m m' env = (m env).bind fun d s => match d with
  | .bl k => if k = true then m' s else .ok (.bl false) s
  | _ => .stuck := rfl
@[simp] theorem x_orV : mOrV m m' env = (m env).bind fun d s => match d with
  | .bl k => if k = true then .ok (.bl true) s else m' s
  | _ => .stuck := rfl
@[simp] theorem x_if : mIf t m m' env = (t env).bind fun k s => if k = true then m s else m' s := rfl
@[simp] theorem x_nilA : mNilA env = .ok [] env := rfl
@[simp] theorem x_consA : mConsA m ms env = (m env).bind fun d s => (ms s).bind fun ds s' => .ok (d :: ds) s' := rfl
@[simp] theorem x_nilO : mNilO env = .ok [] env := rfl
@[simp] theorem x_consO {oa : MO} {os : MOs} : mConsO oa os env = (oa env).bind fun r s => (os s).bind fun rs s' => .ok (r :: rs) s' := rfl
@[simp] theorem x_fn {f : List D → Option D} {os : MOs} : mFn f os env = (os env).bind fun rs e1 => lift1 f (rs.mapM (fun r => r e1)) e1 := rfl
@[simp] theorem x_tup : mTup ms env = (ms env).bind fun ds s => .ok (.tup ds) s := rfl
@[simp] theorem x_lst : mLst ms env = (ms env).bind fun ds s => .ok (.lst ds) s := rfl
def RF.bindR (r : RF) (s : En) : R D := match r with
  | .stuck => .stuck
  | .err e => .err e
  | .ok d _ => .ok d s
@[simp] theorem rf_ok {o : D} : (RF.ok d o).bindR env = .ok d env := rfl
@[simp] theorem rf_err : (RF.err x).bindR env = .err x := rfl
@[simp] theorem x_call {F : Fn} : mCall F ms env = (ms env).bind fun ds s => (F ds).bindR s := by
  unfold mCall
  congr 1
def RF.bindO (r : RF) (i : Nat) (s : En) : R D := match r with
  | .ok d o => .ok d (s.set i (some o))
  | _ => .stuck
def callK (F : Fn) (i : Nat) (o : Option D) (ds : List D) (s : En) : R D := match o with
  | some d0 => (F (d0 :: ds)).bindO i s
  | none => .stuck
@[simp] theorem x_callK {F : Fn} {ds : List D} : callK F i (some d) ds env = (F (d :: ds)).bindO i env := rfl
@[simp] theorem x_callO {F : Fn} : mCallO F i ms env = match env[i]? with
  | some (some (.lst _)) => (ms env).bind fun ds s => callK F i (s[i]?.join) ds s
  | _ => .stuck := by
  unfold mCallO
  cases env[i]? with
  | none => rfl
  | some o => cases o with
    | none => rfl
    | some d => cases d <;> rfl
@[simp] theorem rfo_ok {o : D} : (RF.ok d o).bindO i env = .ok d (env.set i (some o)) := rfl
@[simp] theorem x_iter {f : D → Option (List D)} : mIter f m env = (m env).bind fun d s => match f d with
  | some ds => .ok ds s
  | none => .stuck := rfl
@[simp] theorem x_name : mgName i d env = some (env.set i (some d)) := rfl
@[simp] theorem x_gtup {mg : MGs} {ds : List D} : mgTup mg (.tup ds) env = mg ds env := rfl
@[simp] theorem x_gcons {m : MG} {mg : MGs} {ds : List D} : mgCons m mg (d :: ds) env = (m d env).bind fun e => mg ds e := rfl
@[simp] theorem x_gnil : mgNil [] env = some env := rfl
@[simp] theorem x_join {o : Option D} : (some o).join = o := rfl
/-- the data's operations -/
@[simp] theorem a_add {i j : Int} : gAdd (.int i) (.int j) = some (.int (i + j)) := rfl
@[simp] theorem a_sub {i j : Int} : gSub (.int i) (.int j) = some (.int (i - j)) := rfl
@[simp] theorem a_cmp {p : Int → Int → Bool} {i j : Int} : gCmp p (.int i) (.int j) = some (.bl (p i j)) := rfl
@[simp] theorem a_eqS {x y : Str} : gEq (.str x) (.str y) = some (.bl (decide (x = y))) := rfl
@[simp] theorem a_neS {x y : Str} : gNe (.str x) (.str y) = some (.bl (!decide (x = y))) := rfl
@[simp] theorem a_eqI {i j : Int} : gEq (.int i) (.int j) = some (.bl (decide (i = j))) := by
  show some (D.bl (PyData.eqv (.int i) (.int j))) = _
  simp only [PyData.eqv]
  congr 2
@[simp] theorem a_neI {i j : Int} : gNe (.int i) (.int j) = some (.bl (!decide (i = j))) := by
  show some (D.bl (!PyData.eqv (.int i) (.int j))) = _
  simp only [PyData.eqv]
  congr 3
@[simp] theorem a_is : gIs d .non = some (.bl (isNon d)) := rfl
@[simp] theorem a_isNot : gIsNot d .non = some (.bl (!isNon d)) := rfl
@[simp] theorem a_ix0 {ds : List D} : gIdx (.tup (d :: ds)) (.int 0) = some d := by
  show L2.atI (d :: ds) 0 = _
  unfold L2.atI L2.ixN
  simp
@[simp] theorem a_ix1 {ds : List D} : gIdx (.tup (d :: d' :: ds)) (.int 1) = some d' := by
  show L2.atI (d :: d' :: ds) 1 = _
  unfold L2.atI L2.ixN
  rw [if_pos (by decide), if_pos (by simp; omega)]
  rfl
@[simp] theorem a_ixl0 {ds : List D} : gIdx (.lst (d :: ds)) (.int 0) = some d := by
  show L2.atI (d :: ds) 0 = _
  unfold L2.atI L2.ixN
  simp
@[simp] theorem a_ixl1 {ds : List D} : gIdx (.lst (d :: d' :: ds)) (.int 1) = some d' := by
  show L2.atI (d :: d' :: ds) 1 = _
  unfold L2.atI L2.ixN
  rw [if_pos (by decide), if_pos (by simp; omega)]
  rfl
@[simp] theorem isNon_non : isNon .non = true := rfl
@[simp] theorem isNon_tup {ds : List D} : isNon (.tup ds) = false := rfl
@[simp] theorem isNon_lst {ds : List D} : isNon (.lst ds) = false := rfl
@[simp] theorem isNon_int {i : Int} : isNon (.int i) = false := rfl
@[simp] theorem isNon_bl {i : Bool} : isNon (.bl i) = false := rfl
@[simp] theorem f_len_t {ds : List D} : fLen [.tup ds] = some (.int ds.length) := rfl
@[simp] theorem f_len_l {ds : List D} : fLen [.lst ds] = some (.int ds.length) := rfl
@[simp] theorem f_len_s {ds : List Int} : fLen [.scr ds] = some (.int ds.length) := rfl
@[simp] theorem f_int {i : Int} : fInt [.int i] = some (.int i) := rfl
@[simp] theorem f_min {i j : Int} : fMin [.int i, .int j] = some (.int (min i j)) := rfl
@[simp] theorem f_max {i j : Int} : fMax [.int i, .int j] = some (.int (max i j)) := rfl
@[simp] theorem f_tuple {ds : List D} : fTuple [.lst ds] = some (.tup ds) := rfl
@[simp] theorem f_tupleT {ds : List D} : fTuple [.tup ds] = some (.tup ds) := rfl
@[simp] theorem f_list {ds : List D} : fList [.lst ds] = some (.lst ds) := rfl
@[simp] theorem f_listT {ds : List D} : fList [.tup ds] = some (.lst ds) := rfl
@[simp] theorem a_neg {i : Int} : gNeg (.int i) = some (.int (-i)) := rfl
def appK (j : Nat) (o : Option D) (d : D) (s : En) : RS := match appL o d with
  | some l => .nx (s.set j (some l))
  | none => .stuck
@[simp] theorem x_app {j : Nat} : mApp j m env = match env[j]? with
  | some (some (.lst _)) => bindS (m env) fun d s => appK j (s[j]?.join) d s
  | _ => .stuck := rfl
theorem n_app {ds : List D} {j : Nat} (h : ds.length ≤ 1000000) : appK j (some (.lst ds)) d env = .nx (env.set j (some (.lst (ds ++ [d])))) := by
  unfold appK appL
  simp only [if_pos h]
@[simp] theorem x_retOwn {i : Nat} : mRetOwn i env = match env[i]? with
  | some (some (.lst ds)) => .rt (.lst ds) env
  | _ => .stuck := rfl
/-- a body -/
def bodyR (own : Bool) (r : RS) : RF := match r with
  | .nx env => .ok .non (ownOut own env)
  | .rt d env => .ok d (ownOut own env)
  | .err e => if own = true then .stuck else .err e
  | _ => .stuck
theorem x_body {own : Bool} {n : Nat} {m : MS} {ds : List D} : bodyF own n m ds = bodyR own (m (startE n ds)) := rfl
@[simp] theorem x_br_rt : bodyR false (.rt d env) = .ok d .non := rfl
@[simp] theorem x_br_nx : bodyR false (.nx env) = .ok .non .non := rfl
@[simp] theorem x_br_err : bodyR false (.err x) = .err x := rfl
@[simp] theorem x_br_rtO {o : D} {r : En} : bodyR true (.rt d (some o :: r)) = .ok d o := rfl
@[simp] theorem x_br_nxO {o : D} {r : En} : bodyR true (.nx (some o :: r)) = .ok .non o := rfl
end

/-! ### numbers that are none below 0 -/
theorem castL : ((0 : Nat) : Int) = 0 ∧
  ((1 : Nat) : Int) = 1 ∧
  ((2 : Nat) : Int) = 2 ∧
  ((3 : Nat) : Int) = 3 ∧
  ((4 : Nat) : Int) = 4 ∧
  ((5 : Nat) : Int) = 5 ∧
  ((6 : Nat) : Int) = 6 ∧
  ((7 : Nat) : Int) = 7 ∧
  ((8 : Nat) : Int) = 8 ∧
  ((9 : Nat) : Int) = 9 ∧
  ((10 : Nat) : Int) = 10 ∧
  ((11 : Nat) : Int) = 11 ∧
  ((12 : Nat) : Int) = 12 ∧
  ((20 : Nat) : Int) = 20 ∧
  ((21 : Nat) : Int) = 21 ∧
  ((29 : Nat) : Int) = 29 ∧
  ((30 : Nat) : Int) = 30 ∧
  ((41 : Nat) : Int) = 41 ∧
  ((59 : Nat) : Int) = 59 ∧
  ((60 : Nat) : Int) = 60 ∧
  ((61 : Nat) : Int) = 61 ∧
  ((62 : Nat) : Int) = 62 ∧
  ((63 : Nat) : Int) = 63 ∧
  ((64 : Nat) : Int) = 64 ∧
  ((130 : Nat) : Int) = 130 ∧
  ((200 : Nat) : Int) = 200 ∧
  ((300 : Nat) : Int) = 300 ∧
  ((400 : Nat) : Int) = 400 := by
  refine ⟨?_, ?_, ?_, ?_, ?_, ?_, ?_, ?_, ?_, ?_, ?_, ?_, ?_, ?_, ?_, ?_, ?_, ?_, ?_, ?_, ?_, ?_, ?_, ?_, ?_, ?_, ?_, ?_⟩ <;> rfl
theorem lt_big {n : Nat} (h : n < 2 ^ 1000) : n < BIG := Nat.lt_of_lt_of_le h (by unfold BIG; exact Nat.pow_le_pow_right (by decide) (by decide))
theorem n_add {a b : Nat} : gAdd (.int a) (.int b) = some (.int (a + b : Nat)) := rfl
theorem n_addL : (∀ a : Nat, gAdd (.int (a : Nat)) (.int 0) = some (.int (a + 0 : Nat))) ∧
  (∀ a : Nat, gAdd (.int (a : Nat)) (.int 1) = some (.int (a + 1 : Nat))) ∧
  (∀ a : Nat, gAdd (.int (a : Nat)) (.int 2) = some (.int (a + 2 : Nat))) ∧
  (∀ a : Nat, gAdd (.int (a : Nat)) (.int 3) = some (.int (a + 3 : Nat))) ∧
  (∀ a : Nat, gAdd (.int (a : Nat)) (.int 4) = some (.int (a + 4 : Nat))) ∧
  (∀ a : Nat, gAdd (.int (a : Nat)) (.int 5) = some (.int (a + 5 : Nat))) ∧
  (∀ a : Nat, gAdd (.int (a : Nat)) (.int 6) = some (.int (a + 6 : Nat))) ∧
  (∀ a : Nat, gAdd (.int (a : Nat)) (.int 7) = some (.int (a + 7 : Nat))) ∧
  (∀ a : Nat, gAdd (.int (a : Nat)) (.int 8) = some (.int (a + 8 : Nat))) ∧
  (∀ a : Nat, gAdd (.int (a : Nat)) (.int 9) = some (.int (a + 9 : Nat))) ∧
  (∀ a : Nat, gAdd (.int (a : Nat)) (.int 10) = some (.int (a + 10 : Nat))) ∧
  (∀ a : Nat, gAdd (.int (a : Nat)) (.int 11) = some (.int (a + 11 : Nat))) ∧
  (∀ a : Nat, gAdd (.int (a : Nat)) (.int 12) = some (.int (a + 12 : Nat))) ∧
  (∀ a : Nat, gAdd (.int (a : Nat)) (.int 20) = some (.int (a + 20 : Nat))) ∧
  (∀ a : Nat, gAdd (.int (a : Nat)) (.int 21) = some (.int (a + 21 : Nat))) ∧
  (∀ a : Nat, gAdd (.int (a : Nat)) (.int 29) = some (.int (a + 29 : Nat))) ∧
  (∀ a : Nat, gAdd (.int (a : Nat)) (.int 30) = some (.int (a + 30 : Nat))) ∧
  (∀ a : Nat, gAdd (.int (a : Nat)) (.int 41) = some (.int (a + 41 : Nat))) ∧
  (∀ a : Nat, gAdd (.int (a : Nat)) (.int 59) = some (.int (a + 59 : Nat))) ∧
  (∀ a : Nat, gAdd (.int (a : Nat)) (.int 60) = some (.int (a + 60 : Nat))) ∧
  (∀ a : Nat, gAdd (.int (a : Nat)) (.int 61) = some (.int (a + 61 : Nat))) ∧
  (∀ a : Nat, gAdd (.int (a : Nat)) (.int 62) = some (.int (a + 62 : Nat))) ∧
  (∀ a : Nat, gAdd (.int (a : Nat)) (.int 63) = some (.int (a + 63 : Nat))) ∧
  (∀ a : Nat, gAdd (.int (a : Nat)) (.int 64) = some (.int (a + 64 : Nat))) ∧
  (∀ a : Nat, gAdd (.int (a : Nat)) (.int 130) = some (.int (a + 130 : Nat))) ∧
  (∀ a : Nat, gAdd (.int (a : Nat)) (.int 200) = some (.int (a + 200 : Nat))) ∧
  (∀ a : Nat, gAdd (.int (a : Nat)) (.int 300) = some (.int (a + 300 : Nat))) ∧
  (∀ a : Nat, gAdd (.int (a : Nat)) (.int 400) = some (.int (a + 400 : Nat))) := by
  refine ⟨?_, ?_, ?_, ?_, ?_, ?_, ?_, ?_, ?_, ?_, ?_, ?_, ?_, ?_, ?_, ?_, ?_, ?_, ?_, ?_, ?_, ?_, ?_, ?_, ?_, ?_, ?_, ?_⟩ <;> exact fun _ => rfl
theorem n_Ladd : (∀ a : Nat, gAdd (.int 0) (.int (a : Nat)) = some (.int (0 + a : Nat))) ∧
  (∀ a : Nat, gAdd (.int 1) (.int (a : Nat)) = some (.int (1 + a : Nat))) ∧
  (∀ a : Nat, gAdd (.int 2) (.int (a : Nat)) = some (.int (2 + a : Nat))) ∧
  (∀ a : Nat, gAdd (.int 3) (.int (a : Nat)) = some (.int (3 + a : Nat))) ∧
  (∀ a : Nat, gAdd (.int 4) (.int (a : Nat)) = some (.int (4 + a : Nat))) ∧
  (∀ a : Nat, gAdd (.int 5) (.int (a : Nat)) = some (.int (5 + a : Nat))) ∧
  (∀ a : Nat, gAdd (.int 6) (.int (a : Nat)) = some (.int (6 + a : Nat))) ∧
  (∀ a : Nat, gAdd (.int 7) (.int (a : Nat)) = some (.int (7 + a : Nat))) ∧
  (∀ a : Nat, gAdd (.int 8) (.int (a : Nat)) = some (.int (8 + a : Nat))) ∧
  (∀ a : Nat, gAdd (.int 9) (.int (a : Nat)) = some (.int (9 + a : Nat))) ∧
  (∀ a : Nat, gAdd (.int 10) (.int (a : Nat)) = some (.int (10 + a : Nat))) ∧
  (∀ a : Nat, gAdd (.int 11) (.int (a : Nat)) = some (.int (11 + a : Nat))) ∧
  (∀ a : Nat, gAdd (.int 12) (.int (a : Nat)) = some (.int (12 + a : Nat))) ∧
  (∀ a : Nat, gAdd (.int 20) (.int (a : Nat)) = some (.int (20 + a : Nat))) ∧
  (∀ a : Nat, gAdd (.int 21) (.int (a : Nat)) = some (.int (21 + a : Nat))) ∧
  (∀ a : Nat, gAdd (.int 29) (.int (a : Nat)) = some (.int (29 + a : Nat))) ∧
  (∀ a : Nat, gAdd (.int 30) (.int (a : Nat)) = some (.int (30 + a : Nat))) ∧
  (∀ a : Nat, gAdd (.int 41) (.int (a : Nat)) = some (.int (41 + a : Nat))) ∧
  (∀ a : Nat, gAdd (.int 59) (.int (a : Nat)) = some (.int (59 + a : Nat))) ∧
  (∀ a : Nat, gAdd (.int 60) (.int (a : Nat)) = some (.int (60 + a : Nat))) ∧
  (∀ a : Nat, gAdd (.int 61) (.int (a : Nat)) = some (.int (61 + a : Nat))) ∧
  (∀ a : Nat, gAdd (.int 62) (.int (a : Nat)) = some (.int (62 + a : Nat))) ∧
  (∀ a : Nat, gAdd (.int 63) (.int (a : Nat)) = some (.int (63 + a : Nat))) ∧
  (∀ a : Nat, gAdd (.int 64) (.int (a : Nat)) = some (.int (64 + a : Nat))) ∧
  (∀ a : Nat, gAdd (.int 130) (.int (a : Nat)) = some (.int (130 + a : Nat))) ∧
  (∀ a : Nat, gAdd (.int 200) (.int (a : Nat)) = some (.int (200 + a : Nat))) ∧
  (∀ a : Nat, gAdd (.int 300) (.int (a : Nat)) = some (.int (300 + a : Nat))) ∧
  (∀ a : Nat, gAdd (.int 400) (.int (a : Nat)) = some (.int (400 + a : Nat))) := by
  refine ⟨?_, ?_, ?_, ?_, ?_, ?_, ?_, ?_, ?_, ?_, ?_, ?_, ?_, ?_, ?_, ?_, ?_, ?_, ?_, ?_, ?_, ?_, ?_, ?_, ?_, ?_, ?_, ?_⟩ <;> exact fun _ => rfl
theorem n_sub {a b : Nat} (h : b ≤ a) : gSub (.int a) (.int b) = some (.int (a - b : Nat)) := by
  show some (D.int ((a : Int) - b)) = _
  rw [Int.ofNat_sub h]
theorem n_subL : (∀ a : Nat, 0 ≤ a → gSub (.int (a : Nat)) (.int 0) = some (.int (a - 0 : Nat))) ∧
  (∀ a : Nat, 1 ≤ a → gSub (.int (a : Nat)) (.int 1) = some (.int (a - 1 : Nat))) ∧
  (∀ a : Nat, 2 ≤ a → gSub (.int (a : Nat)) (.int 2) = some (.int (a - 2 : Nat))) ∧
  (∀ a : Nat, 3 ≤ a → gSub (.int (a : Nat)) (.int 3) = some (.int (a - 3 : Nat))) ∧
  (∀ a : Nat, 4 ≤ a → gSub (.int (a : Nat)) (.int 4) = some (.int (a - 4 : Nat))) ∧
  (∀ a : Nat, 5 ≤ a → gSub (.int (a : Nat)) (.int 5) = some (.int (a - 5 : Nat))) ∧
  (∀ a : Nat, 6 ≤ a → gSub (.int (a : Nat)) (.int 6) = some (.int (a - 6 : Nat))) ∧
  (∀ a : Nat, 7 ≤ a → gSub (.int (a : Nat)) (.int 7) = some (.int (a - 7 : Nat))) ∧
  (∀ a : Nat, 8 ≤ a → gSub (.int (a : Nat)) (.int 8) = some (.int (a - 8 : Nat))) ∧
  (∀ a : Nat, 9 ≤ a → gSub (.int (a : Nat)) (.int 9) = some (.int (a - 9 : Nat))) ∧
  (∀ a : Nat, 10 ≤ a → gSub (.int (a : Nat)) (.int 10) = some (.int (a - 10 : Nat))) ∧
  (∀ a : Nat, 11 ≤ a → gSub (.int (a : Nat)) (.int 11) = some (.int (a - 11 : Nat))) ∧
  (∀ a : Nat, 12 ≤ a → gSub (.int (a : Nat)) (.int 12) = some (.int (a - 12 : Nat))) ∧
  (∀ a : Nat, 20 ≤ a → gSub (.int (a : Nat)) (.int 20) = some (.int (a - 20 : Nat))) ∧
  (∀ a : Nat, 21 ≤ a → gSub (.int (a : Nat)) (.int 21) = some (.int (a - 21 : Nat))) ∧
  (∀ a : Nat, 29 ≤ a → gSub (.int (a : Nat)) (.int 29) = some (.int (a - 29 : Nat))) ∧
  (∀ a : Nat, 30 ≤ a → gSub (.int (a : Nat)) (.int 30) = some (.int (a - 30 : Nat))) ∧
  (∀ a : Nat, 41 ≤ a → gSub (.int (a : Nat)) (.int 41) = some (.int (a - 41 : Nat))) ∧
  (∀ a : Nat, 59 ≤ a → gSub (.int (a : Nat)) (.int 59) = some (.int (a - 59 : Nat))) ∧
  (∀ a : Nat, 60 ≤ a → gSub (.int (a : Nat)) (.int 60) = some (.int (a - 60 : Nat))) ∧
  (∀ a : Nat, 61 ≤ a → gSub (.int (a : Nat)) (.int 61) = some (.int (a - 61 : Nat))) ∧
  (∀ a : Nat, 62 ≤ a → gSub (.int (a : Nat)) (.int 62) = some (.int (a - 62 : Nat))) ∧
  (∀ a : Nat, 63 ≤ a → gSub (.int (a : Nat)) (.int 63) = some (.int (a - 63 : Nat))) ∧
  (∀ a : Nat, 64 ≤ a → gSub (.int (a : Nat)) (.int 64) = some (.int (a - 64 : Nat))) ∧
  (∀ a : Nat, 130 ≤ a → gSub (.int (a : Nat)) (.int 130) = some (.int (a - 130 : Nat))) ∧
  (∀ a : Nat, 200 ≤ a → gSub (.int (a : Nat)) (.int 200) = some (.int (a - 200 : Nat))) ∧
  (∀ a : Nat, 300 ≤ a → gSub (.int (a : Nat)) (.int 300) = some (.int (a - 300 : Nat))) ∧
  (∀ a : Nat, 400 ≤ a → gSub (.int (a : Nat)) (.int 400) = some (.int (a - 400 : Nat))) := by
  refine ⟨?_, ?_, ?_, ?_, ?_, ?_, ?_, ?_, ?_, ?_, ?_, ?_, ?_, ?_, ?_, ?_, ?_, ?_, ?_, ?_, ?_, ?_, ?_, ?_, ?_, ?_, ?_, ?_⟩ <;> exact fun _ h => n_sub h
theorem n_mul {a b : Nat} (ha : a < 2 ^ 1000) (hb : b < 2 ^ 1000) : gMul (.int a) (.int b) = some (.int (a * b : Nat)) := by
  show (if (a : Int).natAbs < BIG ∧ (b : Int).natAbs < BIG then some (D.int ((a : Int) * b)) else none) = _
  rw [if_pos ⟨lt_big ha, lt_big hb⟩] <;> rfl
theorem n_div {a b : Nat} (h : 0 < b) (hb : b < 2 ^ 1000) : gDiv (.int a) (.int b) = some (.int (a / b : Nat)) := by
  show (if 0 < (b : Int) ∧ (b : Int).natAbs < BIG then some (D.int ((a : Int) / b)) else none) = _
  rw [if_pos ⟨by omega, lt_big hb⟩] <;> rfl
theorem n_mod {a b : Nat} (h : 0 < b) : gMod (.int a) (.int b) = some (.int (a % b : Nat)) := by
  rw [mod_int (by omega)] <;> rfl
/-- a - 1 by a size -/
theorem n_mod1 {a b : Nat} (h : 0 < b) : gMod (.int ((a : Int) - 1)) (.int b) = some (.int ((a + (b - 1)) % b : Nat)) := by
  rw [mod_int (by omega)]
  congr 2
  have e : ((a : Int) - 1) % (b : Int) = ((a : Int) + ((b - 1 : Nat) : Int)) % (b : Int) := by
    rw [show (a : Int) + ((b - 1 : Nat) : Int) = (a : Int) - 1 + b by omega, Int.add_emod_right]
  rw [e]
  rfl
def zT (z : D) (f : Bool → R D) : R D := match z with
  | .bl q => f q
  | _ => .stuck
theorem x_zT {q : Bool} {f : Bool → R D} : zT (.bl q) f = f q := rfl
theorem x_chain {g g' : D → D → Option D} {oa ob oc : MO} {env : En} : mChain g g' oa ob oc env = (oa env).bind fun r1 e1 => (ob e1).bind fun r2 e2 => (lift2 g (r1 e2) (r2 e2) e2).bind fun z e3 => zT z fun q => if q = true then (oc e3).bind fun r3 e4 => lift2 g' (r2 e4) (r3 e4) e4 else .ok (.bl false) e3 := by
  unfold mChain
  congr 1; funext r1 e1; congr 1; funext r2 e2; congr 1; funext z e3
  cases z with
  | bl q => cases q <;> rfl
  | _ => rfl
/-! ### loops by a family of states -/
theorem for_fam {mt : MG} {mb : MS} (E : Nat → En) : ∀ (ds : List D) (j : Nat), (∀ i d, ds[i]? = some d → ∃ e1, mt d (E (j + i)) = some e1 ∧ mb e1 = .nx (E (j + i + 1))) → forL mt mb ds (E j) = .nx (E (j + ds.length))
  | [], j, _ => rfl
  | d :: ds, j, h => by
    obtain ⟨e1, h1, h2⟩ := h 0 d rfl
    have ih := for_fam E ds (j + 1) fun i d' hd => by
      obtain ⟨f1, q1, q2⟩ := h (i + 1) d' hd
      exact ⟨f1, by rw [show j + 1 + i = j + (i + 1) by omega]; exact q1, by rw [show j + 1 + i + 1 = j + (i + 1) + 1 by omega]; exact q2⟩
    simp only [forL]
    rw [show E j = E (j + 0) from rfl, h1]
    simp only [h2]
    rw [show j + 0 + 1 = j + 1 by omega, ih, List.length_cons, show j + 1 + ds.length = j + (ds.length + 1) by omega]
theorem for_fam0 {mt : MG} {mb : MS} {e0 : En} (E : Nat → En) (ds : List D) (h0 : e0 = E 0) (h : ∀ i d, ds[i]? = some d → ∃ e1, mt d (E i) = some e1 ∧ mb e1 = .nx (E (i + 1))) : forL mt mb ds e0 = .nx (E ds.length) := by
  have := for_fam (mt := mt) (mb := mb) E ds 0 fun i d hd => by rw [Nat.zero_add]; exact h i d hd
  rw [Nat.zero_add] at this
  rw [h0]
  exact this
/-- the running name of a range -/
def tn : Nat → Option D
  | 0 => none
  | j + 1 => some (.int (j : Nat))
theorem tn_s {j : Nat} : tn (j + 1) = some (.int (j : Nat)) := rfl
theorem rangeD0_get {n i : Nat} {d : D} (h : (rangeD 0 (n : Nat))[i]? = some d) : i < n ∧ d = .int (i : Nat) := by
  obtain ⟨a, b⟩ := rangeD_get h
  exact ⟨by omega, by rw [b]; simp⟩
theorem rangeD0_len (n : Nat) : (rangeD 0 (n : Nat)).length = n := by simp [rangeD]
def rngR (r : R (List D)) : R (List D) := match r with
  | .ok [.int j] s => if -1000000000 ≤ j ∧ j ≤ 1000000000 then .ok (rangeD 0 j) s else .stuck
  | .err e => .err e
  | _ => .stuck
theorem x_rng1 {ms : MA} {env : En} : mRng1 ms env = rngR (ms env) := by
  unfold mRng1
  cases ms env with
  | stuck => rfl
  | err e => rfl
  | ok ds s => match ds with
    | [] => rfl
    | [d] => cases d <;> rfl
    | d :: _ :: _ => cases d <;> rfl
theorem n_rng1 {env : En} {n : Nat} (hn : n ≤ 1000000) : rngR (.ok [.int (n : Nat)] env) = .ok (rangeD 0 (n : Nat)) env := by
  show (if -1000000000 ≤ (n : Int) ∧ (n : Int) ≤ 1000000000 then R.ok (rangeD 0 (n : Nat)) env else .stuck) = _
  rw [if_pos ⟨by omega, by omega⟩]
def toldR (ers : List Str) (r : R D) (env : En) : R D := match r with
  | .ok d _ => .ok (.tup [.str (Str.ofString "told"), d]) env
  | .err e => (match toldK ers e with
    | some d => .ok d env
    | none => .stuck)
  | .stuck => .stuck
theorem x_told {ers : List Str} {ow : List Nat} {m : ME} {env : En} : mTold ers ow m env = toldR ers (m (wipeE ow env)) env := rfl
theorem x_toldE {ers : List Str} {x : Er} {env : En} : toldR ers (.err x) env = match toldK ers x with
  | some d => .ok d env
  | none => .stuck := rfl
theorem x_toldO {ers : List Str} {d : D} {e env : En} : toldR ers (.ok d e) env = .ok (.tup [.str (Str.ofString "told"), d]) env := rfl
theorem x_wipe0 {e : En} : wipeE [] e = e := rfl
theorem x_wipe {v : Nat} {vs : List Nat} {e : En} : wipeE (v :: vs) e = (wipeE vs e).set v none := rfl
def callVK (tab : List (Str × Fn)) (ms : MA) (env : En) (d : D) : R D := match d with
  | .fn x => (match tab.lookup x with
    | some F => mCall F ms env
    | none => .stuck)
  | _ => .stuck
theorem x_callV {i : Nat} {tab : List (Str × Fn)} {ms : MA} {env : En} : mCallV i tab ms env = match env[i]? with
  | some (some d) => callVK tab ms env d
  | _ => .stuck := by
  unfold mCallV
  cases env[i]? with
  | none => rfl
  | some o => cases o with
    | none => rfl
    | some d => cases d <;> rfl
theorem x_callVK {tab : List (Str × Fn)} {ms : MA} {env : En} {x : Str} : callVK tab ms env (.fn x) = match tab.lookup x with
  | some F => mCall F ms env
  | none => .stuck := rfl
theorem words_ne : (Str.ofString "up" = Str.ofString "down") = False ∧
  (Str.ofString "up" = Str.ofString "next") = False ∧
  (Str.ofString "up" = Str.ofString "last") = False ∧
  (Str.ofString "up" = Str.ofString "mirror") = False ∧
  (Str.ofString "up" = Str.ofString "top") = False ∧
  (Str.ofString "up" = Str.ofString "leaf") = False ∧
  (Str.ofString "down" = Str.ofString "up") = False ∧
  (Str.ofString "down" = Str.ofString "next") = False ∧
  (Str.ofString "down" = Str.ofString "last") = False ∧
  (Str.ofString "down" = Str.ofString "mirror") = False ∧
  (Str.ofString "down" = Str.ofString "top") = False ∧
  (Str.ofString "down" = Str.ofString "leaf") = False ∧
  (Str.ofString "next" = Str.ofString "up") = False ∧
  (Str.ofString "next" = Str.ofString "down") = False ∧
  (Str.ofString "next" = Str.ofString "last") = False ∧
  (Str.ofString "next" = Str.ofString "mirror") = False ∧
  (Str.ofString "next" = Str.ofString "top") = False ∧
  (Str.ofString "next" = Str.ofString "leaf") = False ∧
  (Str.ofString "last" = Str.ofString "up") = False ∧
  (Str.ofString "last" = Str.ofString "down") = False ∧
  (Str.ofString "last" = Str.ofString "next") = False ∧
  (Str.ofString "last" = Str.ofString "mirror") = False ∧
  (Str.ofString "last" = Str.ofString "top") = False ∧
  (Str.ofString "last" = Str.ofString "leaf") = False ∧
  (Str.ofString "mirror" = Str.ofString "up") = False ∧
  (Str.ofString "mirror" = Str.ofString "down") = False ∧
  (Str.ofString "mirror" = Str.ofString "next") = False ∧
  (Str.ofString "mirror" = Str.ofString "last") = False ∧
  (Str.ofString "mirror" = Str.ofString "top") = False ∧
  (Str.ofString "mirror" = Str.ofString "leaf") = False ∧
  (Str.ofString "top" = Str.ofString "up") = False ∧
  (Str.ofString "top" = Str.ofString "down") = False ∧
  (Str.ofString "top" = Str.ofString "next") = False ∧
  (Str.ofString "top" = Str.ofString "last") = False ∧
  (Str.ofString "top" = Str.ofString "mirror") = False ∧
  (Str.ofString "top" = Str.ofString "leaf") = False ∧
  (Str.ofString "leaf" = Str.ofString "up") = False ∧
  (Str.ofString "leaf" = Str.ofString "down") = False ∧
  (Str.ofString "leaf" = Str.ofString "next") = False ∧
  (Str.ofString "leaf" = Str.ofString "last") = False ∧
  (Str.ofString "leaf" = Str.ofString "mirror") = False ∧
  (Str.ofString "leaf" = Str.ofString "top") = False := by
  refine ⟨?_, ?_, ?_, ?_, ?_, ?_, ?_, ?_, ?_, ?_, ?_, ?_, ?_, ?_, ?_, ?_, ?_, ?_, ?_, ?_, ?_, ?_, ?_, ?_, ?_, ?_, ?_, ?_, ?_, ?_, ?_, ?_, ?_, ?_, ?_, ?_, ?_, ?_, ?_, ?_, ?_, ?_⟩ <;> exact eq_false (by decide +kernel)
end FT

set_option Elab.async false
set_option linter.all false
set_option maxRecDepth 100000
set_option maxHeartbeats 1000000
/-! FUC: isinstance, words in tuples of words (printed by fuc.py). -/
namespace FT
open PySem PySem.Spec PyProof.Rows L2
theorem i_non_int  : fIsi [.non, .ty "int"] = some (.bl false) := by rfl
theorem i_non_bool  : fIsi [.non, .ty "bool"] = some (.bl false) := by rfl
theorem i_non_str  : fIsi [.non, .ty "str"] = some (.bl false) := by rfl
theorem i_non_tuple  : fIsi [.non, .ty "tuple"] = some (.bl false) := by rfl
theorem i_non_list  : fIsi [.non, .ty "list"] = some (.bl false) := by rfl
theorem i_non_tl  : fIsi [.non, .tup [.ty "tuple", .ty "list"]] = some (.bl false) := by rfl
theorem i_bl_int {b : Bool} : fIsi [(.bl b), .ty "int"] = some (.bl true) := by rfl
theorem i_bl_bool {b : Bool} : fIsi [(.bl b), .ty "bool"] = some (.bl true) := by rfl
theorem i_bl_str {b : Bool} : fIsi [(.bl b), .ty "str"] = some (.bl false) := by rfl
theorem i_bl_tuple {b : Bool} : fIsi [(.bl b), .ty "tuple"] = some (.bl false) := by rfl
theorem i_bl_list {b : Bool} : fIsi [(.bl b), .ty "list"] = some (.bl false) := by rfl
theorem i_bl_tl {b : Bool} : fIsi [(.bl b), .tup [.ty "tuple", .ty "list"]] = some (.bl false) := by rfl
theorem i_int_int {i : Int} : fIsi [(.int i), .ty "int"] = some (.bl true) := by rfl
theorem i_int_bool {i : Int} : fIsi [(.int i), .ty "bool"] = some (.bl false) := by rfl
theorem i_int_str {i : Int} : fIsi [(.int i), .ty "str"] = some (.bl false) := by rfl
theorem i_int_tuple {i : Int} : fIsi [(.int i), .ty "tuple"] = some (.bl false) := by rfl
theorem i_int_list {i : Int} : fIsi [(.int i), .ty "list"] = some (.bl false) := by rfl
theorem i_int_tl {i : Int} : fIsi [(.int i), .tup [.ty "tuple", .ty "list"]] = some (.bl false) := by rfl
theorem i_str_int {x : Str} : fIsi [(.str x), .ty "int"] = some (.bl false) := by rfl
theorem i_str_bool {x : Str} : fIsi [(.str x), .ty "bool"] = some (.bl false) := by rfl
theorem i_str_str {x : Str} : fIsi [(.str x), .ty "str"] = some (.bl true) := by rfl
theorem i_str_tuple {x : Str} : fIsi [(.str x), .ty "tuple"] = some (.bl false) := by rfl
theorem i_str_list {x : Str} : fIsi [(.str x), .ty "list"] = some (.bl false) := by rfl
theorem i_str_tl {x : Str} : fIsi [(.str x), .tup [.ty "tuple", .ty "list"]] = some (.bl false) := by rfl
theorem i_tup_int {xs : List D} : fIsi [(.tup xs), .ty "int"] = some (.bl false) := by rfl
theorem i_tup_bool {xs : List D} : fIsi [(.tup xs), .ty "bool"] = some (.bl false) := by rfl
theorem i_tup_str {xs : List D} : fIsi [(.tup xs), .ty "str"] = some (.bl false) := by rfl
theorem i_tup_tuple {xs : List D} : fIsi [(.tup xs), .ty "tuple"] = some (.bl true) := by rfl
theorem i_tup_list {xs : List D} : fIsi [(.tup xs), .ty "list"] = some (.bl false) := by rfl
theorem i_tup_tl {xs : List D} : fIsi [(.tup xs), .tup [.ty "tuple", .ty "list"]] = some (.bl true) := by rfl
theorem i_lst_int {xs : List D} : fIsi [(.lst xs), .ty "int"] = some (.bl false) := by rfl
theorem i_lst_bool {xs : List D} : fIsi [(.lst xs), .ty "bool"] = some (.bl false) := by rfl
theorem i_lst_str {xs : List D} : fIsi [(.lst xs), .ty "str"] = some (.bl false) := by rfl
theorem i_lst_tuple {xs : List D} : fIsi [(.lst xs), .ty "tuple"] = some (.bl false) := by rfl
theorem i_lst_list {xs : List D} : fIsi [(.lst xs), .ty "list"] = some (.bl true) := by rfl
theorem i_lst_tl {xs : List D} : fIsi [(.lst xs), .tup [.ty "tuple", .ty "list"]] = some (.bl true) := by rfl
theorem in_w_up : gIn (.str (Str.ofString "up")) (.tup [.str (Str.ofString "down"), .str (Str.ofString "leaf")]) = some (.bl false) := by kernel_rfl
theorem in_w_down : gIn (.str (Str.ofString "down")) (.tup [.str (Str.ofString "down"), .str (Str.ofString "leaf")]) = some (.bl true) := by kernel_rfl
theorem in_w_next : gIn (.str (Str.ofString "next")) (.tup [.str (Str.ofString "down"), .str (Str.ofString "leaf")]) = some (.bl false) := by kernel_rfl
theorem in_w_last : gIn (.str (Str.ofString "last")) (.tup [.str (Str.ofString "down"), .str (Str.ofString "leaf")]) = some (.bl false) := by kernel_rfl
theorem in_w_mirror : gIn (.str (Str.ofString "mirror")) (.tup [.str (Str.ofString "down"), .str (Str.ofString "leaf")]) = some (.bl false) := by kernel_rfl
theorem in_w_top : gIn (.str (Str.ofString "top")) (.tup [.str (Str.ofString "down"), .str (Str.ofString "leaf")]) = some (.bl false) := by kernel_rfl
theorem in_w_leaf : gIn (.str (Str.ofString "leaf")) (.tup [.str (Str.ofString "down"), .str (Str.ofString "leaf")]) = some (.bl true) := by kernel_rfl
theorem in_a_up : gIn (.str (Str.ofString "up")) (.tup [.str (Str.ofString "up"), .str (Str.ofString "next"), .str (Str.ofString "last"), .str (Str.ofString "mirror"), .str (Str.ofString "top")]) = some (.bl true) := by kernel_rfl
theorem in_a_down : gIn (.str (Str.ofString "down")) (.tup [.str (Str.ofString "up"), .str (Str.ofString "next"), .str (Str.ofString "last"), .str (Str.ofString "mirror"), .str (Str.ofString "top")]) = some (.bl false) := by kernel_rfl
theorem in_a_next : gIn (.str (Str.ofString "next")) (.tup [.str (Str.ofString "up"), .str (Str.ofString "next"), .str (Str.ofString "last"), .str (Str.ofString "mirror"), .str (Str.ofString "top")]) = some (.bl true) := by kernel_rfl
theorem in_a_last : gIn (.str (Str.ofString "last")) (.tup [.str (Str.ofString "up"), .str (Str.ofString "next"), .str (Str.ofString "last"), .str (Str.ofString "mirror"), .str (Str.ofString "top")]) = some (.bl true) := by kernel_rfl
theorem in_a_mirror : gIn (.str (Str.ofString "mirror")) (.tup [.str (Str.ofString "up"), .str (Str.ofString "next"), .str (Str.ofString "last"), .str (Str.ofString "mirror"), .str (Str.ofString "top")]) = some (.bl true) := by kernel_rfl
theorem in_a_top : gIn (.str (Str.ofString "top")) (.tup [.str (Str.ofString "up"), .str (Str.ofString "next"), .str (Str.ofString "last"), .str (Str.ofString "mirror"), .str (Str.ofString "top")]) = some (.bl true) := by kernel_rfl
theorem in_a_leaf : gIn (.str (Str.ofString "leaf")) (.tup [.str (Str.ofString "up"), .str (Str.ofString "next"), .str (Str.ofString "last"), .str (Str.ofString "mirror"), .str (Str.ofString "top")]) = some (.bl false) := by kernel_rfl
theorem in_nl_up : gIn (.str (Str.ofString "up")) (.tup [.str (Str.ofString "next"), .str (Str.ofString "last")]) = some (.bl false) := by kernel_rfl
theorem in_nl_down : gIn (.str (Str.ofString "down")) (.tup [.str (Str.ofString "next"), .str (Str.ofString "last")]) = some (.bl false) := by kernel_rfl
theorem in_nl_next : gIn (.str (Str.ofString "next")) (.tup [.str (Str.ofString "next"), .str (Str.ofString "last")]) = some (.bl true) := by kernel_rfl
theorem in_nl_last : gIn (.str (Str.ofString "last")) (.tup [.str (Str.ofString "next"), .str (Str.ofString "last")]) = some (.bl true) := by kernel_rfl
theorem in_nl_mirror : gIn (.str (Str.ofString "mirror")) (.tup [.str (Str.ofString "next"), .str (Str.ofString "last")]) = some (.bl false) := by kernel_rfl
theorem in_nl_top : gIn (.str (Str.ofString "top")) (.tup [.str (Str.ofString "next"), .str (Str.ofString "last")]) = some (.bl false) := by kernel_rfl
theorem in_nl_leaf : gIn (.str (Str.ofString "leaf")) (.tup [.str (Str.ofString "next"), .str (Str.ofString "last")]) = some (.bl false) := by kernel_rfl
end FT

set_option Elab.async false
set_option linter.all false
set_option maxRecDepth 100000
set_option maxHeartbeats 2000000
/-! FUD: tuples backwards, least and greatest of lists, sorted, sets of ints, two new lists at once. -/
namespace FT
open PySem PySem.Spec PyProof.Rows L2 HT

/-! ### t[::-1] -/
section
variable {prog : Program} {w : World} {A : Around} {E : Value → Shared → Prop} {s : Shared}
theorem back_places (n : Nat) : Builtin.Slice.sliceAdjust none none (-1) (n : Int) = ((n : Int) - 1, -1) ∧ Builtin.Slice.slicePlaces ((n : Int) - 1) (-1) (-1) = n := by
  refine ⟨rfl, ?_⟩
  unfold Builtin.Slice.slicePlaces
  rw [if_neg (by decide)]
  by_cases h : (n : Int) - 1 > -1
  · rw [if_pos h, show -(-1 : Int) = 1 from rfl, Int.ediv_one]; omega
  · rw [if_neg h]; omega
theorem back_pick (xs : Array Value) : ((List.range xs.size).filterMap fun (m : Nat) => xs[(((xs.size : Int) - 1) + (m : Int) * (-1)).toNat]?).toArray = xs.toList.reverse.toArray := by
  congr 1
  have gen : ∀ (k : Nat), k ≤ xs.size → (List.range k).filterMap (fun (m : Nat) => xs[(((xs.size : Int) - 1) + (m : Int) * (-1)).toNat]?) = xs.toList.reverse.take k := by
    intro k
    induction k with
    | zero => intro _; simp
    | succ k ih =>
      intro hk
      have e1 : (((xs.size : Int) - 1) + (k : Int) * (-1)).toNat = xs.size - 1 - k := by omega
      have hl : xs.size - 1 - k < xs.size := by omega
      have hr : k < xs.toList.reverse.length := by simp; omega
      rw [List.range_succ, List.filterMap_append, ih (by omega), List.take_succ]
      simp only [List.filterMap_cons, List.filterMap_nil, e1, Array.getElem?_eq_getElem hl, List.getElem?_eq_getElem hr, Option.toList_some]
      simp [List.getElem_reverse]
  rw [gen xs.size (Nat.le_refl _)]
  exact List.take_of_length_le (by simp)
theorem applied_back {sl : Addr} {n : Nat} {t : Tok} {Q : Int × Int × Nat → Shared → Prop} (hs : s.heap.IsSliceOf sl .none .none (.int (-1) t)) (h : Q ((n : Int) - 1, -1, n) s) : wpAny (model prog w) A (Builtin.Slice.sliceApplied (.ref sl) (pure (n : Int))) Q E s := by
  obtain ⟨ob, h1, h2, h3⟩ := hs
  unfold Builtin.Slice.sliceApplied; unfold Builtin.Slice.sliceFields
  refine wpAny_bind (wpAny_bind (wpAny_field h1 h3 (x := .none) rfl (wpAny_bind (wpAny_field h1 h3 (x := .none) rfl (wpAny_bind (wpAny_field h1 h3 (x := .int (-1) t) rfl (wpAny_pure ?_)))))))
  refine wpAny_bind (HT.slicePart_ (o := some (-1)) (.int _ _) ?_)
  show wpAny _ _ (if ((-1 : Int) == 0) = true then _ else _) _ _ s
  rw [if_neg (by decide)]; refine wpAny_bind (PyProof.Rows.slicePart_none (wpAny_bind (PyProof.Rows.slicePart_none (wpAny_bind (wpAny_pure ?_)))))
  show wpAny _ _ (match Builtin.Slice.sliceAdjust none none (-1) (n : Int) with | (a, b) => pure (a, (-1 : Int), Builtin.Slice.slicePlaces a b (-1))) _ _ s
  rw [(back_places n).1]
  show wpAny _ _ (pure (((n : Int) - 1), (-1 : Int), Builtin.Slice.slicePlaces ((n : Int) - 1) (-1) (-1))) _ _ s
  rw [(back_places n).2]; exact wpAny_pure h
theorem back_tup {t sl : Addr} {items : Array Value} {tk : Tok} {Q : Value → Shared → Prop} (ht : IsTup s.heap t items) (hs : s.heap.IsSliceOf sl .none .none (.int (-1) tk)) (h : Q (.ref s.heap.objs.size) { s with heap := s.heap.push { cls := .type "tuple", data := .seq items.toList.reverse.toArray } })
    (hz : items.size ≤ sizeLine) : wpAny (model prog w) A (getItem (.ref t) (.ref sl)) Q E s := by
  have fits : sizeOk (.seq items.toList.reverse.toArray) := by show items.toList.reverse.toArray.size ≤ sizeLine; simpa using hz
  have tyS : s.TypeIs (.ref sl) "slice" := let ⟨o, a, b, _⟩ := id hs; ⟨o, a, b⟩
  unfold getItem
  with_reducible refine wpAny_holding ?_
  refine wpAny_bind (wpAny_sequenceKey ht.typeIs (by decide) (wpAny_bind ?_))
  refine wpAny_callSpecial?_slot (name := Str.ofString "__getitem__") ht.typeIs PyProof.Rows.slot_tuple_getitem ?_
  refine wpAny_call_entry PyProof.Rows.slot_tuple_getitem ht.typeIs PyProof.Rows.entry_tuple_getitem ?_ (PyProof.Rows.args_tuple_getitem _ _)
  show wpAny _ _ (Builtin.Tuple.tupleItemsOf (.ref t) >>= fun _ => _) _ _ s
  refine wpAny_bind (PyProof.Rows.tupleItemsOf_ ht (wpAny_bind (wpAny_typeOf tyS ?_)))
  try rw [if_pos (by decide)]
  refine wpAny_bind (applied_back hs ?_)
  have no : ¬ ((((items.size : Int) - 1) == 0 && (-1 : Int) == 1 && items.size == items.size) = true) := by simp
  show wpAny _ _ (if (((items.size : Int) - 1) == 0 && (-1 : Int) == 1 && items.size == items.size) = true then _ else _) _ _ s
  rw [if_neg no, back_pick]
  first
    | exact wpAny_bind (m := Builtin.Tuple.tupleExact _) (wpAny_newObj_type (wpAny_pure ⟨_, rfl, wpAny_pure h⟩) fits)
    | exact wpAny_bind (m := Builtin.Tuple.tupleExact _) (wpAny_newObj_type (wpAny_bind (wpAny_pure (wpAny_pure ⟨_, rfl, wpAny_pure h⟩))) fits)
    | exact wpAny_bind (wpAny_bind (m := Builtin.Tuple.tupleExact _) (wpAny_newObj_type (wpAny_pure (wpAny_pure ⟨_, rfl, wpAny_pure h⟩)) fits))
    | exact wpAny_bind (wpAny_bind (m := Builtin.Tuple.tupleExact _) (wpAny_newObj_type (wpAny_pure ⟨_, rfl, wpAny_pure h⟩) fits))
end
section
variable {X : Cx} {G : Gh} {k : Nat} {pos : Pos}
def tBackT (K : PySem.W.Frag) (te : TE) : TE := fun σ H Q => te σ H fun x H1 => ∃ a xs, x = .ref a ∧ SqT K H1 a xs ∧ ∀ p, H1 p = none → Q (.ref p) (upd H1 p (.tup xs.reverse))
theorem pe_backT {e : Expr} {te : TE} {k : Nat} {p1 p2 p3 pos : Pos} (he : PE X e te) : PE X (.Subscript e (.Slice none none (some (.UnaryOp .USub (.Constant (.int 1) k p1) p2)) p3) pos) (tBackT X.K te) := by
  constructor
  intro pins s σ H Q I h
  refine Subscript_ (thn (he.run pins s σ H _ I h) fun v s1 ⟨x, H1, I1, r1, a, xs, ex, hx, q⟩ => ?_)
  subst ex; cases r1
  have no : PO X none tNoPart := po_none
  refine wpAny_Slice (thn (no.run pins s1 σ H1 (fun o H2 => o = none ∧ H2 = H1) I1 ⟨rfl, rfl⟩) fun u1 s2 ⟨o1, H2, I2, pl, e1, e2⟩ => ?_)
  subst e1 e2
  refine thn (no.run pins s2 σ H2 (fun o H3 => o = none ∧ H3 = H2) I2 ⟨rfl, rfl⟩) fun u2 s3 ⟨o2, H3, I3, pu, e3, e4⟩ => ?_
  subst e3 e4
  have one : PO X (some (.UnaryOp .USub (.Constant (.int 1) k p1) p2)) (tPart (tUn (rU fun i => .int (-i)) (tC (.int 1)))) := po_some (pe_un un_neg pe_int)
  refine thn (one.run pins s3 σ H3 (fun o H4 => o = some (-1) ∧ H4 = H3) I3 ⟨1, rfl, -1, rfl, rfl, rfl⟩) fun u3 s4 ⟨o3, H4, I4, ps, e5, e6⟩ => ?_
  subst e5 e6
  cases pl; cases pu
  obtain ⟨tk, rfl⟩ : ∃ tk, u3 = Value.int (-1) tk := by cases ps; exact ⟨_, rfl⟩
  have I5 : L2.Inv X pins σ H4 { s4 with heap := s4.heap.push { cls := .type "slice", data := .fields #[.none, .none, .int (-1) tk] } } := I4.kept (t' := s4.toks) fun _ _ z => Heap.get?_push_of_some _ z
  obtain ⟨its, r, ht, hz⟩ := I5.tuple hx
  show wpAny (model X.prog X.w) X.A (subscriptTail e (.Slice none none (some (.UnaryOp .USub (.Constant (.int 1) k p1) p2)) p3) (.ref a) (.ref s4.heap.objs.size)) (EP X pins σ Q) X.xe _
  refine tail_any (ops := [.ref a, .ref s4.heap.objs.size]) ht.typeIs (PyProof.Rows.slot_tuple_getitem.lookup) ?_ (by with_unfolding_all rfl)
  refine back_tup ht (Heap.IsSliceOf.new _ _ _ _) ?_ (by rw [List.size_toArray, ← r.length]; exact hz)
  refine ⟨.ref _, _, I5.laid (t' := s4.toks) (o := .tup xs.reverse) (fun _ _ z => Heap.get?_push_of_some _ z) (Nat.le_refl _) ?_, rfl, q _ (I5.hok.fresh (Nat.le_refl _))⟩
  exact ⟨by rw [List.length_reverse]; exact hz, _, r.reverse, IsTup.new _ _⟩
def mRevT (m : ME) : ME := fun env => (m env).bind fun d s => match d with
  | .tup ds => .ok (.tup ds.reverse) s
  | _ => .stuck
theorem se_revT {e : Expr} {m : ME} {k : Nat} {p1 p2 p3 pos : Pos} (hK : X.K = G.K) (h : SE X G e m) : SE X G (.Subscript e (.Slice none none (some (.UnaryOp .USub (.Constant (.int 1) k p1) p2)) p3) pos) (mRevT m) := PE.imp (pe_backT h) fun σ H Q ⟨env, s, q⟩ => by
  refine (TEo.bind s (Post G σ H Q) (fun z => z) (fun _ z => z) q).mono fun x H1 ⟨d, e1, ⟨s1, st1, g1⟩, q1⟩ => ?_
  cases d with
  | tup ds =>
    obtain ⟨a, vs, rfl, h1, r1⟩ := g1.tup_inv
    exact ⟨a, vs, rfl, by rw [hK]; exact h1, fun p n => q1 _ _ (s1.ext (Ext.upd n)) (st1.trans ((Ext.upd n).stay _)) (.tup upd_same (s1.newA n) (r1.rev_aux.ext (Ext.upd n)))⟩
  | _ => exact q1.elim
/-! ### least, greatest, sums, in order -/
def ints? : List D → Option (List Int)
  | [] => some []
  | .int i :: r => (ints? r).map (i :: ·)
  | _ => none
theorem ints_reps {K : PySem.W.Frag} {mg : Str → Option Value} {H : Hp} {av : Addr → Prop} : ∀ {ds : List D} {vs : List V} {ns : List Int}, ints? ds = some ns → Reps K mg H av ds vs → vs = ns.map V.int
  | [], vs, ns, h, r => by cases r; cases h; rfl
  | d :: ds, vs, ns, h, r => by
    cases r with
    | cons r1 rt =>
      cases r1 with
      | int i =>
        have h : (ints? ds).map (i :: ·) = some ns := h
        cases z : ints? ds with
        | none => rw [z] at h; cases h
        | some zs =>
          rw [z] at h
          cases h
          rw [ints_reps z rt] <;> rfl
      | _ => cases h
theorem ints_map : ∀ ns : List Int, ints? (ns.map D.int) = some ns
  | [] => rfl
  | n :: r => by rw [List.map_cons, ints?, ints_map r] <;> rfl
def minI : List Int → Int
  | [] => 0
  | [a] => a
  | a :: r => min a (minI r)
def maxI : List Int → Int
  | [] => 0
  | [a] => a
  | a :: r => max a (maxI r)
theorem minI_spec : ∀ {ns : List Int}, ns ≠ [] → minI ns ∈ ns ∧ ∀ y ∈ ns, minI ns ≤ y
  | [], h => absurd rfl h
  | [a], _ => ⟨by simp [minI], fun y hy => by have : y = a := by simpa using hy
                                              simp [minI, this]⟩
  | a :: b :: r, _ => by
    obtain ⟨h1, h2⟩ := minI_spec (ns := b :: r) (by simp)
    have e : minI (a :: b :: r) = min a (minI (b :: r)) := rfl
    rw [e]
    refine ⟨?_, fun y hy => ?_⟩
    · by_cases h : a ≤ minI (b :: r)
      · rw [Int.min_eq_left h]; exact List.mem_cons_self
      · rw [Int.min_eq_right (by omega)]; exact List.mem_cons_of_mem _ h1
    · rcases List.mem_cons.mp hy with rfl | hy
      · omega
      · have := h2 y hy; omega
theorem maxI_spec : ∀ {ns : List Int}, ns ≠ [] → maxI ns ∈ ns ∧ ∀ y ∈ ns, y ≤ maxI ns
  | [], h => absurd rfl h
  | [a], _ => ⟨by simp [maxI], fun y hy => by have : y = a := by simpa using hy
                                              simp [maxI, this]⟩
  | a :: b :: r, _ => by
    obtain ⟨h1, h2⟩ := maxI_spec (ns := b :: r) (by simp)
    have e : maxI (a :: b :: r) = max a (maxI (b :: r)) := rfl
    rw [e]
    refine ⟨?_, fun y hy => ?_⟩
    · by_cases h : a ≤ maxI (b :: r)
      · rw [Int.max_eq_right h]; exact List.mem_cons_of_mem _ h1
      · rw [Int.max_eq_left (by omega)]; exact List.mem_cons_self
    · rcases List.mem_cons.mp hy with rfl | hy
      · omega
      · have := h2 y hy; omega
def fMinL : List D → Option D
  | [.lst ds] => (ints? ds).bind fun ns => if ns = [] then none else some (.int (minI ns))
  | _ => none
def fMaxL : List D → Option D
  | [.lst ds] => (ints? ds).bind fun ns => if ns = [] then none else some (.int (maxI ns))
  | _ => none
def fSum : List D → Option D
  | [.lst ds] => (ints? ds).map fun ns => .int ns.sum
  | _ => none
theorem cf_minL (x : XG X G k) : CallR X (.builtin "min") (rFn G fMinL) := by
  intro pins s σ H xs us Q I r ⟨av, ds, d, h, hg, hav, q⟩
  unfold fMinL at hg
  split at hg
  · rename_i ds
    obtain ⟨v, rfl, h1⟩ := h.one
    obtain ⟨a, vs, rfl, e1, p1⟩ := h1.lst
    cases z : ints? ds with
    | none => rw [z] at hg; cases hg
    | some ns =>
      rw [z] at hg
      have hg : (if ns = [] then none else some (D.int (minI ns))) = some d := hg
      split at hg
      · cases hg
      · rename_i hne
        cases hg
        have e := ints_reps z p1
        subst e
        obtain ⟨m1, m2⟩ := minI_spec hne
        refine cr_min x.calm pins s σ H _ us Q I r ⟨a, ns, rfl, x.sqL (.of e1), List.length_pos_iff.mpr hne, fun m hm hle => ?_⟩
        have e : m = minI ns := Int.le_antisymm (hle _ m1) (m2 _ hm)
        subst e
        exact q _ H (.refl _) (.int _)
  · cases hg
theorem cf_maxL (x : XG X G k) : CallR X (.builtin "max") (rFn G fMaxL) := by
  intro pins s σ H xs us Q I r ⟨av, ds, d, h, hg, hav, q⟩
  unfold fMaxL at hg
  split at hg
  · rename_i ds
    obtain ⟨v, rfl, h1⟩ := h.one
    obtain ⟨a, vs, rfl, e1, p1⟩ := h1.lst
    cases z : ints? ds with
    | none => rw [z] at hg; cases hg
    | some ns =>
      rw [z] at hg
      have hg : (if ns = [] then none else some (D.int (maxI ns))) = some d := hg
      split at hg
      · cases hg
      · rename_i hne
        cases hg
        have e := ints_reps z p1
        subst e
        obtain ⟨m1, m2⟩ := maxI_spec hne
        refine cr_max x.calm pins s σ H _ us Q I r ⟨a, ns, rfl, x.sqL (.of e1), List.length_pos_iff.mpr hne, fun m hm hle => ?_⟩
        have e : m = maxI ns := Int.le_antisymm (m2 _ hm) (hle _ m1)
        subst e
        exact q _ H (.refl _) (.int _)
  · cases hg
theorem cf_sum (x : XG X G k) : CallR X (.builtin "sum") (rFn G fSum) := by
  intro pins s σ H xs us Q I r ⟨av, ds, d, h, hg, hav, q⟩
  unfold fSum at hg
  split at hg
  · rename_i ds
    obtain ⟨v, rfl, h1⟩ := h.one
    obtain ⟨a, vs, rfl, e1, p1⟩ := h1.lst
    cases z : ints? ds with
    | none => rw [z] at hg; cases hg
    | some ns =>
      rw [z] at hg
      cases hg
      have e := ints_reps z p1
      subst e
      exact cr_sum x.calm pins s σ H _ us Q I r ⟨a, ns, rfl, x.sqL (.of e1), q _ H (.refl _) (.int _)⟩
  · cases hg
/-- in order, by putting in -/
def insI (a : Int) : List Int → List Int
  | [] => [a]
  | b :: r => if a ≤ b then a :: b :: r else b :: insI a r
def sortI : List Int → List Int
  | [] => []
  | a :: r => insI a (sortI r)
theorem insI_perm (a : Int) : ∀ l : List Int, (insI a l).Perm (a :: l)
  | [] => .refl _
  | b :: r => by
    unfold insI
    split
    · exact .refl _
    · exact (List.Perm.cons b (insI_perm a r)).trans (.swap a b r)
theorem sortI_perm : ∀ l : List Int, (sortI l).Perm l
  | [] => .refl _
  | a :: r => (insI_perm a _).trans (.cons a (sortI_perm r))
theorem insI_sorted (a : Int) : ∀ l : List Int, l.Pairwise (· ≤ ·) → (insI a l).Pairwise (· ≤ ·)
  | [], _ => by simp [insI]
  | b :: r, h => by
    unfold insI
    obtain ⟨h1, h2⟩ := List.pairwise_cons.mp h
    split
    · rename_i hab
      refine List.pairwise_cons.mpr ⟨fun x hx => ?_, h⟩
      rcases List.mem_cons.mp hx with rfl | hx
      · exact hab
      · exact Int.le_trans hab (h1 x hx)
    · rename_i hab
      refine List.pairwise_cons.mpr ⟨fun x hx => ?_, insI_sorted a r h2⟩
      rcases List.mem_cons.mp ((insI_perm a r).mem_iff.mp hx) with rfl | hx
      · omega
      · exact h1 x hx
theorem sortI_sorted : ∀ l : List Int, (sortI l).Pairwise (· ≤ ·)
  | [] => .nil
  | a :: r => insI_sorted a _ (sortI_sorted r)
theorem sorted_eq {a b : List Int} (p : a.Perm b) (ha : a.Pairwise (· ≤ ·)) (hb : b.Pairwise (· ≤ ·)) : a = b := p.eq_of_pairwise (fun x y _ _ h1 h2 => Int.le_antisymm h1 h2) ha hb
def fSorted : List D → Option D
  | [.lst ds] => (ints? ds).map fun ns => .lst ((sortI ns).map D.int)
  | _ => none
theorem cf_sorted (x : XG X G k) : CallR X (.builtin "sorted") (rFn G fSorted) := by
  intro pins s σ H xs us Q I r ⟨av, ds, d, h, hg, hav, q⟩
  unfold fSorted at hg
  split at hg
  · rename_i ds
    obtain ⟨v, rfl, h1⟩ := h.one
    obtain ⟨a, vs, rfl, e1, p1⟩ := h1.lst
    cases z : ints? ds with
    | none => rw [z] at hg; cases hg
    | some ns =>
      rw [z] at hg
      cases hg
      have e := ints_reps z p1
      subst e
      refine cr_sortedI pins s σ H _ us Q I r ⟨a, ns, rfl, x.sqL (.of e1), fun ns' p hp hs n => ?_⟩
      have e : ns' = sortI ns := sorted_eq (hp.trans (sortI_perm ns).symm) hs (sortI_sorted ns)
      subst e
      exact q _ _ (Ext.upd n) (.lst upd_same (new_no hav n) (Reps.ints _))
  · cases hg
end
end FT

set_option Elab.async false
set_option linter.all false
set_option maxRecDepth 100000
set_option maxHeartbeats 2000000
/-! FUE: new things of one's own beside one another. -/
namespace FT
open PySem PySem.Spec PyProof.Rows L2
section
variable {X : Cx} {G : Gh} {k : Nat} {pos : Pos}
theorem NewOk.set {σ : St} {H H' : Hp} {env env' : En} {p : Addr} {d : D} {i : Nat} (s : SR G σ H env) (N : NewOk G σ H H' env' p d) (hi' : i ∈ G.ow) (hi0 : i = 0 → G.pa = none) : SR G (σ.set i (some (.ref p))) H' (env'.set i (some d)) ∧ Keep G σ H (σ.set i (some (.ref p))) H' := by
  have less : ∀ a, Av G (σ.set i (some (.ref p))) a → Av1 G σ p a := fun a h => by
    rcases h with h | ⟨j, hj, h⟩
    · exact .inl (.inl h)
    · rcases getElem?_set_cases h with ⟨_, e⟩ | ⟨_, h⟩
      · cases e; exact .inr rfl
      · exact .inl (.inr ⟨j, hj, h⟩)
  have up : ∀ {j a}, (σ.set i (some (.ref p)))[j]? = some (some (.ref a)) → (j = i ∧ a = p) ∨ (j ≠ i ∧ σ[j]? = some (some (.ref a))) := fun {j a} h => by
    rcases getElem?_set_cases h with ⟨e, e2⟩ | h
    · cases e2; exact .inl ⟨e, rfl⟩
    · exact .inr h
  have notP : ∀ {j a}, j ∈ G.ow → σ[j]? = some (some (.ref a)) → a ≠ p := fun {j a} hj h z => N.nav (.inr ⟨j, hj, by rw [← z]; exact h⟩)
  refine ⟨⟨N.sr.tabs, fun j d' h hj => ?_, fun j d' h hj => ?_, fun j hj a h => ?_, fun j hj l hl a h1 h2 => ?_, fun a h => ?_, N.sr.frame, fun a h => ?_, by simp [N.sr.len], N.sr.avT, N.sr.exF, fun j hj a h => ?_, N.sr.stays⟩, fun d v r => (N.keep d v r).less less⟩
  · have ne : j ≠ i := fun e => hj (e ▸ hi')
    rw [List.getElem?_set_ne (Ne.symm ne)] at h
    obtain ⟨v, h1, r1⟩ := N.val j d' h hj
    exact ⟨v, by rw [List.getElem?_set_ne (Ne.symm ne)]; exact h1, r1.less less⟩
  · rcases getElem?_set_cases h with ⟨e1, e2⟩ | ⟨ne, h⟩
    · cases e2
      subst e1
      have hl : j < σ.length := by rw [← N.sr.len]; simpa using (List.getElem?_eq_some_iff.mp h).1
      exact ⟨p, List.getElem?_set_self hl, N.at_.goes (.less less) fun _ q _ => q⟩
    · obtain ⟨a, h1, o⟩ := N.own j d' h hj
      exact ⟨a, by rw [List.getElem?_set_ne (Ne.symm ne)]; exact h1, o.goes (.less less) fun _ q _ => q⟩
  · rcases up h with ⟨_, e⟩ | ⟨_, h⟩
    · rw [e]; exact .inr N.new
    · exact s.fresh j hj a h
  · rcases up h1 with ⟨e1, p1⟩ | ⟨n1, h1⟩
    · rcases up h2 with ⟨e2, _⟩ | ⟨_, h2⟩
      · rw [e1, e2]
      · exact absurd p1 (notP hl h2)
    · rcases up h2 with ⟨_, p2⟩ | ⟨_, h2⟩
      · exact absurd p2 (notP hj h1)
      · exact s.dist j hj l hl a h1 h2
  · rcases less a h with h | h
    · exact N.sr.there a h
    · rw [h]; exact N.at_.there
  · have ne : (0 : Nat) ≠ i := fun z => by rw [hi0 z.symm] at h; cases h
    obtain ⟨h0, h1, d0, h2⟩ := N.sr.par a h
    exact ⟨h0, by rw [List.getElem?_set_ne (Ne.symm ne)]; exact h1, d0, by rw [List.getElem?_set_ne (Ne.symm ne)]; exact h2⟩
  · rcases up h with ⟨_, e⟩ | ⟨_, h⟩
    · rw [e]; exact fun z => N.nav (.inl (.inr z))
    · exact s.exO j hj a h

/-- what is new and empty -/
inductive Nw where
  | l | k | t
def Nw.o : Nw → HO
  | .l => .lst []
  | .k => .dK []
  | .t => .dT []
def Nw.d : Nw → D
  | .l => .lst []
  | .k => .dcI []
  | .t => .dcT []
theorem Nw.own {K : PySem.W.Frag} {mg : Str → Option Value} {H : Hp} {av : Addr → Prop} {p : Addr} : ∀ {n : Nw}, H p = some n.o → OwnAt K mg H av p n.d
  | .l, h => ⟨[], h, .nil⟩
  | .k, h => ⟨[], h, .nil⟩
  | .t, h => ⟨[], h, .nil⟩
def tNw (n : Nw) : TE := fun _ H Q => ∀ p, H p = none → Q (.ref p) (upd H p n.o)
/-- e makes something new and empty -/
def SN (X : Cx) (e : Expr) (n : Nw) : Prop := PE X e (tNw n)
theorem sn_l : SN X (.List [] pos) .l := PE.imp (pe_lst pa_nil) fun σ H Q q => ⟨Nat.zero_le _, fun p n => q p n⟩
theorem sn_k : SN X (.Dict [] [] pos) .k := pe_dnewK
theorem sn_t : SN X (.Dict [] [] pos) .t := pe_dnewT
theorem sf_nw {e : Expr} {n : Nw} (h : SN X e n) : SF X G e (mLit n.d) := PE.imp h fun σ H Q ⟨env, s, q⟩ p np => q p _ (s.newOk (.refl _ _) np (Nw.own upd_same))
/-- a, b = new, new -/
def mPar2N (i j : Nat) (n m : Nw) : MS := fun env => .nx ((env.set i (some n.d)).set j (some m.d))
theorem ss_parNN {i j : Nat} {x y : Str} {a b : Expr} {n m : Nw} {px py pt : Pos} {kt k2 pt2} (xg : XG X G k) (wi : (G.ow.contains i) = true) (wj : (G.ow.contains j) = true) (i0 : i = 0 → G.pa = none) (j0 : j = 0 → G.pa = none) (hi : X.N[i]? = some x) (hj : X.N[j]? = some y) (hij : i ≠ j)
    (hx : X.env.scope.names.lookup x = some .local) (hy : X.env.scope.names.lookup y = some .local) (ha : SN X a n) (hb : SN X b m)
    (hw : swappedStores [.Tuple [.Name x px, .Name y py] kt pt] (.Tuple [a, b] k2 pt2) X.env = pure (some [x, y]))
    (h1 : starEach [a, b] X.env = (false, eval a X.env) :: starEach [b] X.env := by rfl) (h2 : starEach [b] X.env = (false, eval b X.env) :: starEach [] X.env := by rfl)
    (hs : swapsWithSole [.Tuple [.Name x px, .Name y py] kt pt] (.Tuple [a, b] k2 pt2) pos.line X.env = pure false := by rfl) :
    SS X G (.Assign [.Tuple [.Name x px, .Name y py] kt pt] (.Tuple [a, b] k2 pt2) pos) (mPar2N i j n m) := PS.imp (ps_par xg.calm xg.nd hi hj hij hx hy (pa_cons ha (pa_cons hb pa_nil h2) h1) hw hs) fun D σ H ⟨env, s, q⟩ p np p2 np2 => by
  obtain ⟨s1, k1⟩ := (s.newOk (.refl _ _) np (Nw.own (n := n) upd_same)).set s (i := i) (by simpa using wi) i0
  obtain ⟨s2, k2⟩ := (s1.newOk (.refl _ _) np2 (Nw.own (n := m) upd_same)).set s1 (i := j) (by simpa using wj) j0
  exact ⟨_, _, rfl, q _ _ s2 (k1.trans k2)⟩
/-- a, b = new, literal -/
def mParNL (i j : Nat) (n : Nw) (d : D) : MS := fun env => .nx ((env.set i (some n.d)).set j (some d))
/-- a literal that is no object -/
structure SL (X : Cx) (e : Expr) (d : D) (v : V) : Prop where
  pe : PE X e (tC v)
  rep : ∀ K mg H av, Rep K mg H av d v
theorem sl_int {i j pos} : SL X (.Constant (.int i) j pos) (.int i) (.int i) := ⟨pe_int, fun _ _ _ _ => .int i⟩
theorem ss_parNL {i j : Nat} {x y : Str} {a b : Expr} {n : Nw} {d : D} {v : V} {px py pt : Pos} {kt k2 pt2} (xg : XG X G k) (wi : (G.ow.contains i) = true) (wj : (G.ow.contains j) = false) (i0 : i = 0 → G.pa = none) (hi : X.N[i]? = some x) (hj : X.N[j]? = some y) (hij : i ≠ j)
    (hx : X.env.scope.names.lookup x = some .local) (hy : X.env.scope.names.lookup y = some .local) (ha : SN X a n) (hb : SL X b d v)
    (hw : swappedStores [.Tuple [.Name x px, .Name y py] kt pt] (.Tuple [a, b] k2 pt2) X.env = pure (some [x, y]))
    (h1 : starEach [a, b] X.env = (false, eval a X.env) :: starEach [b] X.env := by rfl) (h2 : starEach [b] X.env = (false, eval b X.env) :: starEach [] X.env := by rfl)
    (hs : swapsWithSole [.Tuple [.Name x px, .Name y py] kt pt] (.Tuple [a, b] k2 pt2) pos.line X.env = pure false := by rfl) :
    SS X G (.Assign [.Tuple [.Name x px, .Name y py] kt pt] (.Tuple [a, b] k2 pt2) pos) (mParNL i j n d) := PS.imp (ps_par xg.calm xg.nd hi hj hij hx hy (pa_cons ha (pa_cons hb.pe pa_nil h2) h1) hw hs) fun D σ H ⟨env, s, q⟩ p np => by
  obtain ⟨s1, k1⟩ := (s.newOk (.refl _ _) np (Nw.own (n := n) upd_same)).set s (i := i) (by simpa using wi) i0
  obtain ⟨s2, k2⟩ := s1.set (i := j) (by simpa using wj) (hb.rep _ _ _ _)
  exact ⟨_, _, rfl, q _ _ s2 (k1.trans k2)⟩
/-- a, b, c = value, new, literal -/
def mParVNL (i j l : Nat) (me : ME) (n : Nw) (d : D) : MS := fun env => bindS (me env) fun z s => .nx (((s.set i (some z)).set j (some n.d)).set l (some d))
theorem ss_parVNL {i j l : Nat} {x y z : Str} {a b c : Expr} {me : ME} {n : Nw} {d : D} {v : V} {px py pz pt : Pos} {kt k2 pt2} (xg : XG X G k) (wi : (G.ow.contains i) = false) (wj : (G.ow.contains j) = true) (wl : (G.ow.contains l) = false) (j0 : j = 0 → G.pa = none) (hi : X.N[i]? = some x) (hj : X.N[j]? = some y) (hl : X.N[l]? = some z)
    (hij : i ≠ j) (hil : i ≠ l) (hjl : j ≠ l)
    (hx : X.env.scope.names.lookup x = some .local) (hy : X.env.scope.names.lookup y = some .local) (hz : X.env.scope.names.lookup z = some .local) (ha : SE X G a me) (hb : SN X b n) (hc : SL X c d v)
    (hw : swappedStores [.Tuple [.Name x px, .Name y py, .Name z pz] kt pt] (.Tuple [a, b, c] k2 pt2) X.env = pure (some [x, y, z]))
    (h1 : starEach [a, b, c] X.env = (false, eval a X.env) :: starEach [b, c] X.env := by rfl) (h2 : starEach [b, c] X.env = (false, eval b X.env) :: starEach [c] X.env := by rfl) (h3 : starEach [c] X.env = (false, eval c X.env) :: starEach [] X.env := by rfl)
    (hs : swapsWithSole [.Tuple [.Name x px, .Name y py, .Name z pz] kt pt] (.Tuple [a, b, c] k2 pt2) pos.line X.env = pure false := by rfl) :
    SS X G (.Assign [.Tuple [.Name x px, .Name y py, .Name z pz] kt pt] (.Tuple [a, b, c] k2 pt2) pos) (mParVNL i j l me n d) := PS.imp (ps_par3 xg.calm xg.nd hi hj hl hij hil hjl hx hy hz (pa_cons ha (pa_cons hb (pa_cons hc.pe pa_nil h3) h2) h1) hw hs) fun D σ H ⟨env, s, q⟩ => by
  refine (TEo.bindS s (PostS G D σ H) (fun z => z) (fun _ z => z) q).mono fun x H1 ⟨dz, e1, ⟨s1, st1, g1⟩, q1⟩ => ?_
  intro p np
  obtain ⟨s2, k2⟩ := s1.set (i := i) (by simpa using wi) g1
  obtain ⟨s3, k3⟩ := (s2.newOk (.refl _ _) np (Nw.own (n := n) upd_same)).set s2 (i := j) (by simpa using wj) j0
  obtain ⟨s4, k4⟩ := s3.set (i := l) (by simpa using wl) (hc.rep _ _ _ _)
  exact ⟨_, _, _, rfl, q1 _ _ s4 (((st1.keep.trans k2).trans k3).trans k4)⟩
end
end FT

set_option Elab.async false
set_option linter.all false
set_option maxRecDepth 100000
set_option maxHeartbeats 4000000
/-! FUF: sorted(set(xs)), xs a list of ints. -/
namespace L2
open PySem PySem.Spec PyProof.Rows
/-- a set as it is made -/
abbrev setO0 (w : World) : Obj := { cls := .type "set", dict := none, data := .set #[] 0 (.fresh 0 0 (!w.params.followText "set-order")) }
section
variable {P : Program} {w : World} {A : Around} {E : Value → Shared → Prop} {s : Shared}
theorem set_of_ints {l : Addr} {items : Array Value} (ns : List Int) {Q : Value → Shared → Prop} (hh : A.handled = none) (hl : s.heap.IsList l items) (hit : IntsAre items.toList ns) (hb : ns.length + 1 < scanBound)
    (fin : ∀ (g : Heap) (tk c : Nat), SetR w g s.heap.objs.size (fun j => decide (j ∈ ns)) c → c ≤ ns.length → (∀ b o, s.heap.get? b = some o → g.get? b = some o) → Q (.ref s.heap.objs.size) { s with heap := g, toks := tk }) :
    wpAny (model P w) A (call (.type "set") [.ref l]) Q E s := by
  have sz : items.size = ns.length := by have q := IntsAre.length hit; simpa using q
  obtain ⟨c, tl, hmro⟩ := F.called_set.mro
  have hmade := F.called_set.made; have hsub := F.called_set.sub
  refine wpAny_call (codeAny_of_tree ?_); show wpAny _ _ (callAny (.type "set") _) _ _ _
  refine wpAny_pure ⟨Code.quiet_builtin _ (by decide +kernel), codeAny_builtin F.entry_type_call ?_⟩
  rw [Around.under_plain (weight_type_call_type "set" [.ref l] []) rfl]; have h1 := F.called_set.notType; have h2 := F.called_set.canCreate
  have hct := F.typeCall_set_1 (.ref l)
  repeat (any_goals (first | assumption | wp_step))
  refine codeAny_mono (code_set_led1 (.ref l) (E := E) (Q₁ := fun obj s1 => obj = .ref s.heap.objs.size ∧ s1 = { s with heap := s.heap.push (setO0 w) }) ⟨rfl, rfl⟩) fun r s1 hr => ?_
  cases r with
  | error e => exact hr
  | ok fl =>
  cases fl with
  | next => exact hr.elim
  | brk => exact hr.elim
  | cont => exact hr.elim
  | ret obj =>
  obtain ⟨rfl, rfl⟩ := hr
  have at0 : (s.heap.push (setO0 w)).get? s.heap.objs.size = some (setO0 w) := Heap.get?_push_size _ rfl
  have ty0 : Shared.TypeIs { s with heap := s.heap.push (setO0 w) } (.ref s.heap.objs.size) "set" := ⟨_, at0, rfl⟩
  have hli := F.called_set.init.lookup; have hbi := F.called_set.init.bind (.ref s.heap.objs.size)
  repeat (any_goals (first | assumption | wp_step))
  refine codeAny_mono (codeAny_call_builtin (R := wants (fun r s2 => r = .none ∧ ∃ g tk c, s2 = { s with heap := g, toks := tk } ∧ SetR w g s.heap.objs.size (fun j => decide (j ∈ ns)) c ∧ c ≤ ns.length ∧ (∀ b o, s.heap.get? b = some o → g.get? b = some o)) E) F.called_set.init.plain F.entry_set_init (check_set_init_1 ty0 ?_)) fun r2 s2 hr2 => ?_
  · obtain ⟨⟨oc, od, dt, sl⟩, hol, hcl, nl, hdl⟩ := hl
    simp only at hcl hdl; subst hcl hdl
    have li : (s.heap.push (setO0 w)).IsList l items := ⟨_, Heap.get?_push_of_some _ hol, rfl, nl, rfl⟩
    have n1 := F.sub_list_set; have n2 := F.sub_list_frozenset
    have hol' : (s.heap.push (setO0 w)).get? l = some ⟨.type "list", od, .seq items nl, sl⟩ := Heap.get?_push_of_some _ hol
    have hne : (Value.type "list" == Value.type "dict") = false := by decide
    unfold Builtin.«set.__init__» noKeywords Builtin.Frozenset.updateFrom
    generalize hPI : pyIter = PI
    wp_walk
    subst hPI
    refine wpAny_pyIter_list li (wpAny_bind (wpAny_runValue ?_))
    have lt : l < s.heap.objs.size := Heap.lt_size hol
    have hd : A.in1.in1.in1.handled = none := by simp [hh]
    have p1 : (s.heap.push (setO0 w)).objs.size = s.heap.objs.size + 1 := Heap.size_push ..
    have neI : l ≠ (s.heap.push (setO0 w)).objs.size := by rw [p1]; exact Nat.ne_of_lt (Nat.lt_succ_of_lt lt)
    have notin : s.heap.objs.size ∉ [(s.heap.push (setO0 w)).objs.size, l] := by
      rw [p1]; simp only [List.mem_cons, List.not_mem_nil, or_false, not_or]
      exact ⟨Nat.ne_of_lt (Nat.lt_succ_self _), Nat.ne_of_gt lt⟩
    have val : ∀ (i : Nat) (v : Value), items[i]? = some v → ∃ k t, ns[i]? = some k ∧ v = .int k t := fun i v hv => by
      have hi : i < ns.length := by rw [← sz]; exact (Array.getElem?_eq_some_iff.mp hv).1
      obtain ⟨t, e⟩ := PyProof.Rows.IntsAre.int_at hit i v (by rw [Array.getElem?_toList]; exact hv)
      exact ⟨ns[i], t, List.getElem?_eq_getElem hi, by rw [e, List.getD_eq_getElem?_getD, List.getElem?_eq_getElem hi] <;> rfl⟩
    refine set_update_ints ((Walks.list hd _ l neI items).toS) s.heap.objs.size notin ns sz hb val (items.size - 0) 0 _ (by omega) (Nat.zero_le _) ⟨⟨_, Heap.get?_push_size _ rfl, rfl, rfl⟩, (li.push _)⟩ ?new ?done
    case new => exact ⟨0, Nat.le_refl 0, setR_new_at (Heap.get?_push_of_some _ at0)⟩
    case done =>
      rintro ⟨g, g2, d2, t2, os2⟩ c2 hm hc2 hS2
      have e1 : g2 = s.gens := hm.gens
      have e2 : d2 = s.drawn := hm.drawn
      have e3 : os2 = s.os := hm.os
      subst e1 e2 e3
      show wpAny _ _ _ _ _ _
      refine wpAny_pure ?_; show wpAny _ _ (ret Value.none) _ _ _
      rw [sz] at hc2
      refine wpAny_pure ⟨rfl, g, t2, c2, rfl, hS2, hc2, fun b o e => ?_⟩
      have b0 : b < s.heap.objs.size := Heap.lt_size e
      have b2 : b ≠ (s.heap.push (setO0 w)).objs.size := by rw [p1]; exact Nat.ne_of_lt (Nat.lt_succ_of_lt b0)
      exact hm.heap b o (by simp only [List.mem_cons, List.not_mem_nil, or_false, not_or]; exact ⟨Nat.ne_of_lt b0, b2⟩) (Heap.get?_push_of_some _ (Heap.get?_push_of_some _ e))
  · cases r2 with
    | error e => exact hr2
    | ok fl2 =>
    cases fl2 with
    | next => exact hr2.elim
    | brk => exact hr2.elim
    | cont => exact hr2.elim
    | ret r =>
    obtain ⟨rfl, g, tk, c2, rfl, hS2, hc2, hk2⟩ := hr2
    repeat (any_goals (first | assumption | wp_step))
    exact fin _ _ _ hS2 hc2 hk2
end
section
variable {X : Cx}
/-- set(xs), xs a list of ints -/
def rSetI (X : Cx) : List V → Hp → VK → Prop := fun vs H Q => ∃ (a : Addr) (ns : List Int), vs = [V.ref a] ∧ SqL X.K H a (ns.map V.int) ∧ ns.length ≤ 1000 ∧ ∀ p c, H p = none → c ≤ ns.length → Q (.ref p) (upd H p (SetO X.w p (fun j => decide (j ∈ ns)) c))
theorem cr_setI (hc : X.calm = true) : CallR X (.type "set") (rSetI X) := by
  intro pins s σ H vs us Q I r ⟨a, ns, ev, hs, hl, q⟩
  subst ev
  obtain ⟨its, rv, hli, _⟩ := I.list hs
  rw [Vals.ref1 r]
  refine set_of_ints ns (I.ok.hd hc) hli.isList (by simpa using rv.ints) (by unfold scanBound; omega) fun g tk c R hcn k => ?_
  exact ⟨.ref _, upd H s.heap.objs.size (SetO X.w s.heap.objs.size (fun j => decide (j ∈ ns)) c), I.laid (t' := tk) k (Nat.le_refl _) (setO_new R), rfl, q _ _ (I.hok.fresh (Nat.le_refl _)) hcn⟩
end
end L2
namespace FT
open PySem PySem.Spec PyProof.Rows L2
def insU (a : Int) : List Int → List Int
  | [] => [a]
  | b :: r => if a < b then a :: b :: r else if a = b then b :: r else b :: insU a r
def sortU : List Int → List Int
  | [] => []
  | a :: r => insU a (sortU r)
theorem insU_mem (a x : Int) : ∀ l : List Int, x ∈ insU a l ↔ x = a ∨ x ∈ l
  | [] => by simp [insU]
  | b :: r => by
    unfold insU
    split
    · simp
    · split
      · rename_i h; subst h; simp
      · rw [List.mem_cons, insU_mem a x r, List.mem_cons]
        constructor
        · rintro (h | h | h)
          · exact .inr (.inl h)
          · exact .inl h
          · exact .inr (.inr h)
        · rintro (h | h | h)
          · exact .inr (.inl h)
          · exact .inl h
          · exact .inr (.inr h)
theorem sortU_mem (x : Int) : ∀ l : List Int, x ∈ sortU l ↔ x ∈ l
  | [] => Iff.rfl
  | a :: r => by rw [sortU, insU_mem, sortU_mem x r, List.mem_cons]
theorem insU_sorted (a : Int) : ∀ l : List Int, l.Pairwise (· < ·) → (insU a l).Pairwise (· < ·)
  | [], _ => by simp [insU]
  | b :: r, h => by
    obtain ⟨h1, h2⟩ := List.pairwise_cons.mp h
    unfold insU
    split
    · rename_i hab
      refine List.pairwise_cons.mpr ⟨fun x hx => ?_, h⟩
      rcases List.mem_cons.mp hx with rfl | hx
      · exact hab
      · exact Int.lt_trans hab (h1 x hx)
    · split
      · exact h
      · rename_i n1 n2
        refine List.pairwise_cons.mpr ⟨fun x hx => ?_, insU_sorted a r h2⟩
        rcases (insU_mem a x r).mp hx with rfl | hx
        · omega
        · exact h1 x hx
theorem sortU_sorted : ∀ l : List Int, (sortU l).Pairwise (· < ·)
  | [] => .nil
  | a :: r => insU_sorted a _ (sortU_sorted r)
theorem strict_eq : ∀ {a b : List Int}, a.Pairwise (· < ·) → b.Pairwise (· < ·) → (∀ x, x ∈ a ↔ x ∈ b) → a = b
  | [], [], _, _, _ => rfl
  | [], y :: b, _, _, h => by have := (h y).mpr List.mem_cons_self; cases this
  | x :: a, [], _, _, h => by have := (h x).mp List.mem_cons_self; cases this
  | x :: a, y :: b, ha, hb, h => by
    obtain ⟨a1, a2⟩ := List.pairwise_cons.mp ha
    obtain ⟨b1, b2⟩ := List.pairwise_cons.mp hb
    have e : x = y := by
      rcases List.mem_cons.mp ((h x).mp List.mem_cons_self) with e | e
      · exact e
      · rcases List.mem_cons.mp ((h y).mpr List.mem_cons_self) with e2 | e2
        · exact e2.symm
        · have := b1 x e; have := a1 y e2; omega
    subst e
    rw [strict_eq a2 b2 fun z => ?_]
    constructor
    · intro hz
      rcases List.mem_cons.mp ((h z).mp (List.mem_cons_of_mem _ hz)) with e | e
      · have := a1 z hz; omega
      · exact e
    · intro hz
      rcases List.mem_cons.mp ((h z).mpr (List.mem_cons_of_mem _ hz)) with e | e
      · have := b1 z hz; omega
      · exact e
/-- sorted(set(xs)) -/
def mSortSet (m : ME) : ME := fun env => (m env).bind fun d s => match d with
  | .lst ds => (match ints? ds with
    | some ns => if ns.length < 64 then .ok (.lst ((sortU ns).map D.int)) s else .stuck
    | none => .stuck)
  | _ => .stuck
section
variable {X : Cx} {G : Gh} {k : Nat} {pos : Pos}
theorem bt_set' : bootBuiltins "set" = some (.type "set") := by decide +kernel
theorem se_sortSet {e : Expr} {m : ME} {p p2 pos2 : Pos} (xg : XG X G k) (h : SE X G e m) (hg : Gl X "sorted") (hm : X.mg "sorted" = none) (hg2 : Gl X "set") (hm2 : X.mg "set" = none)
    (h1 : starEach [e] X.env = (false, eval e X.env) :: starEach [] X.env := by rfl) (h2 : starEach [.Call (.Name "set" p2) [e] [] pos2] X.env = (false, eval (.Call (.Name "set" p2) [e] [] pos2) X.env) :: starEach [] X.env := by rfl)
    (q1 : (backTo pos2 (starEach ([] : List Expr) X.env)).any (·.1) = false := by rfl) (q2 : (backTo pos (starEach ([] : List Expr) X.env)).any (·.1) = false := by rfl) :
    SE X G (.Call (.Name "sorted" p) [.Call (.Name "set" p2) [e] [] pos2] [] pos) (mSortSet m) :=
  PE.imp (pe_callB (cr_sortedSet xg.calm) hg hm bt_sorted (pa_cons (pe_callTy (cr_setI xg.calm) hg2 hm2 bt_set' (pa_cons h pa_nil h1) (by decide) (by decide) h1 q1) pa_nil h2) (by decide) (by decide) h2 q2) fun σ H Q ⟨env, s, q⟩ => by
  refine (TEo.bind s (Post G σ H Q) (fun z => z) (fun _ z => z) q).mono fun x H1 ⟨d, e1, ⟨s1, st1, g1⟩, q1⟩ => ?_
  split at q1
  rotate_left
  · exact q1.elim
  rename_i ds
  split at q1
  rotate_left
  · exact q1.elim
  rename_i ns hz
  split at q1
  rotate_left
  · exact q1.elim
  rename_i hl
  obtain ⟨a, vs, rfl, h1', r1⟩ := g1.lst_inv
  have ev := ints_reps hz r1
  subst ev
  refine ⟨a, ns, rfl, xg.sqL (.of h1'), by omega, fun p c np hc => ?_⟩
  refine ⟨p, _, c, rfl, upd_same, by omega, fun ns' p' hs' hm' hlen np' => ?_⟩
  have e : ns' = sortU ns := strict_eq hs' (sortU_sorted ns) fun x => by rw [hm' x, sortU_mem]; simp
  subst e
  have ex : Ext H1 (upd (upd H1 p (SetO X.w p (fun j => decide (j ∈ ns)) c)) p' (.lst ((sortU ns).map V.int))) := (Ext.upd np).trans (Ext.upd np')
  have nav : ¬ Av G σ p' := s1.newA (by
    cases z : H1 p' with
    | none => rfl
    | some o =>
      have z2 := (Ext.upd (o := SetO X.w p (fun j => decide (j ∈ ns)) c) np) p' o z
      rw [np'] at z2; cases z2)
  exact q1 _ _ (s1.ext ex) (st1.trans (ex.stay _)) (.lst upd_same nav (Reps.ints _))
end
end FT

set_option Elab.async false
set_option linter.all false
set_option maxRecDepth 100000
set_option maxHeartbeats 2000000
/-! FUG: blocks of which nothing is said, bools among ints, new lists, what is handed back. -/
namespace FT
open PySem PySem.Spec PyProof.Rows L2
section
variable {X : Cx} {G : Gh} {k : Nat} {pos : Pos} {a b c e : Expr}
/-! ### nothing said -/
def mStuck : MS := fun _ => .stuck
theorem ss_stuck {sts : List Stmt} : SSs X G sts mStuck := ⟨fun pins s σ H D I ⟨env, r, q⟩ => q.elim⟩
/-! ### bools among ints -/
def b2I (b : Bool) : Int := if b = true then 1 else 0
def gAddB : D → D → Option D
  | .bl b, .int j => some (.int (b2I b + j))
  | x, y => gAdd x y
def gSubB : D → D → Option D
  | .bl b, .int j => some (.int (b2I b - j))
  | x, y => gSub x y
theorem op_gAddB (x : XG X G k) : OpR X (binaryOp .Add) (rOf G gAddB) := by
  intro pins s σ H v1 v2 u1 u2 Q I r1 r2 ⟨av, dx, dy, d, h1, h2, hg, hav, q⟩
  unfold gAddB at hg
  split at hg
  · cases hg
    have z1 := h1.bl; have z2 := h2.int
    subst z1 z2
    cases r1
    obtain ⟨t, rfl⟩ := r2
    exact PySem.IntBool.add_bool_int ⟨.int _, H, I.tok _, ⟨_, rfl⟩, q _ H (.refl _) (.int _)⟩
  · exact op_gAdd x pins s σ H v1 v2 u1 u2 Q I r1 r2 ⟨av, dx, dy, d, h1, h2, hg, hav, q⟩
theorem op_gSubB (x : XG X G k) : OpR X (binaryOp .Sub) (rOf G gSubB) := by
  intro pins s σ H v1 v2 u1 u2 Q I r1 r2 ⟨av, dx, dy, d, h1, h2, hg, hav, q⟩
  unfold gSubB at hg
  split at hg
  · cases hg
    have z1 := h1.bl; have z2 := h2.int
    subst z1 z2
    cases r1
    obtain ⟨t, rfl⟩ := r2
    exact PySem.IntBool.sub_bool_int ⟨.int _, H, I.tok _, ⟨_, rfl⟩, q _ H (.refl _) (.int _)⟩
  · exact op_gSub x pins s σ H v1 v2 u1 u2 Q I r1 r2 ⟨av, dx, dy, d, h1, h2, hg, hav, q⟩
def fStrB : List D → Option D
  | [.bl b] => some (.str (if b = true then Str.ofString "True" else Str.ofString "False"))
  | xs => fStr xs
theorem cf_strB : CallR X (.type "str") (rFn G fStrB) := by
  intro pins s σ H xs us Q I r ⟨av, ds, d, h, hg, hav, q⟩
  unfold fStrB at hg
  split at hg
  · rename_i b
    cases hg
    obtain ⟨v, rfl, h1⟩ := h.one
    have e := h1.bl
    subst e
    obtain ⟨u, rfl, ru⟩ := vals1 r
    cases ru
    refine PySem.P.str_of_bool ⟨.str _, H, I.tok _, ⟨_, rfl⟩, ?_⟩
    have q' := q _ H (.refl _) (.str _)
    cases b <;> exact q'
  · exact cf_str pins s σ H xs us Q I r ⟨av, ds, d, h, hg, hav, q⟩
/-- not x, x an int or a bool -/
def mNotN (m : ME) : ME := fun env => (m env).bind fun d s => match d with
  | .bl q => .ok (.bl (!q)) s
  | .int i => .ok (.bl (decide (i = 0))) s
  | _ => .stuck
theorem se_notN {m : ME} (h : SE X G a m) : SE X G (.UnaryOp .Not a pos) (mNotN m) := PE.imp (pe_notT h) fun σ H Q ⟨env, s, q⟩ => by
  refine (TEo.bind s (Post G σ H Q) (fun z => z) (fun _ z => z) q).mono fun x H1 ⟨d, e1, ⟨s1, st1, g1⟩, q1⟩ => ?_
  cases g1 with
  | bl b => exact ⟨b, rfl, q1 _ H1 s1 st1 (.bl _)⟩
  | int i =>
    have q1 : Post G σ H Q (.ok (.bl (decide (i = 0))) e1) := q1
    refine ⟨!decide (i = 0), ?_, q1 _ H1 s1 st1 (by rw [Bool.not_not]; exact .bl _)⟩
    show (!decide (i = 0)) = (i != 0)
    simp [bne, BEq.beq]
  | _ => exact q1.elim
/-- x.upper() -/
def mUpper (m : ME) : ME := fun env => (m env).bind fun d s => match d with
  | .str x => if x.length ≤ 1000 then .ok (.str (Txt.upper x)) s else .stuck
  | _ => .stuck
theorem se_upper {m : ME} {apos : Pos} (h : SE X G a m) (hbase : attributeBase a "upper" X.env (eval a X.env) = eval a X.env := by rfl) (hline : (apos.endLine == pos.line) = true := by rfl) : SE X G (.Call (.Attribute a "upper" apos) [] [] pos) (mUpper m) := PE.imp (pe_upper h hbase hline) fun σ H Q ⟨env, s, q⟩ => by
  refine (TEo.bind s (Post G σ H Q) (fun z => z) (fun _ z => z) q).mono fun x H1 ⟨d, e1, ⟨s1, st1, g1⟩, q1⟩ => ?_
  cases g1 with
  | str z =>
    have q1 : Post G σ H Q (if z.length ≤ 1000 then .ok (.str (Txt.upper z)) e1 else .stuck) := q1
    split at q1
    · rename_i hl
      exact ⟨⟨z, rfl⟩, z, rfl, rfl, by omega, q1 _ H1 s1 st1 (.str _)⟩
    · exact q1.elim
  | _ => exact q1.elim
/-! ### new lists -/
def mCatF (ma mb : ME) : ME := fun env => (ma env).bind fun d s => (mb s).bind fun d2 s2 => match d, d2 with
    | .lst xs, .lst ys => if xs.length + ys.length ≤ 1000000 then .ok (.lst (xs ++ ys)) s2 else .stuck
    | _, _ => .stuck
theorem sf_cat {ma mb : ME} {p : Pos} (ha : SE X G a ma) (hb : SE X G b mb) : SF X G (.BinOp a .Add b p) (mCatF ma mb) := PE.imp (pe_op op_cat ha hb) fun σ H Q ⟨env, s, q⟩ => by
  refine (TEo.bind s (PostF G σ H Q) (fun z => z) (fun _ z => z) q).mono fun x H1 ⟨d, e1, ⟨s1, st1, g1⟩, q1⟩ => ?_
  refine (TEo.bind s1 (PostF G σ H Q) (fun z => z) (fun _ z => z) q1).mono fun y H2 ⟨d2, e2, ⟨s2, st2, g2⟩, q2⟩ => ?_
  cases d with
  | lst xs =>
    cases d2 with
    | lst ys =>
      have q2 : PostF G σ H Q (if xs.length + ys.length ≤ 1000000 then .ok (.lst (xs ++ ys)) e2 else .stuck) := q2
      split at q2
      · rename_i hl
        obtain ⟨a1, vs1, rfl, h1, r1⟩ := (g1.stay st2.av).lst_inv
        obtain ⟨a2, vs2, rfl, h2, r2⟩ := g2.lst_inv
        refine ⟨a1, a2, vs1, vs2, rfl, rfl, h1, h2, by rw [← r1.length, ← r2.length]; exact line_of hl, fun p n => ?_⟩
        exact q2 p _ (s2.newOk (st1.trans st2) n ⟨_, upd_same, (r1.append r2).goes (goes_new n)⟩)
      · exact q2.elim
    | _ => exact q2.elim
  | _ => exact q2.elim
/-- the reversed list of one's own -/
def mRevO (i : Nat) : ME := fun env => match env[i]? with
  | some (some (.lst ds)) => .ok (.lst ds.reverse) env
  | _ => .stuck
theorem sf_revO {i : Nat} {x : Str} {k' : Nat} {p0 p1 p2 p3 p : Pos} (hi : (G.ow.contains i) = true) (hN : X.N[i]? = some x) (hv : Vis X.env.scope x) (hd : (x == ("__debug__" : Str)) = false := by decide) (hcd : (x == ("__classdict__" : Str)) = false := by decide) :
    SF X G (.Subscript (.Name x p0) (.Slice none none (some (.UnaryOp .USub (.Constant (.int 1) k' p1) p2)) p3) p) (mRevO i) := PE.imp (pe_revL (pe_var hN hv hd hcd)) fun σ H Q ⟨env, s, q⟩ => by
  unfold mRevO at q
  split at q
  · rename_i ds e0
    obtain ⟨a, ea, vs, h, r⟩ := s.own i _ e0 (by simpa using hi)
    exact ⟨.ref a, ea, a, vs, rfl, .of h, fun p n => q p _ (s.newOk (.refl _ _) n ⟨_, upd_same, r.rev_aux.goes (goes_new n)⟩)⟩
  · exact q.elim
/-- list(x) as something new -/
def mListF (m : ME) : ME := fun env => (m env).bind fun d s => match d with
  | .lst ds => .ok (.lst ds) s
  | .tup ds => .ok (.lst ds) s
  | _ => .stuck
theorem sf_list {m : ME} {p : Pos} (xg : XG X G k) (h : SE X G e m) (hg : Gl X "list") (hm : X.mg "list" = none) (he : starEach [e] X.env = (false, eval e X.env) :: starEach [] X.env := by rfl) (hpl : (backTo pos (starEach ([] : List Expr) X.env)).any (·.1) = false := by rfl) :
    SF X G (.Call (.Name "list" p) [e] [] pos) (mListF m) := PE.imp (pe_callTy call_list_of hg hm bt_list (pa_cons h pa_nil he) (by decide) (by decide) he hpl) fun σ H Q ⟨env, s, q⟩ => by
  refine (TEo.bind s (PostF G σ H Q) (fun z => z) (fun _ z => z) q).mono fun x H1 ⟨d, e1, ⟨s1, st1, g1⟩, q1⟩ => ?_
  cases d with
  | lst ds =>
    obtain ⟨a, vs, rfl, h1, r1⟩ := g1.lst_inv
    exact ⟨a, vs, rfl, .inl (xg.sqL (.of h1)), fun p n => q1 p _ (s1.newOk st1 n ⟨_, upd_same, r1.goes (goes_new n)⟩)⟩
  | tup ds =>
    obtain ⟨a, vs, rfl, h1, r1⟩ := g1.tup_inv
    exact ⟨a, vs, rfl, .inr (xg.sqT h1), fun p n => q1 p _ (s1.newOk st1 n ⟨_, upd_same, r1.goes (goes_new n)⟩)⟩
  | _ => exact q1.elim
end
/-! ### what is done while something new has no name yet -/
def Gh.inP (G : Gh) (p : Addr) : Gh := { G with ex := fun a => G.ex a ∨ a = p }
theorem av_inP {G : Gh} {σ : St} {p a : Addr} : Av (G.inP p) σ a ↔ Av G σ a ∨ a = p := by
  unfold Av Gh.inP
  constructor
  · rintro ((h | h | h) | h)
    · exact .inl (.inl (.inl h))
    · exact .inl (.inl (.inr h))
    · exact .inr h
    · exact .inl (.inr h)
  · rintro (((h | h) | h) | h)
    · exact .inl (.inl h)
    · exact .inl (.inr (.inl h))
    · exact .inr h
    · exact .inl (.inr (.inr h))
theorem XG.inP {X : Cx} {G : Gh} {k : Nat} (x : XG X G k) (p : Addr) : XG X (G.inP p) k := ⟨x.K, x.mg, x.room, x.calm, x.nd, x.pass⟩
section
variable {G : Gh} {σ : St} {H H' H2 : Hp} {env env' env2 : En} {p : Addr} {d : D}
theorem NewOk.enter (N : NewOk G σ H H' env' p d) : SR (G.inP p) σ H' env' where
  tabs := N.sr.tabs
  val := fun i d h hi => let ⟨v, h1, r⟩ := N.val i d h hi; ⟨v, h1, r.less fun a z => av_inP.mp z⟩
  own := fun i d h hi => let ⟨a, h1, o⟩ := N.own i d h hi; ⟨a, h1, o.goes (.less fun a z => av_inP.mp z) fun _ q _ => q⟩
  fresh := N.sr.fresh
  dist := N.sr.dist
  there := fun a h => by
    rcases av_inP.mp h with h | h
    · exact N.sr.there a h
    · rw [h]; exact N.at_.there
  frame := N.sr.frame
  par := N.sr.par
  len := N.sr.len
  avT := N.sr.avT
  exF := fun a h => by
    rcases h with h | h
    · exact N.sr.exF a h
    · rw [h]; exact N.new
  exO := fun i hi a h z => by
    rcases z with z | z
    · exact N.sr.exO i hi a h z
    · exact N.nav (.inr ⟨i, hi, by rw [← z]; exact h⟩)
  stays := N.sr.stays
theorem NewOk.next (N : NewOk G σ H H' env' p d) (s2 : SR (G.inP p) σ H2 env2) (st : Stay (Ch G σ) H' H2) : NewOk G σ H H2 env2 p d := by
  have up : ∀ a, Av G σ a → Av (G.inP p) σ a := fun a h => av_inP.mpr (.inl h)
  have g1 : Goes (Av1 G σ p) (Av1 G σ p) H' H2 := ⟨fun b o n h t => ⟨st b o (fun z => n (.inl (.inr z))) h t, n⟩⟩
  have np : ¬ Ch G σ p := fun z => N.nav (.inr z)
  refine ⟨⟨s2.tabs, fun i d h hi => ?_, fun i d h hi => ?_, s2.fresh, s2.dist, fun a h => s2.there a (up a h), s2.frame, s2.par, s2.len, s2.avT, fun a h => s2.exF a (.inl h), fun i hi a h z => s2.exO i hi a h (.inl z), s2.stays⟩, fun i d h hi => ?_, fun i d h hi => ?_, fun d v r => (N.keep d v r).goes g1, N.new, N.nav, N.at_.goes g1 fun o h t => st p o np h t⟩
  · obtain ⟨v, h1, r⟩ := s2.val i d h hi
    exact ⟨v, h1, Rep.less up r⟩
  · obtain ⟨a, h1, o⟩ := s2.own i d h hi
    exact ⟨a, h1, OwnAt.goes o (.less up) fun _ q _ => q⟩
  · obtain ⟨v, h1, r⟩ := s2.val i d h hi
    exact ⟨v, h1, Rep.less (fun a z => av_inP.mpr z) r⟩
  · obtain ⟨a, h1, o⟩ := s2.own i d h hi
    exact ⟨a, h1, OwnAt.goes o (.less fun a z => av_inP.mpr z) fun _ q _ => q⟩
end
section
variable {X : Cx} {G : Gh} {k : Nat} {pos : Pos} {a b c e : Expr}
/-- a, b, c = new, int, int -/
def mParFII (i j l : Nat) (m1 m2 m3 : ME) : MS := fun env => bindS (m1 env) fun d s => bindS (m2 s) fun d2 s2 => bindS (m3 s2) fun d3 s3 => match d2, d3 with
  | .int z2, .int z3 => .nx (((s3.set i (some d)).set j (some (.int z2))).set l (some (.int z3)))
  | _, _ => .stuck
theorem ss_parFII {i j l : Nat} {x y z : Str} {m1 m2 m3 : ME} {px py pz pt : Pos} {kt k2 pt2} (xg : XG X G k) (wi : (G.ow.contains i) = true) (wj : (G.ow.contains j) = false) (wl : (G.ow.contains l) = false) (i0 : i = 0 → G.pa = none) (hi : X.N[i]? = some x) (hj : X.N[j]? = some y) (hl : X.N[l]? = some z)
    (hij : i ≠ j) (hil : i ≠ l) (hjl : j ≠ l)
    (hx : X.env.scope.names.lookup x = some .local) (hy : X.env.scope.names.lookup y = some .local) (hz : X.env.scope.names.lookup z = some .local) (ha : SF X G a m1) (hb : ∀ p, SE X (G.inP p) b m2) (hc : ∀ p, SE X (G.inP p) c m3)
    (hw : swappedStores [.Tuple [.Name x px, .Name y py, .Name z pz] kt pt] (.Tuple [a, b, c] k2 pt2) X.env = pure (some [x, y, z]))
    (h1 : starEach [a, b, c] X.env = (false, eval a X.env) :: starEach [b, c] X.env := by rfl) (h2 : starEach [b, c] X.env = (false, eval b X.env) :: starEach [c] X.env := by rfl) (h3 : starEach [c] X.env = (false, eval c X.env) :: starEach [] X.env := by rfl)
    (hs : swapsWithSole [.Tuple [.Name x px, .Name y py, .Name z pz] kt pt] (.Tuple [a, b, c] k2 pt2) pos.line X.env = pure false := by rfl) :
    SS X G (.Assign [.Tuple [.Name x px, .Name y py, .Name z pz] kt pt] (.Tuple [a, b, c] k2 pt2) pos) (mParFII i j l m1 m2 m3) :=
  PS.imp (ps_par3 xg.calm xg.nd hi hj hl hij hil hjl hx hy hz (pa_cons ha (pa_cons (PE.ex hb) (pa_cons (PE.ex hc) pa_nil h3) h2) h1) hw hs) fun D σ H ⟨env, s, q⟩ => by
  refine ⟨env, s, ?_⟩
  unfold mParFII at q
  cases r1 : m1 env with
  | stuck => rw [r1] at q; exact q
  | err e => rw [r1] at q; exact q
  | ok d e1 =>
    rw [r1] at q
    intro p H1 N
    refine ⟨p, ?_⟩
    have q : PostS G D σ H (bindS (m2 e1) fun d2 s2 => bindS (m3 s2) fun d3 s3 => match d2, d3 with
      | .int z2, .int z3 => .nx (((s3.set i (some d)).set j (some (.int z2))).set l (some (.int z3)))
      | _, _ => .stuck) := q
    refine (TEo.bindS N.enter (PostS G D σ H) (fun z => z) (fun _ z => z) q).mono fun v2 H2 ⟨d2, e2, ⟨s2, st2, g2⟩, q2⟩ => ?_
    have N2 := N.next s2 st2
    refine ⟨p, ?_⟩
    refine (TEo.bindS s2 (PostS G D σ H) (fun z => z) (fun _ z => z) q2).mono fun v3 H3 ⟨d3, e3, ⟨s3, st3, g3⟩, q3⟩ => ?_
    have N3 := N2.next s3 st3
    split at q3
    · cases g2; cases g3
      obtain ⟨t1, k1⟩ := N3.set s (i := i) (by simpa using wi) i0
      obtain ⟨t2, k2⟩ := t1.set (i := j) (by simpa using wj) (.int _)
      obtain ⟨t3, k3⟩ := t2.set (i := l) (by simpa using wl) (.int _)
      exact ⟨_, _, _, rfl, q3 _ _ t3 ((k1.trans k2).trans k3)⟩
    · exact q3.elim
/-! ### what is handed back -/
def PostR (G : Gh) (Q : VK) : RS → Prop
  | .rt d env' => ∀ v H', RetOk G H' d env' v → Q v H'
  | .err e => PostE G e
  | _ => False
/-- an expression behind return -/
def RT (X : Cx) (G : Gh) (e : Expr) (m : MS) : Prop := PE X e (fun σ H Q => ∃ env, SR G σ H env ∧ PostR G Q (m env))
def RS.onlyR (r : RS) : RS := match r with
  | .rt d e => .rt d e
  | .err x => .err x
  | _ => .stuck
def mRt (m : MS) : MS := fun env => (m env).onlyR
theorem ss_retR {m : MS} (h : RT X G e m) : SS X G (.Return (some e) pos) (mRt m) := PS.imp (ps_ret h) fun D σ H ⟨env, s, q⟩ => by
  refine ⟨env, s, ?_⟩
  unfold mRt RS.onlyR at q
  cases r : m env with
  | rt d e1 => rw [r] at q; exact q
  | err e => rw [r] at q; exact q
  | stuck => rw [r] at q; exact q.elim
  | nx e => rw [r] at q; exact q.elim
  | bk e => rw [r] at q; exact q.elim
  | ct e => rw [r] at q; exact q.elim
theorem rt_val {m : ME} (hf : G.fr = false) (h : SE X G e m) : RT X G e (mRet m) := PE.imp h fun σ H Q ⟨env, s, q⟩ => by
  refine ⟨env, s, ?_⟩
  unfold mRet at q
  cases r : m env with
  | stuck => rw [r] at q; exact q
  | err e => rw [r] at q; exact q
  | ok d e1 =>
    rw [r] at q
    exact fun v H' s' _ r' => q v H' (s'.ret hf r')
theorem rt_own {i : Nat} {x : Str} {p : Pos} (hf : G.fr = false) (hi : (G.ow.contains i && (i != 0 || !G.ow.contains 0)) = true) (hN : X.N[i]? = some x) (hv : Vis X.env.scope x) (hd : (x == ("__debug__" : Str)) = false := by decide) (hcd : (x == ("__classdict__" : Str)) = false := by decide) :
    RT X G (.Name x p) (mRetOwn i) := PE.imp (pe_var hN hv hd hcd) fun σ H Q ⟨env, s, q⟩ => by
  unfold mRetOwn at q
  split at q
  · rename_i ds e0
    simp only [Bool.and_eq_true, Bool.or_eq_true, bne_iff_ne, Bool.not_eq_true', List.contains_iff_mem] at hi
    obtain ⟨hi, h0⟩ := hi
    obtain ⟨a, e1, o⟩ := s.own i _ e0 hi
    refine ⟨.ref a, e1, q _ H ⟨s.tabs, s.frame, ?_, s.parOwn, s.stays, fun z => by rw [hf] at z; cases z⟩⟩
    have nav : ¬ G.av a := fun ha => by
      rcases s.fresh i hi a e1 with z | z
      · obtain ⟨p0, p1, _⟩ := s.par a z
        have e2 := s.dist i hi 0 p0 a e1 p1
        rcases h0 with h | h
        · exact h e2
        · have : G.ow.contains 0 = true := by simpa using p0
          rw [this] at h; cases h
      · obtain ⟨o', h1, t1⟩ := s.avT a ha
        exact z o' h1 t1
    obtain ⟨vs, h, r⟩ := o
    exact .lst h nav (r.less fun a h => .inl (.inl h))
  · exact q.elim
theorem rt_if {t : MT} {ma mb : MS} (ht : ST X G c t) (ha : RT X G a ma) (hb : RT X G b mb) : RT X G (.IfExp c a b pos) (mIfS t ma mb) := PE.imp (pe_ifExp ht ha hb) fun σ H Q ⟨env, s, q⟩ => by
  refine ⟨env, s, ?_⟩
  unfold mIfS at q
  cases r : t env with
  | stuck => rw [r] at q; exact q
  | err e => rw [r] at q; exact q
  | ok b1 e1 =>
    rw [r] at q
    have q : PostR G Q (if b1 = true then ma e1 else mb e1) := q
    intro H1 s1 st1
    cases b1 with
    | true => rw [if_pos rfl] at q ⊢; exact ⟨e1, s1, q⟩
    | false => rw [if_neg Bool.false_ne_true] at q ⊢; exact ⟨e1, s1, q⟩
end
end FT

set_option Elab.async false
set_option linter.all false
set_option maxRecDepth 100000
set_option maxHeartbeats 4000000
/-! FUH: a tuple times a number, also none or one, and the empty tuple. -/
namespace FT
open PySem PySem.Spec PyProof.Rows L2
theorem tuple_mul_same (l : Addr) (items : Array Value) (n : Nat) (dd : Option Addr) (sl : Array (Option Value)) (x : Int) (u : Tok) (c0 : (decide (x < -(2 ^ 63)) || decide (x ≥ 2 ^ 63)) = false) (c1 : (items.isEmpty || x == 1) = true) :
    Meets (Builtin.«tuple.__mul__» ⟨[.ref l, .int x u], []⟩) (fun _ R s => s.heap.get? l = some { cls := .type "tuple", dict := dd, data := .seq items n, slots := sl } ∧
      R (.ok (.ret (Value.ref l))) s) :=
  .of_wp fun prog w A R s h => by
    obtain ⟨hp, g, d, tk, os⟩ := s
    obtain ⟨hl, h⟩ := h
    have f1 := AutoSeq1.idx_int
    wp_walk using wpAny_loadPart' hl
    repeat (first
      | (refine wpAny_ite_false (decide_eq_false (by rw [c0]; exact Bool.false_ne_true)) ?_; wp_walk using wpAny_loadPart' hl)
      | (refine wpAny_ite_true (decide_eq_true (by rw [c1])) ?_; wp_walk using wpAny_loadPart' hl))
    exact ⟨_, rfl, h⟩
theorem tuple_mul_none (l : Addr) (items : Array Value) (n : Nat) (dd : Option Addr) (sl : Array (Option Value)) (x : Int) (u : Tok) (c0 : (decide (x < -(2 ^ 63)) || decide (x ≥ 2 ^ 63)) = false) (c1 : (items.isEmpty || x == 1) = false) (c2 : (decide (x ≤ 0) || items.isEmpty) = true) :
    Meets (Builtin.«tuple.__mul__» ⟨[.ref l, .int x u], []⟩) (fun _ R s => s.heap.get? l = some { cls := .type "tuple", dict := dd, data := .seq items n, slots := sl } ∧
      R (.ok (.ret (Value.ref s.heap.objs.size))) { s with heap := s.heap.push { cls := Value.type "tuple", data := Data.seq #[] }, toks := s.toks }) :=
  .of_wp fun prog w A R s h => by
    obtain ⟨hp, g, d, tk, os⟩ := s
    obtain ⟨hl, h⟩ := h
    have f1 := AutoSeq1.idx_int
    wp_walk using wpAny_loadPart' hl
    repeat (first
      | (refine wpAny_ite_false (decide_eq_false (by rw [c0]; exact Bool.false_ne_true)) ?_; wp_walk using wpAny_loadPart' hl)
      | (refine wpAny_ite_false (decide_eq_false (by rw [c1]; exact Bool.false_ne_true)) ?_; wp_walk using wpAny_loadPart' hl)
      | (refine wpAny_ite_true (decide_eq_true (by rw [c2])) ?_; wp_walk using wpAny_loadPart' hl))
    exact ⟨_, rfl, h⟩
/-- few times a tuple -/
def rRepU (K : PySem.W.Frag) : R2 := fun x y H Q => ∃ l k xs, x = .ref l ∧ y = .int k ∧ SqT K H l xs ∧ -1000 ≤ k ∧ k ≤ 1000 ∧ ((xs = [] ∨ k = 1) ∧ Q x H ∨ (xs ≠ [] ∧ k ≤ 0) ∧ ∀ p, H p = none → Q (.ref p) (upd H p (.tup [])))
section
variable {X : Cx} {G : Gh} {k : Nat}
theorem op_repU : OpR X (binaryOp .Mult) (rRepU X.K) := by
  intro pins s σ H x y v u Q I rx ry h
  obtain ⟨l, k, xs, rfl, rfl, hT, h1, h2, q⟩ := h
  cases rx
  obtain ⟨t, rfl⟩ := ry
  obtain ⟨its, r, ⟨⟨cls, dd, data, sl⟩, ho, hc, n, hd⟩, hs⟩ := I.tuple hT
  simp only at hc hd
  subst hc hd
  have hle : its.length = xs.length := r.length.symm
  have c0 : (decide (k < -(2 ^ 63)) || decide (k ≥ 2 ^ 63)) = false := by
    rw [decide_eq_false (by omega), decide_eq_false (by omega)] <;> rfl
  rcases q with ⟨q1, q⟩ | ⟨⟨q1, q2⟩, q⟩
  · have c1 : (its.toArray.isEmpty || k == 1) = true := by
      rcases q1 with e | e
      · subst e
        have : its = [] := List.eq_nil_of_length_eq_zero hle
        subst this
        rfl
      · subst e; exact Bool.or_true _
    refine wpAny_binaryOp_repeat_ref (T := "tuple") (U := "int") (by decide) ⟨_, ho, rfl⟩ (fun s' => typeIs_int s' k t) noFill_tuple_mul F.fills_int_mul F.slot_int_rmul repeat_tuple F.slot_int_index.lookup
      (call_meets F.slot_int_rmul (typeIs_int s k t) F.entry_int_rmul (F.args_int_rmul_2 _ _) (int_rmul_tuple k t l its.toArray n dd sl)
        ⟨ho, rfl, ⟨_, ho, rfl⟩, call_meets F.slot_tuple_mul ⟨_, ho, rfl⟩ F.entry_tuple_mul (F.args_tuple_mul_2 _ _) (tuple_mul_same l its.toArray n dd sl k t c0 c1) ⟨ho, ?_⟩⟩)
    exact ⟨.ref l, H, I, rfl, q⟩
  · have hn : its ≠ [] := fun e => q1 (by
      rw [e] at hle
      exact List.eq_nil_of_length_eq_zero hle.symm)
    have hi : its.toArray.isEmpty = false := by
      cases its with
      | nil => exact absurd rfl hn
      | cons a b => rfl
    have c1 : (its.toArray.isEmpty || k == 1) = false := by
      rw [hi, Bool.false_or]
      exact beq_eq_false_iff_ne.mpr (by omega)
    have c2 : (decide (k ≤ 0) || its.toArray.isEmpty) = true := by
      rw [decide_eq_true q2]; rfl
    refine wpAny_binaryOp_repeat_ref (T := "tuple") (U := "int") (by decide) ⟨_, ho, rfl⟩ (fun s' => typeIs_int s' k t) noFill_tuple_mul F.fills_int_mul F.slot_int_rmul repeat_tuple F.slot_int_index.lookup
      (call_meets F.slot_int_rmul (typeIs_int s k t) F.entry_int_rmul (F.args_int_rmul_2 _ _) (int_rmul_tuple k t l its.toArray n dd sl)
        ⟨ho, rfl, ⟨_, ho, rfl⟩, call_meets F.slot_tuple_mul ⟨_, ho, rfl⟩ F.entry_tuple_mul (F.args_tuple_mul_2 _ _) (tuple_mul_none l its.toArray n dd sl k t c0 c1 c2) ⟨ho, ?_⟩⟩)
    refine ⟨.ref s.heap.objs.size, _, I.laid (t' := s.toks) (o := .tup []) (fun b ob q => Heap.get?_push_of_some _ q) (Nat.le_refl _) ?_, rfl, q _ (I.hok.fresh (Nat.le_refl _))⟩
    exact ⟨by decide, [], .nil, IsTup.new _ _⟩
def gMulT : D → D → Option D
  | .tup a, .int j => if a = [] ∨ j = 1 then (if -1000 ≤ j ∧ j ≤ 1000 then some (.tup a) else none) else if j ≤ 0 then (if -1000 ≤ j then some (.tup []) else none) else gMul (.tup a) (.int j)
  | x, y => gMul x y
theorem op_gMulT (x : XG X G k) : OpR X (binaryOp .Mult) (rOf G gMulT) := by
  intro pins s σ H v1 v2 u1 u2 Q I r1 r2 ⟨av, dx, dy, d, h1, h2, hg, hav, q⟩
  unfold gMulT at hg
  split at hg
  · rename_i a j
    have r2' := r2
    rw [h2.int] at r2'
    obtain ⟨a1, vs1, e0, e1, p1⟩ := h1.tup
    split at hg
    · rename_i hz
      split at hg
      · rename_i hj
        cases hg
        subst e0
        have e3 : u2 = u2 := rfl
        rw [h2.int] at r2
        exact op_repU pins s σ H _ _ u1 u2 Q I r1 r2 ⟨a1, j, vs1, rfl, rfl, x.sqT e1, hj.1, hj.2, .inl ⟨hz.imp p1.nil_iff.mp id, q _ _ (.refl _) h1.rep⟩⟩
      · cases hg
    · rename_i hz
      split at hg
      · split at hg
        · rename_i hj0 hj
          cases hg
          subst e0
          rw [h2.int] at r2
          exact op_repU pins s σ H _ _ u1 u2 Q I r1 r2 ⟨a1, j, vs1, rfl, rfl, x.sqT e1, hj, by omega, .inr ⟨⟨fun e => hz (.inl (p1.nil_iff.mpr e)), hj0⟩, fun p n => q _ _ (Ext.upd n) (.tup upd_same (new_no hav n) .nil)⟩⟩
        · cases hg
      · exact op_gMul x pins s σ H v1 v2 u1 u2 Q I r1 r2 ⟨av, _, _, d, h1, h2, hg, hav, q⟩
  · exact op_gMul x pins s σ H v1 v2 u1 u2 Q I r1 r2 ⟨av, _, _, d, h1, h2, hg, hav, q⟩
end
end FT

set_option Elab.async false
set_option linter.all false
set_option maxRecDepth 100000
set_option maxHeartbeats 2000000
/-! FUI: lambdas in several defs; the making of an instance that fails. -/
namespace FT
open PySem PySem.Spec PyProof.Rows L2 HotX L2H He

/-! ### the tables of several defs -/
abbrev TabL := List (Defn × Str)
def tbl (K : PySem.W.Frag) (L : TabL) : List (Addr × Str) := L.map fun p => ((cT K p.1).2, p.2)
def ndB (K : PySem.W.Frag) (L : TabL) : Bool := decide ((L.map fun p => (cT K p.1).2).Nodup)
theorem tbl_mem {K : PySem.W.Frag} {L : TabL} {p : Defn × Str} (h : p ∈ L) : ((cT K p.1).2, p.2) ∈ tbl K L := List.mem_map.mpr ⟨p, h, rfl⟩
theorem tbl_uniq' {K : PySem.W.Frag} {p q : Defn × Str} : ∀ {L : TabL} (_ : (L.map fun p => (cT K p.1).2).Nodup) (_ : p ∈ L) (_ : q ∈ L), (cT K q.1).2 = (cT K p.1).2 → q.2 = p.2
  | [], _, hp, _, _ => nomatch hp
  | a :: L, nd, hp, hq, e => by
    rw [List.map_cons, List.nodup_cons] at nd
    rcases List.mem_cons.mp hp with rfl | hp'
    · rcases List.mem_cons.mp hq with rfl | hq'
      · rfl
      · exact absurd (List.mem_map.mpr ⟨q, hq', e⟩) nd.1
    · rcases List.mem_cons.mp hq with rfl | hq'
      · exact absurd (List.mem_map.mpr ⟨p, hp', e.symm⟩) nd.1
      · exact tbl_uniq' nd.2 hp' hq' e
theorem tbl_uniq {K : PySem.W.Frag} {L : TabL} (nd : ndB K L = true) {p : Defn × Str} (hp : p ∈ L) : ∀ z ∈ tbl K L, z.1 = (cT K p.1).2 → z.2 = p.2 := by
  intro z hz e
  obtain ⟨q, hq, rfl⟩ := List.mem_map.mp hz
  exact tbl_uniq' (of_decide_eq_true nd) hp hq e
section
variable {w : World} {K : PySem.W.Frag} {mg : Str → Option Value} {k : Nat}
theorem told_at {h : Heap} (X : K.In h) (G : h.Ns mainGlobals mg) {x : Str} {s : Stmt} (D : DefIn K mg x s) (hx : isG K x = true) : ∃ f fd, mg x = some (.ref f) ∧ Fun K x x s f fd ∧ fd.code = .ref (cT K (x, none)).1 := by
  obtain ⟨f, fd, hm, hF⟩ := D
  have ga : f = ga K x := by
    have z := hm.symm.trans (isG_ok X G hx)
    cases z; rfl
  refine ⟨f, fd, hm, hF, ?_⟩
  obtain ⟨oc, od, kV, doc, pm, an, cdv, ct, osl, rfl, lk, hcd⟩ := hF.ex
  obtain ⟨cc, rfl⟩ := codeIn_ref hcd
  have eC : codeOf K (x, none) = cc := codeOf_eq (p := (x, none)) (by rw [show fAd K (x, none) = f from ga.symm]; exact lk) rfl
  show Value.ref cc = Value.ref (codeOf K (x, none))
  rw [eC]
theorem law_atN {l : PySem.W.OpenLaw} {n : Nat} {x : Str} {fa : Addr} {h : Heap} {fd : FuncData} {F : Fn} (L : TabL) (hT : ∀ p ∈ L, h.get? (cT K p.1).2 = some { cls := .none, data := .fields #[] }) (nT : ∀ p ∈ L, K.lookup (cT K p.1).2 = none) (hd : ∀ p ∈ L, PySem.W.CodeHd h (cT K p.1).1 (cT K p.1).2)
    (hb : ∀ (s : Shared) (u : Value), BindsTo s fd ⟨[u], []⟩ [(x, u)]) (den : ∀ ns : List Int, ns.length ≤ n → (∀ z ∈ ns, Builtin.Int.intBits z ≤ 1048576) → ∃ o, F [.scr ns] = .ok (.bl true) o)
    (fnok : ∀ base : Heap, K.In base → base.Ns mainGlobals mg → (∀ p ∈ L, LamX.TabB base mg (cT K p.1).1 (cT K p.1).2) → FnOk l.prog w K mg base (L2N.CX l.prog w) k fa fd [x] (spF K mg (tbl K L) 1 false false F)) : LamX.LawAtS l w K (L2N.CX l.prog w) k n x mg fa h := by
  refine ⟨fd, L.map fun p => cT K p.1, spF K mg (tbl K L) 1 false false F, fun p hp => ?_, fun p hp => ?_, fun p hp => ?_, hb, fun H a ns h1 h2 h3 h4 => ?_, fun base b1 b2 b3 => fnok base b1 b2 fun p hp => b3 _ (List.mem_map.mpr ⟨p, hp, rfl⟩)⟩
  · obtain ⟨q, hq, rfl⟩ := List.mem_map.mp hp
    exact hT q hq
  · obtain ⟨q, hq, rfl⟩ := List.mem_map.mp hp
    exact nT q hq
  · obtain ⟨q, hq, rfl⟩ := List.mem_map.mp hp
    exact hd q hq
  · obtain ⟨o, e⟩ := den ns h1 h2
    refine ⟨fun _ => False, none, [.scr ns], fun p hp => ?_, fun a z => z.elim, rfl, ⟨rfl, .cons (rep_scr h4 fun z => z) .nil⟩, ?_⟩
    · obtain ⟨q, hq, rfl⟩ := List.mem_map.mp hp
      exact LamX.TabS.nil (h3 _ (List.mem_map.mpr ⟨q, hq, rfl⟩))
    · rw [e]
      intro v H' C
      have r := C.rep
      cases r
      rfl
end

/-! ### C(..) whose __init__ raises -/
def spI (K : PySem.W.Frag) (mg : Str → Option Value) (T : List (Addr × Str)) (n : Nat) (F : Fn) : Sp := fun vs H _ E => ∃ (av : Addr → Prop) (a : Addr) (ds : List D) (vs' : List V) (e : Er), vs = .ref a :: vs' ∧ LamX.Tabs T H ∧ (∀ a, av a → ∃ o, H a = some o ∧ NotTbl o) ∧ ds.length = n ∧
  Reps K mg H av ds vs' ∧ F ds = .err e ∧ ∀ cls dd H', LamX.Tabs T H' → (∀ b u, H b = some u → NotTbl u → H' b = some u) → ErrIs' mg e cls dd H' → E cls dd H'
def KnownI (P : Program) (w : World) (K : PySem.W.Frag) (mg : Str → Option Value) (T : List (Addr × Str)) (base : Heap) (x : Str) (k n : Nat) (F : Fn) : Prop :=
  ∃ (C f : Addr) (fd : FuncData) (ps : List Str), mg x = some (.ref C) ∧ Mk K C f ∧ Binds K fd ps [] ∧ FnOk P w K mg base (L2N.CX P w) k f fd ps (spI K mg T n F)
theorem KnownI.mono {P : Program} {w : World} {K : PySem.W.Frag} {mg : Str → Option Value} {T : List (Addr × Str)} {base : Heap} {x : Str} {j k : Nat} {n : Nat} {F : Fn} (h : KnownI P w K mg T base x j n F) (l : j ≤ k) : KnownI P w K mg T base x k n F := by
  obtain ⟨C, f, fd, ps, h1, h2, h3, h4⟩ := h
  exact ⟨C, f, fd, ps, h1, h2, h3, h4.mono l⟩
/-- its denotation by its body's: self is not looked at -/
def bodyI (n : Nat) (m : MS) : Fn := fun ds => match m (none :: startE n ds) with
  | .err e => .err e
  | _ => .stuck
theorem SR.forget0 {G : Gh} {σ : St} {H : Hp} {d : Option D} {env : En} (s : SR G σ H (d :: env)) (h0 : G.pa = none) : SR G σ H (none :: env) := by
  have g : ∀ {i : Nat} {x : D}, (none :: env : En)[i]? = some (some x) → (d :: env)[i]? = some (some x) := fun {i x} h => by
    cases i with
    | zero => cases h
    | succ i => exact h
  exact ⟨s.tabs, fun i x h hi => s.val i x (g h) hi, fun i x h hi => s.own i x (g h) hi, s.fresh, s.dist, s.there, s.frame, fun a h => (by rw [h0] at h; cases h), s.len, s.avT, s.exF, s.exO, s.stays⟩
section
variable {P : Program} {w : World} {K : PySem.W.Frag} {mg : Str → Option Value} {T : List (Addr × Str)} {base : Heap}
theorem init_ok {x qual : Str} {st : Stmt} {C f : Addr} {fd : FuncData} {N ps : List Str} {k : Nat} {m : MS} {n l : Nat} (F : Fun K "__init__" qual st f fd) (hm : mg x = some (.ref C)) (M : Mk K C f) (S : FnScope N ps (defScope st)) (hn : ps.length = n + 1) (hN : N.length = l + 1)
    (hb : ∀ (kV doc pm : Value) (an : Option Addr) (cdv ct : Value) (us : List Value), us.length = ps.length → bindArgs (PySem.W.fnOf "__init__" qual (defArgs st) (defBody st) (defScope st) .none kV doc pm an cdv ct) ⟨us, []⟩ = pure (ps.zip us))
    (body : ∀ (cdv : Value) (A : Around) (outer : List Env) (s : Shared) (H : Hp) (av : Addr → Prop) (pa : Option Addr) (E : XK), pa = none →
      XS (cxOf (L2N.CX P w) P w K mg base N qual (defScope st) f cdv A outer s H E) (ghOf K mg T [] false av H pa E) k →
      SSs (cxOf (L2N.CX P w) P w K mg base N qual (defScope st) f cdv A outer s H E) (ghOf K mg T [] false av H pa E) (defBody st) m) :
    KnownI P w K mg T base x (k + 1) n (bodyI l m) := by
  refine ⟨C, f, fd, ps, hm, M, F.binds hb, ?_⟩
  obtain ⟨oc, od, kV, doc, pm, an, cdv, ct, osl, rfl, lk, hcd⟩ := F.ex
  refine fn_of lk hcd S (fun vs H Q E h => ?_) fun A outer s H vs Q E hr h => ?_
  · obtain ⟨av, a, ds, vs', e, rfl, _, _, hl, hr, _⟩ := h
    rw [List.length_cons, ← hr.length, hl, hn]
  · obtain ⟨av, a, ds, vs', e, rfl, tabs, avT, hl, ha, he, hq⟩ := h
    have tk : L2N.Takes (cxOf (L2N.CX P w) P w K mg base N qual (defScope st) f cdv A outer s H E) (fun cls d _ H => E cls d H) := L2N.takes_of rfl rfl rfl rfl
    have b := body cdv A outer s H av none E rfl ⟨⟨rfl, rfl, hr, rfl, S.nd, L2N.passes_call tk fun _ _ _ _ z => z⟩, passes_of (K := fun e s'' => L2N.CX P w outer H s E e s'') rfl, tk⟩
    have st0 := SR.start (ow := []) (fr := false) (own := false) (pa := none) (E := E) (N := N) tabs avT (ds := .ref a :: ds) (vs := .ref a :: vs') ⟨rfl, .cons (.ref a) ha⟩ (fun i hi => nomatch hi) (fun z => nomatch z)
    have e1 : startE N.length (.ref a :: ds) = some (.ref a) :: startE l ds := by
      unfold startE
      simp [hN]
    rw [e1] at st0
    refine ⟨_, b, none :: startE l ds, st0.forget0 rfl, ?_⟩
    unfold bodyI at he
    split at he
    · rename_i e' r
      cases he
      rw [r]
      exact fun cls dd H' ⟨t, fm, ei⟩ => hq cls dd H' t (fun b u h1 h2 => fm b u (fun z => nomatch z) h1 h2) ei
    · cases he
end
def mNewI (F : Fn) (ms : MA) : ME := fun env => (ms env).bind fun ds _ => match F ds with
  | .err e => .err e
  | _ => .stuck
section
variable {X : Cx} {G : Gh} {k : Nat} {base : Heap} {x : Str} {j n : Nat} {F : Fn} {p pos : Pos} {e : Expr} {es : List Expr}
theorem notTbl_own {a : Addr} : NotTbl (.own a) := fun _ q => nomatch q
theorem se_newI {ms : MA} (xg : XG X G k) (hf : KnownI X.prog X.w X.K X.mg G.T X.base x j n F) (hj : j + 1 ≤ k) (hg : Gl X x) (ha : SA X G (e :: es) ms) (hn : (e :: es).length = n) (hdb : (x == ("__debug__" : Str)) = false := by decide)
    (he : starEach (e :: es) X.env = (false, eval e X.env) :: starEach es X.env := by rfl) (hpl : (backTo pos (starEach es X.env)).any (·.1) = false := by rfl) : SE X G (.Call (.Name x p) (e :: es) [] pos) (mNewI F ms) := by
  obtain ⟨C, f, fd, ps, h1, h2, h3, h4⟩ := hf
  refine PE.imp (pe_make h2 h4 (xg.room.mono hj) hg h1 h3 .nil xg.pass ha.pa hdb he hpl) fun σ H Q ⟨env, s, q⟩ => ?_
  refine (TAo.bind s (Post G σ H Q) (fun z => z) (fun _ z => z) q).mono fun xs H1 ⟨ds, e1, eq, s1, st1, g1, q1⟩ => ?_
  intro y dy ny ndy ne
  rw [List.append_nil]
  cases r : F ds with
  | stuck => rw [r] at q1; exact q1.elim
  | ok d o => rw [r] at q1; exact q1.elim
  | err er =>
    rw [r] at q1
    have ex : Ext H1 (upd (upd H1 dy (.own y)) y (.ins C dy [])) := fun b o h => by
      have nb : b ≠ y := fun z => by rw [z, ny] at h; cases h
      have nb2 : b ≠ dy := fun z => by rw [z, ndy] at h; cases h
      rw [upd_ne nb, upd_ne nb2]; exact h
    have s2 := s1.ext ex
    refine ⟨Av G σ, y, ds, xs, er, rfl, s2.tabs, fun a h => s2.there a h, by rw [ha.len _ _ _ eq]; exact hn, by rw [xg.K, xg.mg]; exact g1.ext ex, r, fun cls dd H' t fm ei => ?_⟩
    rw [xg.mg] at ei
    exact err_of s2 q1 t fm ei
end
/-! ### the facts of such a class -/
structure MkT (K : PySem.W.Frag) (mg : Str → Option Value) (x : Str) (st : Stmt) (C f : Addr) (fd : FuncData) : Prop where
  gC : mg x = some (.ref C)
  mkk : Mk K C f
  init : Fun K "__init__" (x ++ Str.ofString ".__init__") st f fd
def mkB (K : PySem.W.Frag) (x : Str) : Bool := isG K x && (PySem.W.makesIn K (ga K x) && (eqO (PySem.W.findIn K (.ref (ga K x)) "__init__") (some (some (.ref (ma K (ga K x) "__init__")))) && (PySem.W.isFn K (.ref (ma K (ga K x) "__init__")) && PySem.W.keepIn K (.ref (ga K x)))))
theorem mkB_ok {K : PySem.W.Frag} {h : Heap} {mg : Str → Option Value} (X : K.In h) (G : h.Ns mainGlobals mg) {fa : List Fa} {fn : List DefD} (c : SaysD fa fn K) {x : Str} {st : Stmt} (hd : dInit x st ∈ fn) (hb : mkB K x = true) : ∃ C f fd, MkT K mg x st C f fd := by
  simp only [mkB, Bool.and_eq_true] at hb
  obtain ⟨b1, b2, b3, b4, b5⟩ := hb
  obtain ⟨fd, F⟩ := c.defs hd
  obtain ⟨oc, od, dV, kV, doc, pm, an, cdv, ct, osl, e, lk, hc, hdv, _⟩ := F.ex
  rcases hdv with ⟨_, z⟩ | ⟨z, _⟩
  · subst z
    exact ⟨ga K x, _, fd, isG_ok X G b1, ⟨b2, eqO_ok b3, b4, b5⟩, ⟨oc, od, kV, doc, pm, an, cdv, ct, osl, e, lk, hc⟩, F.kp⟩
  · exact absurd rfl z
def newR (r : RF) : R D := match r with
  | .err e => .err e
  | _ => .stuck
theorem x_newI {F : Fn} {ms : MA} {env : En} : mNewI F ms env = (ms env).bind fun ds _ => newR (F ds) := rfl
theorem x_newE {e : Er} : newR (.err e) = .err e := rfl
theorem x_bodyI {n : Nat} {m : MS} {ds : List D} : bodyI n m ds = (match m (none :: startE n ds) with
  | .err e => .err e
  | _ => .stuck) := rfl
end FT

set_option Elab.async false
set_option linter.all false
set_option maxRecDepth 100000
set_option maxHeartbeats 1000000
/-! FUJ: the head's facts on a fragment that is laid out once (for tops of many statements). -/
namespace FT
open PySem PySem.Spec PyProof.Rows L2 He HandSHeadRun
section
variable {β : Type} (g : Addr → Option Obj)
def forceL : List Addr → List Addr → (List Addr → β) → β
  | [], acc, k => k acc
  | a :: r, acc, k => frNat a fun a => forceL r (a :: acc) k
def layK : List Addr → PySem.W.Frag → (PySem.W.Frag → β) → β
  | [], K, k => k K
  | a :: r, K, k => match g a with
    | some o => (match emptyTab o with
      | true => layK r K k
      | false => layK r ((a, o) :: K) k)
    | none => layK r K k
def refsL (L : List Addr) : List Addr := L.flatMap fun a => match g a with
  | some o => refsD o
  | none => []
def layers : Nat → List Addr → List Addr → (List Addr → β) → β
  | 0, _, acc, k => k acc
  | n + 1, L, acc, k => forceL (refsL g L) [] fun L' => layers n L' (L' ++ acc) k
def withK (n : Nat) (k : PySem.W.Frag → β) : β := layers g n [mainGlobals] [cStatics, mainGlobals] fun as => layK g as [] k
end
theorem forceL_eq {β : Type} {k : List Addr → β} : ∀ (l acc : List Addr), forceL l acc k = k (l.reverse ++ acc)
  | [], acc => rfl
  | a :: r, acc => by
    show frNat a (fun a => forceL r (a :: acc) k) = _
    rw [frNat_eq, forceL_eq r (a :: acc)]
    simp
def layF (g : Addr → Option Obj) : List Addr → PySem.W.Frag → PySem.W.Frag
  | [], K => K
  | a :: r, K => match g a with
    | some o => (match emptyTab o with
      | true => layF g r K
      | false => layF g r ((a, o) :: K))
    | none => layF g r K
theorem layK_eq {β : Type} {g : Addr → Option Obj} {k : PySem.W.Frag → β} : ∀ (l : List Addr) (K : PySem.W.Frag), layK g l K k = k (layF g l K)
  | [], K => rfl
  | a :: r, K => by
    unfold layK layF
    cases g a with
    | none => exact layK_eq r K
    | some o =>
      show (match emptyTab o with | true => layK g r K k | false => layK g r ((a, o) :: K) k) = k (match emptyTab o with | true => layF g r K | false => layF g r ((a, o) :: K))
      cases emptyTab o with
      | true => exact layK_eq r K
      | false => exact layK_eq r _
def layersL (g : Addr → Option Obj) : Nat → List Addr → List Addr → List Addr
  | 0, _, acc => acc
  | n + 1, L, acc => layersL g n ((refsL g L).reverse) ((refsL g L).reverse ++ acc)
theorem layers_eq {β : Type} {g : Addr → Option Obj} {k : List Addr → β} : ∀ (n : Nat) (L acc : List Addr), layers g n L acc k = k (layersL g n L acc)
  | 0, L, acc => rfl
  | n + 1, L, acc => by
    show forceL (refsL g L) [] (fun L' => layers g n L' (L' ++ acc) k) = _
    rw [forceL_eq, List.append_nil]
    exact layers_eq n _ _
def fragB (g : Addr → Option Obj) (n : Nat) : PySem.W.Frag := layF g (layersL g n [mainGlobals] [cStatics, mainGlobals]) []
theorem withK_eq {β : Type} {g : Addr → Option Obj} {n : Nat} {k : PySem.W.Frag → β} : withK g n k = k (fragB g n) := by
  unfold withK
  rw [layers_eq, layK_eq]
  rfl
theorem layF_mem {g : Addr → Option Obj} : ∀ {l : List Addr} {K : PySem.W.Frag}, (∀ p ∈ K, g p.1 = some p.2 ∧ emptyTab p.2 = false) → ∀ p ∈ layF g l K, g p.1 = some p.2 ∧ emptyTab p.2 = false
  | [], K, h => h
  | a :: r, K, h => by
    unfold layF
    cases e : g a with
    | none => exact layF_mem h
    | some o =>
      show ∀ p ∈ (match emptyTab o with | true => layF g r K | false => layF g r ((a, o) :: K)), _
      cases q : emptyTab o with
      | true => exact layF_mem h
      | false => exact layF_mem fun p hp => (List.mem_cons.mp hp).elim (fun z => by subst z; exact ⟨e, q⟩) (h p)
theorem fragB_mem {g : Addr → Option Obj} {n : Nat} {a : Addr} {o : Obj} (h : (fragB g n).lookup a = some o) : g a = some o ∧ emptyTab o = false := layF_mem (K := []) (fun p hp => by cases hp) (a, o) (lookup_mem h)
theorem fragB_in {h : Heap} {n : Nat} : (fragB h.get? n).In h := fun _ _ e => (fragB_mem e).1
theorem fragB_none {g : Addr → Option Obj} {n : Nat} {a : Addr} {o : Obj} (h : g a = some o) (ht : emptyTab o = true) : (fragB g n).lookup a = none := by
  cases e : (fragB g n).lookup a with
  | none => rfl
  | some u =>
    obtain ⟨h1, h2⟩ := fragB_mem e
    rw [h] at h1
    rw [← Option.some.inj h1, ht] at h2
    cases h2
def obsB (n : Nat) (fa : List Fa) (fn : List DefD) (ts : List Tab) (tf : List Defn) (ex : PySem.W.Frag → Bool) (g : Addr → Option Obj) : AlX := withK g n fun K => (obsT fa fn ts K, ex K && tabsB g tf K)
theorem saysB_of {n : Nat} {fa : List Fa} {fn : List DefD} {ts : List Tab} {tf : List Defn} {ex : PySem.W.Frag → Bool} {w : World} {h : Heap} (e : obsB n fa fn ts tf ex h.get? = valX fn ts w) : SaysX fa fn ts tf ex w h (fragB h.get? n) := by
  unfold obsB at e
  rw [withK_eq] at e
  have e1 := congrArg (fun z : AlX => z.1) e
  have e2 : (ex (fragB h.get? n) && tabsB h.get? tf (fragB h.get? n)) = true := congrArg (fun z : AlX => z.2) e
  obtain ⟨h1, h2⟩ := Bool.and_eq_true_iff.mp e2
  have key : ∀ p ∈ tf, PySem.W.codeHdIn (fragB h.get? n) (cT (fragB h.get? n) p).1 (cT (fragB h.get? n) p).2 = true ∧ ∃ o, h.get? (cT (fragB h.get? n) p).2 = some o ∧ emptyTab o = true := fun p hp => by
    obtain ⟨h3, h4⟩ := Bool.and_eq_true_iff.mp (List.all_eq_true.mp h2 p hp)
    cases q : h.get? (cT (fragB h.get? n) p).2 with
    | none => rw [q] at h4; cases h4
    | some o => rw [q] at h4; exact ⟨h3, o, rfl, h4⟩
  exact ⟨e1, h1, fun p hp => (key p hp).1, fun p hp => let ⟨_, _, q, z⟩ := key p hp; fragB_none q z, fun p hp => by
    obtain ⟨_, o, q, z⟩ := key p hp
    rw [q, emptyTab_eq z]⟩
def hookB (n : Nat) (fa : List Fa) (fn : List DefD) (ts : List Tab) (tf : List Defn) (ex : PySem.W.Frag → Bool) : PySem.W.Hook where
  α := AlX
  obs := fun s => obsB n fa fn ts tf ex s.heap.get?
  val := fun w => valX fn ts w
  says := fun w h => ∃ K : PySem.W.Frag, K.In h ∧ SaysX fa fn ts tf ex w h K
  of := fun _ _ e => ⟨_, fragB_in, saysB_of e⟩
  keeps := fun _ _ _ ⟨K, hK, c⟩ k => ⟨K, PySem.W.Frag.In.keeps hK k, ⟨c.t, c.more, c.hd, c.out, fun p hp => k _ _ (c.empty p hp)⟩⟩
theorem obsB_eq {n : Nat} {fa : List Fa} {fn : List DefD} {ts : List Tab} {tf : List Defn} {ex : PySem.W.Frag → Bool} {g : Addr → Option Obj} {s : Shared} (h : ∀ a, g a = s.heap.get? a) : obsB n fa fn ts tf ex g = (hookB n fa fn ts tf ex).obs s := by
  have e : g = s.heap.get? := funext h
  rw [e] <;> rfl
end FT
namespace FTR
open PySem PySem.W PySem.Calls PyProof.Rows HandSHeadRun
/-- the run's equation by two: what the run leaves, what is looked at -/
theorem run_two {r : OpenRow} {q : Program} {H : Hook} {ob : SharedT → H.α} {M : Nat} {loose : List PySem.Str} {w : World}
    (a : ∀ os : OsState, (endF (stepQ (denQ tabQ) r.prog w) M r.prog w os).map (fun s => (looksF r.prog (boot_heap w.params) s.abs, seenQ q loose (importedModules r.prog.main.body) (fun s => xlAt q [] s && recOk r.toRowW.records s) s.abs)) = some (true, openGood q loose))
    (b : ∀ os : OsState, (endF (stepQ (denQ tabQ) r.prog w) M r.prog w os).map ob = some (H.val w)) : RunEq r q H ob M loose w := by
  intro os
  have ha := a os
  have hb := b os
  cases e : endF (stepQ (denQ tabQ) r.prog w) M r.prog w os with
  | none => rw [e] at ha; cases ha
  | some s =>
    rw [e] at ha hb
    have ha := Option.some.inj ha
    have hb := Option.some.inj hb
    obtain ⟨a1, a2⟩ := Prod.mk.inj ha
    exact congrArg some (Prod.ext a1 (Prod.ext a2 hb))
end FTR

set_option Elab.async false
set_option linter.all false
set_option maxRecDepth 100000
set_option maxHeartbeats 1000000
/-! FUK: dicts of one's own: k in d, d[k], d[k] = v, d.get(k, v). -/
namespace FT
open PySem PySem.Spec PyProof.Rows L2

def toKey : D → Option Key
  | .int i => some (.inl i)
  | .str x => some (.inr x)
  | _ => none
def toKeys : List D → Option (List Key)
  | [] => some []
  | d :: ds => (toKey d).bind fun k => (toKeys ds).map fun ks => k :: ks
section
variable {κ : Type} [DecidableEq κ]
def valD (kvs : List (κ × D)) (k : κ) : Option D := (kvs.find? fun kv => decide (kv.1 = k)).map (·.2)
def putD (kvs : List (κ × D)) (k : κ) (v : D) : List (κ × D) :=
  if (kvs.any fun kv => decide (kv.1 = k)) = true then kvs.map (fun kv => if kv.1 = k then (kv.1, v) else kv) else kvs ++ [(k, v)]
end
/-- what a dict holds at a key -/
def dGet : D → D → Option (Option D)
  | .dcI kvs, k => (toKey k).map (valD kvs)
  | .dcT kvs, .tup ks => if ks.all D.isStr = true then none else (toKeys ks).map (valD kvs)
  | _, _ => none
def dPut : D → D → D → Option D
  | .dcI kvs, k, v => if kvs.length ≤ 1000000 then (toKey k).map fun kk => .dcI (putD kvs kk v) else none
  | .dcT kvs, .tup ks, v => if ks.all D.isStr = true ∨ ¬ kvs.length ≤ 1000000 then none else (toKeys ks).map fun kk => .dcT (putD kvs kk v)
  | _, _, _ => none
section
variable {K : PySem.W.Frag} {mg : Str → Option Value} {H : Hp} {av : Addr → Prop}
theorem rep_key {d : D} {v : V} {k : Key} (r : Rep K mg H av d v) (e : toKey d = some k) : v = kV k := by
  cases r <;> cases e <;> rfl
theorem reps_key : ∀ {ds : List D} {vs : List V} {ks : List Key}, Reps K mg H av ds vs → toKeys ds = some ks → vs = ks.map kV
  | _, _, _, .nil, e => by cases e; rfl
  | _, _, ks, .cons (d := d) (ds := ds) r t, e => by
    unfold toKeys at e
    cases z : toKey d with
    | none => rw [z] at e; cases e
    | some k =>
      rw [z] at e
      cases z2 : toKeys ds with
      | none => rw [z2] at e; cases e
      | some ks' =>
        rw [z2] at e
        cases e
        rw [rep_key r z, reps_key t z2]
        rfl
theorem rep_keys {ds : List D} {v : V} {ks : List Key} (r : Rep K mg H av (.tup ds) v) (n : ¬ ds.all D.isStr = true) (e : toKeys ds = some ks) : ∃ b, v = .ref b ∧ H b = some (.tup (ks.map kV)) := by
  cases r with
  | tup h _ q => exact ⟨_, rfl, by rw [← reps_key q e]; exact h⟩
  | ktup _ _ z => exact absurd z n
section
variable {κ : Type} [DecidableEq κ]
theorem val_rel {kvs : List (κ × D)} {kk : List (κ × V)} (p : Paired (fun (p : κ × D) (q : κ × V) => p.1 = q.1 ∧ Rep K mg H av p.2 q.2) kvs kk) (k : κ) : (valD kvs k = none ∧ valV kk k = none) ∨ ∃ d v, valD kvs k = some d ∧ valV kk k = some v ∧ Rep K mg H av d v := by
  induction p with
  | nil => exact .inl ⟨rfl, rfl⟩
  | @cons p q ps qs hq t ih =>
    by_cases e : p.1 = k
    · refine .inr ⟨p.2, q.2, ?_, valV_pos (hq.1 ▸ e), hq.2⟩
      simp [valD, List.find?_cons, e]
    · have e2 : valD (p :: ps) k = valD ps k := by simp [valD, List.find?_cons, e]
      rw [e2, valV_neg (hq.1 ▸ e)]
      exact ih
theorem any_rel {kvs : List (κ × D)} {kk : List (κ × V)} (p : Paired (fun (p : κ × D) (q : κ × V) => p.1 = q.1 ∧ Rep K mg H av p.2 q.2) kvs kk) (k : κ) : (kvs.any fun kv => decide (kv.1 = k)) = kk.any fun kv => decide (kv.1 = k) := by
  induction p with
  | nil => rfl
  | @cons p q ps qs hq t ih => rw [List.any_cons, List.any_cons, ih, hq.1]
theorem put_map : ∀ {kvs : List (κ × D)} {kk : List (κ × V)} (_ : Paired (fun (p : κ × D) (q : κ × V) => p.1 = q.1 ∧ Rep K mg H av p.2 q.2) kvs kk) (k : κ) {d : D} {v : V} (_ : Rep K mg H av d v),
    Paired (fun (p : κ × D) (q : κ × V) => p.1 = q.1 ∧ Rep K mg H av p.2 q.2) (kvs.map fun kv => if kv.1 = k then (kv.1, d) else kv) (kk.map fun kv => if kv.1 = k then (kv.1, v) else kv) := by
  intro kvs kk p k d v r
  induction p with
  | nil => exact .nil
  | @cons p q ps qs hq t ih =>
    refine .cons ?_ ih
    dsimp only
    by_cases e : p.1 = k
    · rw [if_pos e, if_pos (hq.1 ▸ e)]; exact ⟨hq.1, r⟩
    · rw [if_neg e, if_neg (hq.1 ▸ e)]; exact hq
theorem put_rel {kvs : List (κ × D)} {kk : List (κ × V)} (p : Paired (fun (p : κ × D) (q : κ × V) => p.1 = q.1 ∧ Rep K mg H av p.2 q.2) kvs kk) (k : κ) {d : D} {v : V} (r : Rep K mg H av d v) : Paired (fun (p : κ × D) (q : κ × V) => p.1 = q.1 ∧ Rep K mg H av p.2 q.2) (putD kvs k d) (putK kk k v) := by
  unfold putD putK
  rw [any_rel p k]
  split
  · exact put_map p k r
  · exact Paired.snoc p ⟨rfl, r⟩
end
/-- a dict of one's own is read at a key -/
theorem own_get {a : Addr} {o d : D} {v : V} {r : Option D} (w : OwnAt K mg H av a o) (k : Rep K mg H av d v) (e : dGet o d = some r) : ∃ x, DGet H a v x ∧ ((r = none ∧ x = none) ∨ ∃ d' v', r = some d' ∧ x = some v' ∧ Rep K mg H av d' v') := by
  cases o with
  | dcI kvs =>
    obtain ⟨kk, h, p⟩ := w
    have e : (toKey d).map (valD kvs) = some r := e
    cases z : toKey d with
    | none => rw [z] at e; cases e
    | some key =>
      rw [z] at e
      cases e
      refine ⟨valV kk key, by rw [rep_key k z]; exact .k h, ?_⟩
      rcases val_rel p key with ⟨h1, h2⟩ | ⟨d', v', h1, h2, h3⟩
      · exact .inl ⟨h1, h2⟩
      · exact .inr ⟨d', v', h1, h2, h3⟩
  | dcT kvs =>
    obtain ⟨kk, h, p⟩ := w
    cases d with
    | tup ks =>
      simp only [dGet] at e
      split at e
      · cases e
      · rename_i ns
        cases z : toKeys ks with
        | none => rw [z] at e; cases e
        | some key =>
          rw [z] at e
          cases e
          obtain ⟨b, rfl, hb⟩ := rep_keys k ns z
          refine ⟨valV kk key, .t h hb, ?_⟩
          rcases val_rel p key with ⟨h1, h2⟩ | ⟨d', v', h1, h2, h3⟩
          · exact .inl ⟨h1, h2⟩
          · exact .inr ⟨d', v', h1, h2, h3⟩
    | _ => simp [dGet] at e
  | _ => simp [dGet] at e
end
/-- a local that is one's own -/
def tOwn (G : Gh) (j : Nat) : TE := fun σ H Q => ∃ a, σ[j]? = some (some (.ref a)) ∧ Q (.ref a) H
section
variable {X : Cx} {G : Gh} {k : Nat} {pos : Pos}
theorem hu_xg (xg : XG X G k) : X.A.units + 1 < cLine := by have := xg.units; omega
def dInR (neg : Bool) (o : Option D) (d : D) (s : En) : R D := match o with
  | some x => (match dGet x d with
    | some r => .ok (.bl (if neg = true then !r.isSome else r.isSome)) s
    | none => .stuck)
  | none => .stuck
def mDIn (neg : Bool) (j : Nat) (m : ME) : ME := fun env => (m env).bind fun d s => dInR neg (s[j]?.join) d s
theorem dIn_imp {neg : Bool} {j : Nat} {m : ME} {σ : St} {H : Hp} {Q : VK} (hj : (G.ow.contains j) = true) (xg : XG X G k) (h : TEo G (mDIn neg j m) σ H Q) :
    TEo G m σ H fun y H1 => tVar j σ H1 fun x H2 => ∃ a o, x = .ref a ∧ DGet H2 a y o ∧ Q (.bl (if neg = true then !o.isSome else o.isSome)) H2 := by
  have hj' : j ∈ G.ow := by simpa using hj
  obtain ⟨env, s, q⟩ := h
  refine (TEo.bind s (Post G σ H Q) (fun z => z) (fun _ z => z) q).mono fun y H1 ⟨d, e1, ⟨s1, st1, g1⟩, q1⟩ => ?_
  unfold dInR at q1
  split at q1
  · rename_i x hx
    obtain ⟨a, ea, w⟩ := s1.own j x (join_some hx) hj'
    refine ⟨.ref a, ea, ?_⟩
    split at q1
    · rename_i r hr
      obtain ⟨o, h1, h2⟩ := own_get w g1 hr
      refine ⟨a, o, rfl, h1, ?_⟩
      have e : o.isSome = r.isSome := by
        rcases h2 with ⟨rfl, rfl⟩ | ⟨_, _, rfl, rfl, _⟩ <;> rfl
      rw [e]
      exact q1 _ H1 s1 st1 (.bl _)
    · exact q1.elim
  · exact q1.elim
theorem se_dIn {j : Nat} {x : Str} {a : Expr} {m : ME} {px : Pos} (xg : XG X G k) (hj : (G.ow.contains j) = true) (hN : X.N[j]? = some x) (hv : Vis X.env.scope x) (h : SE X G a m) (hd : (x == ("__debug__" : Str)) = false := by decide) (hcd : (x == ("__classdict__" : Str)) = false := by decide) :
    SE X G (.Compare a [.In] [.Name x px] pos) (mDIn false j m) := PE.imp (pe_cmp (pc_din (hu_xg xg) h (pe_var hN hv hd hcd)) (by rfl)) fun _ _ _ q => dIn_imp hj xg q
theorem st_dIn {j : Nat} {x : Str} {a : Expr} {m : ME} {px : Pos} (xg : XG X G k) (hj : (G.ow.contains j) = true) (hN : X.N[j]? = some x) (hv : Vis X.env.scope x) (h : SE X G a m) (hd : (x == ("__debug__" : Str)) = false := by decide) (hcd : (x == ("__classdict__" : Str)) = false := by decide) :
    ST X G (.Compare a [.In] [.Name x px] pos) (mTst (mDIn false j m)) := PT.imp (pt_cmp (pc_din (hu_xg xg) h (pe_var hN hv hd hcd)) (by rfl)) fun _ _ _ q => dIn_imp hj xg (tst_imp q)
theorem se_dNotIn {j : Nat} {x : Str} {a : Expr} {m : ME} {px : Pos} (xg : XG X G k) (hj : (G.ow.contains j) = true) (hN : X.N[j]? = some x) (hv : Vis X.env.scope x) (h : SE X G a m) (hd : (x == ("__debug__" : Str)) = false := by decide) (hcd : (x == ("__classdict__" : Str)) = false := by decide) :
    SE X G (.Compare a [.NotIn] [.Name x px] pos) (mDIn true j m) := PE.imp (pe_cmp (pc_dnotin (hu_xg xg) h (pe_var hN hv hd hcd)) (by rfl)) fun _ _ _ q => dIn_imp hj xg q
theorem st_dNotIn {j : Nat} {x : Str} {a : Expr} {m : ME} {px : Pos} (xg : XG X G k) (hj : (G.ow.contains j) = true) (hN : X.N[j]? = some x) (hv : Vis X.env.scope x) (h : SE X G a m) (hd : (x == ("__debug__" : Str)) = false := by decide) (hcd : (x == ("__classdict__" : Str)) = false := by decide) :
    ST X G (.Compare a [.NotIn] [.Name x px] pos) (mTst (mDIn true j m)) := PT.imp (pt_cmp (pc_dnotin (hu_xg xg) h (pe_var hN hv hd hcd)) (by rfl)) fun _ _ _ q => dIn_imp hj xg (tst_imp q)
/-- d[k] -/
def dGetR (o : Option D) (d : D) (s : En) : R D := match o with
  | some x => (match dGet x d with
    | some (some r) => .ok r s
    | _ => .stuck)
  | none => .stuck
def mDGet (j : Nat) (m : ME) : ME := fun env => match env[j]? with
  | some (some _) => (m env).bind fun d s => dGetR (s[j]?.join) d s
  | _ => .stuck
theorem se_dGet {j : Nat} {x : Str} {i : Expr} {m : ME} {px : Pos} (xg : XG X G k) (hj : (G.ow.contains j) = true) (hN : X.N[j]? = some x) (hv : Vis X.env.scope x) (h : SE X G i m) (hs : NoSl i := by exact fun _ _ => rfl) (hd : (x == ("__debug__" : Str)) = false := by decide) (hcd : (x == ("__classdict__" : Str)) = false := by decide) :
    SE X G (.Subscript (.Name x px) i pos) (mDGet j m) := PE.imp (pe_dget (hu_xg xg) (pe_var hN hv hd hcd) h hs) fun σ H Q ⟨env, s, q⟩ => by
  have hj' : j ∈ G.ow := by simpa using hj
  unfold mDGet at q
  split at q
  · rename_i d0 hd0
    obtain ⟨a, ea, _⟩ := s.own j d0 hd0 hj'
    refine ⟨.ref a, ea, ?_⟩
    refine (TEo.bind s (Post G σ H Q) (fun z => z) (fun _ z => z) q).mono fun y H1 ⟨d, e1, ⟨s1, st1, g1⟩, q1⟩ => ?_
    unfold dGetR at q1
    split at q1
    · rename_i x hx
      obtain ⟨a2, ea2, w⟩ := s1.own j x (join_some hx) hj'
      rw [ea] at ea2
      cases ea2
      split at q1
      · rename_i r hr
        obtain ⟨o, h1, h2⟩ := own_get w g1 hr
        rcases h2 with ⟨z, _⟩ | ⟨d', v', z, rfl, h3⟩
        · cases z
        · cases z
          exact ⟨a, v', rfl, h1, q1 _ H1 s1 st1 h3⟩
      · exact q1.elim
    · exact q1.elim
  · exact q.elim
/-- d[k] = v -/
def putS (j : Nat) (o : Option D) (k v : D) (s : En) : RS := match o with
  | some x => (match dPut x k v with
    | some y => .nx (s.set j (some y))
    | none => .stuck)
  | none => .stuck
def mStoreD (j : Nat) (mk mv : ME) : MS := fun env => bindS (mv env) fun v s => match s[j]? with
  | some (some _) => bindS (mk s) fun k s' => putS j (s'[j]?.join) k v s'
  | _ => .stuck
theorem ss_storeD {j : Nat} {x : Str} {i e : Expr} {mk mv : ME} {px tpos : Pos} (xg : XG X G k) (hj : (G.ow.contains j) = true) (hN : X.N[j]? = some x) (hv : Vis X.env.scope x) (hi : SE X G i mk) (h : SE X G e mv)
    (hs : swapsWith e (some (.Subscript (.Name x px) i tpos)) pos.line X.env = pure false := by rfl) (hd : (x == ("__debug__" : Str)) = false := by decide) (hcd : (x == ("__classdict__" : Str)) = false := by decide) :
    SS X G (.Assign [.Subscript (.Name x px) i tpos] e pos) (mStoreD j mk mv) := PS.imp (ps_dput (hu_xg xg) (pe_var hN hv hd hcd) hi h hs) fun D σ H ⟨env, s, q⟩ => by
  have hj' : j ∈ G.ow := by simpa using hj
  refine (TEo.bindS s (PostS G D σ H) (fun z => z) (fun _ z => z) q).mono fun v H1 ⟨dv, e1, ⟨s1, st1, g1⟩, q1⟩ => ?_
  split at q1
  rotate_left
  · exact q1.elim
  rename_i d0 hd0
  obtain ⟨a, ea, _⟩ := s1.own j d0 hd0 hj'
  refine ⟨.ref a, ea, ?_⟩
  refine (TEo.bindS s1 (PostS G D σ H) (fun z => z) (fun _ z => z) q1).mono fun y H2 ⟨dk, e2, ⟨s2, st2, g2⟩, q2⟩ => ?_
  unfold putS at q2
  split at q2
  rotate_left
  · exact q2.elim
  rename_i d1 hd1
  have hd1' := join_some hd1
  obtain ⟨a2, ea2, w⟩ := s2.own j d1 hd1' hj'
  rw [ea] at ea2
  cases ea2
  have gv := g1.stay st2.av
  split at q2
  rotate_left
  · exact q2.elim
  rename_i d2 hd2
  have hl := (List.getElem?_eq_some_iff.mp hd1').1
  have fin : ∀ {o : HO} {u : HO}, H2 a = some u → NotTbl u → (∀ q, u ≠ LamX.CodeO a q) → OwnAt G.K G.mg (upd H2 a o) (Av G σ) a d2 → D.nx σ (upd H2 a o) := fun {o u} hu nu nc no => by
    obtain ⟨w1, w2⟩ := s2.write (o := o) hj' ea hl no (tabs_upd s2.tabs hu nu nc)
    exact q2 σ _ w1 ((st1.trans st2).trans w2).keep
  have st3 : ∀ o : HO, Stay (Ch G σ) H2 (upd H2 a o) := fun o b u nb h _ => by rw [upd_ne (fun z => nb (by rw [z]; exact ⟨j, hj', ea⟩))]; exact h
  cases d1 with
  | dcI kvs =>
    obtain ⟨kk, hk, p⟩ := w
    have hd2 : (if kvs.length ≤ 1000000 then (toKey dk).map fun kk => FT.D.dcI (putD kvs kk dv) else none) = some d2 := hd2
    split at hd2
    · rename_i hlen
      cases z : toKey dk with
      | none => rw [z] at hd2; cases hd2
      | some key =>
        rw [z] at hd2
        cases hd2
        refine ⟨a, _, rfl, by rw [rep_key g2 z]; exact .k hk (by rw [← p.length]; exact Nat.lt_of_le_of_lt hlen (by decide)), ?_⟩
        refine fin hk notTbl_dK dK_notCode ⟨_, upd_same, Paired.mapP (put_rel p key gv) fun p q z => ⟨z.1, z.2.stay (st3 _).av⟩⟩
    · cases hd2
  | dcT kvs =>
    obtain ⟨kk, hk, p⟩ := w
    cases dk with
    | tup ks =>
      simp only [dPut] at hd2
      split at hd2
      · cases hd2
      · rename_i ns
        rw [not_or] at ns
        cases z : toKeys ks with
        | none => rw [z] at hd2; cases hd2
        | some key =>
          rw [z] at hd2
          cases hd2
          obtain ⟨b, rfl, hb⟩ := rep_keys g2 ns.1 z
          refine ⟨a, _, rfl, .t hk hb (by rw [← p.length]; exact Nat.lt_of_le_of_lt (Decidable.not_not.mp ns.2) (by decide)), ?_⟩
          refine fin hk notTbl_dT dT_notCode ⟨_, upd_same, Paired.mapP (put_rel p key gv) fun p q z => ⟨z.1, z.2.stay (st3 _).av⟩⟩
    | _ => simp [dPut] at hd2
  | _ => simp [dPut] at hd2
end
theorem lc_filt {γ : Type} {mt : MG} {tt : MT} {te : ME} {vs : List Nat} {e : En} (g f : γ → D) (p : γ → Bool) : ∀ (l : List γ) (acc : List D), acc.length + l.length ≤ 1000000 →
    (∀ c ∈ l, ∃ e1 e2, mt (g c) e = some e1 ∧ tt e1 = .ok (p c) e2 ∧ wipeE vs e2 = e ∧ (p c = true → ∃ e3, te e2 = .ok (f c) e3 ∧ wipeE vs e3 = e)) → lcL mt tt te vs (l.map g) acc e = .ok (acc ++ (l.filter p).map f) e
  | [], acc, _, _ => by simp [lcL]
  | c :: l, acc, hl, h => by
    have hl' : acc.length + (l.length + 1) ≤ 1000000 := hl
    obtain ⟨e1, e2, h1, h2, h3, h4⟩ := h c List.mem_cons_self
    cases hp : p c with
    | true =>
      obtain ⟨e3, h5, h6⟩ := h4 hp
      have ih := lc_filt g f p l (acc ++ [f c]) (by simp; omega) fun x hx => h x (List.mem_cons_of_mem _ hx)
      rw [hp] at h2
      simp only [List.map_cons, lcL, h1, h2, h5, h6, if_pos (show acc.length ≤ 1000000 by omega), ih, List.filter_cons, hp, if_true, List.append_assoc, List.singleton_append]
    | false =>
      have ih := lc_filt g f p l acc (by omega) fun x hx => h x (List.mem_cons_of_mem _ hx)
      rw [hp] at h2
      simp only [List.map_cons, lcL, h1, h2, h3, ih, List.filter_cons, hp, Bool.false_eq_true, if_false]
end FT

set_option Elab.async false
set_option linter.all false
set_option maxRecDepth 100000
set_option maxHeartbeats 1000000
/-! FUL: a test that looks at the one list of one's own as at a value. -/
namespace FT
open PySem PySem.Spec PyProof.Rows L2
def D.isInt : D → Bool
  | .int _ => true
  | _ => false
def Gh.un (G : Gh) : Gh := { G with ow := [] }
theorem XG.un {X : Cx} {G : Gh} {k : Nat} (x : XG X G k) : XG X G.un k := ⟨x.K, x.mg, x.room, x.calm, x.nd, x.pass⟩
theorem reps_ints {K : PySem.W.Frag} {mg : Str → Option Value} {H H' : Hp} {av av' : Addr → Prop} : ∀ {ds : List D} {vs : List V}, Reps K mg H av ds vs → ds.all D.isInt = true → Reps K mg H' av' ds vs
  | _, _, .nil, _ => .nil
  | _, _, .cons (d := d) r t, h => by
    rw [List.all_cons, Bool.and_eq_true] at h
    refine .cons ?_ (reps_ints t h.2)
    cases r with
    | int i => exact .int i
    | _ => cases h.1
theorem SR.un {G : Gh} {σ : St} {H : Hp} {env : En} (s : SR G σ H env) {j : Nat} (ho : G.ow = [j]) (hj : j ≠ 0) {ds : List D} (e : env[j]? = some (some (.lst ds))) (hi : ds.all D.isInt = true) : SR G.un σ H env := by
  have hj' : j ∈ G.ow := by rw [ho]; exact List.mem_cons_self
  have less : ∀ a, Av G.un σ a → Av G σ a := fun a h => by
    rcases h with h | ⟨i, hi, _⟩
    · exact .inl h
    · cases hi
  have np : G.pa = none := by
    cases z : G.pa with
    | none => rfl
    | some a =>
      have := (s.par a z).1
      rw [ho] at this
      exact absurd (List.mem_singleton.mp this).symm hj
  refine ⟨s.tabs, fun i d h _ => ?_, fun i d h hi => (nomatch hi), fun i hi => (nomatch hi), fun i hi => (nomatch hi), fun a h => s.there a (less a h), s.frame, fun a h => ?_, s.len, s.avT, s.exF, fun i hi => (nomatch hi), s.stays⟩
  · by_cases z : i = j
    · subst z
      obtain ⟨a, h1, o⟩ := s.own i d h hj'
      rw [e] at h
      cases h
      obtain ⟨vs, h2, r⟩ := o
      refine ⟨.ref a, h1, .lst h2 (fun q => ?_) (reps_ints r hi)⟩
      rcases q with (q | q) | ⟨i, hi, _⟩
      · obtain ⟨o, x, t⟩ := s.avT a q
        rcases s.fresh i hj' a h1 with y | y
        · rw [np] at y; cases y
        · exact y o x t
      · exact s.exO i hj' a h1 q
      · cases hi
    · obtain ⟨v, h1, r⟩ := s.val i d h (by rw [ho]; exact fun q => z (List.mem_singleton.mp q))
      exact ⟨v, h1, r.less less⟩
  · rw [show G.un.pa = G.pa from rfl, np] at h; cases h
def unR (r : R Bool) (env : En) : R Bool := match r with
  | .ok b _ => .ok b env
  | .err e => .err e
  | .stuck => .stuck
def mUnT (j : Nat) (m : MT) : MT := fun env => match env[j]? with
  | some (some (.lst ds)) => if ds.all D.isInt = true then unR (m env) env else .stuck
  | _ => .stuck
section
variable {X : Cx} {G : Gh}
theorem st_un {j : Nat} {e : Expr} {m : MT} (ho : G.ow = [j]) (hj : j ≠ 0) (h : ST X G.un e m) : ST X G e (mUnT j m) := PT.imp h fun σ H Q ⟨env, s, q⟩ => by
  unfold mUnT at q
  split at q
  · rename_i ds e1
    split at q
    · rename_i hi
      refine ⟨env, s.un ho hj e1 hi, ?_⟩
      cases r : m env with
      | stuck => rw [r] at q; exact q
      | err x => rw [r] at q; exact q
      | ok b env' =>
        rw [r] at q
        intro H' s' st
        have fr : ∀ b u, H b = some u → NotTbl u → H' b = some u := fun b u x t => st b u (fun ⟨i, hi, _⟩ => nomatch hi) x t
        exact q H' (s.after s'.tabs fr fun b u x t => ⟨u, fr b u x t, t⟩) fun b u _ x t => fr b u x t
    · exact q.elim
  · exact q.elim
end
theorem x_unT {j : Nat} {m : MT} {env : En} {ds : List D} (h : env[j]? = some (some (.lst ds))) (hi : ds.all D.isInt = true) : mUnT j m env = unR (m env) env := by
  unfold mUnT
  simp only [h, if_pos hi]
theorem x_unR {b : Bool} {e env : En} : unR (.ok b e) env = .ok b env := rfl
end FT

set_option Elab.async false
set_option linter.all false
set_option maxRecDepth 100000
set_option maxHeartbeats 1000000
/-! FUM: d.get(k, v), index of one's own list, sorted pairs, len(set(..)), [(k, d[k]) for k in d if d[k] > 0]. -/
namespace FT
open PySem PySem.Spec PyProof.Rows L2
section
variable {X : Cx} {G : Gh} {k : Nat} {pos : Pos}
/-! ### d.get(k, v) -/
def getR (o : Option D) (d v : D) (s : En) : R D := match o with
  | some x => (match dGet x d with
    | some r => .ok (r.getD v) s
    | none => .stuck)
  | none => .stuck
def mDGetOr (j : Nat) (mk mv : ME) : ME := fun env => match env[j]? with
  | some (some x) => (match x with
    | .dcI _ => (mk env).bind fun d s => (mv s).bind fun v s' => getR (s'[j]?.join) d v s'
    | .dcT _ => (mk env).bind fun d s => (mv s).bind fun v s' => getR (s'[j]?.join) d v s'
    | _ => .stuck)
  | _ => .stuck
theorem se_dGetOr {j : Nat} {x : Str} {e f : Expr} {mk mv : ME} {px apos cpos : Pos} (xg : XG X G k) (hj : (G.ow.contains j) = true) (hN : X.N[j]? = some x) (hv : Vis X.env.scope x) (he : SE X G e mk) (hf : SE X G f mv)
    (m : M2 X (.Name x px) "get" apos e f cpos := by exact ⟨rfl, rfl, rfl, rfl⟩) (hd : (x == ("__debug__" : Str)) = false := by decide) (hcd : (x == ("__classdict__" : Str)) = false := by decide) :
    SE X G (.Call (.Attribute (.Name x px) "get" apos) [e, f] [] cpos) (mDGetOr j mk mv) := PE.imp (pe_dget2 (hu_xg xg) (pe_var hN hv hd hcd) he hf m) fun σ H Q ⟨env, s, q⟩ => by
  have hj' : j ∈ G.ow := by simpa using hj
  unfold mDGetOr at q
  split at q
  rotate_left
  · exact q.elim
  rename_i d0 hd0
  obtain ⟨a, ea, w0⟩ := s.own j d0 hd0 hj'
  have isD : IsD H a ∧ Post G σ H Q ((mk env).bind fun d s => (mv s).bind fun v s' => getR (s'[j]?.join) d v s') := by
    cases d0 with
    | dcI kvs => obtain ⟨kk, h, _⟩ := w0; exact ⟨.inl ⟨kk, .inl h⟩, q⟩
    | dcT kvs => obtain ⟨kk, h, _⟩ := w0; exact ⟨.inr ⟨kk, .inl h⟩, q⟩
    | _ => exact q.elim
  refine ⟨.ref a, ea, a, rfl, isD.1, ?_⟩
  refine (TEo.bind s (Post G σ H Q) (fun z => z) (fun _ z => z) isD.2).mono fun y H1 ⟨d, e1, ⟨s1, st1, g1⟩, q1⟩ => ?_
  refine (TEo.bind s1 (Post G σ H Q) (fun z => z) (fun _ z => z) q1).mono fun z H2 ⟨v, e2, ⟨s2, st2, g2⟩, q2⟩ => ?_
  unfold getR at q2
  split at q2
  · rename_i x hx
    obtain ⟨a2, ea2, w⟩ := s2.own j x (join_some hx) hj'
    rw [ea] at ea2
    cases ea2
    split at q2
    · rename_i r hr
      obtain ⟨o, h1, h2⟩ := own_get w (g1.stay st2.av) hr
      refine ⟨o, h1, ?_⟩
      rcases h2 with ⟨rfl, rfl⟩ | ⟨d', v', rfl, rfl, h3⟩
      · exact q2 _ H2 s2 (st1.trans st2) g2
      · exact q2 _ H2 s2 (st1.trans st2) h3
    · exact q2.elim
  · exact q2.elim
/-! ### index of one's own list -/
def indexR (o : Option D) (x : D) (s : En) : R D := match o with
  | some (.lst ds) => if okD (.lst ds) = true ∧ okD x = true then (match firstEq x ds with
    | some j => .ok (.int (j : Nat)) s
    | none => .stuck) else .stuck
  | _ => .stuck
def mIndexO (j : Nat) (mx : ME) : ME := fun env => match env[j]? with
  | some (some (.lst _)) => (mx env).bind fun x s => indexR (s[j]?.join) x s
  | _ => .stuck
theorem se_indexO {j : Nat} {y : Str} {e : Expr} {mx : ME} {px apos cpos : Pos} (x : XG X G k) (hj : (G.ow.contains j) = true) (hN : X.N[j]? = some y) (hv : Vis X.env.scope y) (he : SE X G e mx)
    (hbase : attributeBase (.Name y px) "index" X.env (eval (.Name y px) X.env) = eval (.Name y px) X.env := by rfl)
    (hfew : ((backTo cpos (starEach (e :: []) X.env)).all (fun x => !x.1) && (backToKw cpos (keywordEach [] X.env)).all (fun x => x.1.isSome)
      && decide ((e :: ([] : List Expr)).length + ([] : List Keyword).length + (if ([] : List Keyword).isEmpty then 0 else 1) < 30)) = true := by rfl)
    (hline : (apos.endLine == cpos.line) = true := by rfl) (hs : starEach (e :: []) X.env = (false, eval e X.env) :: starEach [] X.env := by rfl) (hplain : (backTo cpos (starEach [] X.env)).any (·.1) = false := by rfl)
    (hd : (y == ("__debug__" : Str)) = false := by decide) (hcd : (y == ("__classdict__" : Str)) = false := by decide) :
    SE X G (.Call (.Attribute (.Name y px) "index" apos) [e] [] cpos) (mIndexO j mx) := PE.imp (pe_bm PySem.F.plainAttrs_list PySem.F.slot_list_index PySem.F.type_list_index (mt_indexD x.units) (pe_var hN hv hd hcd) (pa_cons he pa_nil hs) hbase hfew hline hs hplain) fun σ H Q ⟨env, s, q⟩ => by
  have hj' : j ∈ G.ow := by simpa using hj
  unfold mIndexO at q
  split at q
  rotate_left
  · exact q.elim
  rename_i l0 hl0
  obtain ⟨a, ea, w0⟩ := s.own j _ hl0 hj'
  obtain ⟨vs0, h0, _⟩ := w0
  refine ⟨.ref a, ea, .inl ⟨rfl, _, .of h0⟩, ?_⟩
  refine (TEo.bind s (Post G σ H Q) (fun z => z) (fun _ z => z) q).mono fun y H2 ⟨dx, e2, ⟨s2, st2, g3⟩, q2⟩ => ?_
  unfold indexR at q2
  split at q2
  rotate_left
  · exact q2.elim
  rename_i ds hds
  obtain ⟨a2, ea2, w⟩ := s2.own j _ (join_some hds) hj'
  rw [ea] at ea2
  cases ea2
  split at q2
  rotate_left
  · exact q2.elim
  rename_i ok
  split at q2
  rotate_left
  · exact q2.elim
  rename_i n hn
  obtain ⟨⟨z, ez, hz⟩, no⟩ := firstEq_get hn
  have dl := x.dp (RepT.dp (.own w) ok.1)
  have dy := x.dp (RepT.dp (.val g3) ok.2)
  have tl : D.toP (.lst ds) = .list (D.toPs ds) := by simp only [D.toP]
  rw [tl] at dl
  have sl : SeqAt.shaped (.list (D.toPs ds)) = true := by rw [← tl]; exact ok.1
  exact ⟨a, y, dx.toP, D.toPs ds, n, z.toP, rfl, rfl, dl, dy, sl, ok.2, by rw [toPs_map, List.getElem?_map, ez] <;> rfl, hz, fun m z' hm hz' => by
    obtain ⟨d', e', rfl⟩ := toPs_get hz'
    exact no m d' hm e', q2 _ H2 s2 st2 (.int _)⟩
/-! ### len(set(xs)), distinct ints -/
def mLenSet (m : ME) : ME := fun env => (m env).bind fun d s => match d with
  | .lst ds => (match ints? ds with
    | some ns => if ns.Nodup ∧ ns.length ≤ 4000 then .ok (.int (ns.length : Nat)) s else .stuck
    | none => .stuck)
  | _ => .stuck
theorem se_lenSet {e : Expr} {m : ME} {p p2 q' : Pos} (xg : XG X G k) (h : SE X G e m) (hg : Gl X "len") (hm : X.mg "len" = none) (hg2 : Gl X "set") (hm2 : X.mg "set" = none)
    (na : starEach [e] X.env = (false, eval e X.env) :: starEach [] X.env := by rfl) : SE X G (.Call (.Name "len" p) [.Call (.Name "set" p2) [e] [] q'] [] pos) (mLenSet m) := PE.imp (RZ.pe_lenSetI hg hm hg2 hm2 h xg.calm na) fun σ H Q ⟨env, s, q⟩ => by
  refine (TEo.bind s (Post G σ H Q) (fun z => z) (fun _ z => z) q).mono fun x H1 ⟨d, e1, ⟨s1, st1, g1⟩, q1⟩ => ?_
  split at q1
  rotate_left
  · exact q1.elim
  rename_i ds
  split at q1
  rotate_left
  · exact q1.elim
  rename_i ns hz
  split at q1
  rotate_left
  · exact q1.elim
  rename_i hl
  obtain ⟨a, vs, rfl, h1', r1⟩ := g1.lst_inv
  have ev := ints_reps hz r1
  subst ev
  exact ⟨a, ns, rfl, xg.sqL (.of h1'), hl.1, hl.2, q1 _ H1 s1 st1 (.int _)⟩
end
/-! ### sorted pairs -/
abbrev PI2 := Int × Int
def leP (p q : PI2) : Prop := p.1 < q.1 ∨ (p.1 = q.1 ∧ p.2 ≤ q.2)
instance (p q : PI2) : Decidable (leP p q) := by unfold leP; exact inferInstance
def insP (a : PI2) : List PI2 → List PI2
  | [] => [a]
  | b :: r => if leP a b then a :: b :: r else b :: insP a r
def sortP : List PI2 → List PI2
  | [] => []
  | a :: r => insP a (sortP r)
theorem leP_tr {a b c : PI2} (h : leP a b) (h2 : leP b c) : leP a c := by unfold leP at *; omega
theorem leP_tot {a b : PI2} (h : ¬ leP a b) : leP b a := by unfold leP at *; omega
theorem leP_an {a b : PI2} (h : leP a b) (h2 : leP b a) : a = b := by
  unfold leP at *
  exact Prod.ext (by omega) (by omega)
theorem insP_perm (a : PI2) : ∀ l : List PI2, (insP a l).Perm (a :: l)
  | [] => .refl _
  | b :: r => by
    unfold insP
    split
    · exact .refl _
    · exact (List.Perm.cons b (insP_perm a r)).trans (.swap a b r)
theorem sortP_perm : ∀ l : List PI2, (sortP l).Perm l
  | [] => .refl _
  | a :: r => (insP_perm a _).trans (.cons a (sortP_perm r))
theorem insP_sorted (a : PI2) : ∀ l : List PI2, l.Pairwise leP → (insP a l).Pairwise leP
  | [], _ => by simp [insP]
  | b :: r, h => by
    unfold insP
    obtain ⟨h1, h2⟩ := List.pairwise_cons.mp h
    split
    · rename_i hab
      refine List.pairwise_cons.mpr ⟨fun x hx => ?_, h⟩
      rcases List.mem_cons.mp hx with rfl | hx
      · exact hab
      · exact leP_tr hab (h1 x hx)
    · rename_i hab
      refine List.pairwise_cons.mpr ⟨fun x hx => ?_, insP_sorted a r h2⟩
      rcases List.mem_cons.mp ((insP_perm a r).mem_iff.mp hx) with rfl | hx
      · exact leP_tot hab
      · exact h1 x hx
theorem sortP_sorted : ∀ l : List PI2, (sortP l).Pairwise leP
  | [] => .nil
  | a :: r => insP_sorted a _ (sortP_sorted r)
theorem sortP_eq {a b : List PI2} (p : a.Perm b) (ha : a.Pairwise leP) (hb : b.Pairwise leP) : a = b := p.eq_of_pairwise (fun x y _ _ h1 h2 => leP_an h1 h2) ha hb
def prD (p : PI2) : D := .tup [.int p.1, .int p.2]
def pairs? : List D → Option (List PI2)
  | [] => some []
  | .tup [.int a, .int b] :: r => (pairs? r).map fun ps => (a, b) :: ps
  | _ => none
theorem pairs_eq : ∀ {ds : List D} {ps : List PI2}, pairs? ds = some ps → ds = ps.map prD
  | [], ps, h => by cases h; rfl
  | .tup [.int a, .int b] :: r, ps, h => by
    unfold pairs? at h
    cases z : pairs? r with
    | none => rw [z] at h; cases h
    | some qs => rw [z] at h; cases h; rw [List.map_cons, ← pairs_eq z]; rfl
theorem pairs_map : ∀ ps : List PI2, pairs? (ps.map prD) = some ps
  | [] => rfl
  | p :: ps => by
    rw [List.map_cons]
    show (pairs? (ps.map prD)).map _ = _
    rw [pairs_map ps]
    rfl
def fSortedP : List D → Option D
  | [.lst ds] => (pairs? ds).map fun ps => .lst ((sortP ps).map prD)
  | _ => none
/-- which pair a value is -/
def pairOf (H : Hp) : V → PI2
  | .ref t => (match H t with
    | some (.tup [.int a, .int b]) => (a, b)
    | _ => (0, 0))
  | _ => (0, 0)
section
variable {K : PySem.W.Frag} {mg : Str → Option Value} {H : Hp} {av : Addr → Prop}
theorem rep_pr {p : PI2} {v : V} (r : Rep K mg H av (prD p) v) : ∃ t, v = .ref t ∧ H t = some (.tup [.int p.1, .int p.2]) ∧ pairOf H v = p ∧ ¬ av t := by
  cases r with
  | @tup a vs _ h n q =>
    obtain ⟨b, hb, hh⟩ := rep_keys (Rep.tup (K := K) (mg := mg) h n q) (ks := [.inl p.1, .inl p.2]) (by simp [D.isStr]) rfl
    cases hb
    have hh : H a = some (.tup [.int p.1, .int p.2]) := hh
    exact ⟨a, rfl, hh, by simp only [pairOf, hh], n⟩
  | ktup _ _ z => simp [D.isStr] at z
theorem reps_pr : ∀ {ps : List PI2} {vs : List V}, Reps K mg H av (ps.map prD) vs → vs.map (pairOf H) = ps ∧ ∀ v ∈ vs, ∃ t, v = .ref t ∧ H t = some (.tup [.int (pairOf H v).1, .int (pairOf H v).2]) ∧ ¬ av t
  | [], _, .nil => ⟨rfl, fun v hv => nomatch hv⟩
  | p :: ps, _, .cons r t => by
    obtain ⟨t0, e1, e2, e3, e4⟩ := rep_pr r
    obtain ⟨h1, h2⟩ := reps_pr t
    refine ⟨by rw [List.map_cons, e3, h1], fun v hv => ?_⟩
    rcases List.mem_cons.mp hv with rfl | hv
    · exact ⟨t0, e1, by rw [e3]; exact e2, e4⟩
    · exact h2 v hv
theorem pr_reps : ∀ {vs : List V}, (∀ v ∈ vs, ∃ t, v = .ref t ∧ H t = some (.tup [.int (pairOf H v).1, .int (pairOf H v).2]) ∧ ¬ av t) → Reps K mg H av ((vs.map (pairOf H)).map prD) vs
  | [], _ => .nil
  | v :: vs, h => by
    obtain ⟨t, rfl, h2, h3⟩ := h v List.mem_cons_self
    exact .cons (.tup h2 h3 (.cons (.int _) (.cons (.int _) .nil))) (pr_reps fun x hx => h x (List.mem_cons_of_mem _ hx))
end
section
variable {X : Cx} {G : Gh} {k : Nat}
theorem srtd_le {κ : V → PI2} : ∀ {ys : List V}, SrtO.Srtd (ltP κ) ys → (ys.map κ).Pairwise leP := fun {ys} h => by
  rw [List.pairwise_map]
  refine List.Pairwise.imp ?_ h
  intro a b z
  have := SrtO.lexB_no.mp z
  unfold leP
  omega
theorem cf_sortedP (x : XG X G k) : CallR X (.builtin "sorted") (rFn G fSortedP) := by
  intro pins s σ H xs us Q I r ⟨av, ds, d, h, hg, hav, q⟩
  unfold fSortedP at hg
  split at hg
  · rename_i ds
    obtain ⟨v, rfl, h1⟩ := h.one
    obtain ⟨a, vs, rfl, e1, p1⟩ := h1.lst
    cases z : pairs? ds with
    | none => rw [z] at hg; cases hg
    | some ps =>
      rw [z] at hg
      cases hg
      have ed := pairs_eq z
      subst ed
      obtain ⟨m1, m2⟩ := reps_pr p1
      refine cr_sortedPO pins s σ H _ us Q I r ⟨a, vs, pairOf H, rfl, x.sqL (.of e1), fun y hy => let ⟨t, h1, h2, _⟩ := m2 y hy; ⟨t, h1, h2⟩, fun ys p sd sb np => ?_⟩
      have pm := sb.perm
      have me : ∀ y ∈ ys, y ∈ vs := fun y hy => pm.mem_iff.mp hy
      have eq : ys.map (pairOf H) = sortP ps := sortP_eq ((pm.map _).trans (by rw [m1]; exact (sortP_perm ps).symm)) (srtd_le sd) (sortP_sorted ps)
      refine q _ _ (Ext.upd np) (.lst upd_same (new_no hav np) ?_)
      rw [← eq]
      exact (pr_reps fun y hy => m2 y (me y hy)).ext (Ext.upd np)
  · cases hg
end
end FT

set_option Elab.async false
set_option linter.all false
set_option maxRecDepth 100000
set_option maxHeartbeats 1000000
/-! FUN: [(k, d[k]) for k in d if d[k] > 0], d a dict of one's own, of ints. -/
namespace FT
open PySem PySem.Spec PyProof.Rows L2
def items? : List (Key × D) → Option (List PI2)
  | [] => some []
  | (.inl a, .int v) :: r => (items? r).map fun ps => (a, v) :: ps
  | _ => none
def mItems (i j : Nat) : ME := fun env => match env[j]? with
  | some (some (.dcI kvs)) => (match items? kvs with
    | some ps => if ((ps.map (·.1)).Nodup ∧ ps.length ≤ 1000000) ∧ i < env.length then .ok (.lst ((ps.filter fun p => decide (0 < p.2)).map prD)) env else .stuck
    | none => .stuck)
  | _ => .stuck
section
variable {K : PySem.W.Frag} {mg : Str → Option Value} {H : Hp} {av : Addr → Prop}
theorem items_kk : ∀ {kvs : List (Key × D)} {ps : List PI2} {kk : List (Key × V)}, items? kvs = some ps → Paired (fun (p : Key × D) (q : Key × V) => p.1 = q.1 ∧ Rep K mg H av p.2 q.2) kvs kk → kk = ps.map fun p => (Sum.inl p.1, V.int p.2)
  | [], ps, _, h, .nil => by cases h; rfl
  | (.inl a, .int v) :: r, ps, _, h, .cons (b := q) hq t => by
    unfold items? at h
    cases z : items? r with
    | none => rw [z] at h; cases h
    | some qs =>
      rw [z] at h
      cases h
      obtain ⟨q1, q2⟩ := q
      obtain ⟨e1, e2⟩ := hq
      simp only at e1 e2
      subst e1
      cases e2
      rw [List.map_cons, items_kk z t]
  | (.inl a, .non) :: r, ps, _, h, .cons _ _ => by simp [items?] at h
  | (.inl a, .bl _) :: r, ps, _, h, .cons _ _ => by simp [items?] at h
  | (.inl a, .str _) :: r, ps, _, h, .cons _ _ => by simp [items?] at h
  | (.inl a, .tup _) :: r, ps, _, h, .cons _ _ => by simp [items?] at h
  | (.inl a, .lst _) :: r, ps, _, h, .cons _ _ => by simp [items?] at h
  | (.inl a, .scr _) :: r, ps, _, h, .cons _ _ => by simp [items?] at h
  | (.inl a, .fn _) :: r, ps, _, h, .cons _ _ => by simp [items?] at h
  | (.inl a, .ty _) :: r, ps, _, h, .cons _ _ => by simp [items?] at h
  | (.inl a, .ref _) :: r, ps, _, h, .cons _ _ => by simp [items?] at h
  | (.inl a, .dcI _) :: r, ps, _, h, .cons _ _ => by simp [items?] at h
  | (.inl a, .dcT _) :: r, ps, _, h, .cons _ _ => by simp [items?] at h
  | (.inr a, _) :: r, ps, _, h, .cons _ _ => by simp [items?] at h
end
theorem val_items {ps : List PI2} (nd : (ps.map (·.1)).Nodup) {i : Nat} {p : PI2} (h : ps[i]? = some p) : valV (ps.map fun p => ((Sum.inl p.1 : Key), V.int p.2)) (Sum.inl p.1) = some (.int p.2) := by
  induction ps generalizing i with
  | nil => rw [List.getElem?_nil] at h; cases h
  | cons q r ih =>
    rw [List.map_cons, List.nodup_cons] at nd
    rw [List.map_cons]
    cases i with
    | zero =>
      have h : some q = some p := h
      cases h
      exact valV_pos rfl
    | succ i =>
      have h' : r[i]? = some p := by simpa using h
      rw [valV_neg (fun z => nd.1 (by
        have z : q.1 = p.1 := Sum.inl.inj z
        rw [z]
        exact List.mem_map.mpr ⟨p, List.mem_of_getElem? h', rfl⟩))]
      exact ih nd.2 h'
/-- the walk over a locked dict's keys -/
theorem walk_keys {a : Addr} {od : Obj} {kk : List (Key × V)} : Walk (Itk a od kk) kk.length (fun H => H a = some (.frz od (.dK kk))) (fun i H x H' => H' = H ∧ ∃ k v, kk[i]? = some (k, v) ∧ x = kV k) :=
  ⟨fun i H hi g => ⟨g, hi⟩, fun H g => ⟨g, Nat.le_refl _⟩, fun _ _ _ _ _ _ y => y⟩
theorem tup_rd {G : Gh} {σ : St} {H : Hp} {p : PI2} {t : Addr} (h : H t = some (.tup [.int p.1, .int p.2])) (n : ¬ Av G σ t) : Rep G.K G.mg H (Av G σ) (prD p) (.ref t) := .tup h n (.cons (.int _) (.cons (.int _) .nil))
theorem reps_of {G : Gh} {σ : St} {H : Hp} : ∀ {ps : List PI2} {vs : List V}, Paired (fun (p : PI2) (v : V) => ∃ t, v = .ref t ∧ H t = some (.tup [.int p.1, .int p.2]) ∧ ¬ Av G σ t) ps vs → Reps G.K G.mg H (Av G σ) (ps.map prD) vs
  | _, _, .nil => .nil
  | _, _, .cons ⟨t, e, h, n⟩ r => by
    subst e
    exact .cons (tup_rd h n) (reps_of r)
section
variable {X : Cx} {G : Gh} {k : Nat} {pos : Pos}
theorem se_items {i j : Nat} {x y : Str} {scope : Scope} {px1 px2 px3 px4 py1 py2 py3 p1 p2 p3 p4 p5 : Pos} {c1 c2} (xg : XG X G k) (hj : (G.ow.contains j) = true) (hi : (G.ow.contains i) = false) (hij : i ≠ j) (hN : X.N[j]? = some y) (hv : Vis X.env.scope y)
    (ok : BlkOk X.N X.env.scope scope [(x, i)])
    (hg : ∀ (s : Shared) (H : Hp) (C : Addr) (cl : List (Str × Addr)) (fp : List Addr), PG (X.blk s H scope (compEnvC scope cl C X.env) fp) (.Name x px1) (gName i))
    (hx : ∀ (q : Pos) (s : Shared) (H : Hp) (C : Addr) (cl : List (Str × Addr)) (fp : List Addr), PE (X.blk s H scope (compEnvC scope cl C X.env) fp) (.Name x q) (tVar i))
    (hy : ∀ (q : Pos) (s : Shared) (H : Hp) (C : Addr) (cl : List (Str × Addr)) (fp : List Addr), PE (X.blk s H scope (compEnvC scope cl C X.env) fp) (.Name y q) (tVar j))
    (hs : ∀ z, foldedSetIterable (.Name y py1) X.env z = pure z := by intro _; rfl)
    (hd : (y == ("__debug__" : Str)) = false := by decide) (hcd : (y == ("__classdict__" : Str)) = false := by decide)
    (t1 : ∀ (s : Shared) (H : Hp) (C : Addr) (cl : List (Str × Addr)) (fp : List Addr), starEach [.Name x px2, .Subscript (.Name y py2) (.Name x px3) p1] (X.blk s H scope (compEnvC scope cl C X.env) fp).env = (false, eval (.Name x px2) (X.blk s H scope (compEnvC scope cl C X.env) fp).env) :: starEach [.Subscript (.Name y py2) (.Name x px3) p1] (X.blk s H scope (compEnvC scope cl C X.env) fp).env := by intros; rfl)
    (t2 : ∀ (s : Shared) (H : Hp) (C : Addr) (cl : List (Str × Addr)) (fp : List Addr), starEach [.Subscript (.Name y py2) (.Name x px3) p1] (X.blk s H scope (compEnvC scope cl C X.env) fp).env = (false, eval (.Subscript (.Name y py2) (.Name x px3) p1) (X.blk s H scope (compEnvC scope cl C X.env) fp).env) :: starEach [] (X.blk s H scope (compEnvC scope cl C X.env) fp).env := by intros; rfl) :
    SE X G (.ListComp (.Tuple [.Name x px2, .Subscript (.Name y py2) (.Name x px3) p1] c1 p2) [⟨.Name x px1, .Name y py1, [.Compare (.Subscript (.Name y py3) (.Name x px4) p3) [.Gt] [.Constant (.int 0) c2 p5] p4], 0⟩] scope pos) (mItems i j) := by
  have hj' : j ∈ G.ow := by simpa using hj
  have hu : ∀ (s : Shared) (H : Hp) (C : Addr) (cl : List (Str × Addr)) (fp : List Addr), (X.blk s H scope (compEnvC scope cl C X.env) fp).A.units + 1 < cLine := fun s H C cl fp => hu_xg (xg.blk s H scope (compEnvC scope cl C X.env) fp 0)
  refine PE.imp (pe_lock (pe_lc (own := [(x, i)]) xg.calm xg.nd (pi_keys (pe_var hN hv hd hcd)) ok hg
    (fun s H C cl fp => pts_one (pt_cmpR op_gt (pe_dget (hu s H C cl fp) (hy _ s H C cl fp) (hx _ s H C cl fp) (fun _ _ => rfl)) pe_int (nomark _)))
    (fun s H C cl fp => pe_tup (pa_cons (hx _ s H C cl fp) (pa_cons (pe_dget (hu s H C cl fp) (hy _ s H C cl fp) (hx _ s H C cl fp) (fun _ _ => rfl)) pa_nil (t2 s H C cl fp)) (t1 s H C cl fp))) hs)) fun σ H Q ⟨env, s, q⟩ => ?_
  unfold mItems at q
  split at q
  rotate_left
  · exact q.elim
  rename_i kvs hk
  split at q
  rotate_left
  · exact q.elim
  rename_i ps hps
  split at q
  rotate_left
  · exact q.elim
  rename_i hc
  obtain ⟨⟨nd, hl⟩, hlen⟩ := hc
  rw [s.len] at hlen
  obtain ⟨a, ea, kk, hH, pr⟩ := s.own j _ hk hj'
  have ek := items_kk hps pr
  subst ek
  refine ⟨a, .dK _, hH, trivial, fun od => ?_⟩
  refine ⟨.ref a, ea, a, od, rfl, .inl ⟨_, upd_same, fun L nL => ?_⟩⟩
  have La : L ≠ a := fun z => by rw [z, upd_same] at nL; cases nL
  have nL' : H L = none := by rw [upd_ne La] at nL; exact nL
  refine lc_it walk_keys (fun n H' => H' a = some (.frz od (.dK (ps.map fun p => ((Sum.inl p.1 : Key), V.int p.2)))) ∧ (∀ b o, b ≠ a → H b = some o → H' b = some o) ∧
      ∃ acc, H' L = some (.lst acc) ∧ Paired (fun (p : PI2) (v : V) => ∃ t, v = .ref t ∧ H t = none ∧ t ≠ L ∧ t ≠ a ∧ H' t = some (.tup [.int p.1, .int p.2])) ((ps.take n).filter fun p => decide (0 < p.2)) acc) ?_ (fun n H' _ h => h.1) ?_ ?_
  · refine ⟨by rw [upd_ne (Ne.symm La), upd_same], fun b o nb hb => ?_, [], upd_same, .nil⟩
    rw [upd_ne (fun z => by rw [z, nL'] at hb; cases hb), upd_ne nb]
    exact hb
  · rintro n v H1 H2 hn ⟨f1, f2, acc, f3, f4⟩ ⟨rfl, kx, vx, hkx, rfl⟩
    rw [List.length_map] at hn
    rw [List.getElem?_map, List.getElem?_eq_getElem hn] at hkx
    cases hkx
    have hp : ps[n]? = some ps[n] := List.getElem?_eq_getElem hn
    generalize ps[n] = p at hp
    have vl := val_items nd hp
    have tk : ps.take (n + 1) = ps.take n ++ [p] := by rw [List.take_succ, hp]; rfl
    have s2j : ((wipe σ [i]).set i (some (V.int p.1)))[j]? = some (some (.ref a)) := by
      rw [List.getElem?_set_ne hij]
      show ((σ.set i none))[j]? = _
      rw [List.getElem?_set_ne hij]
      exact ea
    have s2i : ((wipe σ [i]).set i (some (V.int p.1)))[i]? = some (some (V.int p.1)) := List.getElem?_set_self (by rw [wipe_length]; exact hlen)
    have get : ∀ H3 : Hp, H3 a = some (.frz od (.dK (ps.map fun p => ((Sum.inl p.1 : Key), V.int p.2)))) → ∃ a' v, V.ref a = .ref a' ∧ DGet H3 a' (V.int p.1) (some v) ∧ v = .int p.2 := fun H3 h3 => ⟨a, _, rfl, .inl ⟨_, .inl p.1, .inr ⟨od, h3⟩, rfl, vl.symm⟩, rfl⟩
    refine ⟨?_, ?_⟩
    · show (((σ.set i none).set i (some _)).set i none) = σ.set i none
      rw [List.set_set, List.set_set]
    · refine ⟨_, s2j, _, s2i, a, .int p.2, rfl, .inl ⟨_, .inl p.1, .inr ⟨od, f1⟩, rfl, vl.symm⟩, p.2, 0, rfl, rfl, decide (0 < p.2), rfl, ?_⟩
      by_cases z : 0 < p.2
      · rw [decide_eq_true z]
        refine (if_pos (rfl : true = true)).mpr ?_
        refine ⟨_, s2i, _, s2j, _, s2i, a, .int p.2, rfl, .inl ⟨_, .inl p.1, .inr ⟨od, f1⟩, rfl, vl.symm⟩, by show 2 ≤ sizeLine; decide, fun T nT => ?_⟩
        have TL : T ≠ L := fun e => by rw [e, f3] at nT; cases nT
        have Ta : T ≠ a := fun e => by rw [e, f1] at nT; cases nT
        have nTH : H T = none := by
          cases e : H T with
          | none => rfl
          | some o => rw [f2 T o Ta e] at nT; cases nT
        refine ⟨acc, by rw [upd_ne (Ne.symm TL)]; exact f3, ?_, ?_, fun b o nb hb => ?_, acc ++ [.ref T], upd_same, ?_⟩
        · have l1 : acc.length = ((ps.take n).filter fun p => decide (0 < p.2)).length := f4.length.symm
          have l2 := List.length_filter_le (fun p : PI2 => decide (0 < p.2)) (ps.take n)
          have l3 : (ps.take n).length ≤ ps.length := by rw [List.length_take]; omega
          exact Nat.lt_of_le_of_lt (by omega : acc.length ≤ 1000000) (by decide)
        · rw [upd_ne (Ne.symm La), upd_ne (Ne.symm Ta)]; exact f1
        · have bL : b ≠ L := fun e => by rw [e, nL'] at hb; cases hb
          have bT : b ≠ T := fun e => by rw [e, nTH] at hb; cases hb
          rw [upd_ne bL, upd_ne bT]
          exact f2 b o nb hb
        · rw [tk, List.filter_append, show ([p].filter fun p : PI2 => decide (0 < p.2)) = [p] by simp [z]]
          refine Paired.snoc (Paired.mapP f4 fun p' v ⟨t, e1, e2, e3, e4, e5⟩ => ⟨t, e1, e2, e3, e4, ?_⟩) ⟨T, rfl, nTH, TL, Ta, by rw [upd_ne TL, upd_same]⟩
          have tT : t ≠ T := fun e => by rw [e, nT] at e5; cases e5
          rw [upd_ne e3, upd_ne tT]
          exact e5
      · rw [decide_eq_false z]
        refine (if_neg Bool.false_ne_true).mpr ?_
        refine ⟨f1, f2, acc, f3, ?_⟩
        rw [tk, List.filter_append, show ([p].filter fun p : PI2 => decide (0 < p.2)) = [] by simp [z], List.append_nil]
        exact f4
  · rintro H' ⟨f1, f2, acc, f3, f4⟩
    rw [List.length_map, List.take_length] at f4
    refine ⟨f1, ?_⟩
    have ex : Ext H (upd H' a (.dK (ps.map fun p => ((Sum.inl p.1 : Key), V.int p.2)))) := fun b o hb => by
      by_cases e : b = a
      · subst e; rw [upd_same, ← hH]; exact hb
      · rw [upd_ne e]; exact f2 b o e hb
    refine q _ _ (s.ext ex) (ex.stay _) (.lst (by rw [upd_ne La]; exact f3) (s.newA nL') (reps_of (Paired.mapP f4 fun p' v ⟨t, e1, e2, e3, e4, e5⟩ => ⟨t, e1, by rw [upd_ne e4]; exact e5, s.newA e2⟩)))
end
end FT

set_option Elab.async false
set_option linter.all false
set_option maxRecDepth 100000
set_option maxHeartbeats 1000000
/-! FUO: sorted(..) of steps (tuples of a word, or of a word and a number); {..}.get(k, v) of a written dict. -/
namespace FT
open PySem PySem.Spec PyProof.Rows L2 Srt SrtO
/-! ### steps by their ranks -/
def words7 : List Str := [Str.ofString "down", Str.ofString "last", Str.ofString "leaf", Str.ofString "mirror", Str.ofString "next", Str.ofString "top", Str.ofString "up"]
def hasWay (x : Str) : Bool := x == Str.ofString "down" || x == Str.ofString "leaf"
def wrank (x : Str) : Int := (words7.findIdx (· == x) : Nat)
theorem wrank_lt : (words7.all fun x => words7.all fun y => (decide (x.cps.toList < y.cps.toList) == decide (wrank x < wrank y)) && ((x == y) == decide (wrank x = wrank y))) = true := by decide +kernel
theorem wrank_ok {x y : Str} (hx : x ∈ words7) (hy : y ∈ words7) : decide (x.cps.toList < y.cps.toList) = decide (wrank x < wrank y) ∧ (x == y) = decide (wrank x = wrank y) := by
  have := List.all_eq_true.mp (List.all_eq_true.mp wrank_lt x hx) y hy
  rw [Bool.and_eq_true] at this
  exact ⟨by simpa using this.1, by simpa using this.2⟩
abbrev Stp := Str × Option Int
def rankS (p : Stp) : PI2 := (wrank p.1, p.2.getD 0)
def OkStp (p : Stp) : Prop := p.1 ∈ words7 ∧ p.2.isSome = hasWay p.1
/-- a step stands there -/
def StpAt (h : Heap) (v : Value) (p : Stp) : Prop := ∃ (a : Addr) (o : Obj) (xs : Array Value) (n : Nat), v = .ref a ∧ h.get? a = some o ∧ o.cls = .type "tuple" ∧ o.data = .seq xs n ∧ ((∃ t, p.2 = none ∧ xs = #[.str p.1 t]) ∨ ∃ t u i, p.2 = some i ∧ xs = #[.str p.1 t, .int i u])
theorem StpAt.keeps {h h' : Heap} {v : Value} {p : Stp} (s : StpAt h v p) (k : ∀ b o, h.get? b = some o → o.cls = .type "tuple" → h'.get? b = some o) : StpAt h' v p := by
  obtain ⟨a, o, xs, n, e, ho, hc, hd, r⟩ := s
  exact ⟨a, o, xs, n, e, k _ _ ho hc, hc, hd, r⟩
section
variable {prog : Program} {w : World} {A : Around} {E : Value → Shared → Prop} {s : Shared}
theorem firsts_stp {h : Heap} {f : Value → Stp} : ∀ {vs : List Value}, (∀ v ∈ vs, StpAt h v (f v)) → ∃ fs : List Value, PySem.W.KatTups h vs fs ∧ fs.length = vs.length ∧ ∀ x ∈ fs, ∃ y t, x = Value.str y t
  | [], _ => ⟨[], PySem.W.KatTups.nil, rfl, fun _ hm => by simp at hm⟩
  | v :: vs, hp => by
    obtain ⟨fs, h1, h2, h3⟩ := firsts_stp (vs := vs) fun v' hm => hp v' (List.mem_cons_of_mem _ hm)
    obtain ⟨a, o, xs, n, e, ho, hc, hd, r⟩ := hp v (List.mem_cons_self ..)
    subst e
    obtain ⟨t, h0⟩ : ∃ t, xs[0]? = some (.str (f (.ref a)).1 t) := by
      rcases r with ⟨t, _, rfl⟩ | ⟨t, u, i, _, rfl⟩
      · exact ⟨t, rfl⟩
      · exact ⟨t, rfl⟩
    refine ⟨.str (f (.ref a)).1 t :: fs, PySem.W.KatTups.cons ho hc hd h0 h1, by rw [List.length_cons, List.length_cons, h2], fun x hm => ?_⟩
    rcases List.mem_cons.mp hm with rfl | hm
    · exact ⟨_, t, rfl⟩
    · exact h3 x hm
theorem stp_cmp {vs : List Value} {f : Value → Stp} (hp : ∀ v ∈ vs, StpAt s.heap v (f v) ∧ OkStp (f v)) : SrtO.Cmp prog w A s (tuples' true) (fun p => p.1 ∈ vs) (SrtO.lt2 fun v u => SrtO.lexB (rankS (f v)) (rankS (f u))) := by
  intro p q hm hm'
  obtain ⟨h1, k1⟩ := hp _ hm
  obtain ⟨h2, k2⟩ := hp _ hm'
  show wpAny (model prog w) A (keyLt' (tuples' true) p.1 q.1) (fun r s' => s' = s ∧ r = SrtO.lexB (rankS (f p.1)) (rankS (f q.1))) (fun _ _ => False) s
  generalize f p.1 = a at h1 k1 ⊢
  generalize f q.1 = b at h2 k2 ⊢
  obtain ⟨x, i⟩ := a
  obtain ⟨y, j⟩ := b
  obtain ⟨kx, kx2⟩ := k1
  obtain ⟨ky, ky2⟩ := k2
  simp only at kx kx2 ky ky2
  obtain ⟨hlt, heq⟩ := wrank_ok kx ky
  obtain ⟨a, o, xs, n, e, ho, hc, hd, r⟩ := h1
  obtain ⟨a', o', xs', n', e', ho', hc', hd', r'⟩ := h2
  rw [e, e']
  refine PySem.W.kat_lt ho hd ho' hd' ?_
  have low : ∀ (l : List (Value × Value)) (fin : Bool) (t u : Tok), (x ≠ y → True) → (x = y → PySem.W.KatLex prog w A true fin (fun r s' => s' = s ∧ r = SrtO.lexB (rankS (x, i)) (rankS (y, j))) l 1 s) → PySem.W.KatLex prog w A true fin (fun r s' => s' = s ∧ r = SrtO.lexB (rankS (x, i)) (rankS (y, j))) ((.str x t, .str y u) :: l) 0 s := fun l fin t u _ hl => by
    refine PySem.W.kat_cons (SeqAt.EqAt.str_str x t y u prog w _ _ ?_)
    refine PySem.W.kat_go (fun e1 => ?_) (fun e1 => ?_)
    · have ex : x = y := eq_of_beq e1
      exact PySem.W.kat_yes (hl ex)
    · refine PySem.W.kat_no (oneLt_str ⟨rfl, ?_⟩)
      rw [heq] at e1
      have ne : ¬ wrank x = wrank y := by simpa using e1
      show decide (x.cps.toList < y.cps.toList) = SrtO.lexB (wrank x, i.getD 0) (wrank y, j.getD 0)
      unfold SrtO.lexB
      rw [if_neg ne, hlt]
  have rx : x = y → wrank x = wrank y := fun z => by rw [z]
  rcases r with ⟨t, hi, rfl⟩ | ⟨t, u, i0, hi, rfl⟩
  · rcases r' with ⟨t', hj, rfl⟩ | ⟨t', u', j0, hj, rfl⟩
    · refine low [] _ t t' (fun _ => trivial) fun z => PySem.W.kat_nil ⟨rfl, ?_⟩
      simp only at hi hj
      subst z hi hj
      show decide (1 < 1) = SrtO.lexB (wrank x, 0) (wrank x, 0)
      unfold SrtO.lexB
      rw [if_pos rfl]
      rfl
    · refine low [] _ t t' (fun _ => trivial) fun z => ?_
      simp only at hi hj
      subst z hi hj
      rw [← kx2] at ky2
      cases ky2
  · rcases r' with ⟨t', hj, rfl⟩ | ⟨t', u', j0, hj, rfl⟩
    · refine low [] _ t t' (fun _ => trivial) fun z => ?_
      simp only at hi hj
      subst z hi hj
      rw [← kx2] at ky2
      cases ky2
    · refine low [(.int i0 u, .int j0 u')] _ t t' (fun _ => trivial) fun z => ?_
      simp only at hi hj
      subst z hi hj
      refine PySem.W.kat_cons (SeqAt.EqAt.int_int i0 u j0 u' prog w _ _ ?_)
      refine PySem.W.kat_go (fun e2 => ?_) (fun e2 => ?_)
      · have ey : i0 = j0 := by simpa using e2
        subst ey
        refine PySem.W.kat_yes (PySem.W.kat_nil ⟨rfl, ?_⟩)
        show decide (2 < 2) = SrtO.lexB (wrank x, i0) (wrank x, i0)
        unfold SrtO.lexB
        rw [if_pos rfl]
        exact (decide_eq_false (Int.lt_irrefl i0)).symm
      · refine PySem.W.kat_no (PySem.W.kat_one _ _ (PyProof.Rows.lt_int ⟨rfl, ?_⟩))
        show decide (i0 < j0) = SrtO.lexB (wrank x, i0) (wrank x, j0)
        unfold SrtO.lexB
        rw [if_pos rfl]
theorem stp_sortableO {a : Addr} {vs : List Value} {f : Value → Stp} (h0 : 0 < vs.length) (hp : ∀ v ∈ vs, StpAt s.heap v (f v) ∧ OkStp (f v)) (ha : ∀ o, s.heap.get? a = some o → o.cls ≠ .type "tuple") : SrtO.SortableO prog w A s a vs fun v u => SrtO.lexB (rankS (f v)) (rankS (f u)) := by
  intro h' keep
  have hp' : ∀ v ∈ vs, StpAt h' v (f v) ∧ OkStp (f v) := fun v hm => ⟨(hp v hm).1.keeps fun b o e c => keep b o (fun z => by subst z; exact ha o e c) e, (hp v hm).2⟩
  obtain ⟨fs, h1, h2, h3⟩ := firsts_stp fun v hm => (hp' v hm).1
  refine ⟨tuples' true, fun Q E hq => ?_, stp_cmp hp'⟩
  refine PySem.W.kat_kind (T := .type "str") h1 (by omega) (fun f hm => ?_) (by rfl) ?_
  · obtain ⟨x, t, rfl⟩ := h3 f hm
    exact PySem.W.Looks.now
  · have e : (Value.type "str" != Value.type "tuple") = true := by first | decide +kernel | rfl | decide
    rw [e]
    exact hq
theorem sorted_stp {l : Addr} {vs : List Value} {f : Value → Stp} {Q : Value → Shared → Prop} (hl : s.heap.IsList l vs.toArray) (hz : vs.length ≤ sizeLine) (hp : ∀ v ∈ vs, StpAt s.heap v (f v) ∧ OkStp (f v))
    (h : ∀ (h' : Heap) (d : Addr) (out : List Value), SrtO.Srtd (fun v u => SrtO.lexB (rankS (f v)) (rankS (f u))) out → SrtO.Stb (fun v u => SrtO.lexB (rankS (f v)) (rankS (f u))) out vs → (∀ b o, s.heap.get? b = some o → h'.get? b = some o) → s.heap.objs.size ≤ d → (∃ n, h'.get? d = some (seqObj "list" out.toArray n)) → Q (.ref d) { s with heap := h' }) :
    wpAny (model prog w) A (call (.builtin "sorted") [.ref l]) Q E s := by
  refine SrtO.sorted_ord (SrtO.swo_lex fun v => rankS (f v)) hl hz (fun h2 h₁ a ha kk => ?_) fun out hs hb => ?_
  · refine stp_sortableO (s := { s with heap := h₁ }) (by omega) (fun v hm => ⟨(hp v hm).1.keeps fun b o e _ => (kk b o e).2, (hp v hm).2⟩) fun o e => ?_
    have e' : some o = some (seqObj "list" vs.toArray 0) := e.symm.trans ha
    cases e'
    intro c
    exact absurd (Value.type.inj c) (by decide)
  · exact h _ _ out hs hb (fun b o e => sortedAll_old e) (Nat.le_succ _) (sortedAll_at s.heap vs out.toArray)
end
/-! ### as a rule -/
def stpV (p : Stp) : List V := .str p.1 :: (match p.2 with | none => [] | some i => [.int i])
def stpD (p : Stp) : D := .tup (.str p.1 :: (match p.2 with | none => [] | some i => [.int i]))
section
variable {X : Cx}
theorem cr_sortedSt {pins : List (Addr × Obj)} {s : Shared} {σ : St} {H : Hp} {us : List Value} {Q : VK} (I : Inv X pins σ H s) {a : Addr} {xs : List V} {k : V → Stp} (r : Vals [V.ref a] us) (hs : SqL X.K H a xs)
    (hx : ∀ x ∈ xs, ∃ t, x = V.ref t ∧ SqT X.K H t (stpV (k x)) ∧ OkStp (k x))
    (q : ∀ ys p, SrtO.Srtd (ltP fun x => rankS (k x)) ys → SrtO.Stb (ltP fun x => rankS (k x)) ys xs → H p = none → Q (.ref p) (upd H p (.lst ys))) :
    wpAny (model X.prog X.w) X.A (call (.builtin "sorted") us) (EP X pins σ Q) X.xe s := by
  obtain ⟨its, rv, hl, hz⟩ := I.list hs
  obtain ⟨u, rfl, ru⟩ := vals1 r
  obtain rfl : u = Value.ref a := ru
  obtain ⟨e1, e2⟩ := refs_back rv fun x m => by
    obtain ⟨t, e, _⟩ := hx x m
    exact ⟨t, e⟩
  refine sorted_stp (f := fun u => k (backV u)) hl.isList (by rw [← rv.length]; exact hz) (fun v hv => ?_) fun h' d out h1 h2 kp hd hn => ?_
  · obtain ⟨t, rfl⟩ := e2 v hv
    have hm : V.ref t ∈ xs := by rw [e1]; exact List.mem_map.mpr ⟨_, hv, rfl⟩
    obtain ⟨t', e, ht, ok⟩ := hx _ hm
    cases e
    refine ⟨?_, ok⟩
    obtain ⟨its2, r2, ⟨o, ho, hc, n, hd⟩, _⟩ := I.tuple ht
    refine ⟨t, o, its2.toArray, n, rfl, ho, hc, hd, ?_⟩
    show (∃ t_1, (k (.ref t)).2 = none ∧ its2.toArray = #[Value.str (k (.ref t)).1 t_1]) ∨ ∃ t_1 u i, (k (.ref t)).2 = some i ∧ its2.toArray = #[Value.str (k (.ref t)).1 t_1, Value.int i u]
    unfold stpV at r2
    cases z : (k (.ref t)).2 with
    | none =>
      rw [z] at r2
      obtain ⟨u1, rfl, r1⟩ := vals1 r2
      obtain ⟨t1, rfl⟩ := r1
      exact .inl ⟨t1, rfl, rfl⟩
    | some i =>
      rw [z] at r2
      obtain ⟨u1, u2, rfl, ri, rj⟩ := vals2 r2
      obtain ⟨t1, rfl⟩ := ri
      obtain ⟨t2, rfl⟩ := rj
      exact .inr ⟨t1, t2, i, rfl, rfl⟩
  · have h3 : ∀ u ∈ out, ∃ a, u = Value.ref a := fun u hu => e2 u (h2.perm.mem_iff.mp hu)
    obtain ⟨n, hn⟩ := hn
    have hb : SrtO.Stb (ltP fun x => rankS (k x)) (out.map backV) xs := by
      rw [e1]
      exact SrtO.Stb.map (ltP_swo fun x => rankS (k x)) backV h2
    refine ⟨.ref d, upd H d (.lst (out.map backV)), I.laid (t' := s.toks) kp hd ⟨?_, out, n, vals_back h3, hn⟩, rfl, q _ d (SrtO.srtd_map h1) hb (I.hok.fresh hd)⟩
    rw [hb.len]
    exact hz
end
instance (p : Stp) : Decidable (OkStp p) := by unfold OkStp; exact inferInstance
def stp? : D → Option Stp
  | .tup [.str x] => if OkStp (x, none) then some (x, none) else none
  | .tup [.str x, .int i] => if OkStp (x, some i) then some (x, some i) else none
  | _ => none
def stps? : List D → Option (List Stp)
  | [] => some []
  | d :: ds => (stp? d).bind fun p => (stps? ds).map fun ps => p :: ps
theorem stp_eq {d : D} {p : Stp} (h : stp? d = some p) : d = stpD p ∧ OkStp p := by
  unfold stp? at h
  split at h
  · split at h
    · cases h; exact ⟨rfl, by assumption⟩
    · cases h
  · split at h
    · cases h; exact ⟨rfl, by assumption⟩
    · cases h
  · cases h
theorem stps_eq : ∀ {ds : List D} {ps : List Stp}, stps? ds = some ps → ds = ps.map stpD ∧ ∀ p ∈ ps, OkStp p
  | [], ps, h => by cases h; exact ⟨rfl, fun p hp => nomatch hp⟩
  | d :: ds, ps, h => by
    unfold stps? at h
    cases z : stp? d with
    | none => rw [z] at h; cases h
    | some p =>
      rw [z, Option.bind_some] at h
      cases z2 : stps? ds with
      | none => rw [z2] at h; cases h
      | some qs =>
        rw [z2] at h
        cases h
        obtain ⟨e1, o1⟩ := stp_eq z
        obtain ⟨e2, o2⟩ := stps_eq z2
        exact ⟨by rw [e1, e2, List.map_cons], fun q hq => (List.mem_cons.mp hq).elim (fun z => z ▸ o1) (o2 q)⟩
def insS (a : Stp) : List Stp → List Stp
  | [] => [a]
  | b :: r => if leP (rankS a) (rankS b) then a :: b :: r else b :: insS a r
def sortS : List Stp → List Stp
  | [] => []
  | a :: r => insS a (sortS r)
theorem insS_rank (a : Stp) : ∀ l : List Stp, (insS a l).map rankS = insP (rankS a) (l.map rankS)
  | [] => rfl
  | b :: r => by
    unfold insS
    rw [List.map_cons, insP]
    split
    · rfl
    · rw [List.map_cons, insS_rank a r]
theorem sortS_rank : ∀ l : List Stp, (sortS l).map rankS = sortP (l.map rankS)
  | [] => rfl
  | a :: r => by rw [sortS, insS_rank, sortS_rank r, List.map_cons, sortP]
theorem insS_mem (a : Stp) : ∀ {l : List Stp} {x : Stp}, x ∈ insS a l → x = a ∨ x ∈ l
  | [], x, h => by simpa [insS] using h
  | b :: r, x, h => by
    unfold insS at h
    split at h
    · rcases List.mem_cons.mp h with h | h
      · exact .inl h
      · exact .inr h
    · rcases List.mem_cons.mp h with h | h
      · exact .inr (h ▸ List.mem_cons_self)
      · rcases insS_mem a h with h | h
        · exact .inl h
        · exact .inr (List.mem_cons_of_mem _ h)
theorem sortS_mem : ∀ {l : List Stp} {x : Stp}, x ∈ sortS l → x ∈ l
  | a :: r, x, h => by
    rcases insS_mem a h with h | h
    · exact h ▸ List.mem_cons_self
    · exact List.mem_cons_of_mem _ (sortS_mem h)
theorem rankS_inj {p q : Stp} (hp : OkStp p) (hq : OkStp q) (h : rankS p = rankS q) : p = q := by
  obtain ⟨x, i⟩ := p
  obtain ⟨y, j⟩ := q
  obtain ⟨h1, h2⟩ := Prod.mk.inj h
  simp only at h1 h2
  have e : x = y := by
    have := (wrank_ok hp.1 hq.1).2
    simp only at this
    rw [h1] at this
    exact eq_of_beq (by simpa using this)
  subst e
  have w : i.isSome = j.isSome := by
    have a := hp.2
    have b := hq.2
    simp only at a b
    rw [a, b]
  cases i with
  | none => cases j with
    | none => rfl
    | some j => cases w
  | some i => cases j with
    | none => cases w
    | some j =>
      have h2 : i = j := h2
      rw [h2]
def fSortedSt : List D → Option D
  | [.lst ds] => (stps? ds).map fun ps => .lst ((sortS ps).map stpD)
  | _ => none
/-- which step a value is -/
def stpOf (K : PySem.W.Frag) (H : Hp) (x : V) (p : Stp) : Prop := ∃ t, x = .ref t ∧ SqT K H t (stpV p)
section
variable {K : PySem.W.Frag} {mg : Str → Option Value} {H : Hp} {av : Addr → Prop}
theorem rep_stp {p : Stp} {v : V} (r : Rep K mg H av (stpD p) v) : ∃ t, v = .ref t ∧ SqT K H t (stpV p) := by
  obtain ⟨a, vs, e, h, q⟩ := r.tup_inv
  refine ⟨a, e, ?_⟩
  have : vs = stpV p := by
    unfold stpV
    cases z : p.2 with
    | none =>
      rw [z] at q
      cases q with
      | cons r1 t => cases r1; cases t; rfl
    | some i =>
      rw [z] at q
      cases q with
      | cons r1 t => cases r1; cases t with | cons r2 t => cases r2; cases t; rfl
  rw [← this]
  exact h
end
section
variable {X : Cx} {G : Gh} {k : Nat}
theorem pairs_zip {K : PySem.W.Frag} {mg : Str → Option Value} {H : Hp} {av : Addr → Prop} : ∀ {ps : List Stp} {vs : List V}, Reps K mg H av (ps.map stpD) vs → ps.length = vs.length
  | ps, vs, r => by have := r.length; simpa using this
open Classical in
theorem cf_sortedSt (x : XG X G k) : CallR X (.builtin "sorted") (rFn G fSortedSt) := by
  intro pins s σ H xs us Q I r ⟨av, ds, d, h, hg, hav, q⟩
  unfold fSortedSt at hg
  split at hg
  · rename_i ds
    obtain ⟨v, rfl, h1⟩ := h.one
    obtain ⟨a, vs, rfl, e1, p1⟩ := h1.lst
    cases z : stps? ds with
    | none => rw [z] at hg; cases hg
    | some ps =>
      rw [z] at hg
      cases hg
      obtain ⟨ed, ok⟩ := stps_eq z
      subst ed
      -- which step a value is
      have look : ∀ {ps : List Stp} {vs : List V}, Reps G.K G.mg H av (ps.map stpD) vs → ∀ v ∈ vs, ∃ p ∈ ps, Rep G.K G.mg H av (stpD p) v := by
        intro ps vs r
        induction ps generalizing vs with
        | nil => cases r; exact fun v hv => nomatch hv
        | cons p ps ih =>
          cases r with
          | cons r t =>
            intro v hv
            rcases List.mem_cons.mp hv with rfl | hv
            · exact ⟨p, List.mem_cons_self, r⟩
            · obtain ⟨p', h1, h2⟩ := ih t v hv
              exact ⟨p', List.mem_cons_of_mem _ h1, h2⟩
      let κ : V → Stp := fun v => if h : ∃ p, p ∈ ps ∧ Rep G.K G.mg H av (stpD p) v then Classical.choose h else (Str.ofString "up", none)
      have hκ : ∀ v, (∃ p, p ∈ ps ∧ Rep G.K G.mg H av (stpD p) v) → κ v ∈ ps ∧ Rep G.K G.mg H av (stpD (κ v)) v := fun v h => by
        have := Classical.choose_spec h
        show (if h : ∃ p, p ∈ ps ∧ Rep G.K G.mg H av (stpD p) v then Classical.choose h else (Str.ofString "up", none)) ∈ ps ∧ Rep G.K G.mg H av (stpD (if h : ∃ p, p ∈ ps ∧ Rep G.K G.mg H av (stpD p) v then Classical.choose h else (Str.ofString "up", none))) v
        rw [dif_pos h]
        exact this
      have inj : ∀ {p q : Stp} {v : V}, Rep G.K G.mg H av (stpD p) v → Rep G.K G.mg H av (stpD q) v → p = q := fun {p q v} r1 r2 => by
        obtain ⟨t1, f1, g1⟩ := rep_stp r1
        obtain ⟨t2, f2, g2⟩ := rep_stp r2
        rw [f1] at f2
        cases f2
        have e := I.tuple_inj (by rw [x.K]; exact g1) (by rw [x.K]; exact g2)
        unfold stpV at e
        obtain ⟨p1, p2⟩ := p
        obtain ⟨q1, q2⟩ := q
        cases p2 <;> cases q2 <;> simp_all
      have mapκ : ∀ {qs : List Stp} {us : List V}, (∀ p ∈ qs, p ∈ ps) → Reps G.K G.mg H av (qs.map stpD) us → us.map κ = qs := by
        intro qs us hq r
        induction qs generalizing us with
        | nil => cases r; rfl
        | cons p qs ih =>
          cases r with
          | cons r t =>
            have hp := hq p List.mem_cons_self
            rw [List.map_cons, ih (fun y hy => hq y (List.mem_cons_of_mem _ hy)) t, inj (hκ _ ⟨p, hp, r⟩).2 r]
      refine cr_sortedSt (k := κ) I r (x.sqL (.of e1)) (fun y hy => ?_) fun ys p sd sb np => ?_
      · obtain ⟨p, hp, rp⟩ := look p1 y hy
        obtain ⟨h1, h2⟩ := hκ y ⟨p, hp, rp⟩
        obtain ⟨t, f1, g1⟩ := rep_stp h2
        exact ⟨t, f1, by rw [x.K]; exact g1, ok _ h1⟩
      · have pm := sb.perm
        have me : ∀ y ∈ ys, y ∈ vs := fun y hy => pm.mem_iff.mp hy
        have m1 := mapκ (fun p hp => hp) p1
        have rk : (ys.map κ).map rankS = (sortS ps).map rankS := by
          rw [sortS_rank, List.map_map]
          refine sortP_eq ?_ (srtd_le sd) (sortP_sorted _)
          have z1 : (ys.map (rankS ∘ κ)).Perm (vs.map (rankS ∘ κ)) := pm.map _
          rw [← List.map_map (f := κ) (g := rankS) (l := vs), m1] at z1
          exact z1.trans (sortP_perm _).symm
        have inj2 : ∀ {as bs : List Stp}, (∀ a ∈ as, OkStp a) → (∀ b ∈ bs, OkStp b) → as.map rankS = bs.map rankS → as = bs := by
          intro as
          induction as with
          | nil => intro bs _ _ e; cases bs with
            | nil => rfl
            | cons b bs => cases e
          | cons a as ih =>
            intro bs ha hb e
            cases bs with
            | nil => cases e
            | cons b bs =>
              rw [List.map_cons, List.map_cons] at e
              obtain ⟨e1, e2⟩ := List.cons.inj e
              rw [rankS_inj (ha a List.mem_cons_self) (hb b List.mem_cons_self) e1, ih (fun y hy => ha y (List.mem_cons_of_mem _ hy)) (fun y hy => hb y (List.mem_cons_of_mem _ hy)) e2]
        have eq : ys.map κ = sortS ps := inj2 (fun a ha => by
          obtain ⟨y, hy, rfl⟩ := List.mem_map.mp ha
          obtain ⟨p, hp, rp⟩ := look p1 y (me y hy)
          exact ok _ (hκ y ⟨p, hp, rp⟩).1) (fun b hb => ok b (sortS_mem hb)) rk
        refine q _ _ (Ext.upd np) (.lst upd_same (new_no hav np) ?_)
        rw [← eq]
        have back : ∀ {us : List V}, (∀ u ∈ us, u ∈ vs) → Reps G.K G.mg H av ((us.map κ).map stpD) us := by
          intro us
          induction us with
          | nil => intro _; exact .nil
          | cons u us ih =>
            intro hu
            obtain ⟨p, hp, rp⟩ := look p1 u (hu u List.mem_cons_self)
            exact .cons (hκ u ⟨p, hp, rp⟩).2 (ih fun y hy => hu y (List.mem_cons_of_mem _ hy))
        exact (back me).ext (Ext.upd np)
  · cases hg
end
/-! ### {..}.get(k, v) -/
def kD : Key → D
  | .inl i => .int i
  | .inr x => .str x
def CA (X : Cx) (es : List Expr) (cs : List Key) : Prop := PA X es (fun σ H Q => Q (cs.map kV) H)
def CV (X : Cx) (G : Gh) (e : Expr) (d : D) : Prop := PE X e (fun σ H Q => ∀ v H', Ext H H' → (∀ av : Addr → Prop, (∀ a, av a → ∃ o, H a = some o) → Rep G.K G.mg H' av d v) → Q v H')
structure CP (X : Cx) (G : Gh) (pos : Pos) (keys : List (Option Expr)) (values : List Expr) (kvs : List (Str × D)) : Prop where
  run : ∃ trs, PPs X pos keys values trs ∧ ∀ σ H Q, (∀ vs H', Ext H H' → vs.length = kvs.length → (∀ av : Addr → Prop, (∀ a, av a → ∃ o, H a = some o) → Reps G.K G.mg H' av (kvs.map (·.2)) vs) → Q ((kvs.zip vs).map fun p => (V.str p.1.1, p.2)) H') → tPairs trs σ H Q
section
variable {X : Cx} {G : Gh} {k : Nat} {pos : Pos}
theorem ca_nil : CA X [] [] := PA.imp pa_nil fun σ H Q q => q
theorem ca_int {i : Int} {j p} {es : List Expr} {cs : List Key} (h : CA X es cs) (hs : starEach (.Constant (.int i) j p :: es) X.env = (false, eval (.Constant (.int i) j p) X.env) :: starEach es X.env := by rfl) : CA X (.Constant (.int i) j p :: es) (.inl i :: cs) := PA.imp (pa_cons pe_int h hs) fun σ H Q q => q
theorem ca_str {x : Str} {j p} {es : List Expr} {cs : List Key} (h : CA X es cs) (hs : starEach (.Constant (.str x) j p :: es) X.env = (false, eval (.Constant (.str x) j p) X.env) :: starEach es X.env := by rfl) : CA X (.Constant (.str x) j p :: es) (.inr x :: cs) := PA.imp (pa_cons pe_str h hs) fun σ H Q q => q
theorem keys_reps {K : PySem.W.Frag} {mg : Str → Option Value} {H : Hp} {av : Addr → Prop} : ∀ cs : List Key, Reps K mg H av (cs.map kD) (cs.map kV)
  | [] => .nil
  | .inl i :: r => .cons (.int i) (keys_reps r)
  | .inr x :: r => .cons (.str x) (keys_reps r)
theorem cv_tup {es : List Expr} {cs : List Key} {j} (h : CA X es cs) (hl : cs.length ≤ 1000 := by decide) : CV X G (.Tuple es j pos) (.tup (cs.map kD)) := PE.imp (pe_tup h) fun σ H Q q => by
  refine ⟨size1000 (by simpa using hl), fun p n => q _ _ (Ext.upd n) fun av hav => .tup upd_same (fun z => ?_) (keys_reps cs)⟩
  obtain ⟨o, e⟩ := hav p z
  rw [n] at e
  cases e
theorem cp_nil : CP X G pos [] [] [] := ⟨[], pps_nil, fun σ H Q q => q [] H (.refl _) rfl fun _ _ => .nil⟩
theorem cp_cons {x : Str} {j p} {e : Expr} {d : D} {ks : List (Option Expr)} {vs : List Expr} {kvs : List (Str × D)} (h : CV X G e d) (hr : CP X G pos ks vs kvs) : CP X G pos (some (.Constant (.str x) j p) :: ks) (e :: vs) ((x, d) :: kvs) := by
  obtain ⟨trs, h1, h2⟩ := hr.run
  refine ⟨_, pps_cons pe_str h h1, fun σ H Q q => ?_⟩
  show ∀ v H', Ext H H' → _ → _
  intro v H1 e1 r1
  refine h2 σ H1 _ fun vs H2 e2 len r2 => ?_
  refine q (v :: vs) H2 (e1.trans e2) (by simpa using len) fun av hav => .cons ((r1 av hav).ext e2) (r2 av fun a ha => ?_)
  obtain ⟨o, z⟩ := hav a ha
  exact ⟨o, e1 a o z⟩
def dispD (kvs : List (Str × D)) : List (Key × D) := kvs.foldl (fun acc kv => putD acc (.inr kv.1) kv.2) []
def mDispGet (kvs : List (Str × D)) (mk mv : ME) : ME := fun env => (mk env).bind fun d s => (mv s).bind fun v s' => match toKey d with
  | some key => .ok ((valD (dispD kvs) key).getD v) s'
  | none => .stuck
theorem disp_rel {K : PySem.W.Frag} {mg : Str → Option Value} {H : Hp} {av : Addr → Prop} : ∀ {kvs : List (Str × D)} {vs : List V} {acc : List (Key × D)} {acc' : List (Key × V)} (_ : Reps K mg H av (kvs.map (·.2)) vs) (_ : Paired (fun (p : Key × D) (q : Key × V) => p.1 = q.1 ∧ Rep K mg H av p.2 q.2) acc acc'),
    Paired (fun (p : Key × D) (q : Key × V) => p.1 = q.1 ∧ Rep K mg H av p.2 q.2) (kvs.foldl (fun acc kv => putD acc (.inr kv.1) kv.2) acc) (mergeK acc' ((kvs.zip vs).map fun p => (Sum.inr p.1.1, p.2)))
  | [], _, acc, acc', .nil, p => p
  | (x, d) :: kvs, v :: vs, acc, acc', .cons r t, p => by
    rw [List.zip_cons_cons, List.map_cons]
    show Paired _ (kvs.foldl _ (putD acc (.inr x) d)) (mergeK (putK acc' (.inr x) v) _)
    exact disp_rel t (put_rel p (.inr x) r)
theorem se_dispGet {keys : List (Option Expr)} {values : List Expr} {kvs : List (Str × D)} {e f : Expr} {mk mv : ME} {dpos apos cpos : Pos} (xg : XG X G k) (hd : CP X G dpos keys values kvs) (he : SE X G e mk) (hf : SE X G f mv)
    (m : M2 X (.Dict keys values dpos) "get" apos e f cpos := by exact ⟨rfl, rfl, rfl, rfl⟩) (hall : keys.all (·.isSome) = true := by rfl) (hl : keys.length = values.length := by rfl) (h0 : keys ≠ [] := by exact fun z => nomatch z) (h15 : keys.length ≤ 15 := by decide) (hk15 : kvs.length ≤ 15 := by decide) :
    SE X G (.Call (.Attribute (.Dict keys values dpos) "get" apos) [e, f] [] cpos) (mDispGet kvs mk mv) := by
  obtain ⟨trs, hp, ht⟩ := hd.run
  refine PE.imp (pe_dget2 (hu_xg xg) (pe_disp hp hall hl h0 h15) he hf m) fun σ H Q ⟨env, s, q⟩ => ?_
  intro p n
  refine ht σ _ _ fun vs H2 e2 len r2 => ⟨e2 _ _ upd_same, (kvs.zip vs).map fun p => (Sum.inr p.1.1, p.2), ?_, ?_, ?_⟩
  · rw [List.map_map]; rfl
  · rw [List.length_map, List.length_zip]; omega
  have hp2 : H2 p = some (.dK []) := e2 _ _ upd_same
  generalize hkk : mergeK [] ((kvs.zip vs).map fun p => ((Sum.inr p.1.1 : Key), p.2)) = kk
  have e4 : Ext H (upd H2 p (.dK kk)) := fun b o h => by
    have hb := ne_of_none h n
    rw [upd_ne hb]
    exact e2 b o (by rw [upd_ne hb]; exact h)
  have nAv : ¬ Av G σ p := s.newA n
  have prd := disp_rel (K := G.K) (mg := G.mg) (r2 (fun a => Av G σ a ∨ a = p) fun a ha => by
    rcases ha with ha | ha
    · obtain ⟨o, h, _⟩ := s.there a ha
      exact ⟨o, by rw [upd_ne (ne_of_none h n)]; exact h⟩
    · exact ⟨_, by rw [ha]; exact upd_same⟩) (acc := []) (acc' := []) .nil
  rw [hkk] at prd
  have g : Goes (fun a => Av G σ a ∨ a = p) (Av G σ) H2 (upd H2 p (.dK kk)) := ⟨fun b o nb h _ => ⟨by rw [upd_ne fun z => nb (.inr z)]; exact h, fun z => nb (.inl z)⟩⟩
  refine ⟨p, rfl, .inl ⟨kk, .inl upd_same⟩, ?_⟩
  refine (TEo.bind (s.ext e4) (Post G σ H Q) (fun z => z) (fun _ z => z) q).mono fun y H3 ⟨d, e1, ⟨s1, st1, g1⟩, q1⟩ => ?_
  refine (TEo.bind s1 (Post G σ H Q) (fun z => z) (fun _ z => z) q1).mono fun z H5 ⟨v, e3, ⟨s2, st2, g2⟩, q2⟩ => ?_
  split at q2
  rotate_left
  · exact q2.elim
  rename_i key hkey
  have st : Stay (Ch G σ) (upd H2 p (.dK kk)) H5 := st1.trans st2
  have nCh : ¬ Ch G σ p := fun z => nAv (.inr z)
  have hp5 : H5 p = some (.dK kk) := st p _ nCh upd_same notTbl_dK
  refine ⟨valV kk key, by rw [rep_key (g1.stay st2.av) hkey]; exact .k hp5, ?_⟩
  rcases val_rel prd key with ⟨h1, h2⟩ | ⟨d', v', h1, h2, h3⟩
  · unfold dispD at q2
    rw [h1] at q2
    rw [h2]
    exact q2 _ H5 s2 ((e4.stay _).trans st) g2
  · unfold dispD at q2
    rw [h1] at q2
    rw [h2]
    exact q2 _ H5 s2 ((e4.stay _).trans st) ((h3.goes g).stay st.av)
end
end FT

set_option Elab.async false
set_option linter.all false
set_option maxRecDepth 100000
set_option maxHeartbeats 4000000
namespace FT
open PySem PySem.Spec PyProof.Rows L2
def top (i : Nat) : Stmt := PySem.Challenge.pw_fulltrees_k13_whole_scripts_that_undo_ot.main.body.getD i (.Pass ⟨0, 0, 0, 0⟩)
abbrev s_is_int : Stmt := top 18
abbrev s_power : Stmt := top 19
abbrev s_is_step : Stmt := top 20
abbrev s_are_steps : Stmt := top 21
abbrev s_need_ways : Stmt := top 22
abbrev s_need_script : Stmt := top 23
abbrev s_step_to : Stmt := top 25
abbrev s_walked : Stmt := top 26
abbrev s_level_behind : Stmt := top 27
abbrev s_tail_length : Stmt := top 29
abbrev s_all_levels : Stmt := top 32
abbrev s_unlike_number : Stmt := top 33
abbrev s_need_both : Stmt := top 34
abbrev s_does_undo : Stmt := top 36
abbrev s_all_steps : Stmt := top 37
abbrev s_undoes : Stmt := top 38
abbrev s_undo_for : Stmt := top 39
abbrev s_law_wood : Stmt := top 41
abbrev s_law_twig : Stmt := top 42
abbrev s_law_any : Stmt := top 43
abbrev s_law_one_step : Stmt := top 44
abbrev s_law_steps : Stmt := top 45
abbrev s_law_size : Stmt := top 46
abbrev s_law_figures : Stmt := top 47
abbrev s_law_by_figures : Stmt := top 48
abbrev s_law_moved : Stmt := top 49
abbrev s_law_step_so : Stmt := top 50
abbrev s_law_out : Stmt := top 51
abbrev s_law_spots : Stmt := top 52
abbrev s_law_is_whole : Stmt := top 53
abbrev s_law_is_step : Stmt := top 54
abbrev s_law_are_steps : Stmt := top 55
abbrev s_law_kinds : Stmt := top 56
abbrev s_law_call : Stmt := top 57
abbrev s_law_near : Stmt := top 58
abbrev s_law_does : Stmt := top 59
abbrev s_law_all_steps : Stmt := top 60
abbrev s_law_back : Stmt := top 61
abbrev s_law_first_right : Stmt := top 62
abbrev s_law : Stmt := top 63
def ERS : List Str := [Str.ofString "InvalidWays", Str.ofString "InvalidScript"]
structure Txt (K : PySem.W.Frag) (mg : Str → Option Value) : Prop where
  f_is_int : DefIn K mg (Str.ofString "is_int") s_is_int
  f_power : DefIn K mg (Str.ofString "power") s_power
  f_is_step : DefIn K mg (Str.ofString "is_step") s_is_step
  f_are_steps : DefIn K mg (Str.ofString "are_steps") s_are_steps
  f_need_ways : DefIn K mg (Str.ofString "need_ways") s_need_ways
  f_need_script : DefIn K mg (Str.ofString "need_script") s_need_script
  f_step_to : DefIn K mg (Str.ofString "step_to") s_step_to
  f_walked : DefIn K mg (Str.ofString "walked") s_walked
  f_level_behind : DefIn K mg (Str.ofString "level_behind") s_level_behind
  f_tail_length : DefIn K mg (Str.ofString "tail_length") s_tail_length
  f_all_levels : DefIn K mg (Str.ofString "all_levels") s_all_levels
  f_unlike_number : DefIn K mg (Str.ofString "unlike_number") s_unlike_number
  f_need_both : DefIn K mg (Str.ofString "need_both") s_need_both
  f_does_undo : DefIn K mg (Str.ofString "does_undo") s_does_undo
  f_all_steps : DefIn K mg (Str.ofString "all_steps") s_all_steps
  f_undoes : DefIn K mg (Str.ofString "undoes") s_undoes
  f_undo_for : DefIn K mg (Str.ofString "undo_for") s_undo_for
  f_law_wood : DefIn K mg (Str.ofString "_law_wood") s_law_wood
  f_law_twig : DefIn K mg (Str.ofString "_law_twig") s_law_twig
  f_law_any : DefIn K mg (Str.ofString "_law_any") s_law_any
  f_law_one_step : DefIn K mg (Str.ofString "_law_one_step") s_law_one_step
  f_law_steps : DefIn K mg (Str.ofString "_law_steps") s_law_steps
  f_law_size : DefIn K mg (Str.ofString "_law_size") s_law_size
  f_law_figures : DefIn K mg (Str.ofString "_law_figures") s_law_figures
  f_law_by_figures : DefIn K mg (Str.ofString "_law_by_figures") s_law_by_figures
  f_law_moved : DefIn K mg (Str.ofString "_law_moved") s_law_moved
  f_law_step_so : DefIn K mg (Str.ofString "_law_step_so") s_law_step_so
  f_law_out : DefIn K mg (Str.ofString "_law_out") s_law_out
  f_law_spots : DefIn K mg (Str.ofString "_law_spots") s_law_spots
  f_law_is_whole : DefIn K mg (Str.ofString "_law_is_whole") s_law_is_whole
  f_law_is_step : DefIn K mg (Str.ofString "_law_is_step") s_law_is_step
  f_law_are_steps : DefIn K mg (Str.ofString "_law_are_steps") s_law_are_steps
  f_law_kinds : DefIn K mg (Str.ofString "_law_kinds") s_law_kinds
  f_law_call : DefIn K mg (Str.ofString "_law_call") s_law_call
  f_law_near : DefIn K mg (Str.ofString "_law_near") s_law_near
  f_law_does : DefIn K mg (Str.ofString "_law_does") s_law_does
  f_law_all_steps : DefIn K mg (Str.ofString "_law_all_steps") s_law_all_steps
  f_law_back : DefIn K mg (Str.ofString "_law_back") s_law_back
  f_law_first_right : DefIn K mg (Str.ofString "_law_first_right") s_law_first_right
  f_law : DefIn K mg (Str.ofString "law") s_law
  g_ALONE : GloD K mg (Str.ofString "ALONE") (.tup [(.str (Str.ofString "up")), (.str (Str.ofString "next")), (.str (Str.ofString "last")), (.str (Str.ofString "mirror")), (.str (Str.ofString "top"))])
  g_ENOUGH : GloD K mg (Str.ofString "ENOUGH") (.int 8)
  g_MOST_STEPS : GloD K mg (Str.ofString "MOST_STEPS") (.int 5)
  g_WITH_WAY : GloD K mg (Str.ofString "WITH_WAY") (.tup [(.str (Str.ofString "down")), (.str (Str.ofString "leaf"))])
  e_InvalidScript : ∃ C, ErrC K mg (Str.ofString "InvalidScript") C
  e_InvalidWays : ∃ C, ErrC K mg (Str.ofString "InvalidWays") C
  z_ValueError : mg (Str.ofString "ValueError") = none
  z_abs : mg (Str.ofString "abs") = none
  z_all : mg (Str.ofString "all") = none
  z_bool : mg (Str.ofString "bool") = none
  z_int : mg (Str.ofString "int") = none
  z_isinstance : mg (Str.ofString "isinstance") = none
  z_len : mg (Str.ofString "len") = none
  z_max : mg (Str.ofString "max") = none
  z_min : mg (Str.ofString "min") = none
  z_range : mg (Str.ofString "range") = none
  z_sorted : mg (Str.ofString "sorted") = none
  z_str : mg (Str.ofString "str") = none
  z_tuple : mg (Str.ofString "tuple") = none
  z_zip : mg (Str.ofString "zip") = none
  tell : ∃ C1 C2 C3, TellF K mg C1 C2 C3 ERS
section
variable {P : Program} {w : World} {K : PySem.W.Frag} {mg : Str → Option Value} {Tb : List (Addr × Str)} {base : Heap}
/-! def is_int -/
def N_is_int : List Str := [Str.ofString "value", Str.ofString "low", Str.ofString "high"]
theorem sc_is_int : FnScope N_is_int [Str.ofString "value", Str.ofString "low", Str.ofString "high"] (defScope s_is_int) := ⟨rfl, rfl, rfl, by decide +kernel, rfl, by decide +kernel, by decide +kernel⟩
def m_is_int : MS := (mRet (mAndV (mFn fIsi (mConsO (mV (mVar 0)) (mConsO (mV (mLit (.ty "int"))) mNilO))) (mAndV (mNotV (mFn fIsi (mConsO (mV (mVar 0)) (mConsO (mV (mLit (.ty "bool"))) mNilO)))) (mChain gLe gLe (mV (mVar 1)) (mV (mVar 0)) (mV (mVar 2))))))
def F_is_int : Fn := bodyF false 3 m_is_int
theorem k_is_int (T : Txt K mg)  : Known P w K mg Tb base (Str.ofString "is_int") 1 false false 3 F_is_int := by
  obtain ⟨f, fd, hm, hF⟩ := T.f_is_int
  exact def_ok (N := N_is_int) (ow := []) (m := m_is_int) hF hm sc_is_int rfl rfl (fun _ _ _ _ _ _ us hl => match us, hl with | [_, _, _], _ => rfl) (by decide) (fun cdv A outer s H av pa E hp xs =>
    (ss_one (ss_ret rfl (se_and (se_fnB (cf_isi (xs.toXG)) rfl T.z_isinstance bt_isinstance (sos_cons (so_val (sv 0)) (sos_cons (so_val (se_ty rfl T.z_int bt_int)) sos_nil))) (se_and (se_not (se_fnB (cf_isi (xs.toXG)) rfl T.z_isinstance bt_isinstance (sos_cons (so_val (sv 0)) (sos_cons (so_val (se_ty rfl T.z_bool bt_bool)) sos_nil)))) (se_one (se_chain (op_gLe) (op_gLe) (so_val (sv 1)) (so_val (sv 0)) (so_val (sv 2))))))))) (fun h => by cases h)

/-! def power -/
def N_power : List Str := [Str.ofString "base", Str.ofString "many", Str.ofString "found", Str.ofString "turn"]
theorem sc_power : FnScope N_power [Str.ofString "base", Str.ofString "many"] (defScope s_power) := ⟨rfl, rfl, rfl, by decide +kernel, rfl, by decide +kernel, by decide +kernel⟩
def m_power_b1 : MS := (mSet 2 (mOp2 gMul (mV (mVar 2)) (mV (mVar 0))))
def m_power : MS := (mSeq (mSet 2 (mLit (.int 1)))
    (mSeq (mFor (mRng1 (mConsA (mVar 1) mNilA)) (mgName 3) m_power_b1)
    (mRet (mVar 2))))
def F_power : Fn := bodyF false 4 m_power
theorem k_power (T : Txt K mg)  : Known P w K mg Tb base (Str.ofString "power") 1 false false 2 F_power := by
  obtain ⟨f, fd, hm, hF⟩ := T.f_power
  exact def_ok (N := N_power) (ow := []) (m := m_power) hF hm sc_power rfl rfl (fun _ _ _ _ _ _ us hl => match us, hl with | [_, _], _ => rfl) (by decide) (fun cdv A outer s H av pa E hp xs =>
    (ss_cons (ss_set (i := 2) xs.nd rfl rfl (by first | exact Or.inl rfl | exact Or.inr rfl) se_int)
    (ss_cons (ss_for xs (si_rng1 rfl T.z_range (sa_cons (sv 1) sa_nil)) (sg_name (xs.toXG).nd rfl rfl (by first | exact Or.inl rfl | exact Or.inr rfl)) (ss_one (ss_set (i := 2) xs.nd rfl rfl (by first | exact Or.inl rfl | exact Or.inr rfl) (se_bin (op_gMul (xs.toXG)) (so_val (sv 2)) (so_val (sv 0))))))
    (ss_one (ss_ret rfl (sv 2)))))) (fun h => by cases h)

/-! def is_step -/
def N_is_step : List Str := [Str.ofString "ways", Str.ofString "value"]
theorem sc_is_step : FnScope N_is_step [Str.ofString "ways", Str.ofString "value"] (defScope s_is_step) := ⟨rfl, rfl, rfl, by decide +kernel, rfl, by decide +kernel, by decide +kernel⟩
def m_is_step : MS := (mSeq (mIfS (mOrT (mNotT (mTst (mFn fIsi (mConsO (mV (mVar 1)) (mConsO (mV (mLit (.ty "tuple"))) mNilO))))) (mOrT (mNotT (mTst (mChain gLe gLe (mV (mLit (.int 1))) (mV (mFn fLen (mConsO (mV (mVar 1)) mNilO))) (mV (mLit (.int 2)))))) (mNotT (mTst (mFn fIsi (mConsO (mV (mOp2 gIdx (mV (mVar 1)) (mV (mLit (.int 0))))) (mConsO (mV (mLit (.ty "str"))) mNilO))))))) (mRet (mLit (.bl false))) mNx)
    (mSeq (mIfS (mTst (mOp2 gIn (mV (mOp2 gIdx (mV (mVar 1)) (mV (mLit (.int 0))))) (mV (mLit (.tup [(.str (Str.ofString "down")), (.str (Str.ofString "leaf"))]))))) (mRet (mAndV (mOp2 gEq (mV (mFn fLen (mConsO (mV (mVar 1)) mNilO))) (mV (mLit (.int 2)))) (mCall F_is_int (mConsA (mOp2 gIdx (mV (mVar 1)) (mV (mLit (.int 1)))) (mConsA (mLit (.int 0)) (mConsA (mOp2 gSub (mV (mVar 0)) (mV (mLit (.int 1)))) mNilA)))))) mNx)
    (mRet (mAndV (mOp2 gIn (mV (mOp2 gIdx (mV (mVar 1)) (mV (mLit (.int 0))))) (mV (mLit (.tup [(.str (Str.ofString "up")), (.str (Str.ofString "next")), (.str (Str.ofString "last")), (.str (Str.ofString "mirror")), (.str (Str.ofString "top"))])))) (mOp2 gEq (mV (mFn fLen (mConsO (mV (mVar 1)) mNilO))) (mV (mLit (.int 1))))))))
def F_is_step : Fn := bodyF false 2 m_is_step
theorem k_is_step (T : Txt K mg) (h_is_int : Known P w K mg Tb base (Str.ofString "is_int") 1 false false 3 F_is_int) : Known P w K mg Tb base (Str.ofString "is_step") 2 false false 2 F_is_step := by
  obtain ⟨f, fd, hm, hF⟩ := T.f_is_step
  exact def_ok (N := N_is_step) (ow := []) (m := m_is_step) hF hm sc_is_step rfl rfl (fun _ _ _ _ _ _ us hl => match us, hl with | [_, _], _ => rfl) (by decide) (fun cdv A outer s H av pa E hp xs =>
    (ss_cons (ss_if (st_bool (sw_or (st_not (st_val (se_fnB (cf_isi (xs.toXG)) rfl T.z_isinstance bt_isinstance (sos_cons (so_val (sv 1)) (sos_cons (so_val (se_ty rfl T.z_tuple bt_tuple)) sos_nil))))) (sw_or (st_not (st_chain (op_gLe) (op_gLe) (so_val se_int) (so_val (se_fnB (cf_len (xs.toXG)) rfl T.z_len bt_len (sos_cons (so_val (sv 1)) sos_nil))) (so_val se_int))) (sw_or1 (st_not (st_val (se_fnB (cf_isi (xs.toXG)) rfl T.z_isinstance bt_isinstance (sos_cons (so_val (se_ix (ix_g (xs.toXG)) (so_val (sv 1)) (so_val se_int))) (sos_cons (so_val (se_ty rfl T.z_str bt_str)) sos_nil))))))))) (ss_one (ss_ret rfl se_bl)) ss_nil)
    (ss_cons (ss_if (st_cmp (op_gIn (xs.toXG)) (so_val (se_ix (ix_g (xs.toXG)) (so_val (sv 1)) (so_val se_int))) (so_val (se_glob rfl T.g_WITH_WAY rfl))) (ss_one (ss_ret rfl (se_and (se_cmp (op_gEq (xs.toXG)) (so_val (se_fnB (cf_len (xs.toXG)) rfl T.z_len bt_len (sos_cons (so_val (sv 1)) sos_nil))) (so_val se_int)) (se_one (se_call (xs.toXG) h_is_int (by decide) rfl (sa_cons (se_ix (ix_g (xs.toXG)) (so_val (sv 1)) (so_val se_int)) (sa_cons se_int (sa_cons (se_bin (op_gSub (xs.toXG)) (so_val (sv 0)) (so_val se_int)) sa_nil))) rfl))))) ss_nil)
    (ss_one (ss_ret rfl (se_and (se_cmp (op_gIn (xs.toXG)) (so_val (se_ix (ix_g (xs.toXG)) (so_val (sv 1)) (so_val se_int))) (so_val (se_glob rfl T.g_ALONE rfl))) (se_one (se_cmp (op_gEq (xs.toXG)) (so_val (se_fnB (cf_len (xs.toXG)) rfl T.z_len bt_len (sos_cons (so_val (sv 1)) sos_nil))) (so_val se_int))))))))) (fun h => by cases h)

/-! def are_steps -/
def N_are_steps : List Str := [Str.ofString "ways", Str.ofString "value", Str.ofString "most", Str.ofString "step"]
theorem sc_are_steps : FnScope N_are_steps [Str.ofString "ways", Str.ofString "value", Str.ofString "most"] (defScope s_are_steps) := ⟨rfl, rfl, rfl, by decide +kernel, rfl, by decide +kernel, by decide +kernel⟩
def m_are_steps : MS := (mRet (mAndV (mFn fIsi (mConsO (mV (mVar 1)) (mConsO (mV (mLit (.ty "tuple"))) mNilO))) (mAndV (mOp2 gLe (mV (mFn fLen (mConsO (mV (mVar 1)) mNilO))) (mV (mVar 2))) (mFn fAll (mConsO (mV (mLc (mIter tupOf (mVar 1)) (mgName 3) mYes (mCall F_is_step (mConsA (mVar 0) (mConsA (mVar 3) mNilA))) [3])) mNilO)))))
def F_are_steps : Fn := bodyF false 4 m_are_steps
theorem k_are_steps (T : Txt K mg) (h_is_step : Known P w K mg Tb base (Str.ofString "is_step") 2 false false 2 F_is_step) : Known P w K mg Tb base (Str.ofString "are_steps") 3 false false 3 F_are_steps := by
  obtain ⟨f, fd, hm, hF⟩ := T.f_are_steps
  exact def_ok (N := N_are_steps) (ow := []) (m := m_are_steps) hF hm sc_are_steps rfl rfl (fun _ _ _ _ _ _ us hl => match us, hl with | [_, _, _], _ => rfl) (by decide) (fun cdv A outer s H av pa E hp xs =>
    (ss_one (ss_ret rfl (se_and (se_fnB (cf_isi (xs.toXG)) rfl T.z_isinstance bt_isinstance (sos_cons (so_val (sv 1)) (sos_cons (so_val (se_ty rfl T.z_tuple bt_tuple)) sos_nil))) (se_and (se_cmp (op_gLe) (so_val (se_fnB (cf_len (xs.toXG)) rfl T.z_len bt_len (sos_cons (so_val (sv 1)) sos_nil))) (so_val (sv 2))) (se_one (se_fnB (cf_all (xs.toXG)) rfl T.z_all bt_all (sos_cons (so_val (se_lc (own := [(Str.ofString "step", 3)]) (xs.toXG) rfl (si_tup rfl (sv 1)) (blkOk_by (N := N_are_steps) (sc := defScope s_are_steps) (by decide +kernel)) (fun s1 H1 C1 cl1 fp1 L1 => (sg_name ((xs.toXG).blk s1 H1 _ _ fp1 L1).nd rfl rfl (by first | exact Or.inl rfl | exact Or.inr rfl))) (fun s1 H1 C1 cl1 fp1 L1 => sts_nil) (fun s1 H1 C1 cl1 fp1 L1 => (se_call ((xs.toXG).blk s1 H1 _ _ fp1 L1) h_is_step (by decide) rfl (sa_cons (sv 0) (sa_cons (sv 3) sa_nil)) rfl)))) sos_nil)))))))) (fun h => by cases h)

/-! def need_ways -/
def N_need_ways : List Str := [Str.ofString "ways"]
theorem sc_need_ways : FnScope N_need_ways [Str.ofString "ways"] (defScope s_need_ways) := ⟨rfl, rfl, rfl, by decide +kernel, rfl, by decide +kernel, by decide +kernel⟩
def m_need_ways : MS := (mIfS (mNotT (mTst (mCall F_is_int (mConsA (mVar 0) (mConsA (mLit (.int 2)) (mConsA (mLit (.int 3)) mNilA)))))) (mRaise ⟨Str.ofString "InvalidWays", none⟩) mNx)
def F_need_ways : Fn := bodyF false 1 m_need_ways
theorem k_need_ways (T : Txt K mg) (h_is_int : Known P w K mg Tb base (Str.ofString "is_int") 1 false false 3 F_is_int) : Known P w K mg Tb base (Str.ofString "need_ways") 2 false false 1 F_need_ways := by
  obtain ⟨f, fd, hm, hF⟩ := T.f_need_ways
  exact def_ok (N := N_need_ways) (ow := []) (m := m_need_ways) hF hm sc_need_ways rfl rfl (fun _ _ _ _ _ _ us hl => match us, hl with | [_], _ => rfl) (by decide) (fun cdv A outer s H av pa E hp xs =>
    (ss_one (ss_if (st_not (st_val (se_call (xs.toXG) h_is_int (by decide) rfl (sa_cons (sv 0) (sa_cons se_int (sa_cons se_int sa_nil))) rfl))) (ss_one (ss_raise xs T.e_InvalidWays rfl)) ss_nil))) (fun h => by cases h)

/-! def need_script -/
def N_need_script : List Str := [Str.ofString "ways", Str.ofString "script"]
theorem sc_need_script : FnScope N_need_script [Str.ofString "ways", Str.ofString "script"] (defScope s_need_script) := ⟨rfl, rfl, rfl, by decide +kernel, rfl, by decide +kernel, by decide +kernel⟩
def m_need_script : MS := (mIfS (mNotT (mTst (mCall F_are_steps (mConsA (mVar 0) (mConsA (mVar 1) (mConsA (mLit (.int 5)) mNilA)))))) (mRaise ⟨Str.ofString "InvalidScript", none⟩) mNx)
def F_need_script : Fn := bodyF false 2 m_need_script
theorem k_need_script (T : Txt K mg) (h_are_steps : Known P w K mg Tb base (Str.ofString "are_steps") 3 false false 3 F_are_steps) : Known P w K mg Tb base (Str.ofString "need_script") 4 false false 2 F_need_script := by
  obtain ⟨f, fd, hm, hF⟩ := T.f_need_script
  exact def_ok (N := N_need_script) (ow := []) (m := m_need_script) hF hm sc_need_script rfl rfl (fun _ _ _ _ _ _ us hl => match us, hl with | [_, _], _ => rfl) (by decide) (fun cdv A outer s H av pa E hp xs =>
    (ss_one (ss_if (st_not (st_val (se_call (xs.toXG) h_are_steps (by decide) rfl (sa_cons (sv 0) (sa_cons (sv 1) (sa_cons (se_glob rfl T.g_MOST_STEPS rfl) sa_nil))) rfl))) (ss_one (ss_raise xs T.e_InvalidScript rfl)) ss_nil))) (fun h => by cases h)

/-! def step_to -/
def N_step_to : List Str := [Str.ofString "tree", Str.ofString "step", Str.ofString "place", Str.ofString "ways", Str.ofString "depth", Str.ofString "level", Str.ofString "number", Str.ofString "word", Str.ofString "size", Str.ofString "wide"]
theorem sc_step_to : FnScope N_step_to [Str.ofString "tree", Str.ofString "step", Str.ofString "place"] (defScope s_step_to) := ⟨rfl, rfl, rfl, by decide +kernel, rfl, by decide +kernel, by decide +kernel⟩
def m_step_to : MS := (mSeq (mAsg (mVar 0) (mgTup (mgCons (mgName 3) (mgCons (mgName 4) mgNil))))
    (mSeq (mAsg (mVar 2) (mgTup (mgCons (mgName 5) (mgCons (mgName 6) mgNil))))
    (mSeq (mPar [7, 8] (mConsA (mOp2 gIdx (mV (mVar 1)) (mV (mLit (.int 0)))) (mConsA (mCall F_power (mConsA (mVar 3) (mConsA (mVar 5) mNilA))) mNilA)))
    (mSeq (mIfS (mTst (mOp2 gEq (mV (mVar 7)) (mV (mLit (.str (Str.ofString "up")))))) (mRet (mIf (mTst (mOp2 gGt (mV (mVar 5)) (mV (mLit (.int 0))))) (mTup (mConsA (mOp2 gSub (mV (mVar 5)) (mV (mLit (.int 1)))) (mConsA (mOp2 gDiv (mV (mVar 6)) (mV (mVar 3))) mNilA))) (mLit .non))) mNx)
    (mSeq (mIfS (mTst (mOp2 gEq (mV (mVar 7)) (mV (mLit (.str (Str.ofString "down")))))) (mRet (mIf (mTst (mOp2 gLt (mV (mVar 5)) (mV (mVar 4)))) (mTup (mConsA (mOp2 gAdd (mV (mVar 5)) (mV (mLit (.int 1)))) (mConsA (mOp2 gAdd (mV (mOp2 gMul (mV (mVar 6)) (mV (mVar 3)))) (mV (mOp2 gIdx (mV (mVar 1)) (mV (mLit (.int 1)))))) mNilA))) (mLit .non))) mNx)
    (mSeq (mIfS (mTst (mOp2 gEq (mV (mVar 7)) (mV (mLit (.str (Str.ofString "leaf")))))) (mSeq (mSet 9 (mCall F_power (mConsA (mVar 3) (mConsA (mOp2 gSub (mV (mVar 4)) (mV (mVar 5))) mNilA))))
    (mRet (mTup (mConsA (mVar 4) (mConsA (mOp2 gAdd (mV (mOp2 gMul (mV (mVar 6)) (mV (mVar 9)))) (mV (mOp2 gMul (mV (mOp2 gIdx (mV (mVar 1)) (mV (mLit (.int 1))))) (mV (mOp2 gDiv (mV (mOp2 gSub (mV (mVar 9)) (mV (mLit (.int 1))))) (mV (mOp2 gSub (mV (mVar 3)) (mV (mLit (.int 1)))))))))) mNilA))))) mNx)
    (mSeq (mIfS (mTst (mOp2 gEq (mV (mVar 7)) (mV (mLit (.str (Str.ofString "next")))))) (mRet (mTup (mConsA (mVar 5) (mConsA (mOp2 gMod (mV (mOp2 gAdd (mV (mVar 6)) (mV (mLit (.int 1))))) (mV (mVar 8))) mNilA)))) mNx)
    (mSeq (mIfS (mTst (mOp2 gEq (mV (mVar 7)) (mV (mLit (.str (Str.ofString "last")))))) (mRet (mTup (mConsA (mVar 5) (mConsA (mOp2 gMod (mV (mOp2 gSub (mV (mVar 6)) (mV (mLit (.int 1))))) (mV (mVar 8))) mNilA)))) mNx)
    (mRet (mIf (mTst (mOp2 gEq (mV (mVar 7)) (mV (mLit (.str (Str.ofString "mirror")))))) (mTup (mConsA (mVar 5) (mConsA (mOp2 gSub (mV (mOp2 gSub (mV (mVar 8)) (mV (mLit (.int 1))))) (mV (mVar 6))) mNilA))) (mTup (mConsA (mLit (.int 0)) (mConsA (mLit (.int 0)) mNilA)))))))))))))
def F_step_to : Fn := bodyF false 10 m_step_to
theorem k_step_to (T : Txt K mg) (h_power : Known P w K mg Tb base (Str.ofString "power") 1 false false 2 F_power) : Known P w K mg Tb base (Str.ofString "step_to") 2 false false 3 F_step_to := by
  obtain ⟨f, fd, hm, hF⟩ := T.f_step_to
  exact def_ok (N := N_step_to) (ow := []) (m := m_step_to) hF hm sc_step_to rfl rfl (fun _ _ _ _ _ _ us hl => match us, hl with | [_, _, _], _ => rfl) (by decide) (fun cdv A outer s H av pa E hp xs =>
    (ss_cons (ss_asg (sv 0) (sg_tup rfl rfl (sgs_cons (sg_name (xs.toXG).nd rfl rfl (by first | exact Or.inl rfl | exact Or.inr rfl)) (sgs_cons (sg_name (xs.toXG).nd rfl rfl (by first | exact Or.inl rfl | exact Or.inr rfl)) sgs_nil)) (mgCons_len (mgCons_len (fun _ _ _ h => mgNil_len h)))))
    (ss_cons (ss_asg (sv 2) (sg_tup rfl rfl (sgs_cons (sg_name (xs.toXG).nd rfl rfl (by first | exact Or.inl rfl | exact Or.inr rfl)) (sgs_cons (sg_name (xs.toXG).nd rfl rfl (by first | exact Or.inl rfl | exact Or.inr rfl)) sgs_nil)) (mgCons_len (mgCons_len (fun _ _ _ h => mgNil_len h)))))
    (ss_cons (ss_par (xs.toXG) rfl rfl rfl rfl (by decide) rfl rfl (sa_cons (se_ix (ix_g (xs.toXG)) (so_val (sv 1)) (so_val se_int)) (sa_cons (se_call (xs.toXG) h_power (by decide) rfl (sa_cons (sv 3) (sa_cons (sv 5) sa_nil)) rfl) sa_nil)) (by rfl))
    (ss_cons (ss_if (st_cmp (op_gEq (xs.toXG)) (so_val (sv 7)) (so_val se_str)) (ss_one (ss_ret rfl (se_if (st_cmp (op_gGt) (so_val (sv 5)) (so_val se_int)) (se_tup (sa_cons (se_bin (op_gSub (xs.toXG)) (so_val (sv 5)) (so_val se_int)) (sa_cons (se_bin (op_gDiv (xs.toXG)) (so_val (sv 6)) (so_val (sv 3))) sa_nil))) se_non))) ss_nil)
    (ss_cons (ss_if (st_cmp (op_gEq (xs.toXG)) (so_val (sv 7)) (so_val se_str)) (ss_one (ss_ret rfl (se_if (st_cmp (op_gLt) (so_val (sv 5)) (so_val (sv 4))) (se_tup (sa_cons (se_bin (op_gAdd (xs.toXG)) (so_val (sv 5)) (so_val se_int)) (sa_cons (se_bin (op_gAdd (xs.toXG)) (so_val (se_bin (op_gMul (xs.toXG)) (so_val (sv 6)) (so_val (sv 3)))) (so_val (se_ix (ix_g (xs.toXG)) (so_val (sv 1)) (so_val se_int)))) sa_nil))) se_non))) ss_nil)
    (ss_cons (ss_if (st_cmp (op_gEq (xs.toXG)) (so_val (sv 7)) (so_val se_str)) (ss_cons (ss_set (i := 9) xs.nd rfl rfl (by first | exact Or.inl rfl | exact Or.inr rfl) (se_call (xs.toXG) h_power (by decide) rfl (sa_cons (sv 3) (sa_cons (se_bin (op_gSub (xs.toXG)) (so_val (sv 4)) (so_val (sv 5))) sa_nil)) rfl))
    (ss_one (ss_ret rfl (se_tup (sa_cons (sv 4) (sa_cons (se_bin (op_gAdd (xs.toXG)) (so_val (se_bin (op_gMul (xs.toXG)) (so_val (sv 6)) (so_val (sv 9)))) (so_val (se_bin (op_gMul (xs.toXG)) (so_val (se_ix (ix_g (xs.toXG)) (so_val (sv 1)) (so_val se_int))) (so_val (se_bin (op_gDiv (xs.toXG)) (so_val (se_bin (op_gSub (xs.toXG)) (so_val (sv 9)) (so_val se_int))) (so_val (se_bin (op_gSub (xs.toXG)) (so_val (sv 3)) (so_val se_int)))))))) sa_nil)))))) ss_nil)
    (ss_cons (ss_if (st_cmp (op_gEq (xs.toXG)) (so_val (sv 7)) (so_val se_str)) (ss_one (ss_ret rfl (se_tup (sa_cons (sv 5) (sa_cons (se_bin (op_gMod (xs.toXG)) (so_val (se_bin (op_gAdd (xs.toXG)) (so_val (sv 6)) (so_val se_int))) (so_val (sv 8))) sa_nil))))) ss_nil)
    (ss_cons (ss_if (st_cmp (op_gEq (xs.toXG)) (so_val (sv 7)) (so_val se_str)) (ss_one (ss_ret rfl (se_tup (sa_cons (sv 5) (sa_cons (se_bin (op_gMod (xs.toXG)) (so_val (se_bin (op_gSub (xs.toXG)) (so_val (sv 6)) (so_val se_int))) (so_val (sv 8))) sa_nil))))) ss_nil)
    (ss_one (ss_ret rfl (se_if (st_cmp (op_gEq (xs.toXG)) (so_val (sv 7)) (so_val se_str)) (se_tup (sa_cons (sv 5) (sa_cons (se_bin (op_gSub (xs.toXG)) (so_val (se_bin (op_gSub (xs.toXG)) (so_val (sv 8)) (so_val se_int))) (so_val (sv 6))) sa_nil))) (se_tup (sa_cons se_int (sa_cons se_int sa_nil))))))))))))))) (fun h => by cases h)

/-! def walked -/
def N_walked : List Str := [Str.ofString "tree", Str.ofString "steps", Str.ofString "place", Str.ofString "step"]
theorem sc_walked : FnScope N_walked [Str.ofString "tree", Str.ofString "steps", Str.ofString "place"] (defScope s_walked) := ⟨rfl, rfl, rfl, by decide +kernel, rfl, by decide +kernel, by decide +kernel⟩
def m_walked_b1 : MS := (mIfS (mTst (mOp2 gIsNot (mV (mVar 2)) (mV (mLit .non)))) (mSet 2 (mCall F_step_to (mConsA (mVar 0) (mConsA (mVar 3) (mConsA (mVar 2) mNilA))))) mNx)
def m_walked : MS := (mSeq (mFor (mIter tupOf (mVar 1)) (mgName 3) m_walked_b1)
    (mRet (mVar 2)))
def F_walked : Fn := bodyF false 4 m_walked
theorem k_walked (T : Txt K mg) (h_step_to : Known P w K mg Tb base (Str.ofString "step_to") 2 false false 3 F_step_to) : Known P w K mg Tb base (Str.ofString "walked") 3 false false 3 F_walked := by
  obtain ⟨f, fd, hm, hF⟩ := T.f_walked
  exact def_ok (N := N_walked) (ow := []) (m := m_walked) hF hm sc_walked rfl rfl (fun _ _ _ _ _ _ us hl => match us, hl with | [_, _, _], _ => rfl) (by decide) (fun cdv A outer s H av pa E hp xs =>
    (ss_cons (ss_for xs (si_tup rfl (sv 1)) (sg_name (xs.toXG).nd rfl rfl (by first | exact Or.inl rfl | exact Or.inr rfl)) (ss_one (ss_if (st_cmp (op_gIsNot) (so_val (sv 2)) (so_val se_non)) (ss_one (ss_set (i := 2) xs.nd rfl rfl (by first | exact Or.inl rfl | exact Or.inr rfl) (se_call (xs.toXG) h_step_to (by decide) rfl (sa_cons (sv 0) (sa_cons (sv 3) (sa_cons (sv 2) sa_nil))) rfl))) ss_nil)))
    (ss_one (ss_ret rfl (sv 2))))) (fun h => by cases h)

/-! def level_behind -/
def N_level_behind : List Str := [Str.ofString "tree", Str.ofString "steps", Str.ofString "level", Str.ofString "place"]
theorem sc_level_behind : FnScope N_level_behind [Str.ofString "tree", Str.ofString "steps", Str.ofString "level"] (defScope s_level_behind) := ⟨rfl, rfl, rfl, by decide +kernel, rfl, by decide +kernel, by decide +kernel⟩
def m_level_behind : MS := (mSeq (mSet 3 (mCall F_walked (mConsA (mVar 0) (mConsA (mVar 1) (mConsA (mTup (mConsA (mVar 2) (mConsA (mLit (.int 0)) mNilA))) mNilA)))))
    (mRet (mIf (mTst (mOp2 gIs (mV (mVar 3)) (mV (mLit .non)))) (mLit .non) (mOp2 gIdx (mV (mVar 3)) (mV (mLit (.int 0)))))))
def F_level_behind : Fn := bodyF false 4 m_level_behind
theorem k_level_behind (T : Txt K mg) (h_walked : Known P w K mg Tb base (Str.ofString "walked") 3 false false 3 F_walked) : Known P w K mg Tb base (Str.ofString "level_behind") 4 false false 3 F_level_behind := by
  obtain ⟨f, fd, hm, hF⟩ := T.f_level_behind
  exact def_ok (N := N_level_behind) (ow := []) (m := m_level_behind) hF hm sc_level_behind rfl rfl (fun _ _ _ _ _ _ us hl => match us, hl with | [_, _, _], _ => rfl) (by decide) (fun cdv A outer s H av pa E hp xs =>
    (ss_cons (ss_set (i := 3) xs.nd rfl rfl (by first | exact Or.inl rfl | exact Or.inr rfl) (se_call (xs.toXG) h_walked (by decide) rfl (sa_cons (sv 0) (sa_cons (sv 1) (sa_cons (se_tup (sa_cons (sv 2) (sa_cons se_int sa_nil))) sa_nil))) rfl))
    (ss_one (ss_ret rfl (se_if (st_cmp (op_gIs) (so_val (sv 3)) (so_val se_non)) se_non (se_ix (ix_g (xs.toXG)) (so_val (sv 3)) (so_val se_int))))))) (fun h => by cases h)

/-! def tail_length -/
def N_tail_length : List Str := [Str.ofString "script", Str.ofString "level", Str.ofString "step"]
theorem sc_tail_length : FnScope N_tail_length [Str.ofString "script", Str.ofString "level"] (defScope s_tail_length) := ⟨rfl, rfl, rfl, by decide +kernel, rfl, by decide +kernel, by decide +kernel⟩
def m_tail_length : MS := (mRet (mFn fMin (mConsO (mV (mFn fLen (mConsO (mV (mLc (mIter tupOf (mVar 0)) (mgName 2) (mTst (mOp2 gEq (mV (mOp2 gIdx (mV (mVar 2)) (mV (mLit (.int 0))))) (mV (mLit (.str (Str.ofString "up")))))) (mVar 2) [2])) mNilO))) (mConsO (mV (mVar 1)) mNilO))))
def F_tail_length : Fn := bodyF false 3 m_tail_length
theorem k_tail_length (T : Txt K mg)  : Known P w K mg Tb base (Str.ofString "tail_length") 1 false false 2 F_tail_length := by
  obtain ⟨f, fd, hm, hF⟩ := T.f_tail_length
  exact def_ok (N := N_tail_length) (ow := []) (m := m_tail_length) hF hm sc_tail_length rfl rfl (fun _ _ _ _ _ _ us hl => match us, hl with | [_, _], _ => rfl) (by decide) (fun cdv A outer s H av pa E hp xs =>
    (ss_one (ss_ret rfl (se_fnB (cf_min (xs.toXG)) rfl T.z_min bt_min (sos_cons (so_val (se_fnB (cf_len (xs.toXG)) rfl T.z_len bt_len (sos_cons (so_val (se_lc (own := [(Str.ofString "step", 2)]) (xs.toXG) rfl (si_tup rfl (sv 0)) (blkOk_by (N := N_tail_length) (sc := defScope s_tail_length) (by decide +kernel)) (fun s1 H1 C1 cl1 fp1 L1 => (sg_name ((xs.toXG).blk s1 H1 _ _ fp1 L1).nd rfl rfl (by first | exact Or.inl rfl | exact Or.inr rfl))) (fun s1 H1 C1 cl1 fp1 L1 => (sts_one (st_cmp (op_gEq ((xs.toXG).blk s1 H1 _ _ fp1 L1)) (so_val (se_ix (ix_g ((xs.toXG).blk s1 H1 _ _ fp1 L1)) (so_val (sv 2)) (so_val se_int))) (so_val se_str)))) (fun s1 H1 C1 cl1 fp1 L1 => (sv 2)))) sos_nil))) (sos_cons (so_val (sv 1)) sos_nil)))))) (fun h => by cases h)

/-! def all_levels -/
def N_all_levels : List Str := [Str.ofString "most", Str.ofString "found", Str.ofString "depth", Str.ofString "level"]
theorem sc_all_levels : FnScope N_all_levels [Str.ofString "most"] (defScope s_all_levels) := ⟨rfl, rfl, rfl, by decide +kernel, rfl, by decide +kernel, by decide +kernel⟩
def m_all_levels_b1 : MS := (mSet 1 (mOp2 gAdd (mV (mVar 1)) (mV (mLc (mRng1 (mConsA (mOp2 gAdd (mV (mVar 2)) (mV (mLit (.int 1)))) mNilA)) (mgName 3) (mAndT (mTst (mOp2 gLe (mV (mVar 3)) (mV (mVar 0)))) (mTst (mOp2 gLe (mV (mOp2 gSub (mV (mVar 2)) (mV (mVar 3)))) (mV (mVar 0))))) (mTup (mConsA (mVar 2) (mConsA (mVar 3) mNilA))) [3]))))
def m_all_levels : MS := (mSeq (mSet 1 (mLst mNilA))
    (mSeq (mFor (mRng1 (mConsA (mOp2 gAdd (mV (mOp2 gMul (mV (mLit (.int 2))) (mV (mVar 0)))) (mV (mLit (.int 1)))) mNilA)) (mgName 2) m_all_levels_b1)
    (mRet (mVar 1))))
def F_all_levels : Fn := bodyF false 4 m_all_levels
theorem k_all_levels (T : Txt K mg)  : Known P w K mg Tb base (Str.ofString "all_levels") 1 false false 1 F_all_levels := by
  obtain ⟨f, fd, hm, hF⟩ := T.f_all_levels
  exact def_ok (N := N_all_levels) (ow := []) (m := m_all_levels) hF hm sc_all_levels rfl rfl (fun _ _ _ _ _ _ us hl => match us, hl with | [_], _ => rfl) (by decide) (fun cdv A outer s H av pa E hp xs =>
    (ss_cons (ss_set (i := 1) xs.nd rfl rfl (by first | exact Or.inl rfl | exact Or.inr rfl) (se_lst sa_nil))
    (ss_cons (ss_for xs (si_rng1 rfl T.z_range (sa_cons (se_bin (op_gAdd (xs.toXG)) (so_val (se_bin (op_gMul (xs.toXG)) (so_val se_int) (so_val (sv 0)))) (so_val se_int)) sa_nil)) (sg_name (xs.toXG).nd rfl rfl (by first | exact Or.inl rfl | exact Or.inr rfl)) (ss_one (ss_set (i := 1) xs.nd rfl rfl (by first | exact Or.inl rfl | exact Or.inr rfl) (se_bin (op_gAdd (xs.toXG)) (so_val (sv 1)) (so_val (se_lc (own := [(Str.ofString "level", 3)]) (xs.toXG) rfl (si_rng1 rfl T.z_range (sa_cons (se_bin (op_gAdd (xs.toXG)) (so_val (sv 2)) (so_val se_int)) sa_nil)) (blkOk_by (N := N_all_levels) (sc := defScope s_all_levels) (by decide +kernel)) (fun s1 H1 C1 cl1 fp1 L1 => (sg_name ((xs.toXG).blk s1 H1 _ _ fp1 L1).nd rfl rfl (by first | exact Or.inl rfl | exact Or.inr rfl))) (fun s1 H1 C1 cl1 fp1 L1 => (sts_one (st_bool (sw_and (st_cmp (op_gLe) (so_val (sv 3)) (so_val (sv 0))) (sw_and1 (st_cmp (op_gLe) (so_val (se_bin (op_gSub ((xs.toXG).blk s1 H1 _ _ fp1 L1)) (so_val (sv 2)) (so_val (sv 3)))) (so_val (sv 0)))))))) (fun s1 H1 C1 cl1 fp1 L1 => (se_tup (sa_cons (sv 2) (sa_cons (sv 3) sa_nil))))))))))
    (ss_one (ss_ret rfl (sv 1)))))) (fun h => by cases h)

/-! def unlike_number -/
def N_unlike_number : List Str := [Str.ofString "tree", Str.ofString "level", Str.ofString "one", Str.ofString "other", Str.ofString "here", Str.ofString "there", Str.ofString "size", Str.ofString "number"]
theorem sc_unlike_number : FnScope N_unlike_number [Str.ofString "tree", Str.ofString "level", Str.ofString "one", Str.ofString "other"] (defScope s_unlike_number) := ⟨rfl, rfl, rfl, by decide +kernel, rfl, by decide +kernel, by decide +kernel⟩
def m_unlike_number_b1 : MS := (mIfS (mTst (mOp2 gNe (mV (mCall F_walked (mConsA (mVar 0) (mConsA (mVar 2) (mConsA (mTup (mConsA (mVar 1) (mConsA (mVar 7) mNilA))) mNilA))))) (mV (mCall F_walked (mConsA (mVar 0) (mConsA (mVar 3) (mConsA (mTup (mConsA (mVar 1) (mConsA (mVar 7) mNilA))) mNilA))))))) (mRet (mVar 7)) mNx)
def m_unlike_number : MS := (mSeq (mPar [4, 5] (mConsA (mCall F_walked (mConsA (mVar 0) (mConsA (mVar 2) (mConsA (mTup (mConsA (mVar 1) (mConsA (mLit (.int 0)) mNilA))) mNilA)))) (mConsA (mCall F_walked (mConsA (mVar 0) (mConsA (mVar 3) (mConsA (mTup (mConsA (mVar 1) (mConsA (mLit (.int 0)) mNilA))) mNilA)))) mNilA)))
    (mSeq (mIfS (mOrT (mTst (mOp2 gIs (mV (mVar 4)) (mV (mLit .non)))) (mTst (mOp2 gIs (mV (mVar 5)) (mV (mLit .non))))) (mRet (mIf (mTst (mOp2 gNe (mV (mVar 4)) (mV (mVar 5)))) (mLit (.int 0)) (mLit .non))) mNx)
    (mSeq (mIfS (mTst (mOp2 gNe (mV (mOp2 gIdx (mV (mVar 4)) (mV (mLit (.int 0))))) (mV (mOp2 gIdx (mV (mVar 5)) (mV (mLit (.int 0))))))) (mRet (mLit (.int 0))) mNx)
    (mSeq (mSet 6 (mCall F_power (mConsA (mOp2 gIdx (mV (mVar 0)) (mV (mLit (.int 0)))) (mConsA (mFn fMax (mConsO (mV (mCall F_tail_length (mConsA (mVar 2) (mConsA (mVar 1) mNilA)))) (mConsO (mV (mCall F_tail_length (mConsA (mVar 3) (mConsA (mVar 1) mNilA)))) mNilO))) mNilA))))
    (mSeq (mFor (mRng1 (mConsA (mFn fMin (mConsO (mV (mOp2 gAdd (mV (mVar 6)) (mV (mLit (.int 1))))) (mConsO (mV (mCall F_power (mConsA (mOp2 gIdx (mV (mVar 0)) (mV (mLit (.int 0)))) (mConsA (mVar 1) mNilA)))) mNilO))) mNilA)) (mgName 7) m_unlike_number_b1)
    (mRet (mLit .non)))))))
def F_unlike_number : Fn := bodyF false 8 m_unlike_number
theorem k_unlike_number (T : Txt K mg) (h_power : Known P w K mg Tb base (Str.ofString "power") 1 false false 2 F_power) (h_tail_length : Known P w K mg Tb base (Str.ofString "tail_length") 1 false false 2 F_tail_length) (h_walked : Known P w K mg Tb base (Str.ofString "walked") 3 false false 3 F_walked) : Known P w K mg Tb base (Str.ofString "unlike_number") 4 false false 4 F_unlike_number := by
  obtain ⟨f, fd, hm, hF⟩ := T.f_unlike_number
  exact def_ok (N := N_unlike_number) (ow := []) (m := m_unlike_number) hF hm sc_unlike_number rfl rfl (fun _ _ _ _ _ _ us hl => match us, hl with | [_, _, _, _], _ => rfl) (by decide) (fun cdv A outer s H av pa E hp xs =>
    (ss_cons (ss_par (xs.toXG) rfl rfl rfl rfl (by decide) rfl rfl (sa_cons (se_call (xs.toXG) h_walked (by decide) rfl (sa_cons (sv 0) (sa_cons (sv 2) (sa_cons (se_tup (sa_cons (sv 1) (sa_cons se_int sa_nil))) sa_nil))) rfl) (sa_cons (se_call (xs.toXG) h_walked (by decide) rfl (sa_cons (sv 0) (sa_cons (sv 3) (sa_cons (se_tup (sa_cons (sv 1) (sa_cons se_int sa_nil))) sa_nil))) rfl) sa_nil)) (by rfl))
    (ss_cons (ss_if (st_bool (sw_or (st_cmp (op_gIs) (so_val (sv 4)) (so_val se_non)) (sw_or1 (st_cmp (op_gIs) (so_val (sv 5)) (so_val se_non))))) (ss_one (ss_ret rfl (se_if (st_cmp (op_gNe (xs.toXG)) (so_val (sv 4)) (so_val (sv 5))) se_int se_non))) ss_nil)
    (ss_cons (ss_if (st_cmp (op_gNe (xs.toXG)) (so_val (se_ix (ix_g (xs.toXG)) (so_val (sv 4)) (so_val se_int))) (so_val (se_ix (ix_g (xs.toXG)) (so_val (sv 5)) (so_val se_int)))) (ss_one (ss_ret rfl se_int)) ss_nil)
    (ss_cons (ss_set (i := 6) xs.nd rfl rfl (by first | exact Or.inl rfl | exact Or.inr rfl) (se_call (xs.toXG) h_power (by decide) rfl (sa_cons (se_ix (ix_g (xs.toXG)) (so_val (sv 0)) (so_val se_int)) (sa_cons (se_fnB (cf_max (xs.toXG)) rfl T.z_max bt_max (sos_cons (so_val (se_call (xs.toXG) h_tail_length (by decide) rfl (sa_cons (sv 2) (sa_cons (sv 1) sa_nil)) rfl)) (sos_cons (so_val (se_call (xs.toXG) h_tail_length (by decide) rfl (sa_cons (sv 3) (sa_cons (sv 1) sa_nil)) rfl)) sos_nil))) sa_nil)) rfl))
    (ss_cons (ss_for xs (si_rng1 rfl T.z_range (sa_cons (se_fnB (cf_min (xs.toXG)) rfl T.z_min bt_min (sos_cons (so_val (se_bin (op_gAdd (xs.toXG)) (so_val (sv 6)) (so_val se_int))) (sos_cons (so_val (se_call (xs.toXG) h_power (by decide) rfl (sa_cons (se_ix (ix_g (xs.toXG)) (so_val (sv 0)) (so_val se_int)) (sa_cons (sv 1) sa_nil)) rfl)) sos_nil))) sa_nil)) (sg_name (xs.toXG).nd rfl rfl (by first | exact Or.inl rfl | exact Or.inr rfl)) (ss_one (ss_if (st_cmp (op_gNe (xs.toXG)) (so_val (se_call (xs.toXG) h_walked (by decide) rfl (sa_cons (sv 0) (sa_cons (sv 2) (sa_cons (se_tup (sa_cons (sv 1) (sa_cons (sv 7) sa_nil))) sa_nil))) rfl)) (so_val (se_call (xs.toXG) h_walked (by decide) rfl (sa_cons (sv 0) (sa_cons (sv 3) (sa_cons (se_tup (sa_cons (sv 1) (sa_cons (sv 7) sa_nil))) sa_nil))) rfl))) (ss_one (ss_ret rfl (sv 7))) ss_nil)))
    (ss_one (ss_ret rfl se_non)))))))) (fun h => by cases h)

/-! def need_both -/
def N_need_both : List Str := [Str.ofString "ways", Str.ofString "one", Str.ofString "other"]
theorem sc_need_both : FnScope N_need_both [Str.ofString "ways", Str.ofString "one", Str.ofString "other"] (defScope s_need_both) := ⟨rfl, rfl, rfl, by decide +kernel, rfl, by decide +kernel, by decide +kernel⟩
def m_need_both : MS := (mSeq (mDrop (mCall F_need_ways (mConsA (mVar 0) mNilA)))
    (mSeq (mDrop (mCall F_need_script (mConsA (mVar 0) (mConsA (mVar 1) mNilA))))
    (mDrop (mCall F_need_script (mConsA (mVar 0) (mConsA (mVar 2) mNilA))))))
def F_need_both : Fn := bodyF false 3 m_need_both
theorem k_need_both (T : Txt K mg) (h_need_script : Known P w K mg Tb base (Str.ofString "need_script") 4 false false 2 F_need_script) (h_need_ways : Known P w K mg Tb base (Str.ofString "need_ways") 2 false false 1 F_need_ways) : Known P w K mg Tb base (Str.ofString "need_both") 5 false false 3 F_need_both := by
  obtain ⟨f, fd, hm, hF⟩ := T.f_need_both
  exact def_ok (N := N_need_both) (ow := []) (m := m_need_both) hF hm sc_need_both rfl rfl (fun _ _ _ _ _ _ us hl => match us, hl with | [_, _, _], _ => rfl) (by decide) (fun cdv A outer s H av pa E hp xs =>
    (ss_cons (ss_expr (se_call (xs.toXG) h_need_ways (by decide) rfl (sa_cons (sv 0) sa_nil) rfl))
    (ss_cons (ss_expr (se_call (xs.toXG) h_need_script (by decide) rfl (sa_cons (sv 0) (sa_cons (sv 1) sa_nil)) rfl))
    (ss_one (ss_expr (se_call (xs.toXG) h_need_script (by decide) rfl (sa_cons (sv 0) (sa_cons (sv 2) sa_nil)) rfl)))))) (fun h => by cases h)

/-! def does_undo -/
def N_does_undo : List Str := [Str.ofString "ways", Str.ofString "one", Str.ofString "other", Str.ofString "depth", Str.ofString "level"]
theorem sc_does_undo : FnScope N_does_undo [Str.ofString "ways", Str.ofString "one", Str.ofString "other"] (defScope s_does_undo) := ⟨rfl, rfl, rfl, by decide +kernel, rfl, by decide +kernel, by decide +kernel⟩
def m_does_undo_b1 : MS := (mIfS (mTst (mOp2 gIsNot (mV (mCall F_level_behind (mConsA (mTup (mConsA (mVar 0) (mConsA (mVar 3) mNilA))) (mConsA (mVar 2) (mConsA (mVar 4) mNilA))))) (mV (mLit .non)))) (mIfS (mTst (mOp2 gIsNot (mV (mCall F_unlike_number (mConsA (mTup (mConsA (mVar 0) (mConsA (mVar 3) mNilA))) (mConsA (mVar 4) (mConsA (mOp2 gAdd (mV (mVar 2)) (mV (mVar 1))) (mConsA (mTup mNilA) mNilA)))))) (mV (mLit .non)))) (mRet (mLit (.bl false))) mNx) mNx)
def m_does_undo : MS := (mSeq (mFor (mIter seqOf (mCall F_all_levels (mConsA (mLit (.int 8)) mNilA))) (mgTup (mgCons (mgName 3) (mgCons (mgName 4) mgNil))) m_does_undo_b1)
    (mRet (mLit (.bl true))))
def F_does_undo : Fn := bodyF false 5 m_does_undo
theorem k_does_undo (T : Txt K mg) (h_all_levels : Known P w K mg Tb base (Str.ofString "all_levels") 1 false false 1 F_all_levels) (h_level_behind : Known P w K mg Tb base (Str.ofString "level_behind") 4 false false 3 F_level_behind) (h_unlike_number : Known P w K mg Tb base (Str.ofString "unlike_number") 4 false false 4 F_unlike_number) : Known P w K mg Tb base (Str.ofString "does_undo") 5 false false 3 F_does_undo := by
  obtain ⟨f, fd, hm, hF⟩ := T.f_does_undo
  exact def_ok (N := N_does_undo) (ow := []) (m := m_does_undo) hF hm sc_does_undo rfl rfl (fun _ _ _ _ _ _ us hl => match us, hl with | [_, _, _], _ => rfl) (by decide) (fun cdv A outer s H av pa E hp xs =>
    (ss_cons (ss_for xs (si_list rfl (se_call (xs.toXG) h_all_levels (by decide) rfl (sa_cons (se_glob rfl T.g_ENOUGH rfl) sa_nil) rfl)) (sg_tup rfl rfl (sgs_cons (sg_name (xs.toXG).nd rfl rfl (by first | exact Or.inl rfl | exact Or.inr rfl)) (sgs_cons (sg_name (xs.toXG).nd rfl rfl (by first | exact Or.inl rfl | exact Or.inr rfl)) sgs_nil)) (mgCons_len (mgCons_len (fun _ _ _ h => mgNil_len h)))) (ss_one (ss_if (st_cmp (op_gIsNot) (so_val (se_call (xs.toXG) h_level_behind (by decide) rfl (sa_cons (se_tup (sa_cons (sv 0) (sa_cons (sv 3) sa_nil))) (sa_cons (sv 2) (sa_cons (sv 4) sa_nil))) rfl)) (so_val se_non)) (ss_one (ss_if (st_cmp (op_gIsNot) (so_val (se_call (xs.toXG) h_unlike_number (by decide) rfl (sa_cons (se_tup (sa_cons (sv 0) (sa_cons (sv 3) sa_nil))) (sa_cons (sv 4) (sa_cons (se_bin (op_gAdd (xs.toXG)) (so_val (sv 2)) (so_val (sv 1))) (sa_cons (se_tup sa_nil) sa_nil)))) rfl)) (so_val se_non)) (ss_one (ss_ret rfl se_bl)) ss_nil)) ss_nil)))
    (ss_one (ss_ret rfl se_bl)))) (fun h => by cases h)

/-! def all_steps -/
def N_all_steps : List Str := [Str.ofString "ways", Str.ofString "found", Str.ofString "word", Str.ofString "way"]
theorem sc_all_steps : FnScope N_all_steps [Str.ofString "ways"] (defScope s_all_steps) := ⟨rfl, rfl, rfl, by decide +kernel, rfl, by decide +kernel, by decide +kernel⟩
def m_all_steps_b1 : MS := (mSet 1 (mOp2 gAdd (mV (mVar 1)) (mV (mLc (mRng1 (mConsA (mVar 0) mNilA)) (mgName 3) mYes (mTup (mConsA (mVar 2) (mConsA (mVar 3) mNilA))) [3]))))
def m_all_steps : MS := (mSeq (mSet 1 (mLc (mIter tupOf (mLit (.tup [(.str (Str.ofString "up")), (.str (Str.ofString "next")), (.str (Str.ofString "last")), (.str (Str.ofString "mirror")), (.str (Str.ofString "top"))]))) (mgName 2) mYes (mTup (mConsA (mVar 2) mNilA)) [2]))
    (mSeq (mFor (mIter tupOf (mLit (.tup [(.str (Str.ofString "down")), (.str (Str.ofString "leaf"))]))) (mgName 2) m_all_steps_b1)
    (mRet (mFn fSortedSt (mConsO (mV (mVar 1)) mNilO)))))
def F_all_steps : Fn := bodyF false 4 m_all_steps
theorem k_all_steps (T : Txt K mg)  : Known P w K mg Tb base (Str.ofString "all_steps") 1 false false 1 F_all_steps := by
  obtain ⟨f, fd, hm, hF⟩ := T.f_all_steps
  exact def_ok (N := N_all_steps) (ow := []) (m := m_all_steps) hF hm sc_all_steps rfl rfl (fun _ _ _ _ _ _ us hl => match us, hl with | [_], _ => rfl) (by decide) (fun cdv A outer s H av pa E hp xs =>
    (ss_cons (ss_setLc (i := 1) (own := [(Str.ofString "word", 2)]) (xs.toXG) rfl rfl rfl (sw_true rfl rfl rfl (by decide +kernel)) rfl (si_tup rfl (se_glob rfl T.g_ALONE rfl)) (blkOk_by (N := N_all_steps) (sc := defScope s_all_steps) (by decide +kernel)) (fun s1 H1 C1 cl1 fp1 L1 => (sg_name ((xs.toXG).blk s1 H1 _ _ fp1 L1).nd rfl rfl (by first | exact Or.inl rfl | exact Or.inr rfl))) (fun s1 H1 C1 cl1 fp1 L1 => sts_nil) (fun s1 H1 C1 cl1 fp1 L1 => (se_tup (sa_cons (sv 2) sa_nil))))
    (ss_cons (ss_for xs (si_tup rfl (se_glob rfl T.g_WITH_WAY rfl)) (sg_name (xs.toXG).nd rfl rfl (by first | exact Or.inl rfl | exact Or.inr rfl)) (ss_one (ss_set (i := 1) xs.nd rfl rfl (by first | exact Or.inl rfl | exact Or.inr rfl) (se_bin (op_gAdd (xs.toXG)) (so_val (sv 1)) (so_val (se_lc (own := [(Str.ofString "way", 3)]) (xs.toXG) rfl (si_rng1 rfl T.z_range (sa_cons (sv 0) sa_nil)) (blkOk_by (N := N_all_steps) (sc := defScope s_all_steps) (by decide +kernel)) (fun s1 H1 C1 cl1 fp1 L1 => (sg_name ((xs.toXG).blk s1 H1 _ _ fp1 L1).nd rfl rfl (by first | exact Or.inl rfl | exact Or.inr rfl))) (fun s1 H1 C1 cl1 fp1 L1 => sts_nil) (fun s1 H1 C1 cl1 fp1 L1 => (se_tup (sa_cons (sv 2) (sa_cons (sv 3) sa_nil))))))))))
    (ss_one (ss_ret rfl (se_fnB (cf_sortedSt (xs.toXG)) rfl T.z_sorted bt_sorted (sos_cons (so_val (sv 1)) sos_nil))))))) (fun h => by cases h)

/-! def undoes -/
def N_undoes : List Str := [Str.ofString "ways", Str.ofString "one", Str.ofString "other"]
theorem sc_undoes : FnScope N_undoes [Str.ofString "ways", Str.ofString "one", Str.ofString "other"] (defScope s_undoes) := ⟨rfl, rfl, rfl, by decide +kernel, rfl, by decide +kernel, by decide +kernel⟩
def m_undoes : MS := (mSeq (mDrop (mCall F_need_both (mConsA (mVar 0) (mConsA (mVar 1) (mConsA (mVar 2) mNilA)))))
    (mRet (mCall F_does_undo (mConsA (mVar 0) (mConsA (mVar 1) (mConsA (mVar 2) mNilA))))))
def F_undoes : Fn := bodyF false 3 m_undoes
theorem k_undoes (T : Txt K mg) (h_does_undo : Known P w K mg Tb base (Str.ofString "does_undo") 5 false false 3 F_does_undo) (h_need_both : Known P w K mg Tb base (Str.ofString "need_both") 5 false false 3 F_need_both) : Known P w K mg Tb base (Str.ofString "undoes") 6 false false 3 F_undoes := by
  obtain ⟨f, fd, hm, hF⟩ := T.f_undoes
  exact def_ok (N := N_undoes) (ow := []) (m := m_undoes) hF hm sc_undoes rfl rfl (fun _ _ _ _ _ _ us hl => match us, hl with | [_, _, _], _ => rfl) (by decide) (fun cdv A outer s H av pa E hp xs =>
    (ss_cons (ss_expr (se_call (xs.toXG) h_need_both (by decide) rfl (sa_cons (sv 0) (sa_cons (sv 1) (sa_cons (sv 2) sa_nil))) rfl))
    (ss_one (ss_ret rfl (se_call (xs.toXG) h_does_undo (by decide) rfl (sa_cons (sv 0) (sa_cons (sv 1) (sa_cons (sv 2) sa_nil))) rfl))))) (fun h => by cases h)

/-! def undo_for -/
def N_undo_for : List Str := [Str.ofString "ways", Str.ofString "script", Str.ofString "lines", Str.ofString "turn", Str.ofString "line", Str.ofString "longer", Str.ofString "step"]
theorem sc_undo_for : FnScope N_undo_for [Str.ofString "ways", Str.ofString "script"] (defScope s_undo_for) := ⟨rfl, rfl, rfl, by decide +kernel, rfl, by decide +kernel, by decide +kernel⟩
def m_undo_for_b1 : MS := (mIfS (mTst (mCall F_does_undo (mConsA (mVar 0) (mConsA (mVar 4) (mConsA (mVar 1) mNilA))))) (mRet (mVar 4)) mNx)
def m_undo_for_b2 : MS := (mSet 5 (mOp2 gAdd (mV (mVar 5)) (mV (mLc (mIter seqOf (mCall F_all_steps (mConsA (mVar 0) mNilA))) (mgName 6) mYes (mOp2 gAdd (mV (mVar 4)) (mV (mTup (mConsA (mVar 6) mNilA)))) [6]))))
def m_undo_for_b3 : MS := (mSeq (mFor (mIter seqOf (mVar 2)) (mgName 4) m_undo_for_b1)
    (mSeq (mSet 5 (mLst mNilA))
    (mSeq (mFor (mIter seqOf (mVar 2)) (mgName 4) m_undo_for_b2)
    (mSet 2 (mVar 5)))))
def m_undo_for : MS := (mSeq (mDrop (mCall F_need_ways (mConsA (mVar 0) mNilA)))
    (mSeq (mDrop (mCall F_need_script (mConsA (mVar 0) (mConsA (mVar 1) mNilA))))
    (mSeq (mSet 2 (mLst (mConsA (mTup mNilA) mNilA)))
    (mSeq (mFor (mRng1 (mConsA (mLit (.int 3)) mNilA)) (mgName 3) m_undo_for_b3)
    (mRet (mLit .non))))))
def F_undo_for : Fn := bodyF false 7 m_undo_for
theorem k_undo_for (T : Txt K mg) (h_all_steps : Known P w K mg Tb base (Str.ofString "all_steps") 1 false false 1 F_all_steps) (h_does_undo : Known P w K mg Tb base (Str.ofString "does_undo") 5 false false 3 F_does_undo) (h_need_script : Known P w K mg Tb base (Str.ofString "need_script") 4 false false 2 F_need_script) (h_need_ways : Known P w K mg Tb base (Str.ofString "need_ways") 2 false false 1 F_need_ways) : Known P w K mg Tb base (Str.ofString "undo_for") 6 false false 2 F_undo_for := by
  obtain ⟨f, fd, hm, hF⟩ := T.f_undo_for
  exact def_ok (N := N_undo_for) (ow := []) (m := m_undo_for) hF hm sc_undo_for rfl rfl (fun _ _ _ _ _ _ us hl => match us, hl with | [_, _], _ => rfl) (by decide) (fun cdv A outer s H av pa E hp xs =>
    (ss_cons (ss_expr (se_call (xs.toXG) h_need_ways (by decide) rfl (sa_cons (sv 0) sa_nil) rfl))
    (ss_cons (ss_expr (se_call (xs.toXG) h_need_script (by decide) rfl (sa_cons (sv 0) (sa_cons (sv 1) sa_nil)) rfl))
    (ss_cons (ss_set (i := 2) xs.nd rfl rfl (by first | exact Or.inl rfl | exact Or.inr rfl) (se_lst (sa_cons (se_tup sa_nil) sa_nil)))
    (ss_cons (ss_for xs (si_rng1 rfl T.z_range (sa_cons se_int sa_nil)) (sg_name (xs.toXG).nd rfl rfl (by first | exact Or.inl rfl | exact Or.inr rfl)) (ss_cons (ss_for xs (si_list rfl (sv 2)) (sg_name (xs.toXG).nd rfl rfl (by first | exact Or.inl rfl | exact Or.inr rfl)) (ss_one (ss_if (st_val (se_call (xs.toXG) h_does_undo (by decide) rfl (sa_cons (sv 0) (sa_cons (sv 4) (sa_cons (sv 1) sa_nil))) rfl)) (ss_one (ss_ret rfl (sv 4))) ss_nil)))
    (ss_cons (ss_set (i := 5) xs.nd rfl rfl (by first | exact Or.inl rfl | exact Or.inr rfl) (se_lst sa_nil))
    (ss_cons (ss_for xs (si_list rfl (sv 2)) (sg_name (xs.toXG).nd rfl rfl (by first | exact Or.inl rfl | exact Or.inr rfl)) (ss_one (ss_set (i := 5) xs.nd rfl rfl (by first | exact Or.inl rfl | exact Or.inr rfl) (se_bin (op_gAdd (xs.toXG)) (so_val (sv 5)) (so_val (se_lc (own := [(Str.ofString "step", 6)]) (xs.toXG) rfl (si_list rfl (se_call (xs.toXG) h_all_steps (by decide) rfl (sa_cons (sv 0) sa_nil) rfl)) (blkOk_by (N := N_undo_for) (sc := defScope s_undo_for) (by decide +kernel)) (fun s1 H1 C1 cl1 fp1 L1 => (sg_name ((xs.toXG).blk s1 H1 _ _ fp1 L1).nd rfl rfl (by first | exact Or.inl rfl | exact Or.inr rfl))) (fun s1 H1 C1 cl1 fp1 L1 => sts_nil) (fun s1 H1 C1 cl1 fp1 L1 => (se_bin (op_gAdd ((xs.toXG).blk s1 H1 _ _ fp1 L1)) (so_val (sv 4)) (so_val (se_tup (sa_cons (sv 6) sa_nil)))))))))))
    (ss_one (ss_set (i := 2) xs.nd rfl rfl (by first | exact Or.inl rfl | exact Or.inr rfl) (sv 5)))))))
    (ss_one (ss_ret rfl se_non))))))) (fun h => by cases h)

/-! def law_wood -/
def N_law_wood : List Str := [Str.ofString "_law_script", Str.ofString "_law_k", Str.ofString "_law_cell"]
theorem sc_law_wood : FnScope N_law_wood [Str.ofString "_law_script", Str.ofString "_law_k"] (defScope s_law_wood) := ⟨rfl, rfl, rfl, by decide +kernel, rfl, by decide +kernel, by decide +kernel⟩
def m_law_wood : MS := (mSeq (mSet 2 (mOp2 gAdd (mV (mOp2 gMul (mV (mLit (.int 29009))) (mV (mVar 1)))) (mV (mLit (.int 71)))))
    (mSeq (mIfS (mTst (mOp2 gLt (mV (mVar 1)) (mV (mFn fLen (mConsO (mV (mVar 0)) mNilO))))) (mSet 2 (mOp2 gMod (mV (mFn fAbs (mConsO (mV (mFn fInt (mConsO (mV (mOp2 gIdx (mV (mVar 0)) (mV (mVar 1)))) mNilO))) mNilO))) (mV (mOp2 gMul (mV (mOp2 gMul (mV (mOp2 gMul (mV (mOp2 gPow (mV (mLit (.int 10))) (mV (mLit (.int 60))))) (mV (mOp2 gPow (mV (mLit (.int 10))) (mV (mLit (.int 60))))))) (mV (mOp2 gPow (mV (mLit (.int 10))) (mV (mLit (.int 60))))))) (mV (mOp2 gPow (mV (mLit (.int 10))) (mV (mLit (.int 60))))))))) (mIfS (mTst (mOp2 gGt (mV (mFn fLen (mConsO (mV (mVar 0)) mNilO))) (mV (mLit (.int 0))))) (mSet 2 (mOp2 gAdd (mV (mVar 2)) (mV (mOp2 gMod (mV (mFn fAbs (mConsO (mV (mFn fInt (mConsO (mV (mOp2 gIdx (mV (mVar 0)) (mV (mLit (.int 0))))) mNilO))) mNilO))) (mV (mLit (.int 1000381))))))) mNx))
    (mRet (mLst (mConsA (mIf (mTst (mOp2 gGe (mV (mVar 2)) (mV (mOp2 gPow (mV (mLit (.int 10))) (mV (mLit (.int 18))))))) (mVar 2) (mLit (.int 0))) (mConsA (mOp2 gAdd (mV (mOp2 gMod (mV (mFn fInt (mConsO (mV (mOp2 gAdd (mV (mOp2 gAdd (mV (mOp2 gMul (mV (mOp2 gMod (mV (mVar 2)) (mV (mLit (.int 2147482951))))) (mV (mLit (.int 13))))) (mV (mOp2 gMul (mV (mLit (.int 83))) (mV (mVar 1)))))) (mV (mLit (.int 41))))) mNilO))) (mV (mLit (.int 2147482951))))) (mV (mLit (.int 1)))) mNilA))))))
def F_law_wood : Fn := bodyF false 3 m_law_wood
theorem m_law_wood_fr : ∀ env e, m_law_wood env ≠ .nx e := (noNx_seq (noNx_seq noNx_ret))
theorem k_law_wood (T : Txt K mg)  : Known P w K mg Tb base (Str.ofString "_law_wood") 1 false true 2 F_law_wood := by
  obtain ⟨f, fd, hm, hF⟩ := T.f_law_wood
  exact def_ok (N := N_law_wood) (ow := []) (m := m_law_wood) hF hm sc_law_wood rfl rfl (fun _ _ _ _ _ _ us hl => match us, hl with | [_, _], _ => rfl) (by decide) (fun cdv A outer s H av pa E hp xs =>
    (ss_cons (ss_set (i := 2) xs.nd rfl rfl (by first | exact Or.inl rfl | exact Or.inr rfl) (se_bin (op_gAdd (xs.toXG)) (so_val (se_bin (op_gMul (xs.toXG)) (so_val se_int) (so_val (sv 1)))) (so_val se_int)))
    (ss_cons (ss_if (st_cmp (op_gLt) (so_val (sv 1)) (so_val (se_fnB (cf_len (xs.toXG)) rfl T.z_len bt_len (sos_cons (so_val (sv 0)) sos_nil)))) (ss_one (ss_set (i := 2) xs.nd rfl rfl (by first | exact Or.inl rfl | exact Or.inr rfl) (se_bin (op_gMod (xs.toXG)) (so_val (se_fnB (cf_abs) rfl T.z_abs bt_abs (sos_cons (so_val (se_fnT (cf_int) rfl T.z_int bt_int (sos_cons (so_val (se_ix (ix_g (xs.toXG)) (so_val (sv 0)) (so_val (sv 1)))) sos_nil))) sos_nil))) (so_val (se_bin (op_gMul (xs.toXG)) (so_val (se_bin (op_gMul (xs.toXG)) (so_val (se_bin (op_gMul (xs.toXG)) (so_val (se_bin (op_gPow (xs.toXG)) (so_val se_int) (so_val se_int))) (so_val (se_bin (op_gPow (xs.toXG)) (so_val se_int) (so_val se_int))))) (so_val (se_bin (op_gPow (xs.toXG)) (so_val se_int) (so_val se_int))))) (so_val (se_bin (op_gPow (xs.toXG)) (so_val se_int) (so_val se_int)))))))) (ss_one (ss_if (st_cmp (op_gGt) (so_val (se_fnB (cf_len (xs.toXG)) rfl T.z_len bt_len (sos_cons (so_val (sv 0)) sos_nil))) (so_val se_int)) (ss_one (ss_set (i := 2) xs.nd rfl rfl (by first | exact Or.inl rfl | exact Or.inr rfl) (se_bin (op_gAdd (xs.toXG)) (so_val (sv 2)) (so_val (se_bin (op_gMod (xs.toXG)) (so_val (se_fnB (cf_abs) rfl T.z_abs bt_abs (sos_cons (so_val (se_fnT (cf_int) rfl T.z_int bt_int (sos_cons (so_val (se_ix (ix_g (xs.toXG)) (so_val (sv 0)) (so_val se_int))) sos_nil))) sos_nil))) (so_val se_int)))))) ss_nil)))
    (ss_one (ss_retF (sf_lst (sa_cons (se_if (st_cmp (op_gGe) (so_val (sv 2)) (so_val (se_bin (op_gPow (xs.toXG)) (so_val se_int) (so_val se_int)))) (sv 2) se_int) (sa_cons (se_bin (op_gAdd (xs.toXG)) (so_val (se_bin (op_gMod (xs.toXG)) (so_val (se_fnT (cf_int) rfl T.z_int bt_int (sos_cons (so_val (se_bin (op_gAdd (xs.toXG)) (so_val (se_bin (op_gAdd (xs.toXG)) (so_val (se_bin (op_gMul (xs.toXG)) (so_val (se_bin (op_gMod (xs.toXG)) (so_val (sv 2)) (so_val se_int))) (so_val se_int))) (so_val (se_bin (op_gMul (xs.toXG)) (so_val se_int) (so_val (sv 1)))))) (so_val se_int))) sos_nil))) (so_val se_int))) (so_val se_int)) sa_nil))) mLst_lst))))) (fun _ => m_law_wood_fr)

/-! def law_twig -/
def N_law_twig : List Str := [Str.ofString "_law_wood_here", Str.ofString "_law_many", Str.ofString "_law_found", Str.ofString "_law_wide"]
theorem sc_law_twig : FnScope N_law_twig [Str.ofString "_law_wood_here", Str.ofString "_law_many"] (defScope s_law_twig) := ⟨rfl, rfl, rfl, by decide +kernel, rfl, by decide +kernel, by decide +kernel⟩
def m_law_twig_b1 : MT := (mOrT (mTst (mOp2 gLt (mV (mVar 3)) (mV (mVar 1)))) (mTst (mOp2 gEq (mV (mVar 3)) (mV (mLit (.int 1))))))
def m_law_twig_b2 : MS := (mSeq (mStore 0 (mLit (.int 1)) (mOp2 gMod (mV (mFn fInt (mConsO (mV (mOp2 gAdd (mV (mOp2 gMul (mV (mOp2 gIdx (mOwn 0) (mV (mLit (.int 1))))) (mV (mLit (.int 22003))))) (mV (mLit (.int 97))))) mNilO))) (mV (mLit (.int 2147482951)))))
    (mSeq (mSet 2 (mOp2 gAdd (mV (mOp2 gMul (mV (mVar 2)) (mV (mLit (.int 8192))))) (mV (mOp2 gMod (mV (mFn fInt (mConsO (mV (mOp2 gDiv (mV (mOp2 gIdx (mOwn 0) (mV (mLit (.int 1))))) (mV (mLit (.int 65651))))) mNilO))) (mV (mLit (.int 8192)))))))
    (mSet 3 (mOp2 gMul (mV (mVar 3)) (mV (mLit (.int 8192)))))))
def m_law_twig : MS := (mSeq (mIfS (mTst (mOp2 gGt (mV (mOp2 gIdx (mOwn 0) (mV (mLit (.int 0))))) (mV (mLit (.int 0))))) (mSeq (mSet 2 (mOp2 gMod (mV (mFn fInt (mConsO (mV (mOp2 gIdx (mOwn 0) (mV (mLit (.int 0))))) mNilO))) (mV (mVar 1))))
    (mSeq (mStore 0 (mLit (.int 0)) (mOp2 gDiv (mV (mOp2 gIdx (mOwn 0) (mV (mLit (.int 0))))) (mV (mVar 1))))
    (mRet (mVar 2)))) mNx)
    (mSeq (mAsg (mTup (mConsA (mLit (.int 0)) (mConsA (mLit (.int 1)) mNilA))) (mgTup (mgCons (mgName 2) (mgCons (mgName 3) mgNil))))
    (mSeq (mWhile FUEL m_law_twig_b1 m_law_twig_b2)
    (mRet (mOp2 gMod (mV (mFn fInt (mConsO (mV (mVar 2)) mNilO))) (mV (mVar 1)))))))
def F_law_twig : Fn := bodyF true 4 m_law_twig
theorem k_law_twig (T : Txt K mg)  : Known P w K mg Tb base (Str.ofString "_law_twig") 1 true false 2 F_law_twig := by
  obtain ⟨f, fd, hm, hF⟩ := T.f_law_twig
  exact def_ok (N := N_law_twig) (ow := [0]) (m := m_law_twig) hF hm sc_law_twig rfl rfl (fun _ _ _ _ _ _ us hl => match us, hl with | [_, _], _ => rfl) (by decide) (fun cdv A outer s H av pa E hp xs =>
    (ss_cons (ss_if (st_cmp (op_gGt) (so_val (se_ix (ix_g (xs.toXG)) (so 0) (so_val se_int))) (so_val se_int)) (ss_cons (ss_set (i := 2) xs.nd rfl rfl (by first | exact Or.inl rfl | exact Or.inr rfl) (se_bin (op_gMod (xs.toXG)) (so_val (se_fnT (cf_int) rfl T.z_int bt_int (sos_cons (so_val (se_ix (ix_g (xs.toXG)) (so 0) (so_val se_int))) sos_nil))) (so_val (sv 1))))
    (ss_cons (ss_store (j := 0) rfl rfl (by first | exact Or.inl rfl | exact Or.inr (Or.inl rfl) | exact Or.inr (Or.inr rfl)) se_int (se_bin (op_gDiv (xs.toXG)) (so_val (se_ix (ix_g (xs.toXG)) (so 0) (so_val se_int))) (so_val (sv 1))))
    (ss_one (ss_ret rfl (sv 2))))) ss_nil)
    (ss_cons (ss_asg (se_tup (sa_cons se_int (sa_cons se_int sa_nil))) (sg_tup rfl rfl (sgs_cons (sg_name (xs.toXG).nd rfl rfl (by first | exact Or.inl rfl | exact Or.inr rfl)) (sgs_cons (sg_name (xs.toXG).nd rfl rfl (by first | exact Or.inl rfl | exact Or.inr rfl)) sgs_nil)) (mgCons_len (mgCons_len (fun _ _ _ h => mgNil_len h)))))
    (ss_cons (ss_while xs (st_bool (sw_or (st_cmp (op_gLt) (so_val (sv 3)) (so_val (sv 1))) (sw_or1 (st_cmp (op_gEq (xs.toXG)) (so_val (sv 3)) (so_val se_int))))) (ss_cons (ss_store (j := 0) rfl rfl (by first | exact Or.inl rfl | exact Or.inr (Or.inl rfl) | exact Or.inr (Or.inr rfl)) se_int (se_bin (op_gMod (xs.toXG)) (so_val (se_fnT (cf_int) rfl T.z_int bt_int (sos_cons (so_val (se_bin (op_gAdd (xs.toXG)) (so_val (se_bin (op_gMul (xs.toXG)) (so_val (se_ix (ix_g (xs.toXG)) (so 0) (so_val se_int))) (so_val se_int))) (so_val se_int))) sos_nil))) (so_val se_int)))
    (ss_cons (ss_set (i := 2) xs.nd rfl rfl (by first | exact Or.inl rfl | exact Or.inr rfl) (se_bin (op_gAdd (xs.toXG)) (so_val (se_bin (op_gMul (xs.toXG)) (so_val (sv 2)) (so_val se_int))) (so_val (se_bin (op_gMod (xs.toXG)) (so_val (se_fnT (cf_int) rfl T.z_int bt_int (sos_cons (so_val (se_bin (op_gDiv (xs.toXG)) (so_val (se_ix (ix_g (xs.toXG)) (so 0) (so_val se_int))) (so_val se_int))) sos_nil))) (so_val se_int)))))
    (ss_one (ss_set (i := 3) xs.nd rfl rfl (by first | exact Or.inl rfl | exact Or.inr rfl) (se_bin (op_gMul (xs.toXG)) (so_val (sv 3)) (so_val se_int)))))))
    (ss_one (ss_ret rfl (se_bin (op_gMod (xs.toXG)) (so_val (se_fnT (cf_int) rfl T.z_int bt_int (sos_cons (so_val (sv 2)) sos_nil))) (so_val (sv 1))))))))) (fun h => by cases h)

/-! def law_any -/
def N_law_any : List Str := [Str.ofString "_law_wood_here", Str.ofString "_law_things"]
theorem sc_law_any : FnScope N_law_any [Str.ofString "_law_wood_here", Str.ofString "_law_things"] (defScope s_law_any) := ⟨rfl, rfl, rfl, by decide +kernel, rfl, by decide +kernel, by decide +kernel⟩
def m_law_any : MS := (mRet (mOp2 gIdx (mV (mVar 1)) (mV (mCallO F_law_twig 0 (mConsA (mFn fLen (mConsO (mV (mVar 1)) mNilO)) mNilA)))))
def F_law_any : Fn := bodyF true 2 m_law_any
theorem k_law_any (T : Txt K mg) (h_law_twig : Known P w K mg Tb base (Str.ofString "_law_twig") 1 true false 2 F_law_twig) : Known P w K mg Tb base (Str.ofString "_law_any") 2 true false 2 F_law_any := by
  obtain ⟨f, fd, hm, hF⟩ := T.f_law_any
  exact def_ok (N := N_law_any) (ow := [0]) (m := m_law_any) hF hm sc_law_any rfl rfl (fun _ _ _ _ _ _ us hl => match us, hl with | [_, _], _ => rfl) (by decide) (fun cdv A outer s H av pa E hp xs =>
    (ss_one (ss_ret rfl (se_ix (ix_g (xs.toXG)) (so_val (sv 1)) (so_val (se_callO (xs.toXG) h_law_twig (by decide) rfl rfl rfl (by first | exact Or.inl rfl | exact Or.inr (Or.inl rfl) | exact Or.inr (Or.inr rfl)) (sa_cons (se_fnB (cf_len (xs.toXG)) rfl T.z_len bt_len (sos_cons (so_val (sv 1)) sos_nil)) sa_nil) rfl)))))) (fun h => by cases h)

/-! def law_one_step -/
def N_law_one_step : List Str := [Str.ofString "_law_wood_here", Str.ofString "_law_ways", Str.ofString "_law_word"]
theorem sc_law_one_step : FnScope N_law_one_step [Str.ofString "_law_wood_here", Str.ofString "_law_ways"] (defScope s_law_one_step) := ⟨rfl, rfl, rfl, by decide +kernel, rfl, by decide +kernel, by decide +kernel⟩
def m_law_one_step : MS := (mSeq (mSet 2 (mCallO F_law_any 0 (mConsA (mLst (mConsA (mLit (.str (Str.ofString "up"))) (mConsA (mLit (.str (Str.ofString "up"))) (mConsA (mLit (.str (Str.ofString "down"))) (mConsA (mLit (.str (Str.ofString "down"))) (mConsA (mLit (.str (Str.ofString "next"))) (mConsA (mLit (.str (Str.ofString "next"))) (mConsA (mLit (.str (Str.ofString "last"))) (mConsA (mLit (.str (Str.ofString "mirror"))) (mConsA (mLit (.str (Str.ofString "leaf"))) (mConsA (mLit (.str (Str.ofString "leaf"))) (mConsA (mLit (.str (Str.ofString "top"))) mNilA)))))))))))) mNilA)))
    (mRet (mIf (mTst (mOp2 gIn (mV (mVar 2)) (mV (mTup (mConsA (mLit (.str (Str.ofString "down"))) (mConsA (mLit (.str (Str.ofString "leaf"))) mNilA)))))) (mTup (mConsA (mVar 2) (mConsA (mCallO F_law_twig 0 (mConsA (mVar 1) mNilA)) mNilA))) (mTup (mConsA (mVar 2) mNilA)))))
def F_law_one_step : Fn := bodyF true 3 m_law_one_step
theorem k_law_one_step (T : Txt K mg) (h_law_any : Known P w K mg Tb base (Str.ofString "_law_any") 2 true false 2 F_law_any) (h_law_twig : Known P w K mg Tb base (Str.ofString "_law_twig") 1 true false 2 F_law_twig) : Known P w K mg Tb base (Str.ofString "_law_one_step") 3 true false 2 F_law_one_step := by
  obtain ⟨f, fd, hm, hF⟩ := T.f_law_one_step
  exact def_ok (N := N_law_one_step) (ow := [0]) (m := m_law_one_step) hF hm sc_law_one_step rfl rfl (fun _ _ _ _ _ _ us hl => match us, hl with | [_, _], _ => rfl) (by decide) (fun cdv A outer s H av pa E hp xs =>
    (ss_cons (ss_set (i := 2) xs.nd rfl rfl (by first | exact Or.inl rfl | exact Or.inr rfl) (se_callO (xs.toXG) h_law_any (by decide) rfl rfl rfl (by first | exact Or.inl rfl | exact Or.inr (Or.inl rfl) | exact Or.inr (Or.inr rfl)) (sa_cons (se_lst (sa_cons se_str (sa_cons se_str (sa_cons se_str (sa_cons se_str (sa_cons se_str (sa_cons se_str (sa_cons se_str (sa_cons se_str (sa_cons se_str (sa_cons se_str (sa_cons se_str sa_nil)))))))))))) sa_nil) rfl))
    (ss_one (ss_ret rfl (se_if (st_cmp (op_gIn (xs.toXG)) (so_val (sv 2)) (so_val (se_tup (sa_cons se_str (sa_cons se_str sa_nil))))) (se_tup (sa_cons (sv 2) (sa_cons (se_callO (xs.toXG) h_law_twig (by decide) rfl rfl rfl (by first | exact Or.inl rfl | exact Or.inr (Or.inl rfl) | exact Or.inr (Or.inr rfl)) (sa_cons (sv 1) sa_nil) rfl) sa_nil))) (se_tup (sa_cons (sv 2) sa_nil))))))) (fun h => by cases h)

/-! def law_steps -/
def N_law_steps : List Str := [Str.ofString "_law_wood_here", Str.ofString "_law_ways", Str.ofString "_law_most", Str.ofString "_law_some", Str.ofString "_law_turn", Str.ofString "_law_inner_so", Str.ofString "_law_low", Str.ofString "_law_still"]
theorem sc_law_steps : FnScope N_law_steps [Str.ofString "_law_wood_here", Str.ofString "_law_ways", Str.ofString "_law_most"] (defScope s_law_steps) := ⟨rfl, rfl, rfl, by decide +kernel, rfl, by decide +kernel, by decide +kernel⟩
def m_law_steps : MS := (mSeq (mSet 3 (mFn fTuple (mConsO (mV (mLc (mRng1 (mConsA (mCallO F_law_twig 0 (mConsA (mOp2 gAdd (mV (mVar 2)) (mV (mLit (.int 1)))) mNilA)) mNilA)) (mgName 4) mYes (mCallO F_law_one_step 0 (mConsA (mVar 1) mNilA)) [4])) mNilO)))
    (mSeq (mIfS (mOrT (mTst (mOp2 gEq (mV (mCallO F_law_twig 0 (mConsA (mLit (.int 2)) mNilA))) (mV (mLit (.int 0))))) (mTst (mOp2 gLt (mV (mVar 2)) (mV (mLit (.int 3)))))) (mRet (mVar 3)) mNx)
    (mSeq (mSet 5 (mCallO F_law_any 0 (mConsA (mLst (mConsA (mTup (mConsA (mLit (.str (Str.ofString "next"))) mNilA)) (mConsA (mTup (mConsA (mLit (.str (Str.ofString "last"))) mNilA)) (mConsA (mTup (mConsA (mLit (.str (Str.ofString "mirror"))) mNilA)) (mConsA (mTup (mConsA (mLit (.str (Str.ofString "next"))) mNilA)) mNilA))))) mNilA)))
    (mSeq (mSet 6 (mCallO F_law_twig 0 (mConsA (mVar 1) mNilA)))
    (mSeq (mSet 7 (mLst (mConsA (mTup (mConsA (mTup (mConsA (mLit (.str (Str.ofString "up"))) mNilA)) (mConsA (mVar 5) (mConsA (mTup (mConsA (mLit (.str (Str.ofString "down"))) (mConsA (mVar 6) mNilA))) mNilA)))) (mConsA (mTup (mConsA (mVar 5) (mConsA (mTup (mConsA (mLit (.str (Str.ofString "up"))) mNilA)) (mConsA (mTup (mConsA (mLit (.str (Str.ofString "down"))) (mConsA (mVar 6) mNilA))) mNilA)))) mNilA))))
    (mSeq (mSet 7 (mOp2 gAdd (mV (mVar 7)) (mV (mLst (mConsA (mTup (mConsA (mVar 5) (mConsA (mCallO F_law_any 0 (mConsA (mLst (mConsA (mTup (mConsA (mLit (.str (Str.ofString "next"))) mNilA)) (mConsA (mTup (mConsA (mLit (.str (Str.ofString "mirror"))) mNilA)) mNilA))) mNilA)) mNilA))) (mConsA (mTup (mConsA (mTup (mConsA (mLit (.str (Str.ofString "leaf"))) (mConsA (mVar 6) mNilA))) (mConsA (mVar 5) (mConsA (mTup (mConsA (mLit (.str (Str.ofString "up"))) mNilA)) mNilA)))) mNilA))))))
    (mRet (mOp2 gAdd (mV (mCallO F_law_any 0 (mConsA (mVar 7) mNilA))) (mV (mSl gSlice (mV (mSl gSlice (mV (mVar 3)) mNoP (mPt (mOp2 gSub (mV (mVar 2)) (mV (mLit (.int 3))))))) mNoP (mPt (mLit (.int 1)))))))))))))
def F_law_steps : Fn := bodyF true 8 m_law_steps
theorem k_law_steps (T : Txt K mg) (h_law_any : Known P w K mg Tb base (Str.ofString "_law_any") 2 true false 2 F_law_any) (h_law_one_step : Known P w K mg Tb base (Str.ofString "_law_one_step") 3 true false 2 F_law_one_step) (h_law_twig : Known P w K mg Tb base (Str.ofString "_law_twig") 1 true false 2 F_law_twig) : Known P w K mg Tb base (Str.ofString "_law_steps") 4 true false 3 F_law_steps := by
  obtain ⟨f, fd, hm, hF⟩ := T.f_law_steps
  exact def_ok (N := N_law_steps) (ow := [0]) (m := m_law_steps) hF hm sc_law_steps rfl rfl (fun _ _ _ _ _ _ us hl => match us, hl with | [_, _, _], _ => rfl) (by decide) (fun cdv A outer s H av pa E hp xs =>
    (ss_cons (ss_set (i := 3) xs.nd rfl rfl (by first | exact Or.inl rfl | exact Or.inr rfl) (se_fnT (cf_tuple (xs.toXG)) rfl T.z_tuple bt_tuple (sos_cons (so_val (se_lc (own := [(Str.ofString "_law_turn", 4)]) (xs.toXG) rfl (si_rng1 rfl T.z_range (sa_cons (se_callO (xs.toXG) h_law_twig (by decide) rfl rfl rfl (by first | exact Or.inl rfl | exact Or.inr (Or.inl rfl) | exact Or.inr (Or.inr rfl)) (sa_cons (se_bin (op_gAdd (xs.toXG)) (so_val (sv 2)) (so_val se_int)) sa_nil) rfl) sa_nil)) (blkOk_by (N := N_law_steps) (sc := defScope s_law_steps) (by decide +kernel)) (fun s1 H1 C1 cl1 fp1 L1 => (sg_name ((xs.toXG).blk s1 H1 _ _ fp1 L1).nd rfl rfl (by first | exact Or.inl rfl | exact Or.inr rfl))) (fun s1 H1 C1 cl1 fp1 L1 => sts_nil) (fun s1 H1 C1 cl1 fp1 L1 => (se_callO ((xs.toXG).blk s1 H1 _ _ fp1 L1) h_law_one_step (by decide) rfl rfl rfl (by first | exact Or.inl rfl | exact Or.inr (Or.inl rfl) | exact Or.inr (Or.inr rfl)) (sa_cons (sv 1) sa_nil) rfl)))) sos_nil)))
    (ss_cons (ss_if (st_bool (sw_or (st_cmp (op_gEq (xs.toXG)) (so_val (se_callO (xs.toXG) h_law_twig (by decide) rfl rfl rfl (by first | exact Or.inl rfl | exact Or.inr (Or.inl rfl) | exact Or.inr (Or.inr rfl)) (sa_cons se_int sa_nil) rfl)) (so_val se_int)) (sw_or1 (st_cmp (op_gLt) (so_val (sv 2)) (so_val se_int))))) (ss_one (ss_ret rfl (sv 3))) ss_nil)
    (ss_cons (ss_set (i := 5) xs.nd rfl rfl (by first | exact Or.inl rfl | exact Or.inr rfl) (se_callO (xs.toXG) h_law_any (by decide) rfl rfl rfl (by first | exact Or.inl rfl | exact Or.inr (Or.inl rfl) | exact Or.inr (Or.inr rfl)) (sa_cons (se_lst (sa_cons (se_tup (sa_cons se_str sa_nil)) (sa_cons (se_tup (sa_cons se_str sa_nil)) (sa_cons (se_tup (sa_cons se_str sa_nil)) (sa_cons (se_tup (sa_cons se_str sa_nil)) sa_nil))))) sa_nil) rfl))
    (ss_cons (ss_set (i := 6) xs.nd rfl rfl (by first | exact Or.inl rfl | exact Or.inr rfl) (se_callO (xs.toXG) h_law_twig (by decide) rfl rfl rfl (by first | exact Or.inl rfl | exact Or.inr (Or.inl rfl) | exact Or.inr (Or.inr rfl)) (sa_cons (sv 1) sa_nil) rfl))
    (ss_cons (ss_set (i := 7) xs.nd rfl rfl (by first | exact Or.inl rfl | exact Or.inr rfl) (se_lst (sa_cons (se_tup (sa_cons (se_tup (sa_cons se_str sa_nil)) (sa_cons (sv 5) (sa_cons (se_tup (sa_cons se_str (sa_cons (sv 6) sa_nil))) sa_nil)))) (sa_cons (se_tup (sa_cons (sv 5) (sa_cons (se_tup (sa_cons se_str sa_nil)) (sa_cons (se_tup (sa_cons se_str (sa_cons (sv 6) sa_nil))) sa_nil)))) sa_nil))))
    (ss_cons (ss_set (i := 7) xs.nd rfl rfl (by first | exact Or.inl rfl | exact Or.inr rfl) (se_bin (op_gAdd (xs.toXG)) (so_val (sv 7)) (so_val (se_lst (sa_cons (se_tup (sa_cons (sv 5) (sa_cons (se_callO (xs.toXG) h_law_any (by decide) rfl rfl rfl (by first | exact Or.inl rfl | exact Or.inr (Or.inl rfl) | exact Or.inr (Or.inr rfl)) (sa_cons (se_lst (sa_cons (se_tup (sa_cons se_str sa_nil)) (sa_cons (se_tup (sa_cons se_str sa_nil)) sa_nil))) sa_nil) rfl) sa_nil))) (sa_cons (se_tup (sa_cons (se_tup (sa_cons se_str (sa_cons (sv 6) sa_nil))) (sa_cons (sv 5) (sa_cons (se_tup (sa_cons se_str sa_nil)) sa_nil)))) sa_nil))))))
    (ss_one (ss_ret rfl (se_bin (op_gAdd (xs.toXG)) (so_val (se_callO (xs.toXG) h_law_any (by decide) rfl rfl rfl (by first | exact Or.inl rfl | exact Or.inr (Or.inl rfl) | exact Or.inr (Or.inr rfl)) (sa_cons (sv 7) sa_nil) rfl)) (so_val (se_slice (sl_g (xs.toXG)) (so_val (se_slice (sl_g (xs.toXG)) (so_val (sv 3)) sp_none (sp_some (se_bin (op_gSub (xs.toXG)) (so_val (sv 2)) (so_val se_int))))) sp_none (sp_some se_int))))))))))))) (fun h => by cases h)

/-! def law_size -/
def N_law_size : List Str := [Str.ofString "_law_ways", Str.ofString "_law_level", Str.ofString "_law_found", Str.ofString "_law_turn"]
theorem sc_law_size : FnScope N_law_size [Str.ofString "_law_ways", Str.ofString "_law_level"] (defScope s_law_size) := ⟨rfl, rfl, rfl, by decide +kernel, rfl, by decide +kernel, by decide +kernel⟩
def m_law_size_b1 : MS := (mSet 2 (mOp2 gMul (mV (mVar 2)) (mV (mVar 0))))
def m_law_size : MS := (mSeq (mSet 2 (mLit (.int 1)))
    (mSeq (mFor (mRng1 (mConsA (mVar 1) mNilA)) (mgName 3) m_law_size_b1)
    (mRet (mVar 2))))
def F_law_size : Fn := bodyF false 4 m_law_size
theorem k_law_size (T : Txt K mg)  : Known P w K mg Tb base (Str.ofString "_law_size") 1 false false 2 F_law_size := by
  obtain ⟨f, fd, hm, hF⟩ := T.f_law_size
  exact def_ok (N := N_law_size) (ow := []) (m := m_law_size) hF hm sc_law_size rfl rfl (fun _ _ _ _ _ _ us hl => match us, hl with | [_, _], _ => rfl) (by decide) (fun cdv A outer s H av pa E hp xs =>
    (ss_cons (ss_set (i := 2) xs.nd rfl rfl (by first | exact Or.inl rfl | exact Or.inr rfl) se_int)
    (ss_cons (ss_for xs (si_rng1 rfl T.z_range (sa_cons (sv 1) sa_nil)) (sg_name (xs.toXG).nd rfl rfl (by first | exact Or.inl rfl | exact Or.inr rfl)) (ss_one (ss_set (i := 2) xs.nd rfl rfl (by first | exact Or.inl rfl | exact Or.inr rfl) (se_bin (op_gMul (xs.toXG)) (so_val (sv 2)) (so_val (sv 0))))))
    (ss_one (ss_ret rfl (sv 2)))))) (fun h => by cases h)

/-! def law_figures -/
def N_law_figures : List Str := [Str.ofString "_law_ways", Str.ofString "_law_spot", Str.ofString "_law_level", Str.ofString "_law_number", Str.ofString "_law_found", Str.ofString "_law_turn"]
theorem sc_law_figures : FnScope N_law_figures [Str.ofString "_law_ways", Str.ofString "_law_spot"] (defScope s_law_figures) := ⟨rfl, rfl, rfl, by decide +kernel, rfl, by decide +kernel, by decide +kernel⟩
def m_law_figures_b1 : MS := (mSeq (mSet 4 (mOp2 gAdd (mV (mLst (mConsA (mOp2 gMod (mV (mVar 3)) (mV (mVar 0))) mNilA))) (mV (mVar 4))))
    (mSet 3 (mOp2 gDiv (mV (mVar 3)) (mV (mVar 0)))))
def m_law_figures : MS := (mSeq (mAsg (mVar 1) (mgTup (mgCons (mgName 2) (mgCons (mgName 3) mgNil))))
    (mSeq (mSet 4 (mLst mNilA))
    (mSeq (mFor (mRng1 (mConsA (mVar 2) mNilA)) (mgName 5) m_law_figures_b1)
    (mRet (mVar 4)))))
def F_law_figures : Fn := bodyF false 6 m_law_figures
theorem k_law_figures (T : Txt K mg)  : Known P w K mg Tb base (Str.ofString "_law_figures") 1 false false 2 F_law_figures := by
  obtain ⟨f, fd, hm, hF⟩ := T.f_law_figures
  exact def_ok (N := N_law_figures) (ow := []) (m := m_law_figures) hF hm sc_law_figures rfl rfl (fun _ _ _ _ _ _ us hl => match us, hl with | [_, _], _ => rfl) (by decide) (fun cdv A outer s H av pa E hp xs =>
    (ss_cons (ss_asg (sv 1) (sg_tup rfl rfl (sgs_cons (sg_name (xs.toXG).nd rfl rfl (by first | exact Or.inl rfl | exact Or.inr rfl)) (sgs_cons (sg_name (xs.toXG).nd rfl rfl (by first | exact Or.inl rfl | exact Or.inr rfl)) sgs_nil)) (mgCons_len (mgCons_len (fun _ _ _ h => mgNil_len h)))))
    (ss_cons (ss_set (i := 4) xs.nd rfl rfl (by first | exact Or.inl rfl | exact Or.inr rfl) (se_lst sa_nil))
    (ss_cons (ss_for xs (si_rng1 rfl T.z_range (sa_cons (sv 2) sa_nil)) (sg_name (xs.toXG).nd rfl rfl (by first | exact Or.inl rfl | exact Or.inr rfl)) (ss_cons (ss_set (i := 4) xs.nd rfl rfl (by first | exact Or.inl rfl | exact Or.inr rfl) (se_bin (op_gAdd (xs.toXG)) (so_val (se_lst (sa_cons (se_bin (op_gMod (xs.toXG)) (so_val (sv 3)) (so_val (sv 0))) sa_nil))) (so_val (sv 4))))
    (ss_one (ss_set (i := 3) xs.nd rfl rfl (by first | exact Or.inl rfl | exact Or.inr rfl) (se_bin (op_gDiv (xs.toXG)) (so_val (sv 3)) (so_val (sv 0)))))))
    (ss_one (ss_ret rfl (sv 4))))))) (fun h => by cases h)

/-! def law_by_figures -/
def N_law_by_figures : List Str := [Str.ofString "_law_ways", Str.ofString "_law_figures_here", Str.ofString "_law_number", Str.ofString "_law_figure"]
theorem sc_law_by_figures : FnScope N_law_by_figures [Str.ofString "_law_ways", Str.ofString "_law_figures_here"] (defScope s_law_by_figures) := ⟨rfl, rfl, rfl, by decide +kernel, rfl, by decide +kernel, by decide +kernel⟩
def m_law_by_figures_b1 : MS := (mSet 2 (mOp2 gAdd (mV (mOp2 gMul (mV (mVar 2)) (mV (mVar 0)))) (mV (mVar 3))))
def m_law_by_figures : MS := (mSeq (mSet 2 (mLit (.int 0)))
    (mSeq (mFor (mIter seqOf (mVar 1)) (mgName 3) m_law_by_figures_b1)
    (mRet (mTup (mConsA (mFn fLen (mConsO (mV (mVar 1)) mNilO)) (mConsA (mVar 2) mNilA))))))
def F_law_by_figures : Fn := bodyF false 4 m_law_by_figures
theorem k_law_by_figures (T : Txt K mg)  : Known P w K mg Tb base (Str.ofString "_law_by_figures") 1 false false 2 F_law_by_figures := by
  obtain ⟨f, fd, hm, hF⟩ := T.f_law_by_figures
  exact def_ok (N := N_law_by_figures) (ow := []) (m := m_law_by_figures) hF hm sc_law_by_figures rfl rfl (fun _ _ _ _ _ _ us hl => match us, hl with | [_, _], _ => rfl) (by decide) (fun cdv A outer s H av pa E hp xs =>
    (ss_cons (ss_set (i := 2) xs.nd rfl rfl (by first | exact Or.inl rfl | exact Or.inr rfl) se_int)
    (ss_cons (ss_for xs (si_list rfl (sv 1)) (sg_name (xs.toXG).nd rfl rfl (by first | exact Or.inl rfl | exact Or.inr rfl)) (ss_one (ss_set (i := 2) xs.nd rfl rfl (by first | exact Or.inl rfl | exact Or.inr rfl) (se_bin (op_gAdd (xs.toXG)) (so_val (se_bin (op_gMul (xs.toXG)) (so_val (sv 2)) (so_val (sv 0)))) (so_val (sv 3))))))
    (ss_one (ss_ret rfl (se_tup (sa_cons (se_fnB (cf_len (xs.toXG)) rfl T.z_len bt_len (sos_cons (so_val (sv 1)) sos_nil)) (sa_cons (sv 2) sa_nil)))))))) (fun h => by cases h)

/-! def law_moved -/
def N_law_moved : List Str := [Str.ofString "_law_ways", Str.ofString "_law_figures_here", Str.ofString "_law_more", Str.ofString "_law_found", Str.ofString "_law_carry", Str.ofString "_law_figure"]
theorem sc_law_moved : FnScope N_law_moved [Str.ofString "_law_ways", Str.ofString "_law_figures_here", Str.ofString "_law_more"] (defScope s_law_moved) := ⟨rfl, rfl, rfl, by decide +kernel, rfl, by decide +kernel, by decide +kernel⟩
def m_law_moved_b1 : MS := (mSeq (mSet 3 (mOp2 gAdd (mV (mLst (mConsA (mOp2 gMod (mV (mOp2 gAdd (mV (mVar 5)) (mV (mVar 4)))) (mV (mVar 0))) mNilA))) (mV (mVar 3))))
    (mSet 4 (mOp2 gDiv (mV (mOp2 gAdd (mV (mVar 5)) (mV (mVar 4)))) (mV (mVar 0)))))
def m_law_moved : MS := (mSeq (mPar [3, 4] (mConsA (mLst mNilA) (mConsA (mVar 2) mNilA)))
    (mSeq (mFor (mIter seqOf (mRevL (mVar 1))) (mgName 5) m_law_moved_b1)
    (mRet (mVar 3))))
def F_law_moved : Fn := bodyF false 6 m_law_moved
theorem k_law_moved (T : Txt K mg)  : Known P w K mg Tb base (Str.ofString "_law_moved") 1 false false 3 F_law_moved := by
  obtain ⟨f, fd, hm, hF⟩ := T.f_law_moved
  exact def_ok (N := N_law_moved) (ow := []) (m := m_law_moved) hF hm sc_law_moved rfl rfl (fun _ _ _ _ _ _ us hl => match us, hl with | [_, _, _], _ => rfl) (by decide) (fun cdv A outer s H av pa E hp xs =>
    (ss_cons (ss_par (xs.toXG) rfl rfl rfl rfl (by decide) rfl rfl (sa_cons (se_lst sa_nil) (sa_cons (sv 2) sa_nil)) (by rfl))
    (ss_cons (ss_for xs (si_list rfl (se_revL (sv 1))) (sg_name (xs.toXG).nd rfl rfl (by first | exact Or.inl rfl | exact Or.inr rfl)) (ss_cons (ss_set (i := 3) xs.nd rfl rfl (by first | exact Or.inl rfl | exact Or.inr rfl) (se_bin (op_gAdd (xs.toXG)) (so_val (se_lst (sa_cons (se_bin (op_gMod (xs.toXG)) (so_val (se_bin (op_gAdd (xs.toXG)) (so_val (sv 5)) (so_val (sv 4)))) (so_val (sv 0))) sa_nil))) (so_val (sv 3))))
    (ss_one (ss_set (i := 4) xs.nd rfl rfl (by first | exact Or.inl rfl | exact Or.inr rfl) (se_bin (op_gDiv (xs.toXG)) (so_val (se_bin (op_gAdd (xs.toXG)) (so_val (sv 5)) (so_val (sv 4)))) (so_val (sv 0)))))))
    (ss_one (ss_ret rfl (sv 3)))))) (fun h => by cases h)

/-! def law_step_so -/
def N_law_step_so : List Str := [Str.ofString "_law_tree", Str.ofString "_law_step", Str.ofString "_law_figures_here", Str.ofString "_law_ways", Str.ofString "_law_depth", Str.ofString "_law_figure"]
theorem sc_law_step_so : FnScope N_law_step_so [Str.ofString "_law_tree", Str.ofString "_law_step", Str.ofString "_law_figures_here"] (defScope s_law_step_so) := ⟨rfl, rfl, rfl, by decide +kernel, rfl, by decide +kernel, by decide +kernel⟩
def m_law_step_so : MS := (mSeq (mAsg (mVar 0) (mgTup (mgCons (mgName 3) (mgCons (mgName 4) mgNil))))
    (mSeq (mIfS (mTst (mOp2 gEq (mV (mOp2 gIdx (mV (mVar 1)) (mV (mLit (.int 0))))) (mV (mLit (.str (Str.ofString "up")))))) (mRet (mIf (mTst (mOp2 gNe (mV (mVar 2)) (mV (mLst mNilA)))) (mSl gSlice (mV (mVar 2)) mNoP (mPt (mOp1 gNeg (mLit (.int 1))))) (mLit .non))) mNx)
    (mSeq (mIfS (mTst (mOp2 gEq (mV (mOp2 gIdx (mV (mVar 1)) (mV (mLit (.int 0))))) (mV (mLit (.str (Str.ofString "down")))))) (mRet (mIf (mTst (mOp2 gLt (mV (mFn fLen (mConsO (mV (mVar 2)) mNilO))) (mV (mVar 4)))) (mOp2 gAdd (mV (mVar 2)) (mV (mLst (mConsA (mOp2 gIdx (mV (mVar 1)) (mV (mLit (.int 1)))) mNilA)))) (mLit .non))) mNx)
    (mSeq (mIfS (mTst (mOp2 gEq (mV (mOp2 gIdx (mV (mVar 1)) (mV (mLit (.int 0))))) (mV (mLit (.str (Str.ofString "leaf")))))) (mRet (mOp2 gAdd (mV (mVar 2)) (mV (mOp2 gMul (mV (mLst (mConsA (mOp2 gIdx (mV (mVar 1)) (mV (mLit (.int 1)))) mNilA))) (mV (mOp2 gSub (mV (mVar 4)) (mV (mFn fLen (mConsO (mV (mVar 2)) mNilO))))))))) mNx)
    (mSeq (mIfS (mTst (mOp2 gIn (mV (mOp2 gIdx (mV (mVar 1)) (mV (mLit (.int 0))))) (mV (mTup (mConsA (mLit (.str (Str.ofString "next"))) (mConsA (mLit (.str (Str.ofString "last"))) mNilA)))))) (mRet (mCall F_law_moved (mConsA (mVar 3) (mConsA (mVar 2) (mConsA (mIf (mTst (mOp2 gEq (mV (mOp2 gIdx (mV (mVar 1)) (mV (mLit (.int 0))))) (mV (mLit (.str (Str.ofString "next")))))) (mLit (.int 1)) (mOp1 gNeg (mLit (.int 1)))) mNilA))))) mNx)
    (mRet (mIf (mTst (mOp2 gEq (mV (mOp2 gIdx (mV (mVar 1)) (mV (mLit (.int 0))))) (mV (mLit (.str (Str.ofString "mirror")))))) (mLc (mIter seqOf (mVar 2)) (mgName 5) mYes (mOp2 gSub (mV (mOp2 gSub (mV (mVar 3)) (mV (mLit (.int 1))))) (mV (mVar 5))) [5]) (mLst mNilA))))))))
def F_law_step_so : Fn := bodyF false 6 m_law_step_so
theorem k_law_step_so (T : Txt K mg) (h_law_moved : Known P w K mg Tb base (Str.ofString "_law_moved") 1 false false 3 F_law_moved) : Known P w K mg Tb base (Str.ofString "_law_step_so") 2 false false 3 F_law_step_so := by
  obtain ⟨f, fd, hm, hF⟩ := T.f_law_step_so
  exact def_ok (N := N_law_step_so) (ow := []) (m := m_law_step_so) hF hm sc_law_step_so rfl rfl (fun _ _ _ _ _ _ us hl => match us, hl with | [_, _, _], _ => rfl) (by decide) (fun cdv A outer s H av pa E hp xs =>
    (ss_cons (ss_asg (sv 0) (sg_tup rfl rfl (sgs_cons (sg_name (xs.toXG).nd rfl rfl (by first | exact Or.inl rfl | exact Or.inr rfl)) (sgs_cons (sg_name (xs.toXG).nd rfl rfl (by first | exact Or.inl rfl | exact Or.inr rfl)) sgs_nil)) (mgCons_len (mgCons_len (fun _ _ _ h => mgNil_len h)))))
    (ss_cons (ss_if (st_cmp (op_gEq (xs.toXG)) (so_val (se_ix (ix_g (xs.toXG)) (so_val (sv 1)) (so_val se_int))) (so_val se_str)) (ss_one (ss_ret rfl (se_if (st_cmp (op_gNe (xs.toXG)) (so_val (sv 2)) (so_val (se_lst sa_nil))) (se_slice (sl_g (xs.toXG)) (so_val (sv 2)) sp_none (sp_some (se_neg se_int))) se_non))) ss_nil)
    (ss_cons (ss_if (st_cmp (op_gEq (xs.toXG)) (so_val (se_ix (ix_g (xs.toXG)) (so_val (sv 1)) (so_val se_int))) (so_val se_str)) (ss_one (ss_ret rfl (se_if (st_cmp (op_gLt) (so_val (se_fnB (cf_len (xs.toXG)) rfl T.z_len bt_len (sos_cons (so_val (sv 2)) sos_nil))) (so_val (sv 4))) (se_bin (op_gAdd (xs.toXG)) (so_val (sv 2)) (so_val (se_lst (sa_cons (se_ix (ix_g (xs.toXG)) (so_val (sv 1)) (so_val se_int)) sa_nil)))) se_non))) ss_nil)
    (ss_cons (ss_if (st_cmp (op_gEq (xs.toXG)) (so_val (se_ix (ix_g (xs.toXG)) (so_val (sv 1)) (so_val se_int))) (so_val se_str)) (ss_one (ss_ret rfl (se_bin (op_gAdd (xs.toXG)) (so_val (sv 2)) (so_val (se_bin (op_gMul (xs.toXG)) (so_val (se_lst (sa_cons (se_ix (ix_g (xs.toXG)) (so_val (sv 1)) (so_val se_int)) sa_nil))) (so_val (se_bin (op_gSub (xs.toXG)) (so_val (sv 4)) (so_val (se_fnB (cf_len (xs.toXG)) rfl T.z_len bt_len (sos_cons (so_val (sv 2)) sos_nil)))))))))) ss_nil)
    (ss_cons (ss_if (st_cmp (op_gIn (xs.toXG)) (so_val (se_ix (ix_g (xs.toXG)) (so_val (sv 1)) (so_val se_int))) (so_val (se_tup (sa_cons se_str (sa_cons se_str sa_nil))))) (ss_one (ss_ret rfl (se_call (xs.toXG) h_law_moved (by decide) rfl (sa_cons (sv 3) (sa_cons (sv 2) (sa_cons (se_if (st_cmp (op_gEq (xs.toXG)) (so_val (se_ix (ix_g (xs.toXG)) (so_val (sv 1)) (so_val se_int))) (so_val se_str)) se_int (se_neg se_int)) sa_nil))) rfl))) ss_nil)
    (ss_one (ss_ret rfl (se_if (st_cmp (op_gEq (xs.toXG)) (so_val (se_ix (ix_g (xs.toXG)) (so_val (sv 1)) (so_val se_int))) (so_val se_str)) (se_lc (own := [(Str.ofString "_law_figure", 5)]) (xs.toXG) rfl (si_list rfl (sv 2)) (blkOk_by (N := N_law_step_so) (sc := defScope s_law_step_so) (by decide +kernel)) (fun s1 H1 C1 cl1 fp1 L1 => (sg_name ((xs.toXG).blk s1 H1 _ _ fp1 L1).nd rfl rfl (by first | exact Or.inl rfl | exact Or.inr rfl))) (fun s1 H1 C1 cl1 fp1 L1 => sts_nil) (fun s1 H1 C1 cl1 fp1 L1 => (se_bin (op_gSub ((xs.toXG).blk s1 H1 _ _ fp1 L1)) (so_val (se_bin (op_gSub ((xs.toXG).blk s1 H1 _ _ fp1 L1)) (so_val (sv 3)) (so_val se_int))) (so_val (sv 5))))) (se_lst sa_nil)))))))))) (fun h => by cases h)

/-! def law_out -/
def N_law_out : List Str := [Str.ofString "_law_tree", Str.ofString "_law_steps_so", Str.ofString "_law_spot", Str.ofString "_law_figures_here", Str.ofString "_law_step"]
theorem sc_law_out : FnScope N_law_out [Str.ofString "_law_tree", Str.ofString "_law_steps_so", Str.ofString "_law_spot"] (defScope s_law_out) := ⟨rfl, rfl, rfl, by decide +kernel, rfl, by decide +kernel, by decide +kernel⟩
def m_law_out_b1 : MS := (mSet 3 (mIf (mTst (mOp2 gIs (mV (mVar 3)) (mV (mLit .non)))) (mLit .non) (mCall F_law_step_so (mConsA (mVar 0) (mConsA (mVar 4) (mConsA (mVar 3) mNilA))))))
def m_law_out : MS := (mSeq (mSet 3 (mCall F_law_figures (mConsA (mOp2 gIdx (mV (mVar 0)) (mV (mLit (.int 0)))) (mConsA (mVar 2) mNilA))))
    (mSeq (mFor (mIter tupOf (mVar 1)) (mgName 4) m_law_out_b1)
    (mRet (mIf (mTst (mOp2 gIs (mV (mVar 3)) (mV (mLit .non)))) (mLit .non) (mCall F_law_by_figures (mConsA (mOp2 gIdx (mV (mVar 0)) (mV (mLit (.int 0)))) (mConsA (mVar 3) mNilA)))))))
def F_law_out : Fn := bodyF false 5 m_law_out
theorem k_law_out (T : Txt K mg) (h_law_by_figures : Known P w K mg Tb base (Str.ofString "_law_by_figures") 1 false false 2 F_law_by_figures) (h_law_figures : Known P w K mg Tb base (Str.ofString "_law_figures") 1 false false 2 F_law_figures) (h_law_step_so : Known P w K mg Tb base (Str.ofString "_law_step_so") 2 false false 3 F_law_step_so) : Known P w K mg Tb base (Str.ofString "_law_out") 3 false false 3 F_law_out := by
  obtain ⟨f, fd, hm, hF⟩ := T.f_law_out
  exact def_ok (N := N_law_out) (ow := []) (m := m_law_out) hF hm sc_law_out rfl rfl (fun _ _ _ _ _ _ us hl => match us, hl with | [_, _, _], _ => rfl) (by decide) (fun cdv A outer s H av pa E hp xs =>
    (ss_cons (ss_set (i := 3) xs.nd rfl rfl (by first | exact Or.inl rfl | exact Or.inr rfl) (se_call (xs.toXG) h_law_figures (by decide) rfl (sa_cons (se_ix (ix_g (xs.toXG)) (so_val (sv 0)) (so_val se_int)) (sa_cons (sv 2) sa_nil)) rfl))
    (ss_cons (ss_for xs (si_tup rfl (sv 1)) (sg_name (xs.toXG).nd rfl rfl (by first | exact Or.inl rfl | exact Or.inr rfl)) (ss_one (ss_set (i := 3) xs.nd rfl rfl (by first | exact Or.inl rfl | exact Or.inr rfl) (se_if (st_cmp (op_gIs) (so_val (sv 3)) (so_val se_non)) se_non (se_call (xs.toXG) h_law_step_so (by decide) rfl (sa_cons (sv 0) (sa_cons (sv 4) (sa_cons (sv 3) sa_nil))) rfl)))))
    (ss_one (ss_ret rfl (se_if (st_cmp (op_gIs) (so_val (sv 3)) (so_val se_non)) se_non (se_call (xs.toXG) h_law_by_figures (by decide) rfl (sa_cons (se_ix (ix_g (xs.toXG)) (so_val (sv 0)) (so_val se_int)) (sa_cons (sv 3) sa_nil)) rfl))))))) (fun h => by cases h)

/-! def law_spots -/
def N_law_spots : List Str := [Str.ofString "_law_tree", Str.ofString "_law_found", Str.ofString "_law_level", Str.ofString "_law_number"]
theorem sc_law_spots : FnScope N_law_spots [Str.ofString "_law_tree"] (defScope s_law_spots) := ⟨rfl, rfl, rfl, by decide +kernel, rfl, by decide +kernel, by decide +kernel⟩
def m_law_spots_b1 : MS := (mSet 1 (mOp2 gAdd (mV (mVar 1)) (mV (mLc (mRng1 (mConsA (mCall F_law_size (mConsA (mOp2 gIdx (mV (mVar 0)) (mV (mLit (.int 0)))) (mConsA (mVar 2) mNilA))) mNilA)) (mgName 3) mYes (mTup (mConsA (mVar 2) (mConsA (mVar 3) mNilA))) [3]))))
def m_law_spots : MS := (mSeq (mSet 1 (mLst mNilA))
    (mSeq (mFor (mRng1 (mConsA (mOp2 gAdd (mV (mOp2 gIdx (mV (mVar 0)) (mV (mLit (.int 1))))) (mV (mLit (.int 1)))) mNilA)) (mgName 2) m_law_spots_b1)
    (mRet (mVar 1))))
def F_law_spots : Fn := bodyF false 4 m_law_spots
theorem k_law_spots (T : Txt K mg) (h_law_size : Known P w K mg Tb base (Str.ofString "_law_size") 1 false false 2 F_law_size) : Known P w K mg Tb base (Str.ofString "_law_spots") 2 false false 1 F_law_spots := by
  obtain ⟨f, fd, hm, hF⟩ := T.f_law_spots
  exact def_ok (N := N_law_spots) (ow := []) (m := m_law_spots) hF hm sc_law_spots rfl rfl (fun _ _ _ _ _ _ us hl => match us, hl with | [_], _ => rfl) (by decide) (fun cdv A outer s H av pa E hp xs =>
    (ss_cons (ss_set (i := 1) xs.nd rfl rfl (by first | exact Or.inl rfl | exact Or.inr rfl) (se_lst sa_nil))
    (ss_cons (ss_for xs (si_rng1 rfl T.z_range (sa_cons (se_bin (op_gAdd (xs.toXG)) (so_val (se_ix (ix_g (xs.toXG)) (so_val (sv 0)) (so_val se_int))) (so_val se_int)) sa_nil)) (sg_name (xs.toXG).nd rfl rfl (by first | exact Or.inl rfl | exact Or.inr rfl)) (ss_one (ss_set (i := 1) xs.nd rfl rfl (by first | exact Or.inl rfl | exact Or.inr rfl) (se_bin (op_gAdd (xs.toXG)) (so_val (sv 1)) (so_val (se_lc (own := [(Str.ofString "_law_number", 3)]) (xs.toXG) rfl (si_rng1 rfl T.z_range (sa_cons (se_call (xs.toXG) h_law_size (by decide) rfl (sa_cons (se_ix (ix_g (xs.toXG)) (so_val (sv 0)) (so_val se_int)) (sa_cons (sv 2) sa_nil)) rfl) sa_nil)) (blkOk_by (N := N_law_spots) (sc := defScope s_law_spots) (by decide +kernel)) (fun s1 H1 C1 cl1 fp1 L1 => (sg_name ((xs.toXG).blk s1 H1 _ _ fp1 L1).nd rfl rfl (by first | exact Or.inl rfl | exact Or.inr rfl))) (fun s1 H1 C1 cl1 fp1 L1 => sts_nil) (fun s1 H1 C1 cl1 fp1 L1 => (se_tup (sa_cons (sv 2) (sa_cons (sv 3) sa_nil))))))))))
    (ss_one (ss_ret rfl (sv 1)))))) (fun h => by cases h)

/-! def law_is_whole -/
def N_law_is_whole : List Str := [Str.ofString "_law_thing", Str.ofString "_law_low", Str.ofString "_law_high"]
theorem sc_law_is_whole : FnScope N_law_is_whole [Str.ofString "_law_thing", Str.ofString "_law_low", Str.ofString "_law_high"] (defScope s_law_is_whole) := ⟨rfl, rfl, rfl, by decide +kernel, rfl, by decide +kernel, by decide +kernel⟩
def m_law_is_whole : MS := (mRet (mAndV (mFn fIsi (mConsO (mV (mVar 0)) (mConsO (mV (mLit (.ty "int"))) mNilO))) (mAndV (mNotV (mFn fIsi (mConsO (mV (mVar 0)) (mConsO (mV (mLit (.ty "bool"))) mNilO)))) (mChain gLe gLe (mV (mVar 1)) (mV (mVar 0)) (mV (mVar 2))))))
def F_law_is_whole : Fn := bodyF false 3 m_law_is_whole
theorem k_law_is_whole (T : Txt K mg)  : Known P w K mg Tb base (Str.ofString "_law_is_whole") 1 false false 3 F_law_is_whole := by
  obtain ⟨f, fd, hm, hF⟩ := T.f_law_is_whole
  exact def_ok (N := N_law_is_whole) (ow := []) (m := m_law_is_whole) hF hm sc_law_is_whole rfl rfl (fun _ _ _ _ _ _ us hl => match us, hl with | [_, _, _], _ => rfl) (by decide) (fun cdv A outer s H av pa E hp xs =>
    (ss_one (ss_ret rfl (se_and (se_fnB (cf_isi (xs.toXG)) rfl T.z_isinstance bt_isinstance (sos_cons (so_val (sv 0)) (sos_cons (so_val (se_ty rfl T.z_int bt_int)) sos_nil))) (se_and (se_not (se_fnB (cf_isi (xs.toXG)) rfl T.z_isinstance bt_isinstance (sos_cons (so_val (sv 0)) (sos_cons (so_val (se_ty rfl T.z_bool bt_bool)) sos_nil)))) (se_one (se_chain (op_gLe) (op_gLe) (so_val (sv 1)) (so_val (sv 0)) (so_val (sv 2))))))))) (fun h => by cases h)

/-! def law_is_step -/
def N_law_is_step : List Str := [Str.ofString "_law_ways", Str.ofString "_law_thing"]
theorem sc_law_is_step : FnScope N_law_is_step [Str.ofString "_law_ways", Str.ofString "_law_thing"] (defScope s_law_is_step) := ⟨rfl, rfl, rfl, by decide +kernel, rfl, by decide +kernel, by decide +kernel⟩
def m_law_is_step : MS := (mSeq (mIfS (mOrT (mNotT (mTst (mFn fIsi (mConsO (mV (mVar 1)) (mConsO (mV (mLit (.ty "tuple"))) mNilO))))) (mOrT (mTst (mOp2 gEq (mV (mVar 1)) (mV (mTup mNilA)))) (mNotT (mTst (mFn fIsi (mConsO (mV (mOp2 gIdx (mV (mVar 1)) (mV (mLit (.int 0))))) (mConsO (mV (mLit (.ty "str"))) mNilO))))))) (mRet (mLit (.bl false))) mNx)
    (mSeq (mIfS (mTst (mOp2 gIn (mV (mOp2 gIdx (mV (mVar 1)) (mV (mLit (.int 0))))) (mV (mTup (mConsA (mLit (.str (Str.ofString "down"))) (mConsA (mLit (.str (Str.ofString "leaf"))) mNilA)))))) (mRet (mAndV (mOp2 gEq (mV (mFn fLen (mConsO (mV (mVar 1)) mNilO))) (mV (mLit (.int 2)))) (mCall F_law_is_whole (mConsA (mOp2 gIdx (mV (mVar 1)) (mV (mLit (.int 1)))) (mConsA (mLit (.int 0)) (mConsA (mOp2 gSub (mV (mVar 0)) (mV (mLit (.int 1)))) mNilA)))))) mNx)
    (mRet (mAndV (mOp2 gEq (mV (mFn fLen (mConsO (mV (mVar 1)) mNilO))) (mV (mLit (.int 1)))) (mOp2 gIn (mV (mOp2 gIdx (mV (mVar 1)) (mV (mLit (.int 0))))) (mV (mTup (mConsA (mLit (.str (Str.ofString "up"))) (mConsA (mLit (.str (Str.ofString "next"))) (mConsA (mLit (.str (Str.ofString "last"))) (mConsA (mLit (.str (Str.ofString "mirror"))) (mConsA (mLit (.str (Str.ofString "top"))) mNilA))))))))))))
def F_law_is_step : Fn := bodyF false 2 m_law_is_step
theorem k_law_is_step (T : Txt K mg) (h_law_is_whole : Known P w K mg Tb base (Str.ofString "_law_is_whole") 1 false false 3 F_law_is_whole) : Known P w K mg Tb base (Str.ofString "_law_is_step") 2 false false 2 F_law_is_step := by
  obtain ⟨f, fd, hm, hF⟩ := T.f_law_is_step
  exact def_ok (N := N_law_is_step) (ow := []) (m := m_law_is_step) hF hm sc_law_is_step rfl rfl (fun _ _ _ _ _ _ us hl => match us, hl with | [_, _], _ => rfl) (by decide) (fun cdv A outer s H av pa E hp xs =>
    (ss_cons (ss_if (st_bool (sw_or (st_not (st_val (se_fnB (cf_isi (xs.toXG)) rfl T.z_isinstance bt_isinstance (sos_cons (so_val (sv 1)) (sos_cons (so_val (se_ty rfl T.z_tuple bt_tuple)) sos_nil))))) (sw_or (st_cmp (op_gEq (xs.toXG)) (so_val (sv 1)) (so_val (se_tup sa_nil))) (sw_or1 (st_not (st_val (se_fnB (cf_isi (xs.toXG)) rfl T.z_isinstance bt_isinstance (sos_cons (so_val (se_ix (ix_g (xs.toXG)) (so_val (sv 1)) (so_val se_int))) (sos_cons (so_val (se_ty rfl T.z_str bt_str)) sos_nil))))))))) (ss_one (ss_ret rfl se_bl)) ss_nil)
    (ss_cons (ss_if (st_cmp (op_gIn (xs.toXG)) (so_val (se_ix (ix_g (xs.toXG)) (so_val (sv 1)) (so_val se_int))) (so_val (se_tup (sa_cons se_str (sa_cons se_str sa_nil))))) (ss_one (ss_ret rfl (se_and (se_cmp (op_gEq (xs.toXG)) (so_val (se_fnB (cf_len (xs.toXG)) rfl T.z_len bt_len (sos_cons (so_val (sv 1)) sos_nil))) (so_val se_int)) (se_one (se_call (xs.toXG) h_law_is_whole (by decide) rfl (sa_cons (se_ix (ix_g (xs.toXG)) (so_val (sv 1)) (so_val se_int)) (sa_cons se_int (sa_cons (se_bin (op_gSub (xs.toXG)) (so_val (sv 0)) (so_val se_int)) sa_nil))) rfl))))) ss_nil)
    (ss_one (ss_ret rfl (se_and (se_cmp (op_gEq (xs.toXG)) (so_val (se_fnB (cf_len (xs.toXG)) rfl T.z_len bt_len (sos_cons (so_val (sv 1)) sos_nil))) (so_val se_int)) (se_one (se_cmp (op_gIn (xs.toXG)) (so_val (se_ix (ix_g (xs.toXG)) (so_val (sv 1)) (so_val se_int))) (so_val (se_tup (sa_cons se_str (sa_cons se_str (sa_cons se_str (sa_cons se_str (sa_cons se_str sa_nil))))))))))))))) (fun h => by cases h)

/-! def law_are_steps -/
def N_law_are_steps : List Str := [Str.ofString "_law_ways", Str.ofString "_law_thing", Str.ofString "_law_step"]
theorem sc_law_are_steps : FnScope N_law_are_steps [Str.ofString "_law_ways", Str.ofString "_law_thing"] (defScope s_law_are_steps) := ⟨rfl, rfl, rfl, by decide +kernel, rfl, by decide +kernel, by decide +kernel⟩
def m_law_are_steps : MS := (mSeq (mIfS (mOrT (mNotT (mTst (mFn fIsi (mConsO (mV (mVar 1)) (mConsO (mV (mLit (.ty "tuple"))) mNilO))))) (mTst (mOp2 gGt (mV (mFn fLen (mConsO (mV (mVar 1)) mNilO))) (mV (mLit (.int 5)))))) (mRet (mLit (.bl false))) mNx)
    (mRet (mOp2 gEq (mV (mLc (mIter tupOf (mVar 1)) (mgName 2) (mNotT (mTst (mCall F_law_is_step (mConsA (mVar 0) (mConsA (mVar 2) mNilA))))) (mVar 2) [2])) (mV (mLst mNilA)))))
def F_law_are_steps : Fn := bodyF false 3 m_law_are_steps
theorem k_law_are_steps (T : Txt K mg) (h_law_is_step : Known P w K mg Tb base (Str.ofString "_law_is_step") 2 false false 2 F_law_is_step) : Known P w K mg Tb base (Str.ofString "_law_are_steps") 3 false false 2 F_law_are_steps := by
  obtain ⟨f, fd, hm, hF⟩ := T.f_law_are_steps
  exact def_ok (N := N_law_are_steps) (ow := []) (m := m_law_are_steps) hF hm sc_law_are_steps rfl rfl (fun _ _ _ _ _ _ us hl => match us, hl with | [_, _], _ => rfl) (by decide) (fun cdv A outer s H av pa E hp xs =>
    (ss_cons (ss_if (st_bool (sw_or (st_not (st_val (se_fnB (cf_isi (xs.toXG)) rfl T.z_isinstance bt_isinstance (sos_cons (so_val (sv 1)) (sos_cons (so_val (se_ty rfl T.z_tuple bt_tuple)) sos_nil))))) (sw_or1 (st_cmp (op_gGt) (so_val (se_fnB (cf_len (xs.toXG)) rfl T.z_len bt_len (sos_cons (so_val (sv 1)) sos_nil))) (so_val se_int))))) (ss_one (ss_ret rfl se_bl)) ss_nil)
    (ss_one (ss_ret rfl (se_cmp (op_gEq (xs.toXG)) (so_val (se_lc (own := [(Str.ofString "_law_step", 2)]) (xs.toXG) rfl (si_tup rfl (sv 1)) (blkOk_by (N := N_law_are_steps) (sc := defScope s_law_are_steps) (by decide +kernel)) (fun s1 H1 C1 cl1 fp1 L1 => (sg_name ((xs.toXG).blk s1 H1 _ _ fp1 L1).nd rfl rfl (by first | exact Or.inl rfl | exact Or.inr rfl))) (fun s1 H1 C1 cl1 fp1 L1 => (sts_one (st_not (st_val (se_call ((xs.toXG).blk s1 H1 _ _ fp1 L1) h_law_is_step (by decide) rfl (sa_cons (sv 0) (sa_cons (sv 2) sa_nil)) rfl))))) (fun s1 H1 C1 cl1 fp1 L1 => (sv 2)))) (so_val (se_lst sa_nil))))))) (fun h => by cases h)

def N_law_kinds : List Str := [Str.ofString "_law_e", Str.ofString "_law_some", Str.ofString "_law_words", Str.ofString "_law_word", Str.ofString "_law_good"]
theorem sc_law_kinds : FnScope N_law_kinds [Str.ofString "_law_e"] (defScope s_law_kinds) := ⟨rfl, rfl, rfl, by decide +kernel, rfl, by decide +kernel, by decide +kernel⟩
theorem k_law_kinds (T : Txt K mg) : KnownK P w K mg Tb base 1 := by
  obtain ⟨f, fd, hm, hF⟩ := T.f_law_kinds
  exact kinds_known (N := N_law_kinds) hF hm sc_law_kinds rfl (fun _ _ _ _ _ _ us hl => match us, hl with | [_], _ => rfl) (fun cdv A outer s H E p er D KC eo hot =>
    (ss_cons (ss_set (i := 1) sc_law_kinds.nd rfl rfl (Or.inl rfl) (se_lst (sa_cons (se_kind 0 List.mem_cons_self KC eo rfl T.z_isinstance) (sa_cons (se_kind 0 List.mem_cons_self KC eo rfl T.z_isinstance) (sa_cons (se_kind 0 List.mem_cons_self KC eo rfl T.z_isinstance) sa_nil)))))
    (ss_cons (ss_set (i := 1) sc_law_kinds.nd rfl rfl (Or.inl rfl) (se_bin (op_gAdd0 rfl) (so_val (sv 1)) (so_val (se_lst (sa_cons (se_kind 0 List.mem_cons_self KC eo rfl T.z_isinstance) (sa_cons (se_kind 0 List.mem_cons_self KC eo rfl T.z_isinstance) (sa_cons (se_kind 0 List.mem_cons_self KC eo rfl T.z_isinstance) sa_nil)))))))
    (ss_cons (ss_set (i := 1) sc_law_kinds.nd rfl rfl (Or.inl rfl) (se_bin (op_gAdd0 rfl) (so_val (sv 1)) (so_val (se_lst (sa_cons (se_kind 0 List.mem_cons_self KC eo rfl T.z_isinstance) (sa_cons (se_kind 0 List.mem_cons_self KC eo rfl T.z_isinstance) (sa_cons (se_kind 0 List.mem_cons_self KC eo rfl T.z_isinstance) sa_nil)))))))
    (ss_cons (ss_set (i := 1) sc_law_kinds.nd rfl rfl (Or.inl rfl) (se_bin (op_gAdd0 rfl) (so_val (sv 1)) (so_val (se_lst (sa_cons (se_kind 0 List.mem_cons_self KC eo rfl T.z_isinstance) (sa_cons (se_kind 0 List.mem_cons_self KC eo rfl T.z_isinstance) (sa_cons (se_kind 0 List.mem_cons_self KC eo rfl T.z_isinstance) sa_nil)))))))
    (ss_cons (ss_set (i := 1) sc_law_kinds.nd rfl rfl (Or.inl rfl) (se_bin (op_gAdd0 rfl) (so_val (sv 1)) (so_val (se_lst (sa_cons (se_kindE 0 List.mem_cons_self KC eo rfl T.z_isinstance T.z_ValueError) sa_nil)))))
    (ss_cons (ss_set (i := 2) sc_law_kinds.nd rfl rfl (Or.inl rfl) (se_lst (sa_cons se_str (sa_cons se_str (sa_cons se_str (sa_cons se_str (sa_cons se_str (sa_cons se_str (sa_cons se_str sa_nil)))))))))
    (ss_cons (ss_set (i := 2) sc_law_kinds.nd rfl rfl (Or.inl rfl) (se_bin (op_gAdd0 rfl) (so_val (sv 2)) (so_val (se_lst (sa_cons se_str (sa_cons se_str (sa_cons se_str (sa_cons se_str (sa_cons se_str (sa_cons se_str sa_nil))))))))))
    (ss_one (ss_ret rfl (se_m1 PySem.F.slot_str_join PySem.F.type_str_join (mt_gJoin0 rfl) se_str (so_val (se_lcZ (j := 3) (l := 4) rfl hot sc_law_kinds.nd rfl T.z_zip rfl rfl rfl (Or.inl rfl) rfl (Or.inl rfl) rfl rfl (by decide) (blkOk_by (N := N_law_kinds) (sc := defScope s_law_kinds) (by decide +kernel)) rfl rfl)))))))))))))

def N_law_call : List Str := [Str.ofString "_law_call_so", Str.ofString "_law_found", Str.ofString "_law_e"]
theorem sc_law_call : FnScope N_law_call [Str.ofString "_law_call_so"] (defScope s_law_call) := ⟨rfl, rfl, rfl, by decide +kernel, rfl, by decide +kernel, by decide +kernel⟩
theorem k_law_call (T : Txt K mg) (hK : KnownK P w K mg Tb base 1) : KnownT P w K mg Tb base 1 ERS := by
  obtain ⟨g, fd, hm, hF⟩ := T.f_law_call
  obtain ⟨C1, C2, C3, TF⟩ := T.tell
  exact ⟨s_law_call, g, fd, N_law_call, Str.ofString "_law_call_so", C1, C2, C3, hm, hF, sc_law_call, rfl, rfl, Or.inl rfl, by decide, by decide, TF, (fun _ _ _ _ _ _ us hl => match us, hl with | [_], _ => rfl), fun cdv A outer s H E tA hr act =>
    pss_tell hK (L2H.roomH_of hr) rfl rfl sc_law_call.nd rfl rfl rfl rfl rfl rfl ⟨rfl, by decide, .inl TF.m1⟩ ⟨rfl, by decide, .inl TF.m2⟩ ⟨rfl, by decide, .inl TF.m3⟩ (by decide) (by decide) (by decide) (by decide) act⟩

/-! def law_near -/
def N_law_near : List Str := [Str.ofString "_law_wood_here", Str.ofString "_law_ways", Str.ofString "_law_steps_so", Str.ofString "_law_spot", Str.ofString "_law_way", Str.ofString "_law_turned_so", Str.ofString "_law_both"]
theorem sc_law_near : FnScope N_law_near [Str.ofString "_law_wood_here", Str.ofString "_law_ways", Str.ofString "_law_steps_so"] (defScope s_law_near) := ⟨rfl, rfl, rfl, by decide +kernel, rfl, by decide +kernel, by decide +kernel⟩
def m_law_near : MS := (mSeq (mPar [3, 4] (mConsA (mFn fMin (mConsO (mV (mLit (.int 4))) (mConsO (mV (mCallO F_law_twig 0 (mConsA (mOp2 gAdd (mV (mFn fLen (mConsO (mV (mVar 2)) mNilO))) (mV (mLit (.int 1)))) mNilA))) mNilO))) (mConsA (mCallO F_law_twig 0 (mConsA (mLit (.int 6)) mNilA)) mNilA)))
    (mSeq (mIfS (mTst (mOp2 gEq (mV (mVar 4)) (mV (mLit (.int 0))))) (mRet (mOp2 gAdd (mV (mSl gSlice (mV (mVar 2)) mNoP (mPt (mVar 3)))) (mV (mSl gSlice (mV (mVar 2)) (mPt (mOp2 gAdd (mV (mVar 3)) (mV (mLit (.int 1))))) mNoP)))) mNx)
    (mSeq (mIfS (mAndT (mTst (mOp2 gEq (mV (mVar 4)) (mV (mLit (.int 1))))) (mTst (mOp2 gLt (mV (mFn fLen (mConsO (mV (mVar 2)) mNilO))) (mV (mLit (.int 5)))))) (mRet (mOp2 gAdd (mV (mOp2 gAdd (mV (mSl gSlice (mV (mVar 2)) mNoP (mPt (mVar 3)))) (mV (mTup (mConsA (mCallO F_law_one_step 0 (mConsA (mVar 1) mNilA)) mNilA))))) (mV (mSl gSlice (mV (mVar 2)) (mPt (mVar 3)) mNoP)))) mNx)
    (mSeq (mIfS (mTst (mOp2 gEq (mV (mVar 4)) (mV (mLit (.int 2))))) (mSeq (mSet 5 (mRevT (mSl gSlice (mV (mVar 2)) (mPt (mVar 3)) (mPt (mOp2 gAdd (mV (mVar 3)) (mV (mLit (.int 2))))))))
    (mRet (mOp2 gAdd (mV (mOp2 gAdd (mV (mSl gSlice (mV (mVar 2)) mNoP (mPt (mVar 3)))) (mV (mVar 5)))) (mV (mSl gSlice (mV (mVar 2)) (mPt (mOp2 gAdd (mV (mVar 3)) (mV (mLit (.int 2))))) mNoP))))) mNx)
    (mSeq (mIfS (mAndT (mTst (mOp2 gEq (mV (mVar 4)) (mV (mLit (.int 3))))) (mTst (mOp2 gLt (mV (mFn fLen (mConsO (mV (mVar 2)) mNilO))) (mV (mLit (.int 4)))))) (mSeq (mSet 6 (mCallO F_law_any 0 (mConsA (mLst (mConsA (mTup (mConsA (mTup (mConsA (mLit (.str (Str.ofString "next"))) mNilA)) (mConsA (mTup (mConsA (mLit (.str (Str.ofString "last"))) mNilA)) mNilA))) (mConsA (mOp2 gMul (mV (mTup (mConsA (mTup (mConsA (mLit (.str (Str.ofString "mirror"))) mNilA)) mNilA))) (mV (mLit (.int 2)))) mNilA))) mNilA)))
    (mRet (mOp2 gAdd (mV (mOp2 gAdd (mV (mSl gSlice (mV (mVar 2)) mNoP (mPt (mVar 3)))) (mV (mVar 6)))) (mV (mSl gSlice (mV (mVar 2)) (mPt (mVar 3)) mNoP))))) mNx)
    (mRet (mOp2 gAdd (mV (mOp2 gAdd (mV (mSl gSlice (mV (mVar 2)) mNoP (mPt (mVar 3)))) (mV (mTup (mConsA (mCallO F_law_one_step 0 (mConsA (mVar 1) mNilA)) mNilA))))) (mV (mSl gSlice (mV (mVar 2)) (mPt (mOp2 gAdd (mV (mVar 3)) (mV (mLit (.int 1))))) mNoP)))))))))
def F_law_near : Fn := bodyF true 7 m_law_near
theorem k_law_near (T : Txt K mg) (h_law_any : Known P w K mg Tb base (Str.ofString "_law_any") 2 true false 2 F_law_any) (h_law_one_step : Known P w K mg Tb base (Str.ofString "_law_one_step") 3 true false 2 F_law_one_step) (h_law_twig : Known P w K mg Tb base (Str.ofString "_law_twig") 1 true false 2 F_law_twig) : Known P w K mg Tb base (Str.ofString "_law_near") 4 true false 3 F_law_near := by
  obtain ⟨f, fd, hm, hF⟩ := T.f_law_near
  exact def_ok (N := N_law_near) (ow := [0]) (m := m_law_near) hF hm sc_law_near rfl rfl (fun _ _ _ _ _ _ us hl => match us, hl with | [_, _, _], _ => rfl) (by decide) (fun cdv A outer s H av pa E hp xs =>
    (ss_cons (ss_par (xs.toXG) rfl rfl rfl rfl (by decide) rfl rfl (sa_cons (se_fnB (cf_min (xs.toXG)) rfl T.z_min bt_min (sos_cons (so_val se_int) (sos_cons (so_val (se_callO (xs.toXG) h_law_twig (by decide) rfl rfl rfl (by first | exact Or.inl rfl | exact Or.inr (Or.inl rfl) | exact Or.inr (Or.inr rfl)) (sa_cons (se_bin (op_gAdd (xs.toXG)) (so_val (se_fnB (cf_len (xs.toXG)) rfl T.z_len bt_len (sos_cons (so_val (sv 2)) sos_nil))) (so_val se_int)) sa_nil) rfl)) sos_nil))) (sa_cons (se_callO (xs.toXG) h_law_twig (by decide) rfl rfl rfl (by first | exact Or.inl rfl | exact Or.inr (Or.inl rfl) | exact Or.inr (Or.inr rfl)) (sa_cons se_int sa_nil) rfl) sa_nil)) (by rfl))
    (ss_cons (ss_if (st_cmp (op_gEq (xs.toXG)) (so_val (sv 4)) (so_val se_int)) (ss_one (ss_ret rfl (se_bin (op_gAdd (xs.toXG)) (so_val (se_slice (sl_g (xs.toXG)) (so_val (sv 2)) sp_none (sp_some (sv 3)))) (so_val (se_slice (sl_g (xs.toXG)) (so_val (sv 2)) (sp_some (se_bin (op_gAdd (xs.toXG)) (so_val (sv 3)) (so_val se_int))) sp_none))))) ss_nil)
    (ss_cons (ss_if (st_bool (sw_and (st_cmp (op_gEq (xs.toXG)) (so_val (sv 4)) (so_val se_int)) (sw_and1 (st_cmp (op_gLt) (so_val (se_fnB (cf_len (xs.toXG)) rfl T.z_len bt_len (sos_cons (so_val (sv 2)) sos_nil))) (so_val se_int))))) (ss_one (ss_ret rfl (se_bin (op_gAdd (xs.toXG)) (so_val (se_bin (op_gAdd (xs.toXG)) (so_val (se_slice (sl_g (xs.toXG)) (so_val (sv 2)) sp_none (sp_some (sv 3)))) (so_val (se_tup (sa_cons (se_callO (xs.toXG) h_law_one_step (by decide) rfl rfl rfl (by first | exact Or.inl rfl | exact Or.inr (Or.inl rfl) | exact Or.inr (Or.inr rfl)) (sa_cons (sv 1) sa_nil) rfl) sa_nil))))) (so_val (se_slice (sl_g (xs.toXG)) (so_val (sv 2)) (sp_some (sv 3)) sp_none))))) ss_nil)
    (ss_cons (ss_if (st_cmp (op_gEq (xs.toXG)) (so_val (sv 4)) (so_val se_int)) (ss_cons (ss_set (i := 5) xs.nd rfl rfl (by first | exact Or.inl rfl | exact Or.inr rfl) (se_revT rfl (se_slice (sl_g (xs.toXG)) (so_val (sv 2)) (sp_some (sv 3)) (sp_some (se_bin (op_gAdd (xs.toXG)) (so_val (sv 3)) (so_val se_int))))))
    (ss_one (ss_ret rfl (se_bin (op_gAdd (xs.toXG)) (so_val (se_bin (op_gAdd (xs.toXG)) (so_val (se_slice (sl_g (xs.toXG)) (so_val (sv 2)) sp_none (sp_some (sv 3)))) (so_val (sv 5)))) (so_val (se_slice (sl_g (xs.toXG)) (so_val (sv 2)) (sp_some (se_bin (op_gAdd (xs.toXG)) (so_val (sv 3)) (so_val se_int))) sp_none)))))) ss_nil)
    (ss_cons (ss_if (st_bool (sw_and (st_cmp (op_gEq (xs.toXG)) (so_val (sv 4)) (so_val se_int)) (sw_and1 (st_cmp (op_gLt) (so_val (se_fnB (cf_len (xs.toXG)) rfl T.z_len bt_len (sos_cons (so_val (sv 2)) sos_nil))) (so_val se_int))))) (ss_cons (ss_set (i := 6) xs.nd rfl rfl (by first | exact Or.inl rfl | exact Or.inr rfl) (se_callO (xs.toXG) h_law_any (by decide) rfl rfl rfl (by first | exact Or.inl rfl | exact Or.inr (Or.inl rfl) | exact Or.inr (Or.inr rfl)) (sa_cons (se_lst (sa_cons (se_tup (sa_cons (se_tup (sa_cons se_str sa_nil)) (sa_cons (se_tup (sa_cons se_str sa_nil)) sa_nil))) (sa_cons (se_bin (op_gMul (xs.toXG)) (so_val (se_tup (sa_cons (se_tup (sa_cons se_str sa_nil)) sa_nil))) (so_val se_int)) sa_nil))) sa_nil) rfl))
    (ss_one (ss_ret rfl (se_bin (op_gAdd (xs.toXG)) (so_val (se_bin (op_gAdd (xs.toXG)) (so_val (se_slice (sl_g (xs.toXG)) (so_val (sv 2)) sp_none (sp_some (sv 3)))) (so_val (sv 6)))) (so_val (se_slice (sl_g (xs.toXG)) (so_val (sv 2)) (sp_some (sv 3)) sp_none)))))) ss_nil)
    (ss_one (ss_ret rfl (se_bin (op_gAdd (xs.toXG)) (so_val (se_bin (op_gAdd (xs.toXG)) (so_val (se_slice (sl_g (xs.toXG)) (so_val (sv 2)) sp_none (sp_some (sv 3)))) (so_val (se_tup (sa_cons (se_callO (xs.toXG) h_law_one_step (by decide) rfl rfl rfl (by first | exact Or.inl rfl | exact Or.inr (Or.inl rfl) | exact Or.inr (Or.inr rfl)) (sa_cons (sv 1) sa_nil) rfl) sa_nil))))) (so_val (se_slice (sl_g (xs.toXG)) (so_val (sv 2)) (sp_some (se_bin (op_gAdd (xs.toXG)) (so_val (sv 3)) (so_val se_int))) sp_none))))))))))) (fun h => by cases h)

/-! def law_does -/
def N_law_does : List Str := [Str.ofString "_law_ways", Str.ofString "_law_one", Str.ofString "_law_other", Str.ofString "_law_most", Str.ofString "_law_depth", Str.ofString "_law_spot", Str.ofString "_law_there"]
theorem sc_law_does : FnScope N_law_does [Str.ofString "_law_ways", Str.ofString "_law_one", Str.ofString "_law_other", Str.ofString "_law_most"] (defScope s_law_does) := ⟨rfl, rfl, rfl, by decide +kernel, rfl, by decide +kernel, by decide +kernel⟩
def m_law_does_b1 : MS := (mSeq (mSet 6 (mCall F_law_out (mConsA (mTup (mConsA (mVar 0) (mConsA (mVar 4) mNilA))) (mConsA (mVar 2) (mConsA (mVar 5) mNilA)))))
    (mIfS (mAndT (mTst (mOp2 gIsNot (mV (mVar 6)) (mV (mLit .non)))) (mTst (mOp2 gNe (mV (mCall F_law_out (mConsA (mTup (mConsA (mVar 0) (mConsA (mVar 4) mNilA))) (mConsA (mVar 1) (mConsA (mVar 6) mNilA))))) (mV (mVar 5))))) (mRet (mLit (.bl false))) mNx))
def m_law_does_b2 : MS := (mFor (mIter seqOf (mCall F_law_spots (mConsA (mTup (mConsA (mVar 0) (mConsA (mVar 4) mNilA))) mNilA))) (mgName 5) m_law_does_b1)
def m_law_does : MS := (mSeq (mFor (mRng1 (mConsA (mOp2 gAdd (mV (mVar 3)) (mV (mLit (.int 1)))) mNilA)) (mgName 4) m_law_does_b2)
    (mRet (mLit (.bl true))))
def F_law_does : Fn := bodyF false 7 m_law_does
theorem k_law_does (T : Txt K mg) (h_law_out : Known P w K mg Tb base (Str.ofString "_law_out") 3 false false 3 F_law_out) (h_law_spots : Known P w K mg Tb base (Str.ofString "_law_spots") 2 false false 1 F_law_spots) : Known P w K mg Tb base (Str.ofString "_law_does") 4 false false 4 F_law_does := by
  obtain ⟨f, fd, hm, hF⟩ := T.f_law_does
  exact def_ok (N := N_law_does) (ow := []) (m := m_law_does) hF hm sc_law_does rfl rfl (fun _ _ _ _ _ _ us hl => match us, hl with | [_, _, _, _], _ => rfl) (by decide) (fun cdv A outer s H av pa E hp xs =>
    (ss_cons (ss_for xs (si_rng1 rfl T.z_range (sa_cons (se_bin (op_gAdd (xs.toXG)) (so_val (sv 3)) (so_val se_int)) sa_nil)) (sg_name (xs.toXG).nd rfl rfl (by first | exact Or.inl rfl | exact Or.inr rfl)) (ss_one (ss_for xs (si_list rfl (se_call (xs.toXG) h_law_spots (by decide) rfl (sa_cons (se_tup (sa_cons (sv 0) (sa_cons (sv 4) sa_nil))) sa_nil) rfl)) (sg_name (xs.toXG).nd rfl rfl (by first | exact Or.inl rfl | exact Or.inr rfl)) (ss_cons (ss_set (i := 6) xs.nd rfl rfl (by first | exact Or.inl rfl | exact Or.inr rfl) (se_call (xs.toXG) h_law_out (by decide) rfl (sa_cons (se_tup (sa_cons (sv 0) (sa_cons (sv 4) sa_nil))) (sa_cons (sv 2) (sa_cons (sv 5) sa_nil))) rfl))
    (ss_one (ss_if (st_bool (sw_and (st_cmp (op_gIsNot) (so_val (sv 6)) (so_val se_non)) (sw_and1 (st_cmp (op_gNe (xs.toXG)) (so_val (se_call (xs.toXG) h_law_out (by decide) rfl (sa_cons (se_tup (sa_cons (sv 0) (sa_cons (sv 4) sa_nil))) (sa_cons (sv 1) (sa_cons (sv 6) sa_nil))) rfl)) (so_val (sv 5)))))) (ss_one (ss_ret rfl se_bl)) ss_nil))))))
    (ss_one (ss_ret rfl se_bl)))) (fun h => by cases h)

/-! def law_all_steps -/
def N_law_all_steps : List Str := [Str.ofString "_law_ways", Str.ofString "_law_found", Str.ofString "_law_way"]
theorem sc_law_all_steps : FnScope N_law_all_steps [Str.ofString "_law_ways"] (defScope s_law_all_steps) := ⟨rfl, rfl, rfl, by decide +kernel, rfl, by decide +kernel, by decide +kernel⟩
def m_law_all_steps : MS := (mSeq (mSet 1 (mOp2 gAdd (mV (mOp2 gAdd (mV (mLc (mRng1 (mConsA (mVar 0) mNilA)) (mgName 2) mYes (mTup (mConsA (mLit (.str (Str.ofString "down"))) (mConsA (mVar 2) mNilA))) [2])) (mV (mLst (mConsA (mTup (mConsA (mLit (.str (Str.ofString "last"))) mNilA)) mNilA))))) (mV (mLc (mRng1 (mConsA (mVar 0) mNilA)) (mgName 2) mYes (mTup (mConsA (mLit (.str (Str.ofString "leaf"))) (mConsA (mVar 2) mNilA))) [2]))))
    (mRet (mOp2 gAdd (mV (mVar 1)) (mV (mLst (mConsA (mTup (mConsA (mLit (.str (Str.ofString "mirror"))) mNilA)) (mConsA (mTup (mConsA (mLit (.str (Str.ofString "next"))) mNilA)) (mConsA (mTup (mConsA (mLit (.str (Str.ofString "top"))) mNilA)) (mConsA (mTup (mConsA (mLit (.str (Str.ofString "up"))) mNilA)) mNilA)))))))))
def F_law_all_steps : Fn := bodyF false 3 m_law_all_steps
theorem k_law_all_steps (T : Txt K mg)  : Known P w K mg Tb base (Str.ofString "_law_all_steps") 1 false false 1 F_law_all_steps := by
  obtain ⟨f, fd, hm, hF⟩ := T.f_law_all_steps
  exact def_ok (N := N_law_all_steps) (ow := []) (m := m_law_all_steps) hF hm sc_law_all_steps rfl rfl (fun _ _ _ _ _ _ us hl => match us, hl with | [_], _ => rfl) (by decide) (fun cdv A outer s H av pa E hp xs =>
    (ss_cons (ss_set (i := 1) xs.nd rfl rfl (by first | exact Or.inl rfl | exact Or.inr rfl) (se_bin (op_gAdd (xs.toXG)) (so_val (se_bin (op_gAdd (xs.toXG)) (so_val (se_lc (own := [(Str.ofString "_law_way", 2)]) (xs.toXG) rfl (si_rng1 rfl T.z_range (sa_cons (sv 0) sa_nil)) (blkOk_by (N := N_law_all_steps) (sc := defScope s_law_all_steps) (by decide +kernel)) (fun s1 H1 C1 cl1 fp1 L1 => (sg_name ((xs.toXG).blk s1 H1 _ _ fp1 L1).nd rfl rfl (by first | exact Or.inl rfl | exact Or.inr rfl))) (fun s1 H1 C1 cl1 fp1 L1 => sts_nil) (fun s1 H1 C1 cl1 fp1 L1 => (se_tup (sa_cons se_str (sa_cons (sv 2) sa_nil)))))) (so_val (se_lst (sa_cons (se_tup (sa_cons se_str sa_nil)) sa_nil))))) (so_val (se_lc (own := [(Str.ofString "_law_way", 2)]) (xs.toXG) rfl (si_rng1 rfl T.z_range (sa_cons (sv 0) sa_nil)) (blkOk_by (N := N_law_all_steps) (sc := defScope s_law_all_steps) (by decide +kernel)) (fun s1 H1 C1 cl1 fp1 L1 => (sg_name ((xs.toXG).blk s1 H1 _ _ fp1 L1).nd rfl rfl (by first | exact Or.inl rfl | exact Or.inr rfl))) (fun s1 H1 C1 cl1 fp1 L1 => sts_nil) (fun s1 H1 C1 cl1 fp1 L1 => (se_tup (sa_cons se_str (sa_cons (sv 2) sa_nil))))))))
    (ss_one (ss_ret rfl (se_bin (op_gAdd (xs.toXG)) (so_val (sv 1)) (so_val (se_lst (sa_cons (se_tup (sa_cons se_str sa_nil)) (sa_cons (se_tup (sa_cons se_str sa_nil)) (sa_cons (se_tup (sa_cons se_str sa_nil)) (sa_cons (se_tup (sa_cons se_str sa_nil)) sa_nil))))))))))) (fun h => by cases h)

/-! def law_back -/
def N_law_back : List Str := [Str.ofString "_law_wood_here", Str.ofString "_law_ways", Str.ofString "_law_steps_so", Str.ofString "_law_found", Str.ofString "_law_step", Str.ofString "_law_other"]
theorem sc_law_back : FnScope N_law_back [Str.ofString "_law_wood_here", Str.ofString "_law_ways", Str.ofString "_law_steps_so"] (defScope s_law_back) := ⟨rfl, rfl, rfl, by decide +kernel, rfl, by decide +kernel, by decide +kernel⟩
def m_law_back_b1 : MS := (mSeq (mSet 5 (mDispGet [(Str.ofString "up", (.tup [(.str (Str.ofString "down")), (.int 0)])), (Str.ofString "down", (.tup [(.str (Str.ofString "up"))])), (Str.ofString "next", (.tup [(.str (Str.ofString "last"))])), (Str.ofString "last", (.tup [(.str (Str.ofString "next"))]))] (mOp2 gIdx (mV (mVar 4)) (mV (mLit (.int 0)))) (mTup (mConsA (mLit (.str (Str.ofString "mirror"))) mNilA))))
    (mSet 3 (mOp2 gAdd (mV (mVar 3)) (mV (mTup (mConsA (mVar 5) mNilA))))))
def m_law_back : MS := (mSeq (mSet 3 (mTup mNilA))
    (mSeq (mFor (mIter tupOf (mRevT (mVar 2))) (mgName 4) m_law_back_b1)
    (mRet (mVar 3))))
def F_law_back : Fn := bodyF true 6 m_law_back
theorem k_law_back (T : Txt K mg)  : Known P w K mg Tb base (Str.ofString "_law_back") 1 true false 3 F_law_back := by
  obtain ⟨f, fd, hm, hF⟩ := T.f_law_back
  exact def_ok (N := N_law_back) (ow := [0]) (m := m_law_back) hF hm sc_law_back rfl rfl (fun _ _ _ _ _ _ us hl => match us, hl with | [_, _, _], _ => rfl) (by decide) (fun cdv A outer s H av pa E hp xs =>
    (ss_cons (ss_set (i := 3) xs.nd rfl rfl (by first | exact Or.inl rfl | exact Or.inr rfl) (se_tup sa_nil))
    (ss_cons (ss_for xs (si_tup rfl (se_revT rfl (sv 2))) (sg_name (xs.toXG).nd rfl rfl (by first | exact Or.inl rfl | exact Or.inr rfl)) (ss_cons (ss_set (i := 5) xs.nd rfl rfl (by first | exact Or.inl rfl | exact Or.inr rfl) (se_dispGet (xs.toXG) (cp_cons (cv_tup (ca_str (ca_int ca_nil))) (cp_cons (cv_tup (ca_str ca_nil)) (cp_cons (cv_tup (ca_str ca_nil)) (cp_cons (cv_tup (ca_str ca_nil)) cp_nil)))) (se_ix (ix_g (xs.toXG)) (so_val (sv 4)) (so_val se_int)) (se_tup (sa_cons se_str sa_nil))))
    (ss_one (ss_set (i := 3) xs.nd rfl rfl (by first | exact Or.inl rfl | exact Or.inr rfl) (se_bin (op_gAdd (xs.toXG)) (so_val (sv 3)) (so_val (se_tup (sa_cons (sv 5) sa_nil))))))))
    (ss_one (ss_ret rfl (sv 3)))))) (fun h => by cases h)

/-! def law_first_right -/
def N_law_first_right : List Str := [Str.ofString "_law_ways", Str.ofString "_law_steps_so", Str.ofString "_law_told", Str.ofString "_law_most", Str.ofString "_law_lines", Str.ofString "_law_step", Str.ofString "_law_later", Str.ofString "_law_line"]
theorem sc_law_first_right : FnScope N_law_first_right [Str.ofString "_law_ways", Str.ofString "_law_steps_so"] (defScope s_law_first_right) := ⟨rfl, rfl, rfl, by decide +kernel, rfl, by decide +kernel, by decide +kernel⟩
def m_law_first_right_b1 : MS := (mSet 4 (mOp2 gAdd (mV (mVar 4)) (mV (mLc (mIter seqOf (mCall F_law_all_steps (mConsA (mVar 0) mNilA))) (mgName 6) mYes (mTup (mConsA (mVar 5) (mConsA (mVar 6) mNilA))) [6]))))
def m_law_first_right_b2 : MS := (mSeq (mIfS (mTst (mOp2 gEq (mV (mVar 7)) (mV (mVar 2)))) (mRet (mLit (.bl true))) mNx)
    (mIfS (mAndT (mTst (mCall F_law_does (mConsA (mVar 0) (mConsA (mVar 7) (mConsA (mVar 1) (mConsA (mLit (.int 3)) mNilA)))))) (mTst (mCall F_undoes (mConsA (mVar 0) (mConsA (mVar 7) (mConsA (mVar 1) mNilA)))))) (mRet (mLit (.bl false))) mNx))
def m_law_first_right : MS := (mSeq (mPar [2, 3] (mConsA (mCall F_undo_for (mConsA (mVar 0) (mConsA (mVar 1) mNilA))) (mConsA (mIf (mTst (mOp2 gEq (mV (mVar 0)) (mV (mLit (.int 2))))) (mLit (.int 5)) (mLit (.int 4))) mNilA)))
    (mSeq (mIfS (mAndT (mTst (mOp2 gIsNot (mV (mVar 2)) (mV (mLit .non)))) (mOrT (mNotT (mTst (mCall F_law_are_steps (mConsA (mVar 0) (mConsA (mVar 2) mNilA))))) (mTst (mOp2 gGt (mV (mFn fLen (mConsO (mV (mVar 2)) mNilO))) (mV (mLit (.int 2))))))) (mRet (mLit (.bl false))) mNx)
    (mSeq (mIfS (mAndT (mTst (mOp2 gIsNot (mV (mVar 2)) (mV (mLit .non)))) (mNotT (mTst (mCall F_law_does (mConsA (mVar 0) (mConsA (mVar 2) (mConsA (mVar 1) (mConsA (mVar 3) mNilA)))))))) (mRet (mLit (.bl false))) mNx)
    (mSeq (mSet 4 (mOp2 gAdd (mV (mLst (mConsA (mTup mNilA) mNilA))) (mV (mLc (mIter seqOf (mCall F_law_all_steps (mConsA (mVar 0) mNilA))) (mgName 5) mYes (mTup (mConsA (mVar 5) mNilA)) [5]))))
    (mSeq (mFor (mIter seqOf (mCall F_law_all_steps (mConsA (mVar 0) mNilA))) (mgName 5) m_law_first_right_b1)
    (mSeq (mFor (mIter seqOf (mVar 4)) (mgName 7) m_law_first_right_b2)
    (mRet (mOp2 gIs (mV (mVar 2)) (mV (mLit .non))))))))))
def F_law_first_right : Fn := bodyF false 8 m_law_first_right
theorem k_law_first_right (T : Txt K mg) (h_law_all_steps : Known P w K mg Tb base (Str.ofString "_law_all_steps") 1 false false 1 F_law_all_steps) (h_law_are_steps : Known P w K mg Tb base (Str.ofString "_law_are_steps") 3 false false 2 F_law_are_steps) (h_law_does : Known P w K mg Tb base (Str.ofString "_law_does") 4 false false 4 F_law_does) (h_undo_for : Known P w K mg Tb base (Str.ofString "undo_for") 6 false false 2 F_undo_for) (h_undoes : Known P w K mg Tb base (Str.ofString "undoes") 6 false false 3 F_undoes) : Known P w K mg Tb base (Str.ofString "_law_first_right") 7 false false 2 F_law_first_right := by
  obtain ⟨f, fd, hm, hF⟩ := T.f_law_first_right
  exact def_ok (N := N_law_first_right) (ow := []) (m := m_law_first_right) hF hm sc_law_first_right rfl rfl (fun _ _ _ _ _ _ us hl => match us, hl with | [_, _], _ => rfl) (by decide) (fun cdv A outer s H av pa E hp xs =>
    (ss_cons (ss_par (xs.toXG) rfl rfl rfl rfl (by decide) rfl rfl (sa_cons (se_call (xs.toXG) h_undo_for (by decide) rfl (sa_cons (sv 0) (sa_cons (sv 1) sa_nil)) rfl) (sa_cons (se_if (st_cmp (op_gEq (xs.toXG)) (so_val (sv 0)) (so_val se_int)) se_int se_int) sa_nil)) (by rfl))
    (ss_cons (ss_if (st_bool (sw_and (st_cmp (op_gIsNot) (so_val (sv 2)) (so_val se_non)) (sw_and1 (st_bool (sw_or (st_not (st_val (se_call (xs.toXG) h_law_are_steps (by decide) rfl (sa_cons (sv 0) (sa_cons (sv 2) sa_nil)) rfl))) (sw_or1 (st_cmp (op_gGt) (so_val (se_fnB (cf_len (xs.toXG)) rfl T.z_len bt_len (sos_cons (so_val (sv 2)) sos_nil))) (so_val se_int)))))))) (ss_one (ss_ret rfl se_bl)) ss_nil)
    (ss_cons (ss_if (st_bool (sw_and (st_cmp (op_gIsNot) (so_val (sv 2)) (so_val se_non)) (sw_and1 (st_not (st_val (se_call (xs.toXG) h_law_does (by decide) rfl (sa_cons (sv 0) (sa_cons (sv 2) (sa_cons (sv 1) (sa_cons (sv 3) sa_nil)))) rfl)))))) (ss_one (ss_ret rfl se_bl)) ss_nil)
    (ss_cons (ss_set (i := 4) xs.nd rfl rfl (by first | exact Or.inl rfl | exact Or.inr rfl) (se_bin (op_gAdd (xs.toXG)) (so_val (se_lst (sa_cons (se_tup sa_nil) sa_nil))) (so_val (se_lc (own := [(Str.ofString "_law_step", 5)]) (xs.toXG) rfl (si_list rfl (se_call (xs.toXG) h_law_all_steps (by decide) rfl (sa_cons (sv 0) sa_nil) rfl)) (blkOk_by (N := N_law_first_right) (sc := defScope s_law_first_right) (by decide +kernel)) (fun s1 H1 C1 cl1 fp1 L1 => (sg_name ((xs.toXG).blk s1 H1 _ _ fp1 L1).nd rfl rfl (by first | exact Or.inl rfl | exact Or.inr rfl))) (fun s1 H1 C1 cl1 fp1 L1 => sts_nil) (fun s1 H1 C1 cl1 fp1 L1 => (se_tup (sa_cons (sv 5) sa_nil)))))))
    (ss_cons (ss_for xs (si_list rfl (se_call (xs.toXG) h_law_all_steps (by decide) rfl (sa_cons (sv 0) sa_nil) rfl)) (sg_name (xs.toXG).nd rfl rfl (by first | exact Or.inl rfl | exact Or.inr rfl)) (ss_one (ss_set (i := 4) xs.nd rfl rfl (by first | exact Or.inl rfl | exact Or.inr rfl) (se_bin (op_gAdd (xs.toXG)) (so_val (sv 4)) (so_val (se_lc (own := [(Str.ofString "_law_later", 6)]) (xs.toXG) rfl (si_list rfl (se_call (xs.toXG) h_law_all_steps (by decide) rfl (sa_cons (sv 0) sa_nil) rfl)) (blkOk_by (N := N_law_first_right) (sc := defScope s_law_first_right) (by decide +kernel)) (fun s1 H1 C1 cl1 fp1 L1 => (sg_name ((xs.toXG).blk s1 H1 _ _ fp1 L1).nd rfl rfl (by first | exact Or.inl rfl | exact Or.inr rfl))) (fun s1 H1 C1 cl1 fp1 L1 => sts_nil) (fun s1 H1 C1 cl1 fp1 L1 => (se_tup (sa_cons (sv 5) (sa_cons (sv 6) sa_nil))))))))))
    (ss_cons (ss_for xs (si_list rfl (sv 4)) (sg_name (xs.toXG).nd rfl rfl (by first | exact Or.inl rfl | exact Or.inr rfl)) (ss_cons (ss_if (st_cmp (op_gEq (xs.toXG)) (so_val (sv 7)) (so_val (sv 2))) (ss_one (ss_ret rfl se_bl)) ss_nil)
    (ss_one (ss_if (st_bool (sw_and (st_val (se_call (xs.toXG) h_law_does (by decide) rfl (sa_cons (sv 0) (sa_cons (sv 7) (sa_cons (sv 1) (sa_cons se_int sa_nil)))) rfl)) (sw_and1 (st_val (se_call (xs.toXG) h_undoes (by decide) rfl (sa_cons (sv 0) (sa_cons (sv 7) (sa_cons (sv 1) sa_nil))) rfl))))) (ss_one (ss_ret rfl se_bl)) ss_nil))))
    (ss_one (ss_ret rfl (se_cmp (op_gIs) (so_val (sv 2)) (so_val se_non))))))))))) (fun h => by cases h)

/-! def law -/
def N_law : List Str := [Str.ofString "_law_script", Str.ofString "_law_k", Str.ofString "_law_wood_here", Str.ofString "_law_turn", Str.ofString "_law_ways", Str.ofString "_law_steps_so", Str.ofString "_law_back_here", Str.ofString "_law_one", Str.ofString "_law_told", Str.ofString "_law_down", Str.ofString "_law_forth"]
theorem sc_law : FnScope N_law [Str.ofString "_law_script"] (defScope s_law) := ⟨rfl, rfl, rfl, by decide +kernel, rfl, by decide +kernel, by decide +kernel⟩
def m_law_b1 : MS := (mSeq (mSet 8 (mCall F_undoes (mConsA (mVar 4) (mConsA (mVar 7) (mConsA (mVar 5) mNilA)))))
    (mSeq (mIfS (mOrT (mNotT (mTst (mFn fIsi (mConsO (mV (mVar 8)) (mConsO (mV (mLit (.ty "bool"))) mNilO))))) (mAndT (mTst (mVar 8)) (mNotT (mTst (mCall F_law_does (mConsA (mVar 4) (mConsA (mVar 7) (mConsA (mVar 5) (mConsA (mIf (mTst (mOp2 gEq (mV (mVar 4)) (mV (mLit (.int 2))))) (mLit (.int 5)) (mLit (.int 4))) mNilA))))))))) (mRet (mLit (.bl false))) mNx)
    (mIfS (mAndT (mNotT (mTst (mVar 8))) (mTst (mCall F_law_does (mConsA (mVar 4) (mConsA (mVar 7) (mConsA (mVar 5) (mConsA (mIf (mTst (mOp2 gEq (mV (mVar 4)) (mV (mLit (.int 2))))) (mLit (.int 7)) (mLit (.int 5))) mNilA))))))) (mRet (mLit (.bl false))) mNx)))
def m_law_b2 : MS := (mSeq (mSet 4 (mOp2 gAdd (mV (mLit (.int 2))) (mV (mCallO F_law_twig 2 (mConsA (mLit (.int 2)) mNilA)))))
    (mSeq (mSet 5 (mCallO F_law_steps 2 (mConsA (mVar 4) (mConsA (mLit (.int 3)) mNilA))))
    (mSeq (mSet 6 (mCallO F_law_back 2 (mConsA (mVar 4) (mConsA (mVar 5) mNilA))))
    (mFor (mIter tupOf (mTup (mConsA (mVar 6) (mConsA (mCallO F_law_near 2 (mConsA (mVar 4) (mConsA (mVar 6) mNilA))) (mConsA (mCallO F_law_steps 2 (mConsA (mVar 4) (mConsA (mLit (.int 2)) mNilA))) mNilA))))) (mgName 7) m_law_b1))))
def m_law_b3 : MS := (mSeq (mSet 2 (mCall F_law_wood (mConsA (mVar 0) (mConsA (mVar 1) mNilA))))
    (mSeq (mFor (mRng1 (mConsA (mLit (.int 3)) mNilA)) (mgName 3) m_law_b2)
    (mSeq (mIfS (mNotT (mTst (mCall F_law_first_right (mConsA (mVar 4) (mConsA (mCallO F_law_steps 2 (mConsA (mVar 4) (mConsA (mLit (.int 2)) mNilA))) mNilA))))) (mRet (mLit (.bl false))) mNx)
    (mSeq (mIfS (mTst (mOp2 gNe (mV (mTold ERS [2] (mCall F_undoes (mConsA (mLit .non) (mConsA (mLit .non) (mConsA (mLit .non) mNilA)))))) (mV (mTup (mConsA (mLit (.str (Str.ofString "InvalidWays +"))) mNilA))))) (mRet (mLit (.bl false))) mNx)
    (mSeq (mIfS (mTst (mOp2 gNe (mV (mTold ERS [2] (mCall F_undoes (mConsA (mVar 4) (mConsA (mTup mNilA) (mConsA (mLst (mConsA (mTup (mConsA (mLit (.str (Str.ofString "up"))) mNilA)) mNilA)) mNilA)))))) (mV (mTup (mConsA (mLit (.str (Str.ofString "InvalidScript +"))) mNilA))))) (mRet (mLit (.bl false))) mNx)
    (mIfS (mTst (mOp2 gNe (mV (mTold ERS [2] (mCall F_undo_for (mConsA (mVar 4) (mConsA (mLit .non) mNilA))))) (mV (mTup (mConsA (mLit (.str (Str.ofString "InvalidScript +"))) mNilA))))) (mRet (mLit (.bl false))) mNx))))))
def m_law : MS := (mSeq (mFor (mRng1 (mConsA (mFn fMax (mConsO (mV (mLit (.int 1))) (mConsO (mV (mFn fMin (mConsO (mV (mLit (.int 4))) (mConsO (mV (mFn fLen (mConsO (mV (mVar 0)) mNilO))) mNilO)))) mNilO))) mNilA)) (mgName 1) m_law_b3)
    (mSeq (mAsg (mTup (mConsA (mTup (mConsA (mLit (.str (Str.ofString "down"))) (mConsA (mLit (.int 0)) mNilA))) (mConsA (mTup (mConsA (mLit (.str (Str.ofString "next"))) mNilA)) (mConsA (mTup (mConsA (mLit (.str (Str.ofString "last"))) mNilA)) mNilA)))) (mgTup (mgCons (mgName 9) (mgCons (mgName 10) (mgCons (mgName 6) mgNil)))))
    (mSeq (mIfS (mOrT (mTst (mOp2 gNe (mV (mCall F_undo_for (mConsA (mLit (.int 2)) (mConsA (mTup (mConsA (mVar 9) mNilA)) mNilA)))) (mV (mTup (mConsA (mTup (mConsA (mLit (.str (Str.ofString "up"))) mNilA)) mNilA))))) (mTst (mOp2 gIsNot (mV (mCall F_undo_for (mConsA (mLit (.int 2)) (mConsA (mTup (mConsA (mTup (mConsA (mLit (.str (Str.ofString "up"))) mNilA)) (mConsA (mVar 10) (mConsA (mVar 9) mNilA)))) mNilA)))) (mV (mLit .non))))) (mRet (mLit (.bl false))) mNx)
    (mRet (mAndV (mOp2 gEq (mV (mCall F_undo_for (mConsA (mLit (.int 3)) (mConsA (mTup (mConsA (mTup (mConsA (mLit (.str (Str.ofString "mirror"))) mNilA)) (mConsA (mVar 10) mNilA))) mNilA)))) (mV (mTup (mConsA (mVar 6) (mConsA (mTup (mConsA (mLit (.str (Str.ofString "mirror"))) mNilA)) mNilA))))) (mOp2 gEq (mV (mCall F_undo_for (mConsA (mLit (.int 2)) (mConsA (mTup mNilA) mNilA)))) (mV (mTup mNilA))))))))
def F_law : Fn := bodyF false 11 m_law
theorem k_law (T : Txt K mg) (h_law_back : Known P w K mg Tb base (Str.ofString "_law_back") 1 true false 3 F_law_back) (h_law_does : Known P w K mg Tb base (Str.ofString "_law_does") 4 false false 4 F_law_does) (h_law_first_right : Known P w K mg Tb base (Str.ofString "_law_first_right") 7 false false 2 F_law_first_right) (h_law_near : Known P w K mg Tb base (Str.ofString "_law_near") 4 true false 3 F_law_near) (h_law_steps : Known P w K mg Tb base (Str.ofString "_law_steps") 4 true false 3 F_law_steps) (h_law_twig : Known P w K mg Tb base (Str.ofString "_law_twig") 1 true false 2 F_law_twig) (h_law_wood : Known P w K mg Tb base (Str.ofString "_law_wood") 1 false true 2 F_law_wood) (h_undo_for : Known P w K mg Tb base (Str.ofString "undo_for") 6 false false 2 F_undo_for) (h_undoes : Known P w K mg Tb base (Str.ofString "undoes") 6 false false 3 F_undoes) (h__law_call : KnownT P w K mg Tb base 1 ERS) {c Pt : Addr} (TB : LamX.TabB base mg c Pt) (hmT : (Pt, Str.ofString "law.<locals>.<lambda>") ∈ Tb) (hU : ∀ p ∈ Tb, p.1 = Pt → p.2 = Str.ofString "law.<locals>.<lambda>") {f : Addr} {fd : FuncData} (hm : mg (Str.ofString "law") = some (.ref f)) (hF : Fun K (Str.ofString "law") (Str.ofString "law") s_law f fd) (hc : fd.code = .ref c) : FnOk P w K mg base (L2N.CX P w) 9 f fd [Str.ofString "_law_script"] (spF K mg Tb 1 false false F_law) := by
  exact fn_ok (N := N_law) (ow := [2]) (m := m_law) hF hm sc_law rfl rfl (fun _ _ _ _ _ _ us hl => match us, hl with | [_], _ => rfl) (by decide) (fun cdv hcd A outer s H av pa E hp xs => by
    have hcode : cdv = .ref c := hcd.symm.trans hc
    exact (ss_cons (ss_for xs (si_rng1 rfl T.z_range (sa_cons (se_fnB (cf_max (xs.toXG)) rfl T.z_max bt_max (sos_cons (so_val se_int) (sos_cons (so_val (se_fnB (cf_min (xs.toXG)) rfl T.z_min bt_min (sos_cons (so_val se_int) (sos_cons (so_val (se_fnB (cf_len (xs.toXG)) rfl T.z_len bt_len (sos_cons (so_val (sv 0)) sos_nil))) sos_nil)))) sos_nil))) sa_nil)) (sg_name (xs.toXG).nd rfl rfl (by first | exact Or.inl rfl | exact Or.inr rfl)) (ss_cons (ss_setF (i := 2) xs.nd rfl (fun h => absurd h (by decide)) rfl (by first | exact Or.inl rfl | exact Or.inr rfl) (sf_call (xs.toXG) h_law_wood (by decide) rfl (sa_cons (sv 0) (sa_cons (sv 1) sa_nil)) rfl))
    (ss_cons (ss_for xs (si_rng1 rfl T.z_range (sa_cons se_int sa_nil)) (sg_name (xs.toXG).nd rfl rfl (by first | exact Or.inl rfl | exact Or.inr rfl)) (ss_cons (ss_set (i := 4) xs.nd rfl rfl (by first | exact Or.inl rfl | exact Or.inr rfl) (se_bin (op_gAdd (xs.toXG)) (so_val se_int) (so_val (se_callO (xs.toXG) h_law_twig (by decide) rfl rfl rfl (by first | exact Or.inl rfl | exact Or.inr (Or.inl rfl) | exact Or.inr (Or.inr rfl)) (sa_cons se_int sa_nil) rfl))))
    (ss_cons (ss_set (i := 5) xs.nd rfl rfl (by first | exact Or.inl rfl | exact Or.inr rfl) (se_callO (xs.toXG) h_law_steps (by decide) rfl rfl rfl (by first | exact Or.inl rfl | exact Or.inr (Or.inl rfl) | exact Or.inr (Or.inr rfl)) (sa_cons (sv 4) (sa_cons se_int sa_nil)) rfl))
    (ss_cons (ss_set (i := 6) xs.nd rfl rfl (by first | exact Or.inl rfl | exact Or.inr rfl) (se_callO (xs.toXG) h_law_back (by decide) rfl rfl rfl (by first | exact Or.inl rfl | exact Or.inr (Or.inl rfl) | exact Or.inr (Or.inr rfl)) (sa_cons (sv 4) (sa_cons (sv 5) sa_nil)) rfl))
    (ss_one (ss_for xs (si_tup rfl (se_tup (sa_cons (sv 6) (sa_cons (se_callO (xs.toXG) h_law_near (by decide) rfl rfl rfl (by first | exact Or.inl rfl | exact Or.inr (Or.inl rfl) | exact Or.inr (Or.inr rfl)) (sa_cons (sv 4) (sa_cons (sv 6) sa_nil)) rfl) (sa_cons (se_callO (xs.toXG) h_law_steps (by decide) rfl rfl rfl (by first | exact Or.inl rfl | exact Or.inr (Or.inl rfl) | exact Or.inr (Or.inr rfl)) (sa_cons (sv 4) (sa_cons se_int sa_nil)) rfl) sa_nil))))) (sg_name (xs.toXG).nd rfl rfl (by first | exact Or.inl rfl | exact Or.inr rfl)) (ss_cons (ss_set (i := 8) xs.nd rfl rfl (by first | exact Or.inl rfl | exact Or.inr rfl) (se_call (xs.toXG) h_undoes (by decide) rfl (sa_cons (sv 4) (sa_cons (sv 7) (sa_cons (sv 5) sa_nil))) rfl))
    (ss_cons (ss_if (st_bool (sw_or (st_not (st_val (se_fnB (cf_isi (xs.toXG)) rfl T.z_isinstance bt_isinstance (sos_cons (so_val (sv 8)) (sos_cons (so_val (se_ty rfl T.z_bool bt_bool)) sos_nil))))) (sw_or1 (st_bool (sw_and (st_val (sv 8)) (sw_and1 (st_not (st_val (se_call (xs.toXG) h_law_does (by decide) rfl (sa_cons (sv 4) (sa_cons (sv 7) (sa_cons (sv 5) (sa_cons (se_if (st_cmp (op_gEq (xs.toXG)) (so_val (sv 4)) (so_val se_int)) se_int se_int) sa_nil)))) rfl))))))))) (ss_one (ss_ret rfl se_bl)) ss_nil)
    (ss_one (ss_if (st_bool (sw_and (st_not (st_val (sv 8))) (sw_and1 (st_val (se_call (xs.toXG) h_law_does (by decide) rfl (sa_cons (sv 4) (sa_cons (sv 7) (sa_cons (sv 5) (sa_cons (se_if (st_cmp (op_gEq (xs.toXG)) (so_val (sv 4)) (so_val se_int)) se_int se_int) sa_nil)))) rfl))))) (ss_one (ss_ret rfl se_bl)) ss_nil))))))))))
    (ss_cons (ss_if (st_not (st_val (se_call (xs.toXG) h_law_first_right (by decide) rfl (sa_cons (sv 4) (sa_cons (se_callO (xs.toXG) h_law_steps (by decide) rfl rfl rfl (by first | exact Or.inl rfl | exact Or.inr (Or.inl rfl) | exact Or.inr (Or.inr rfl)) (sa_cons (sv 4) (sa_cons se_int sa_nil)) rfl) sa_nil)) rfl))) (ss_one (ss_ret rfl se_bl)) ss_nil)
    (ss_cons (ss_if (st_cmp (op_gNe (xs.toXG)) (so_val (se_told (xs.toXG) (h__law_call.mono (by decide)) rfl TB hcode hmT hU (LamX.lamS_by (by rfl)) (fun A1 o1 s1 H1 E1 f1 c1 av1 x1 => (se_call x1 h_undoes (by decide) rfl (sa_cons se_non (sa_cons se_non (sa_cons se_non sa_nil))) rfl)))) (so_val (se_tup (sa_cons se_str sa_nil)))) (ss_one (ss_ret rfl se_bl)) ss_nil)
    (ss_cons (ss_if (st_cmp (op_gNe (xs.toXG)) (so_val (se_told (xs.toXG) (h__law_call.mono (by decide)) rfl TB hcode hmT hU (LamX.lamS_by (by rfl)) (fun A2 o2 s2 H2 E2 f2 c2 av2 x2 => (se_call x2 h_undoes (by decide) rfl (sa_cons (sv 4) (sa_cons (se_tup sa_nil) (sa_cons (se_lst (sa_cons (se_tup (sa_cons se_str sa_nil)) sa_nil)) sa_nil))) rfl)))) (so_val (se_tup (sa_cons se_str sa_nil)))) (ss_one (ss_ret rfl se_bl)) ss_nil)
    (ss_one (ss_if (st_cmp (op_gNe (xs.toXG)) (so_val (se_told (xs.toXG) (h__law_call.mono (by decide)) rfl TB hcode hmT hU (LamX.lamS_by (by rfl)) (fun A3 o3 s3 H3 E3 f3 c3 av3 x3 => (se_call x3 h_undo_for (by decide) rfl (sa_cons (sv 4) (sa_cons se_non sa_nil)) rfl)))) (so_val (se_tup (sa_cons se_str sa_nil)))) (ss_one (ss_ret rfl se_bl)) ss_nil))))))))
    (ss_cons (ss_asg (se_tup (sa_cons (se_tup (sa_cons se_str (sa_cons se_int sa_nil))) (sa_cons (se_tup (sa_cons se_str sa_nil)) (sa_cons (se_tup (sa_cons se_str sa_nil)) sa_nil)))) (sg_tup rfl rfl (sgs_cons (sg_name (xs.toXG).nd rfl rfl (by first | exact Or.inl rfl | exact Or.inr rfl)) (sgs_cons (sg_name (xs.toXG).nd rfl rfl (by first | exact Or.inl rfl | exact Or.inr rfl)) (sgs_cons (sg_name (xs.toXG).nd rfl rfl (by first | exact Or.inl rfl | exact Or.inr rfl)) sgs_nil))) (mgCons_len (mgCons_len (mgCons_len (fun _ _ _ h => mgNil_len h))))))
    (ss_cons (ss_if (st_bool (sw_or (st_cmp (op_gNe (xs.toXG)) (so_val (se_call (xs.toXG) h_undo_for (by decide) rfl (sa_cons se_int (sa_cons (se_tup (sa_cons (sv 9) sa_nil)) sa_nil)) rfl)) (so_val (se_tup (sa_cons (se_tup (sa_cons se_str sa_nil)) sa_nil)))) (sw_or1 (st_cmp (op_gIsNot) (so_val (se_call (xs.toXG) h_undo_for (by decide) rfl (sa_cons se_int (sa_cons (se_tup (sa_cons (se_tup (sa_cons se_str sa_nil)) (sa_cons (sv 10) (sa_cons (sv 9) sa_nil)))) sa_nil)) rfl)) (so_val se_non))))) (ss_one (ss_ret rfl se_bl)) ss_nil)
    (ss_one (ss_ret rfl (se_and (se_cmp (op_gEq (xs.toXG)) (so_val (se_call (xs.toXG) h_undo_for (by decide) rfl (sa_cons se_int (sa_cons (se_tup (sa_cons (se_tup (sa_cons se_str sa_nil)) (sa_cons (sv 10) sa_nil))) sa_nil)) rfl)) (so_val (se_tup (sa_cons (sv 6) (sa_cons (se_tup (sa_cons se_str sa_nil)) sa_nil))))) (se_one (se_cmp (op_gEq (xs.toXG)) (so_val (se_call (xs.toXG) h_undo_for (by decide) rfl (sa_cons se_int (sa_cons (se_tup sa_nil) sa_nil)) rfl)) (so_val (se_tup sa_nil))))))))))) (fun h => by cases h)

end
end FT

set_option linter.all false
set_option exponentiation.threshold 10000
/-! FM: trees, places, steps, as plain numbers. -/
namespace FM
inductive S where
  | up | dn (w : Nat) | lf (w : Nat) | nx | ls | mi | tp
deriving DecidableEq
abbrev Pl := Nat × Nat
def step (k d : Nat) : S → Pl → Option Pl
  | .up, p => if 0 < p.1 then some (p.1 - 1, p.2 / k) else none
  | .dn w, p => if p.1 < d then some (p.1 + 1, p.2 * k + w) else none
  | .lf w, p => some (d, p.2 * k ^ (d - p.1) + w * ((k ^ (d - p.1) - 1) / (k - 1)))
  | .nx, p => some (p.1, (p.2 + 1) % k ^ p.1)
  | .ls, p => some (p.1, (p.2 + (k ^ p.1 - 1)) % k ^ p.1)
  | .mi, p => some (p.1, k ^ p.1 - 1 - p.2)
  | .tp, _ => some (0, 0)
def walked (k d : Nat) : List S → Option Pl → Option Pl
  | [], p => p
  | s :: ss, p => walked k d ss (p.bind (step k d s))
/-- a step of so many ways -/
def SOk (k : Nat) : S → Prop
  | .dn w => w < k
  | .lf w => w < k
  | _ => True
/-- a place of a tree -/
structure POk (k d : Nat) (p : Pl) : Prop where
  lv : p.1 ≤ d
  nu : p.2 < k ^ p.1
structure TOk (k d : Nat) : Prop where
  k2 : k = 2 ∨ k = 3
  dp : d ≤ 60
theorem TOk.pos {k d : Nat} (t : TOk k d) : 0 < k := by rcases t.k2 with h | h <;> omega
theorem pow_big {k n : Nat} (hk : k ≤ 3) (hn : n ≤ 1000) : k ^ n < 2 ^ 2000 := by
  have a : k ^ n ≤ 3 ^ n := Nat.pow_le_pow_left hk n
  have b : 3 ^ n ≤ 4 ^ n := Nat.pow_le_pow_left (by decide) n
  have c : 4 ^ n ≤ 4 ^ 1000 → 4 ^ n ≤ 2 ^ 2000 := fun h => Nat.le_trans h (by rw [show (4 : Nat) = 2 ^ 2 from rfl, ← Nat.pow_mul]; exact Nat.le_refl _)
  rcases Nat.lt_or_ge n 1000 with h | h
  · have : 4 ^ n < 4 ^ 1000 := Nat.pow_lt_pow_right (by decide) h
    have e : (4 : Nat) ^ 1000 = 2 ^ 2000 := by rw [show (4 : Nat) = 2 ^ 2 from rfl, ← Nat.pow_mul]
    omega
  · have e : n = 1000 := by omega
    subst e
    have : (3 : Nat) ^ 1000 < 4 ^ 1000 := Nat.pow_lt_pow_left (by decide) (by decide)
    have e : (4 : Nat) ^ 1000 = 2 ^ 2000 := by rw [show (4 : Nat) = 2 ^ 2 from rfl, ← Nat.pow_mul]
    omega
/-- 1 + k + k^2 + .. -/
def geo (k : Nat) : Nat → Nat
  | 0 => 0
  | n + 1 => geo k n * k + 1
theorem geo_eq {k : Nat} (h : 2 ≤ k) : ∀ n, geo k n * (k - 1) + 1 = k ^ n
  | 0 => by simp [geo]
  | n + 1 => by
    have ih := geo_eq h n
    rw [geo, Nat.pow_succ, ← ih, Nat.add_mul, Nat.add_mul]
    have e : geo k n * k * (k - 1) = geo k n * (k - 1) * k := by rw [Nat.mul_assoc, Nat.mul_comm k, ← Nat.mul_assoc]
    omega
theorem geo_div {k : Nat} (h : 2 ≤ k) (n : Nat) : (k ^ n - 1) / (k - 1) = geo k n := by
  rw [← geo_eq h n, Nat.add_sub_cancel, Nat.mul_div_cancel _ (by omega)]
theorem step_ok {k d : Nat} {s : S} {p q : Pl} (t : TOk k d) (hs : SOk k s) (hp : POk k d p) (h : step k d s p = some q) : POk k d q := by
  have hk := t.pos
  obtain ⟨l, n⟩ := p
  obtain ⟨hl, hn⟩ := hp
  simp only at hl hn
  cases s with
  | up =>
    simp only [step] at h
    split at h
    · rename_i h0
      cases h
      refine ⟨by simp only; omega, ?_⟩
      simp only
      refine (Nat.div_lt_iff_lt_mul hk).mpr ?_
      have e : k ^ (l - 1) * k = k ^ l := by rw [← Nat.pow_succ]; congr 1; omega
      rw [e]
      exact hn
    · cases h
  | dn w =>
    simp only [step] at h
    split at h
    · cases h
      refine ⟨by simp only; omega, ?_⟩
      have hw : w < k := hs
      simp only
      rw [Nat.pow_succ]
      have : n + 1 ≤ k ^ l := hn
      have := Nat.mul_le_mul_right k this
      rw [Nat.add_mul] at this
      omega
    · cases h
  | lf w =>
    simp only [step] at h
    cases h
    refine ⟨Nat.le_refl _, ?_⟩
    have hw : w < k := hs
    have h2 : 2 ≤ k := by rcases t.k2 with h | h <;> omega
    simp only
    rw [geo_div h2]
    have g := geo_eq h2 (d - l)
    have : n + 1 ≤ k ^ l := hn
    have := Nat.mul_le_mul_right (k ^ (d - l)) this
    rw [← Nat.pow_add, show l + (d - l) = d by omega, Nat.add_mul] at this
    have w1 : w * geo k (d - l) ≤ (k - 1) * geo k (d - l) := Nat.mul_le_mul_right _ (by omega)
    rw [Nat.mul_comm (k - 1)] at w1
    omega
  | nx => cases h; exact ⟨hl, Nat.mod_lt _ (Nat.pow_pos hk)⟩
  | ls => cases h; exact ⟨hl, Nat.mod_lt _ (Nat.pow_pos hk)⟩
  | mi => cases h; exact ⟨hl, by simp only; omega⟩
  | tp => cases h; exact ⟨Nat.zero_le _, by simp⟩
theorem walked_none (k d : Nat) : ∀ ss, walked k d ss none = none
  | [] => rfl
  | _ :: ss => walked_none k d ss
theorem walked_ok {k d : Nat} (t : TOk k d) : ∀ {ss : List S} {p q : Pl}, (∀ s ∈ ss, SOk k s) → POk k d p → walked k d ss (some p) = some q → POk k d q
  | [], p, q, _, hp, h => by cases h; exact hp
  | s :: ss, p, q, hs, hp, h => by
    rw [walked, Option.bind_some] at h
    cases e : step k d s p with
    | none => rw [e, walked_none] at h; cases h
    | some r =>
      rw [e] at h
      exact walked_ok t (fun s' h' => hs s' (List.mem_cons_of_mem _ h')) (step_ok t (hs s List.mem_cons_self) hp e) h
theorem walked_append (k d : Nat) : ∀ (a b : List S) (p : Option Pl), walked k d (a ++ b) p = walked k d b (walked k d a p)
  | [], _, _ => rfl
  | s :: a, b, p => walked_append k d a b _
theorem step_lev (k d : Nat) (s : S) (l n m : Nat) : (step k d s (l, n)).map (·.1) = (step k d s (l, m)).map (·.1) := by
  cases s with
  | up => simp only [step]; split <;> rfl
  | dn w => simp only [step]; split <;> rfl
  | _ => rfl
theorem walked_lev (k d : Nat) : ∀ (ss : List S) (p q : Option Pl), p.map (·.1) = q.map (·.1) → (walked k d ss p).map (·.1) = (walked k d ss q).map (·.1)
  | [], _, _, h => h
  | s :: ss, p, q, h => by
    refine walked_lev k d ss _ _ ?_
    cases p with
    | none => cases q with
      | none => rfl
      | some b => cases h
    | some a => cases q with
      | none => cases h
      | some b =>
        obtain ⟨l, n⟩ := a
        obtain ⟨l', m⟩ := b
        have e : l = l' := Option.some.inj h
        subst e
        exact step_lev k d s l n m
theorem walked_isNone (k d : Nat) (ss : List S) (l n m : Nat) : (walked k d ss (some (l, n))).isNone = (walked k d ss (some (l, m))).isNone := by
  have := walked_lev k d ss (some (l, n)) (some (l, m)) rfl
  have := congrArg Option.isNone this
  simpa using this
end FM

set_option linter.all false
/-! FMF: places by the figures of their ways. -/
namespace FM
def fig (k : Int) : Nat → Int → List Int
  | 0, _ => []
  | l + 1, n => fig k l (n / k) ++ [n % k]
def unf (k : Int) (xs : List Int) : Int := xs.foldl (fun a x => a * k + x) 0
theorem fig_len (k : Int) : ∀ (l : Nat) (n : Int), (fig k l n).length = l
  | 0, _ => rfl
  | l + 1, n => by rw [fig, List.length_append, fig_len k l]; rfl
theorem unf_snoc (k : Int) (xs : List Int) (x : Int) : unf k (xs ++ [x]) = unf k xs * k + x := by simp [unf]
theorem unf_fig {k : Int} (hk : 0 < k) : ∀ (l : Nat) (n : Int), unf k (fig k l n) = n % k ^ l
  | 0, n => by simp [fig, unf, Int.emod_one]
  | l + 1, n => by
    rw [fig, unf_snoc, unf_fig hk l, Int.pow_succ]
    have e : n % (k ^ l * k) = n % k + k * (n / k % k ^ l) := by
      rw [Int.mul_comm (k ^ l) k]
      have a := Int.mul_ediv_add_emod n k
      have b := Int.mul_ediv_add_emod (n / k) (k ^ l)
      have hp : 0 < k ^ l := Int.pow_pos hk
      have r0 := Int.emod_nonneg n (show k ≠ 0 by omega)
      have r1 := Int.emod_lt_of_pos n hk
      have s0 := Int.emod_nonneg (n / k) (show k ^ l ≠ 0 by omega)
      have s1 := Int.emod_lt_of_pos (n / k) hp
      generalize hq : n / k % k ^ l = q at *
      generalize hz : n / k / k ^ l = z at *
      have hn : n = k * k ^ l * z + (n % k + k * q) := by
        rw [Int.mul_assoc]
        have : k * (k ^ l * z) + (n % k + k * q) = k * (k ^ l * z + q) + n % k := by rw [Int.mul_add]; omega
        rw [this, b]; exact a.symm
      have k0 : 0 ≤ k * q := Int.mul_nonneg (by omega) s0
      have k1 : k * q + k ≤ k * k ^ l := by
        have : k * (q + 1) ≤ k * k ^ l := Int.mul_le_mul_of_nonneg_left (by omega) (by omega)
        rw [Int.mul_add, Int.mul_one] at this
        exact this
      conv => lhs; rw [hn]
      rw [Int.mul_add_emod_self_left]
      exact Int.emod_eq_of_lt (by omega) (by omega)
    rw [e, Int.mul_comm]
    omega
def mvL (k : Int) : List Int → Int → List Int → List Int
  | [], _, acc => acc
  | x :: r, c, acc => mvL k r ((x + c) / k) ((x + c) % k :: acc)
theorem mv_fig {k : Int} (hk : 0 < k) : ∀ (l : Nat) (n c : Int) (acc : List Int), mvL k (fig k l n).reverse c acc = fig k l (n + c) ++ acc
  | 0, n, c, acc => rfl
  | l + 1, n, c, acc => by
    rw [fig, List.reverse_append, List.reverse_singleton, List.singleton_append, mvL, mv_fig hk l, fig]
    have a := Int.mul_ediv_add_emod n k
    have e1 : (n % k + c) % k = (n + c) % k := by rw [Int.emod_add_emod]
    have e2 : n / k + (n % k + c) / k = (n + c) / k := by
      conv => rhs; rw [← a, Int.add_assoc, Int.add_comm, Int.add_mul_ediv_left _ _ (show k ≠ 0 by omega)]
      omega
    rw [e1, e2, List.append_assoc, List.singleton_append]
theorem mir_fig {k : Int} (hk : 0 < k) : ∀ (l : Nat) (n : Int), (fig k l n).map (fun x => k - 1 - x) = fig k l (-1 - n)
  | 0, n => rfl
  | l + 1, n => by
    rw [fig, fig, List.map_append, mir_fig hk l, List.map_singleton]
    have a := Int.mul_ediv_add_emod n k
    have r0 := Int.emod_nonneg n (show k ≠ 0 by omega)
    have r1 := Int.emod_lt_of_pos n hk
    have e : -1 - n = (k - 1 - n % k) + k * (-1 - n / k) := by
      rw [Int.mul_sub]
      omega
    have e1 : (-1 - n) / k = -1 - n / k := by
      conv => lhs; rw [e]
      rw [Int.add_mul_ediv_left _ _ (show k ≠ 0 by omega), Int.ediv_eq_zero_of_lt (by omega) (by omega), Int.zero_add]
    have e2 : (-1 - n) % k = k - 1 - n % k := by
      conv => lhs; rw [e]
      rw [Int.add_mul_emod_self_left, Int.emod_eq_of_lt (by omega) (by omega)]
    rw [e1, e2]
/-- figures tell a number by the size of its level -/
theorem fig_mod {k : Int} (hk : 0 < k) : ∀ (l : Nat) (n : Int), fig k l (n % k ^ l) = fig k l n
  | 0, _ => rfl
  | l + 1, n => by
    have hp : 0 < k ^ l := Int.pow_pos hk
    have a := Int.mul_ediv_add_emod n (k ^ (l + 1))
    have e : n % k ^ (l + 1) = n - k * (k ^ l * (n / k ^ (l + 1))) := by
      have : k * (k ^ l * (n / k ^ (l + 1))) = k ^ (l + 1) * (n / k ^ (l + 1)) := by rw [Int.pow_succ, ← Int.mul_assoc, Int.mul_comm k]
      rw [this]; omega
    have e1 : n % k ^ (l + 1) / k = n / k - k ^ l * (n / k ^ (l + 1)) := by
      rw [e, Int.sub_eq_add_neg, ← Int.mul_neg, Int.add_mul_ediv_left _ _ (show k ≠ 0 by omega)]
      omega
    have e2 : n % k ^ (l + 1) % k = n % k := by
      rw [e, Int.sub_eq_add_neg, ← Int.mul_neg, Int.add_mul_emod_self_left]
    rw [fig, e1, e2, ← fig_mod hk l (n / k - _), Int.sub_eq_add_neg, ← Int.mul_neg, Int.add_mul_emod_self_left, fig_mod hk l]
    rfl
def stepF (k : Int) (d : Nat) : S → List Int → Option (List Int)
  | .up, xs => if xs = [] then none else some xs.dropLast
  | .dn w, xs => if xs.length < d then some (xs ++ [(w : Int)]) else none
  | .lf w, xs => some (xs ++ List.replicate (d - xs.length) (w : Int))
  | .nx, xs => some (mvL k xs.reverse 1 [])
  | .ls, xs => some (mvL k xs.reverse (-1) [])
  | .mi, xs => some (xs.map fun x => k - 1 - x)
  | .tp, _ => some []
def pfig (k : Nat) (p : Pl) : List Int := fig k p.1 p.2
theorem fig_dn {k w : Nat} (hw : w < k) (l : Nat) (n : Nat) : fig k (l + 1) (n * k + w : Nat) = fig k l n ++ [(w : Int)] := by
  have e1 : ((n * k + w : Nat) : Int) / k = n := by
    have : (n * k + w) / k = n := by rw [Nat.add_comm, Nat.add_mul_div_right _ _ (by omega), Nat.div_eq_of_lt hw, Nat.zero_add]
    have z : (((n * k + w) / k : Nat) : Int) = (n : Int) := by rw [this]
    exact z
  have e2 : ((n * k + w : Nat) : Int) % k = w := by
    have : (n * k + w) % k = w := by rw [Nat.add_comm, Nat.add_mul_mod_self_right, Nat.mod_eq_of_lt hw]
    have z : (((n * k + w) % k : Nat) : Int) = (w : Int) := by rw [this]
    exact z
  rw [fig, e1, e2]
theorem fig_lf {k w : Nat} (hw : w < k) (l n : Nat) : ∀ j, fig k (l + j) (n * k ^ j + w * geo k j : Nat) = fig k l n ++ List.replicate j (w : Int)
  | 0 => by simp [geo]
  | j + 1 => by
    have e : n * k ^ (j + 1) + w * geo k (j + 1) = (n * k ^ j + w * geo k j) * k + w := by
      rw [geo, Nat.pow_succ, Nat.add_mul, Nat.mul_add, Nat.mul_one, Nat.mul_assoc, Nat.mul_assoc]
      omega
    rw [e, show l + (j + 1) = l + j + 1 from rfl, fig_dn hw, fig_lf hw l n j, List.replicate_succ', List.append_assoc]
theorem step_fig {k d : Nat} {s : S} {p : Pl} (t : TOk k d) (hs : SOk k s) (hp : POk k d p) : stepF k d s (pfig k p) = (step k d s p).map (pfig k) := by
  have hk := t.pos
  have hk' : (0 : Int) < k := by omega
  obtain ⟨l, n⟩ := p
  obtain ⟨hl, hn⟩ := hp
  simp only at hl hn
  have hp : 0 < k ^ l := Nat.pow_pos hk
  have L := fig_len k l n
  unfold pfig
  cases s with
  | up =>
    simp only [stepF, step]
    cases l with
    | zero => simp [fig]
    | succ l =>
      have ne : fig (k : Int) (l + 1) n ≠ [] := fun h => by have := fig_len k (l + 1) n; rw [h] at this; cases this
      rw [if_neg ne, if_pos (Nat.succ_pos l), Option.map_some]
      simp only [fig, Nat.add_sub_cancel, List.dropLast_concat]
      rfl
  | dn w =>
    simp only [stepF, step, L]
    split
    · rw [Option.map_some]; simp only; rw [fig_dn hs]
    · rfl
  | lf w =>
    have h2 : 2 ≤ k := by rcases t.k2 with h | h <;> omega
    simp only [stepF, step, L, Option.map_some]
    rw [geo_div h2]
    have := fig_lf hs l n (d - l)
    rw [show l + (d - l) = d by omega] at this
    rw [this]
  | nx =>
    simp only [stepF, step, Option.map_some]
    rw [mv_fig hk', List.append_nil, ← fig_mod hk' l ((n : Int) + 1)]
    have : (((n + 1) % k ^ l : Nat) : Int) = ((n : Int) + 1) % (k : Int) ^ l := by
      rw [Int.natCast_emod, Int.natCast_pow]; rfl
    rw [this]
  | ls =>
    simp only [stepF, step, Option.map_some]
    rw [mv_fig hk', List.append_nil, ← fig_mod hk' l ((n : Int) + -1)]
    have : (((n + (k ^ l - 1)) % k ^ l : Nat) : Int) = ((n : Int) + -1) % (k : Int) ^ l := by
      rw [Int.natCast_emod, Int.natCast_pow]
      have e : ((n + (k ^ l - 1) : Nat) : Int) = (n : Int) + -1 + (k : Int) ^ l := by
        have : ((k ^ l : Nat) : Int) = (k : Int) ^ l := Int.natCast_pow k l
        omega
      rw [e, Int.add_emod_right]
    rw [this]
  | mi =>
    simp only [stepF, step, Option.map_some]
    rw [mir_fig hk', ← fig_mod hk' l (-1 - (n : Int))]
    have e : ((k ^ l : Nat) : Int) = (k : Int) ^ l := Int.natCast_pow k l
    have : ((k ^ l - 1 - n : Nat) : Int) = (-1 - (n : Int)) % (k : Int) ^ l := by
      have e2 : ((k ^ l - 1 - n : Nat) : Int) = -1 - (n : Int) + (k : Int) ^ l := by omega
      rw [← Int.add_emod_right (a := -1 - (n : Int)) (b := (k : Int) ^ l), ← e2, Int.emod_eq_of_lt (by omega) (by omega)]
    rw [this]
  | tp => rfl
def walkF (k : Int) (d : Nat) : List S → Option (List Int) → Option (List Int)
  | [], p => p
  | s :: ss, p => walkF k d ss (p.bind (stepF k d s))
theorem walk_fig {k d : Nat} (t : TOk k d) : ∀ {ss : List S} {p : Pl}, (∀ s ∈ ss, SOk k s) → POk k d p → walkF k d ss (some (pfig k p)) = (walked k d ss (some p)).map (pfig k)
  | [], p, _, _ => rfl
  | s :: ss, p, hs, hp => by
    rw [walkF, walked, Option.bind_some, Option.bind_some, step_fig t (hs s List.mem_cons_self) hp]
    cases e : step k d s p with
    | none =>
      rw [Option.map_none, walked_none]
      have : ∀ ss : List S, walkF (k : Int) d ss none = none := fun ss => by
        induction ss with
        | nil => rfl
        | cons _ _ ih => exact ih
      rw [this] <;> rfl
    | some q => exact walk_fig t (fun s' h' => hs s' (List.mem_cons_of_mem _ h')) (step_ok t (hs s List.mem_cons_self) hp e)
/-- the place of figures -/
theorem unf_pfig {k d : Nat} (t : TOk k d) {p : Pl} (hp : POk k d p) : (pfig k p).length = p.1 ∧ unf k (pfig k p) = p.2 := by
  refine ⟨fig_len _ _ _, ?_⟩
  unfold pfig
  have hk := t.pos
  rw [unf_fig (by omega)]
  have e : ((k ^ p.1 : Nat) : Int) = (k : Int) ^ p.1 := Int.natCast_pow k p.1
  have := hp.nu
  exact Int.emod_eq_of_lt (by omega) (by omega)
end FM

set_option linter.all false
set_option exponentiation.threshold 10000
/-! FMT: scripts done again and again, as plain numbers: shifts of tails, rounds, rings. -/
namespace FM
/-- so many times -/
def it {α : Type} (f : α → α) : Nat → α → α
  | 0, x => x
  | n + 1, x => it f n (f x)
theorem it_succ {α : Type} (f : α → α) : ∀ (n : Nat) (x : α), it f (n + 1) x = f (it f n x)
  | 0, _ => rfl
  | n + 1, x => it_succ f n (f x)
theorem it_add {α : Type} (f : α → α) : ∀ (m n : Nat) (x : α), it f (m + n) x = it f m (it f n x)
  | m, 0, x => rfl
  | m, n + 1, x => it_add f m n (f x)
theorem it_add' {α : Type} (f : α → α) (m n : Nat) (x : α) : it f (m + n) x = it f n (it f m x) := by rw [Nat.add_comm, it_add]
/-! ### a list without repeats, of numbers below n -/
theorem nodup_len : ∀ (n : Nat) (l : List Nat), l.Nodup → (∀ x ∈ l, x < n) → l.length ≤ n
  | 0, l, _, h => by
    cases l with
    | nil => exact Nat.le_refl _
    | cons a r => exact absurd (h a List.mem_cons_self) (by omega)
  | n + 1, l, nd, h => by
    have ih := nodup_len n (l.filter fun x => x != n) (nd.sublist List.filter_sublist) fun x hx => by
      have := List.mem_filter.mp hx
      have h1 := h x this.1
      have h2 : x ≠ n := by simpa using this.2
      omega
    have : ∀ l : List Nat, l.Nodup → l.length ≤ (l.filter fun x => x != n).length + 1 := by
      intro l
      induction l with
      | nil => intro _; simp
      | cons a r ih =>
        intro nd
        rw [List.nodup_cons] at nd
        by_cases e : a = n
        · subst e
          have : r.filter (fun x => x != a) = r := List.filter_eq_self.mpr fun x hx => by
            have : x ≠ a := fun z => nd.1 (z ▸ hx)
            simpa using this
          simp [List.filter_cons, this]
        · have := ih nd.2
          have e' : (a != n) = true := by simpa using e
          rw [List.filter_cons, e']
          simp only [if_true, List.length_cons]
          omega
    have := this l nd
    omega
/-! ### shifts -/
structure Sft (M A : Nat) (σ : Int) (f : Nat → Nat) : Prop where
  mpos : 0 < M
  dvd : A ∣ M
  sg : σ = 1 ∨ σ = -1
  lt : ∀ n, n < M → f n < M
  sh : ∀ (n m : Nat) (x : Int), n < M → m < M → (M : Int) ∣ (m : Int) - n - x * A → (M : Int) ∣ (f m : Int) - f n - σ * x * A
section
variable {M A : Nat} {σ : Int} {f : Nat → Nat}
theorem Sft.it_lt (h : Sft M A σ f) : ∀ (j n : Nat), n < M → it f j n < M
  | 0, n, hn => hn
  | j + 1, n, hn => h.it_lt j (f n) (h.lt n hn)
theorem Sft.sh_it (h : Sft M A σ f) : ∀ (j n m : Nat) (x : Int), n < M → m < M → (M : Int) ∣ (m : Int) - n - x * A → (M : Int) ∣ ((it f j m : Nat) : Int) - (it f j n : Nat) - σ ^ j * x * A
  | 0, n, m, x, hn, hm, e => by simpa [it] using e
  | j + 1, n, m, x, hn, hm, e => by
    have := h.sh_it j (f n) (f m) (σ * x) (h.lt n hn) (h.lt m hm) (h.sh n m x hn hm e)
    have e2 : σ ^ (j + 1) * x * A = σ ^ j * (σ * x) * A := by rw [Int.pow_succ, Int.mul_assoc (σ ^ j)]
    rw [e2]
    exact this
theorem mod_dvd {A a b : Nat} (e : a % A = b % A) : (A : Int) ∣ (b : Int) - a := by
  refine ⟨(b / A : Nat) - (a / A : Nat), ?_⟩
  have h1 := Nat.div_add_mod a A
  have h2 := Nat.div_add_mod b A
  rw [Int.mul_sub, ← Int.natCast_mul, ← Int.natCast_mul]
  omega
theorem dvd_mod {A a b : Nat} (h : (A : Int) ∣ (b : Int) - a) : a % A = b % A := by
  have q : (b : Int) % A = (a : Int) % A := Int.emod_eq_emod_iff_emod_sub_eq_zero.mpr (Int.emod_eq_zero_of_dvd h)
  exact (Int.ofNat.inj q).symm
theorem eq_of_dvd {M a b : Nat} (ha : a < M) (hb : b < M) (h : (M : Int) ∣ (a : Int) - b) : a = b := by
  obtain ⟨c, hc⟩ := h
  rcases Int.lt_trichotomy c 0 with h1 | h1 | h1
  · have : (M : Int) * c ≤ M * (-1) := Int.mul_le_mul_of_nonneg_left (by omega) (by omega)
    omega
  · subst h1
    omega
  · have : (M : Int) * 1 ≤ M * c := Int.mul_le_mul_of_nonneg_left (by omega) (by omega)
    omega
theorem Sft.tail (h : Sft M A σ f) {n m : Nat} (hn : n < M) (hm : m < M) (e : n % A = m % A) : f n % A = f m % A := by
  obtain ⟨x, hx⟩ := mod_dvd e
  have q := h.sh n m x hn hm (by rw [hx, Int.mul_comm x]; simp)
  have q2 : (A : Int) ∣ (f m : Int) - f n - σ * x * A := Int.dvd_trans (Int.natCast_dvd_natCast.mpr h.dvd) q
  refine dvd_mod ?_
  have := Int.dvd_add q2 (Int.dvd_mul_left (σ * x) (A : Int))
  rwa [Int.sub_add_cancel] at this
theorem Sft.tails (h : Sft M A σ f) : ∀ (j : Nat) {n m : Nat}, n < M → m < M → n % A = m % A → it f j n % A = it f j m % A
  | 0, _, _, _, _, e => e
  | j + 1, n, m, hn, hm, e => h.tails j (h.lt n hn) (h.lt m hm) (h.tail hn hm e)
end
/-! ### rings -/
/-- a sequence comes round: from lead on, behind so many -/
structure IsRing {α : Type} (a : Nat → α) (lead per : Nat) : Prop where
  pos : 0 < per
  iff : ∀ i j, a i = a j ↔ i = j ∨ (lead ≤ i ∧ lead ≤ j ∧ i % per = j % per)
/-- the first round of tails: tails of b 0 .. b (e - 1) are apart, that of b e is that of b be -/
structure Rnd (A : Nat) (b : Nat → Nat) (be e : Nat) : Prop where
  lt : be < e
  apart : ∀ i j, i < e → j < e → b i % A = b j % A → i = j
  back : b e % A = b be % A
/-- the sign of so many times -/
theorem sg_pow {σ : Int} (h : σ = 1 ∨ σ = -1) : ∀ n : Nat, σ ^ n = if σ = 1 ∨ n % 2 = 0 then 1 else -1
  | 0 => by simp
  | n + 1 => by
    rw [Int.pow_succ, sg_pow h n]
    rcases h with rfl | rfl
    · simp
    · have : ¬ ((-1 : Int) = 1) := by decide
      simp only [this, false_or]
      rcases Nat.mod_two_eq_zero_or_one n with q | q
      · rw [if_pos q, if_neg (by omega)]; rfl
      · rw [if_neg (by omega), if_pos (by omega)]; rfl
section
variable {M A : Nat} {σ : Int} {f : Nat → Nat} {n0 be e : Nat}
abbrev sq (f : Nat → Nat) (n0 : Nat) (i : Nat) : Nat := it f i n0
theorem Sft.sq_lt (h : Sft M A σ f) (h0 : n0 < M) (i : Nat) : sq f n0 i < M := h.it_lt i n0 h0
theorem sq_add (i j : Nat) : sq f n0 (i + j) = it f j (sq f n0 i) := it_add' f i j n0
/-- tails come round from be on -/
theorem Rnd.per (h : Sft M A σ f) (h0 : n0 < M) (r : Rnd A (sq f n0) be e) {i : Nat} (hi : be ≤ i) : sq f n0 (i + (e - be)) % A = sq f n0 i % A := by
  have hr := r.lt
  have e1 : i + (e - be) = e + (i - be) := by omega
  have e2 : i = be + (i - be) := by omega
  rw [e1, sq_add]
  conv => rhs; rw [e2, sq_add]
  exact h.tails _ (h.sq_lt h0 _) (h.sq_lt h0 _) r.back
theorem Rnd.per' (h : Sft M A σ f) (h0 : n0 < M) (r : Rnd A (sq f n0) be e) : ∀ (m : Nat) {i : Nat}, be ≤ i → sq f n0 (i + m * (e - be)) % A = sq f n0 i % A
  | 0, i, _ => by rw [Nat.zero_mul, Nat.add_zero]
  | m + 1, i, hi => by
    rw [show i + (m + 1) * (e - be) = (i + m * (e - be)) + (e - be) by rw [Nat.add_mul]; omega, r.per h h0 (by omega), Rnd.per' h h0 r m hi]
/-- tails agree just so -/
theorem Rnd.iff (h : Sft M A σ f) (h0 : n0 < M) (r : Rnd A (sq f n0) be e) {i j : Nat} (hij : i < j) (q : sq f n0 i % A = sq f n0 j % A) : be ≤ i ∧ (j - i) % (e - be) = 0 := by
  have hr := r.lt
  have p0 : 0 < e - be := by omega
  -- the place of a time in the first e
  have red : ∀ i, ∃ i', i' < e ∧ sq f n0 i' % A = sq f n0 i % A ∧ (i < e → i' = i) ∧ (be ≤ i → be ≤ i' ∧ (i - be) % (e - be) = i' - be) := by
    intro i
    by_cases hi : i < e
    · exact ⟨i, hi, rfl, fun _ => rfl, fun hb => ⟨hb, Nat.mod_eq_of_lt (by omega)⟩⟩
    · have m1 := Nat.mod_lt (i - be) p0
      have m2 := Nat.div_add_mod (i - be) (e - be)
      refine ⟨be + (i - be) % (e - be), by omega, ?_, fun z => absurd z hi, fun _ => ⟨by omega, by omega⟩⟩
      have := r.per' h h0 ((i - be) / (e - be)) (i := be + (i - be) % (e - be)) (by omega)
      rw [← this]
      congr 2
      rw [Nat.mul_comm]
      omega
  obtain ⟨i', a1, a2, a3, a4⟩ := red i
  obtain ⟨j', b1, b2, b3, b4⟩ := red j
  have eq := r.apart i' j' a1 b1 (by rw [a2, b2]; exact q)
  subst eq
  have hbi : be ≤ i := by
    refine Nat.le_of_not_lt fun hlt => ?_
    have x1 := a3 (by omega)
    by_cases hj : j < e
    · have := b3 hj; omega
    · have := b4 (by omega); omega
  refine ⟨hbi, ?_⟩
  have c1 := a4 hbi
  have c2 := b4 (by omega)
  have c3 : (j - be) % (e - be) = (i - be) % (e - be) := by rw [c1.2, c2.2]
  have c4 : j - be = (i - be) + (j - i) := by omega
  have d1 := Nat.div_add_mod (i - be) (e - be)
  have d2 := Nat.div_add_mod (j - be) (e - be)
  have d3 : j - i = (e - be) * ((j - be) / (e - be)) - (e - be) * ((i - be) / (e - be)) := by omega
  rw [d3, ← Nat.mul_sub]
  exact Nat.mul_mod_right _ _
end
/-! ### the first round is there -/
theorem least (P : Nat → Prop) : ∀ N : Nat, (∃ n, n ≤ N ∧ P n) → ∃ n, n ≤ N ∧ P n ∧ ∀ m, m < n → ¬ P m := by
  intro N h
  have key : ∀ n, P n → ∃ m, m ≤ n ∧ P m ∧ ∀ q, q < m → ¬ P q := by
    intro n
    induction n using Nat.strongRecOn with
    | _ n ih =>
      intro hp
      by_cases e : ∃ m, m < n ∧ P m
      · obtain ⟨m, hm, pm⟩ := e
        obtain ⟨q, h1, h2, h3⟩ := ih m hm pm
        exact ⟨q, by omega, h2, h3⟩
      · exact ⟨n, Nat.le_refl _, hp, fun m hm pm => e ⟨m, hm, pm⟩⟩
  obtain ⟨n, hn, pn⟩ := h
  obtain ⟨m, h1, h2, h3⟩ := key n pn
  exact ⟨m, by omega, h2, h3⟩
theorem rnd_ex {A : Nat} (hA : 0 < A) (b : Nat → Nat) : ∃ be e, e ≤ A ∧ Rnd A b be e := by
  have h : ∃ e, e ≤ A ∧ ∃ i, i < e ∧ b e % A = b i % A := by
    refine Classical.byContradiction fun hn => ?_
    have ap : ∀ e, e ≤ A → ∀ i, i < e → b e % A ≠ b i % A := fun e he i hi q => hn ⟨e, he, i, hi, q⟩
    have nd : ((List.range (A + 1)).map fun i => b i % A).Nodup := by
      rw [List.Nodup, List.pairwise_map]
      refine List.Pairwise.imp_of_mem ?_ (List.pairwise_lt_range)
      intro i j hi hj hij q
      exact ap j (by have := List.mem_range.mp hj; omega) i hij q.symm
    have := nodup_len A _ nd fun x hx => by
      obtain ⟨i, _, rfl⟩ := List.mem_map.mp hx
      exact Nat.mod_lt _ hA
    simp at this
    omega
  obtain ⟨e, he, ⟨be, hb, q⟩, mn⟩ := least _ A h
  refine ⟨be, e, he, hb, fun i j hi hj qq => ?_, q⟩
  rcases Nat.lt_trichotomy i j with h1 | h1 | h1
  · exact absurd ⟨i, h1, qq.symm⟩ (mn j hj)
  · exact h1
  · exact absurd ⟨j, h1, qq⟩ (mn i hi)
theorem rnd_const {A n0 m0 : Nat} {f : Nat → Nat} (hc : ∀ n, f n = m0) : ∃ be e, e ≤ 2 ∧ Rnd A (sq f n0) be e := by
  have s1 : ∀ i, sq f n0 (i + 1) = m0 := fun i => by
    show it f (i + 1) n0 = m0
    rw [it_succ]
    exact hc _
  by_cases q : n0 % A = m0 % A
  · refine ⟨0, 1, by omega, by omega, fun i j hi hj _ => by omega, ?_⟩
    rw [s1 0]; exact q.symm
  · refine ⟨1, 2, by omega, by omega, fun i j hi hj qq => ?_, by rw [s1 1, s1 0]⟩
    have c0 : sq f n0 0 = n0 := rfl
    rcases Nat.lt_trichotomy i j with h | h | h
    · obtain ⟨rfl, rfl⟩ : i = 0 ∧ j = 1 := by omega
      rw [c0, s1 0] at qq
      exact absurd qq q
    · exact h
    · obtain ⟨rfl, rfl⟩ : j = 0 ∧ i = 1 := by omega
      rw [c0, s1 0] at qq
      exact absurd qq.symm q
section
variable {M A : Nat} {σ : Int} {f : Nat → Nat} {n0 be e : Nat}
/-! ### behind so many rounds -/
theorem Rnd.over1 (h : Sft M A σ f) (h0 : n0 < M) (r : Rnd A (sq f n0) be e) (hs : σ ^ (e - be) = 1) : ∀ R : Nat, (M : Int) ∣ (sq f n0 (be + R * (e - be)) : Nat) - ((sq f n0 be : Nat) + (R : Int) * ((sq f n0 e : Nat) - (sq f n0 be : Nat)))
  | 0 => by simp
  | R + 1 => by
    have hr := r.lt
    obtain ⟨x, hx⟩ := mod_dvd r.back.symm
    have ih := Rnd.over1 h h0 r hs R
    have q := h.sh_it (e - be) (sq f n0 be) (sq f n0 (be + R * (e - be))) (R * x) (h.sq_lt h0 _) (h.sq_lt h0 _) (by
      have e1 : ((sq f n0 (be + R * (e - be)) : Nat) : Int) - (sq f n0 be : Nat) - R * x * A = (sq f n0 (be + R * (e - be)) : Nat) - ((sq f n0 be : Nat) + (R : Int) * ((sq f n0 e : Nat) - (sq f n0 be : Nat))) := by
        rw [hx, Int.mul_comm (A : Int) x, Int.mul_assoc]
        omega
      rw [e1]; exact ih)
    rw [hs, ← sq_add, ← sq_add, show be + (e - be) = e by omega, show be + R * (e - be) + (e - be) = be + (R + 1) * (e - be) by rw [Nat.add_mul]; omega] at q
    have e2 : ((sq f n0 (be + (R + 1) * (e - be)) : Nat) : Int) - ((sq f n0 be : Nat) + ((R + 1 : Nat) : Int) * ((sq f n0 e : Nat) - (sq f n0 be : Nat))) = (sq f n0 (be + (R + 1) * (e - be)) : Nat) - (sq f n0 e : Nat) - 1 * (R * x) * A := by
      rw [Int.one_mul, hx, Int.mul_assoc, Int.mul_comm x, show ((R + 1 : Nat) : Int) = (R : Int) + 1 by omega, Int.add_mul, Int.one_mul]
      omega
    rw [e2]
    exact q
theorem Rnd.over2 (h : Sft M A σ f) (h0 : n0 < M) (r : Rnd A (sq f n0) be e) (hs : σ ^ (e - be) = -1) : ∀ R : Nat, sq f n0 (be + R * (e - be)) = if R % 2 = 1 then sq f n0 e else sq f n0 be
  | 0 => by simp
  | R + 1 => by
    have hr := r.lt
    obtain ⟨x, hx⟩ := mod_dvd r.back.symm
    have ih := Rnd.over2 h h0 r hs R
    have e0 : be + (R + 1) * (e - be) = be + R * (e - be) + (e - be) := by rw [Nat.add_mul]; omega
    rw [e0, sq_add]
    by_cases o : R % 2 = 1
    · rw [if_neg (by omega), ih, if_pos o]
      have q := h.sh_it (e - be) (sq f n0 be) (sq f n0 e) x (h.sq_lt h0 _) (h.sq_lt h0 _) (by rw [hx, Int.mul_comm x]; simp)
      rw [hs, ← sq_add, ← sq_add, show be + (e - be) = e by omega] at q
      rw [← sq_add]
      refine eq_of_dvd (h.sq_lt h0 _) (h.sq_lt h0 _) ?_
      have e2 : ((sq f n0 (e + (e - be)) : Nat) : Int) - (sq f n0 be : Nat) = (sq f n0 (e + (e - be)) : Nat) - (sq f n0 e : Nat) - -1 * x * A := by
        rw [Int.neg_mul, Int.neg_mul, Int.one_mul, Int.mul_comm x, ← hx]
        omega
      rw [e2]; exact q
    · rw [if_pos (by omega), ih, if_neg o, ← sq_add, show be + (e - be) = e by omega]
theorem dvd_gcd_iff {M m R : Nat} (hM : 0 < M) : M ∣ R * m ↔ M / Nat.gcd M m ∣ R := by
  have g0 : 0 < Nat.gcd M m := Nat.gcd_pos_of_pos_left _ hM
  obtain ⟨a, ha⟩ := Nat.gcd_dvd_left M m
  obtain ⟨b, hb⟩ := Nat.gcd_dvd_right M m
  have cop : Nat.Coprime a b := by
    have q : Nat.gcd (Nat.gcd M m * a) (Nat.gcd M m * b) = Nat.gcd M m := by rw [← ha, ← hb]
    rw [Nat.gcd_mul_left] at q
    have : Nat.gcd M m * Nat.gcd a b = Nat.gcd M m * 1 := by rw [q, Nat.mul_one]
    exact Nat.eq_of_mul_eq_mul_left g0 this
  have e1 : M / Nat.gcd M m = a := by
    have : M / Nat.gcd M m = (Nat.gcd M m * a) / Nat.gcd M m := congrArg (· / Nat.gcd M m) ha
    rw [this]
    exact Nat.mul_div_cancel_left _ g0
  rw [e1]
  generalize hg : Nat.gcd M m = g at ha hb g0
  subst ha
  constructor
  · rintro ⟨c, hc⟩
    have : R * b = a * c := by
      have : g * (R * b) = g * (a * c) := by
        rw [← Nat.mul_assoc g a c, ← hc, hb, ← Nat.mul_assoc, ← Nat.mul_assoc, Nat.mul_comm g R]
      exact Nat.eq_of_mul_eq_mul_left g0 this
    exact cop.dvd_of_dvd_mul_right ⟨c, this⟩
  · rintro ⟨c, rfl⟩
    refine ⟨c * b, ?_⟩
    rw [hb, ← Nat.mul_assoc, ← Nat.mul_assoc, Nat.mul_comm g a, Nat.mul_assoc a c g, Nat.mul_comm c g, ← Nat.mul_assoc]
/-- behind how many rounds the first place of the round is there again -/
def bkR (M : Nat) (s : Int) (x y : Nat) : Nat := if x = y then 1 else if s = 1 then M / Nat.gcd M (((y : Int) - x) % M).toNat else 2
theorem bkR_pos {M : Nat} (hM : 0 < M) (s : Int) (x y : Nat) : 0 < bkR M s x y := by
  unfold bkR
  split
  · exact Nat.one_pos
  · split
    · exact Nat.div_pos (Nat.gcd_le_left _ hM) (Nat.gcd_pos_of_pos_left _ hM)
    · decide
/-- from one round to a later one the same place just behind multiples of it -/
theorem Rnd.same (h : Sft M A σ f) (h0 : n0 < M) (r : Rnd A (sq f n0) be e) (N R : Nat) : sq f n0 (be + N * (e - be)) = sq f n0 (be + (N + R) * (e - be)) ↔ bkR M (σ ^ (e - be)) (sq f n0 be) (sq f n0 e) ∣ R := by
  have l1 := h.sq_lt h0 be
  have l2 := h.sq_lt h0 e
  unfold bkR
  have hsg : σ ^ (e - be) = 1 ∨ σ ^ (e - be) = -1 := by
    rw [sg_pow h.sg]
    split
    · exact .inl rfl
    · exact .inr rfl
  rcases hsg with hs | hs
  · have o1 := r.over1 h h0 hs N
    have o2 := r.over1 h h0 hs (N + R)
    have iff1 : sq f n0 (be + N * (e - be)) = sq f n0 (be + (N + R) * (e - be)) ↔ (M : Int) ∣ (R : Int) * ((sq f n0 e : Nat) - (sq f n0 be : Nat)) := by
      have ex : ((N + R : Nat) : Int) * ((sq f n0 e : Nat) - (sq f n0 be : Nat)) = (N : Int) * ((sq f n0 e : Nat) - (sq f n0 be : Nat)) + (R : Int) * ((sq f n0 e : Nat) - (sq f n0 be : Nat)) := by
        rw [show ((N + R : Nat) : Int) = (N : Int) + R by omega, Int.add_mul]
      constructor
      · intro q
        rw [← q] at o2
        have := Int.dvd_sub o1 o2
        have e2 : ((sq f n0 (be + N * (e - be)) : Nat) : Int) - ((sq f n0 be : Nat) + (N : Int) * ((sq f n0 e : Nat) - (sq f n0 be : Nat))) - ((sq f n0 (be + N * (e - be)) : Nat) - ((sq f n0 be : Nat) + ((N + R : Nat) : Int) * ((sq f n0 e : Nat) - (sq f n0 be : Nat)))) = (R : Int) * ((sq f n0 e : Nat) - (sq f n0 be : Nat)) := by
          rw [ex]; omega
        rw [e2] at this
        exact this
      · intro q
        refine eq_of_dvd (h.sq_lt h0 _) (h.sq_lt h0 _) ?_
        have := Int.dvd_sub (Int.dvd_sub o1 o2) q
        have e2 : ((sq f n0 (be + N * (e - be)) : Nat) : Int) - ((sq f n0 be : Nat) + (N : Int) * ((sq f n0 e : Nat) - (sq f n0 be : Nat))) - ((sq f n0 (be + (N + R) * (e - be)) : Nat) - ((sq f n0 be : Nat) + ((N + R : Nat) : Int) * ((sq f n0 e : Nat) - (sq f n0 be : Nat)))) - (R : Int) * ((sq f n0 e : Nat) - (sq f n0 be : Nat)) = (sq f n0 (be + N * (e - be)) : Nat) - (sq f n0 (be + (N + R) * (e - be)) : Nat) := by
          rw [ex]; omega
        rw [e2] at this
        exact this
    rw [iff1, if_pos hs]
    split
    · rename_i q
      rw [q]
      simp
    · have mp := h.mpos
      generalize hm : (((sq f n0 e : Nat) : Int) - (sq f n0 be : Nat)) % M = z
      have z0 : 0 ≤ z := by rw [← hm]; exact Int.emod_nonneg _ (by omega)
      have : (M : Int) ∣ (R : Int) * ((sq f n0 e : Nat) - (sq f n0 be : Nat)) ↔ (M : Int) ∣ (R : Int) * z := by
        have d : (M : Int) ∣ (((sq f n0 e : Nat) : Int) - (sq f n0 be : Nat)) - z := by
          rw [← hm]
          exact Int.dvd_self_sub_emod
        have d2 : (M : Int) ∣ (R : Int) * ((((sq f n0 e : Nat) : Int) - (sq f n0 be : Nat)) - z) := Int.dvd_trans d (Int.dvd_mul_left _ _)
        rw [Int.mul_sub] at d2
        constructor
        · intro q
          have := Int.dvd_sub q d2
          rwa [Int.sub_sub_self] at this
        · intro q
          have := Int.dvd_add d2 q
          rwa [Int.sub_add_cancel] at this
      rw [this, ← dvd_gcd_iff mp]
      obtain ⟨m, rfl⟩ := Int.eq_ofNat_of_zero_le z0
      rw [Int.toNat_natCast, ← Int.natCast_mul, Int.natCast_dvd_natCast]
  · have o1 := r.over2 h h0 hs N
    have o2 := r.over2 h h0 hs (N + R)
    rw [o1, o2, hs]
    generalize sq f n0 be = x
    generalize sq f n0 e = y
    by_cases q : x = y
    · subst q
      rw [if_pos rfl]
      simp
    · rw [if_neg q, if_neg (show ¬ ((-1 : Int) = 1) by decide)]
      constructor
      · intro z
        refine Nat.dvd_of_mod_eq_zero ?_
        rcases Nat.mod_two_eq_zero_or_one N with a | a <;> rcases Nat.mod_two_eq_zero_or_one (N + R) with b | b
        · omega
        · rw [if_neg (by omega), if_pos b] at z; exact absurd z q
        · rw [if_pos a, if_neg (by omega)] at z; exact absurd z.symm q
        · omega
      · rintro ⟨c, rfl⟩
        have : (N + 2 * c) % 2 = N % 2 := by omega
        rw [this]
theorem Rnd.ring (h : Sft M A σ f) (h0 : n0 < M) (r : Rnd A (sq f n0) be e) : IsRing (sq f n0) be ((e - be) * bkR M (σ ^ (e - be)) (sq f n0 be) (sq f n0 e)) := by
  have hr := r.lt
  have p0 : 0 < e - be := by omega
  generalize hB : bkR M (σ ^ (e - be)) (sq f n0 be) (sq f n0 e) = B
  have B0 : 0 < B := hB ▸ bkR_pos h.mpos _ _ _
  have same := r.same h h0
  rw [hB] at same
  -- once round
  have once : ∀ i, be ≤ i → sq f n0 (i + (e - be) * B) = sq f n0 i := fun i hi => by
    have q := (same 0 B).mpr (Nat.dvd_refl _)
    rw [Nat.zero_mul, Nat.add_zero, Nat.zero_add] at q
    rw [show i + (e - be) * B = (be + B * (e - be)) + (i - be) by rw [Nat.mul_comm]; omega, sq_add, ← q, ← sq_add, show be + (i - be) = i by omega]
  have many : ∀ (c i : Nat), be ≤ i → sq f n0 (i + c * ((e - be) * B)) = sq f n0 i := fun c => by
    induction c with
    | zero => intro i _; rw [Nat.zero_mul, Nat.add_zero]
    | succ c ih => intro i hi; rw [Nat.add_mul, Nat.one_mul, ← Nat.add_assoc, once _ (by omega), ih i hi]
  -- one way
  have fwd : ∀ i j, i < j → sq f n0 i = sq f n0 j → be ≤ i ∧ i % ((e - be) * B) = j % ((e - be) * B) := fun i j hij q => by
    obtain ⟨hi, hz⟩ := r.iff h h0 hij (by rw [q])
    obtain ⟨R, hR⟩ := Nat.dvd_of_mod_eq_zero hz
    refine ⟨hi, ?_⟩
    have big : i - be ≤ (i - be) * (e - be) := Nat.le_mul_of_pos_right _ p0
    have q2 : it f ((i - be) * (e - be) - (i - be)) (sq f n0 i) = it f ((i - be) * (e - be) - (i - be)) (sq f n0 j) := by rw [q]
    rw [← sq_add, ← sq_add, show i + ((i - be) * (e - be) - (i - be)) = be + (i - be) * (e - be) by omega,
      show j + ((i - be) * (e - be) - (i - be)) = be + ((i - be) + R) * (e - be) by rw [Nat.add_mul, Nat.mul_comm R]; omega] at q2
    obtain ⟨c, rfl⟩ := (same _ _).mp q2
    rw [show j = i + (e - be) * B * c by rw [Nat.mul_assoc]; omega, Nat.add_mul_mod_self_left]
  refine ⟨Nat.mul_pos p0 B0, fun i j => ⟨fun q => ?_, fun q => ?_⟩⟩
  · rcases Nat.lt_trichotomy i j with hij | hij | hij
    · obtain ⟨a, b⟩ := fwd i j hij q
      exact .inr ⟨a, by omega, b⟩
    · exact .inl hij
    · obtain ⟨a, b⟩ := fwd j i hij q.symm
      exact .inr ⟨by omega, a, b.symm⟩
  · rcases q with rfl | ⟨a, b, c⟩
    · rfl
    · have key : ∀ i j, i ≤ j → be ≤ i → i % ((e - be) * B) = j % ((e - be) * B) → sq f n0 j = sq f n0 i := fun i j hij hi hm => by
        have d1 := Nat.div_add_mod i ((e - be) * B)
        have d2 := Nat.div_add_mod j ((e - be) * B)
        have le : i / ((e - be) * B) ≤ j / ((e - be) * B) := Nat.div_le_div_right hij
        have ej : j = i + (j / ((e - be) * B) - i / ((e - be) * B)) * ((e - be) * B) := by
          rw [Nat.sub_mul, Nat.mul_comm (j / _), Nat.mul_comm (i / _)]
          have : (e - be) * B * (i / ((e - be) * B)) ≤ (e - be) * B * (j / ((e - be) * B)) := Nat.mul_le_mul_left _ le
          omega
        conv => lhs; rw [ej]
        exact many _ _ hi
      rcases Nat.le_total i j with hij | hij
      · exact (key i j hij a c).symm
      · exact key j i hij b c.symm
end
end FM

set_option linter.all false
set_option exponentiation.threshold 10000
/-! FMS: what scripts make of levels and numbers. -/
namespace FM
/-! ### levels -/
inductive Sh where
  | sh (c : Int) | cn (c : Int)
def Sh.st (d : Nat) : Sh → S → Sh
  | .sh c, .up => .sh (c - 1)
  | .cn c, .up => .cn (c - 1)
  | .sh c, .dn _ => .sh (c + 1)
  | .cn c, .dn _ => .cn (c + 1)
  | _, .lf _ => .cn d
  | _, .tp => .cn 0
  | x, _ => x
def Sh.lv : Sh → Int → Int
  | .sh c, l => l + c
  | .cn c, _ => c
theorem Sh.st_ok {k d : Nat} {s : S} {p q : Pl} {h : Sh} {l : Int} (e : (p.1 : Int) = h.lv l) (w : step k d s p = some q) : (q.1 : Int) = (h.st d s).lv l := by
  cases s with
  | up =>
    simp only [step] at w
    split at w
    · cases w
      cases h <;> simp only [Sh.st, Sh.lv] at e ⊢ <;> omega
    · cases w
  | dn w' =>
    simp only [step] at w
    split at w
    · cases w
      cases h <;> simp only [Sh.st, Sh.lv] at e ⊢ <;> omega
    · cases w
  | lf w' => cases w; cases h <;> simp only [Sh.st, Sh.lv]
  | tp => cases w; cases h <;> simp only [Sh.st, Sh.lv] <;> omega
  | nx => cases w; cases h <;> exact e
  | ls => cases w; cases h <;> exact e
  | mi => cases w; cases h <;> exact e
def shape (d : Nat) (ss : List S) : Sh := ss.foldl (Sh.st d) (.sh 0)
theorem shape_gen {k d : Nat} {l : Int} : ∀ (ss : List S) {p q : Pl} {h : Sh}, (p.1 : Int) = h.lv l → walked k d ss (some p) = some q → (q.1 : Int) = (ss.foldl (Sh.st d) h).lv l
  | [], p, q, h, e, w => by cases w; exact e
  | s :: ss, p, q, h, e, w => by
    rw [walked, Option.bind_some] at w
    cases z : step k d s p with
    | none => rw [z, walked_none] at w; cases w
    | some r =>
      rw [z] at w
      exact shape_gen ss (Sh.st_ok e z) w
theorem shape_ok {k d : Nat} {ss : List S} {p q : Pl} (w : walked k d ss (some p) = some q) : (q.1 : Int) = (shape d ss).lv p.1 := shape_gen ss (h := .sh 0) (by simp [Sh.lv]) w
/-! ### settling -/
section
variable {k d : Nat} {ss : List S}
/-- where one is behind so many times -/
abbrev at_ (k d : Nat) (ss : List S) (p : Pl) (j : Nat) : Option Pl := it (walked k d ss) j (some p)
theorem at_succ (p : Pl) (j : Nat) : at_ k d ss p (j + 1) = walked k d ss (at_ k d ss p j) := it_succ _ _ _
theorem at_none {p : Pl} {i : Nat} (h : at_ k d ss p i = none) : ∀ j, at_ k d ss p (i + j) = none
  | 0 => h
  | j + 1 => by rw [← Nat.add_assoc, at_succ, at_none h j, walked_none]
theorem at_ok (t : TOk k d) (hs : ∀ s ∈ ss, SOk k s) {p : Pl} (hp : POk k d p) : ∀ {j : Nat} {q : Pl}, at_ k d ss p j = some q → POk k d q
  | 0, q, h => by cases h; exact hp
  | j + 1, q, h => by
    rw [at_succ] at h
    cases e : at_ k d ss p j with
    | none => rw [e, walked_none] at h; cases h
    | some r => rw [e] at h; exact walked_ok t hs (at_ok t hs hp e) h
/-- it falls off, or stays at its level -/
def Stop (k d : Nat) (ss : List S) (p : Pl) (j : Nat) : Prop := at_ k d ss p j = none ∨ ∃ q r, at_ k d ss p j = some q ∧ at_ k d ss p (j + 1) = some r ∧ r.1 = q.1
theorem at_step {p q r : Pl} {j : Nat} (h : at_ k d ss p j = some q) (h2 : at_ k d ss p (j + 1) = some r) : (r.1 : Int) = (shape d ss).lv q.1 := by
  rw [at_succ, h] at h2
  exact shape_ok h2
theorem settle (t : TOk k d) (hs : ∀ s ∈ ss, SOk k s) {p : Pl} (hp : POk k d p) : ∃ s, s ≤ 62 ∧ Stop k d ss p s ∧ ∀ m, m < s → ¬ Stop k d ss p m := by
  refine least _ 62 ?_
  refine Classical.byContradiction fun hn => ?_
  have no : ∀ j, j ≤ 62 → ¬ Stop k d ss p j := fun j hj hp => hn ⟨j, hj, hp⟩
  have some_ : ∀ j, j ≤ 62 → ∃ q, at_ k d ss p j = some q := fun j hj => by
    cases e : at_ k d ss p j with
    | none => exact absurd (.inl e) (no j hj)
    | some q => exact ⟨q, rfl⟩
  have d60 := t.dp
  cases hsh : shape d ss with
  | cn c =>
    obtain ⟨q0, h0⟩ := some_ 0 (by omega)
    obtain ⟨q1, h1⟩ := some_ 1 (by omega)
    obtain ⟨q2, h2⟩ := some_ 2 (by omega)
    have e1 := at_step h0 h1
    have e2 := at_step h1 h2
    rw [hsh] at e1 e2
    simp only [Sh.lv] at e1 e2
    exact no 1 (by omega) (.inr ⟨q1, q2, h1, h2, by omega⟩)
  | sh c =>
    have lv : ∀ j, j ≤ 62 → ∃ q, at_ k d ss p j = some q ∧ (q.1 : Int) = p.1 + j * c := by
      intro j
      induction j with
      | zero => intro _; exact ⟨p, rfl, by simp⟩
      | succ j ih =>
        intro hj
        obtain ⟨q, h1, h2⟩ := ih (by omega)
        obtain ⟨r, h3⟩ := some_ (j + 1) hj
        refine ⟨r, h3, ?_⟩
        have := at_step h1 h3
        rw [hsh] at this
        simp only [Sh.lv] at this
        rw [this, h2, show ((j + 1 : Nat) : Int) = (j : Int) + 1 by omega, Int.add_mul]
        omega
    obtain ⟨q0, h0, _⟩ := lv 0 (by omega)
    obtain ⟨q1, h1, _⟩ := lv 1 (by omega)
    obtain ⟨q, h2, h3⟩ := lv 62 (by omega)
    have hq := at_ok t hs hp h2
    have hl := hq.lv
    have hl0 := hp.lv
    by_cases c0 : c = 0
    · subst c0
      refine no 0 (by omega) (.inr ⟨q0, q1, h0, h1, ?_⟩)
      have := at_step h0 h1
      rw [hsh] at this
      simp only [Sh.lv] at this
      omega
    · rcases Int.lt_trichotomy c 0 with z | z | z
      · have : ((62 : Nat) : Int) * c ≤ 62 * (-1) := Int.mul_le_mul_of_nonneg_left (by omega) (by decide)
        omega
      · exact c0 z
      · have : ((62 : Nat) : Int) * 1 ≤ 62 * c := Int.mul_le_mul_of_nonneg_left (by omega) (by decide)
        omega
/-- where it stays at a level, it does so at once or behind one time -/
theorem stays {p q r : Pl} {s : Nat} (mn : ∀ m, m < s → ¬ Stop k d ss p m) (h1 : at_ k d ss p s = some q) (h2 : at_ k d ss p (s + 1) = some r) (e : r.1 = q.1) : s ≤ 1 ∧ (0 < s → p.1 ≠ q.1) ∧ (shape d ss).lv q.1 = q.1 := by
  have e2 := at_step h1 h2
  cases s with
  | zero => exact ⟨by omega, fun z => absurd z (by omega), by omega⟩
  | succ s =>
    have ex : ∀ j, j ≤ s + 1 → ∃ x, at_ k d ss p j = some x := fun j hj => by
      cases z : at_ k d ss p j with
      | none =>
        have := at_none z (s + 1 - j)
        rw [show j + (s + 1 - j) = s + 1 by omega, h1] at this
        cases this
      | some x => exact ⟨x, rfl⟩
    obtain ⟨x0, y0⟩ := ex 0 (by omega)
    obtain ⟨x1, y1⟩ := ex 1 (by omega)
    have f1 := at_step y0 y1
    have p0 : x0 = p := (Option.some.inj y0).symm
    subst p0
    cases hsh : shape d ss with
    | sh c =>
      rw [hsh] at e2 f1
      simp only [Sh.lv] at e2 f1
      exact absurd (.inr ⟨x0, x1, y0, y1, by omega⟩) (mn 0 (by omega))
    | cn c =>
      rw [hsh] at e2 f1
      simp only [Sh.lv] at e2 f1
      have ne : x0.1 ≠ q.1 := fun z => mn 0 (by omega) (.inr ⟨x0, x1, y0, y1, by omega⟩)
      refine ⟨?_, fun _ => ne, by simp only [Sh.lv]; omega⟩
      refine Nat.le_of_not_lt fun hlt => ?_
      obtain ⟨x2, y2⟩ := ex 2 (by omega)
      have f2 := at_step y1 y2
      rw [hsh] at f2
      simp only [Sh.lv] at f2
      exact mn 1 (by omega) (.inr ⟨x1, x2, y1, y2, by omega⟩)
end
/-! ### numbers -/
def ups (ss : List S) : Nat := (ss.filter fun s => decide (s = .up)).length
def sgn : List S → Int
  | [] => 1
  | .mi :: ss => - sgn ss
  | _ :: ss => sgn ss
theorem sgn_or : ∀ ss, sgn ss = 1 ∨ sgn ss = -1
  | [] => .inl rfl
  | s :: ss => by
    have := sgn_or ss
    cases s <;> simp only [sgn] <;> omega
theorem pow_cast (k l : Nat) : ((k ^ l : Nat) : Int) = (k : Int) ^ l := Int.natCast_pow k l
theorem dvd_mul_pow {k c : Nat} {z : Int} (h : ((k ^ c : Nat) : Int) ∣ z) (j : Nat) : ((k ^ (c + j) : Nat) : Int) ∣ z * (k : Int) ^ j := by
  rw [Nat.pow_add, Int.natCast_mul, pow_cast k j]
  exact Int.mul_dvd_mul_right _ h
theorem step_shift {k d : Nat} (t : TOk k d) {s : S} (hs : SOk k s) (ht : s ≠ .tp) {c n m : Nat} (hc : c ≤ d) (hn : n < k ^ c) (hm : m < k ^ c) {y : Int} {e : Nat} (he : s = .up → 1 ≤ e) (hy : ((k ^ c : Nat) : Int) ∣ (m : Int) - n - y * (k : Int) ^ e) {c' n' c2 m' : Nat}
    (w1 : step k d s (c, n) = some (c', n')) (w2 : step k d s (c, m) = some (c2, m')) : c2 = c' ∧ ∃ e', e' + c = c' + e ∧ (s = .up → e' + 1 = e) ∧ (s ≠ .up → e ≤ e') ∧ ((k ^ c' : Nat) : Int) ∣ (m' : Int) - n' - sgn [s] * y * (k : Int) ^ e' := by
  have hk := t.pos
  have k2 : 2 ≤ k := by rcases t.k2 with h | h <;> omega
  cases s with
  | up =>
    simp only [step] at w1 w2
    split at w1
    · rename_i c0
      rw [if_pos c0] at w2
      cases w1
      cases w2
      have he := he rfl
      refine ⟨rfl, e - 1, by omega, fun _ => by omega, fun z => absurd rfl z, ?_⟩
      simp only [sgn, Int.one_mul]
      obtain ⟨z, hz⟩ := hy
      have e1 : (k : Int) ^ e = k * (k : Int) ^ (e - 1) := by
        conv => lhs; rw [show e = (e - 1) + 1 by omega, Int.pow_succ, Int.mul_comm]
      have e2 : ((k ^ c : Nat) : Int) = k * ((k ^ (c - 1) : Nat) : Int) := by
        conv => lhs; rw [show c = (c - 1) + 1 by omega, Nat.pow_succ, Int.natCast_mul, Int.mul_comm]
      have hm2 : (m : Int) = n + k * (y * (k : Int) ^ (e - 1) + ((k ^ (c - 1) : Nat) : Int) * z) := by
        rw [e1, e2] at hz
        rw [Int.mul_add, ← Int.mul_assoc, ← Int.mul_assoc, Int.mul_comm (k : Int) y, Int.mul_assoc y]
        omega
      have dv : ((m / k : Nat) : Int) = ((n / k : Nat) : Int) + (y * (k : Int) ^ (e - 1) + ((k ^ (c - 1) : Nat) : Int) * z) := by
        rw [Int.natCast_ediv, Int.natCast_ediv, hm2, Int.add_mul_ediv_left _ _ (by omega)]
      rw [dv]
      exact ⟨z, by omega⟩
    · cases w1
  | dn w =>
    simp only [step] at w1 w2
    split at w1
    · rename_i c0
      rw [if_pos c0] at w2
      cases w1
      cases w2
      refine ⟨rfl, e + 1, by omega, (fun z => nomatch z), fun _ => by omega, ?_⟩
      simp only [sgn, Int.one_mul]
      have := dvd_mul_pow hy 1
      rw [Int.sub_mul, Int.sub_mul, Int.mul_assoc, ← Int.pow_add] at this
      have p1 : (k : Int) ^ 1 = k := by rw [Int.pow_succ]; simp
      rw [p1] at this
      simp only [Int.natCast_add, Int.natCast_mul]
      have e2 : (m : Int) * k + w - (n * k + w) - y * (k : Int) ^ (e + 1) = m * k - n * k - y * (k : Int) ^ (e + 1) := by omega
      rw [e2]
      exact this
    · cases w1
  | lf w =>
    cases w1
    cases w2
    refine ⟨rfl, e + (d - c), by omega, (fun z => nomatch z), fun _ => by omega, ?_⟩
    simp only [sgn, Int.one_mul]
    have := dvd_mul_pow hy (d - c)
    rw [Int.sub_mul, Int.sub_mul, Int.mul_assoc, ← Int.pow_add, show c + (d - c) = d by omega] at this
    simp only [Int.natCast_add, Int.natCast_mul, pow_cast k (d - c)]
    generalize (w : Int) * (((k ^ (d - c) - 1) / (k - 1) : Nat) : Int) = u
    have e2 : (m : Int) * (k : Int) ^ (d - c) + u - (n * (k : Int) ^ (d - c) + u) - y * (k : Int) ^ (e + (d - c)) = m * (k : Int) ^ (d - c) - n * (k : Int) ^ (d - c) - y * (k : Int) ^ (e + (d - c)) := by omega
    rw [e2]
    exact this
  | nx =>
    cases w1
    cases w2
    refine ⟨rfl, e, by omega, (fun z => nomatch z), fun _ => by omega, ?_⟩
    simp only [sgn, Int.one_mul]
    have a1 : ((k ^ c : Nat) : Int) ∣ ((m + 1 : Nat) : Int) - (((m + 1) % k ^ c : Nat) : Int) := mod_dvd (Nat.mod_mod _ _)
    have a2 : ((k ^ c : Nat) : Int) ∣ ((n + 1 : Nat) : Int) - (((n + 1) % k ^ c : Nat) : Int) := mod_dvd (Nat.mod_mod _ _)
    have := Int.dvd_sub (Int.dvd_add hy a2) a1
    have e2 : (m : Int) - n - y * (k : Int) ^ e + (((n + 1 : Nat) : Int) - (((n + 1) % k ^ c : Nat) : Int)) - (((m + 1 : Nat) : Int) - (((m + 1) % k ^ c : Nat) : Int)) = (((m + 1) % k ^ c : Nat) : Int) - (((n + 1) % k ^ c : Nat) : Int) - y * (k : Int) ^ e := by omega
    rw [e2] at this
    exact this
  | ls =>
    cases w1
    cases w2
    refine ⟨rfl, e, by omega, (fun z => nomatch z), fun _ => by omega, ?_⟩
    simp only [sgn, Int.one_mul]
    generalize k ^ c - 1 = u
    have a1 : ((k ^ c : Nat) : Int) ∣ ((m + u : Nat) : Int) - (((m + u) % k ^ c : Nat) : Int) := mod_dvd (Nat.mod_mod _ _)
    have a2 : ((k ^ c : Nat) : Int) ∣ ((n + u : Nat) : Int) - (((n + u) % k ^ c : Nat) : Int) := mod_dvd (Nat.mod_mod _ _)
    have := Int.dvd_sub (Int.dvd_add hy a2) a1
    have e2 : (m : Int) - n - y * (k : Int) ^ e + (((n + u : Nat) : Int) - (((n + u) % k ^ c : Nat) : Int)) - (((m + u : Nat) : Int) - (((m + u) % k ^ c : Nat) : Int)) = (((m + u) % k ^ c : Nat) : Int) - (((n + u) % k ^ c : Nat) : Int) - y * (k : Int) ^ e := by omega
    rw [e2] at this
    exact this
  | mi =>
    cases w1
    cases w2
    refine ⟨rfl, e, by omega, (fun z => nomatch z), fun _ => by omega, ?_⟩
    simp only [sgn]
    have := Int.dvd_neg.mpr hy
    rw [show (-1 : Int) * y * (k : Int) ^ e = -(y * (k : Int) ^ e) by rw [Int.neg_mul, Int.one_mul, Int.neg_mul]]
    have e2 : ((k ^ c - 1 - m : Nat) : Int) - ((k ^ c - 1 - n : Nat) : Int) - -(y * (k : Int) ^ e) = -((m : Int) - n - y * (k : Int) ^ e) := by omega
    rw [e2]
    exact this
  | tp => exact absurd rfl ht
theorem sgn_cons (s : S) (ss : List S) : sgn (s :: ss) = sgn [s] * sgn ss := by
  cases s <;> simp only [sgn, Int.one_mul, Int.neg_mul]
theorem ups_cons (s : S) (ss : List S) : ups (s :: ss) = (if s = .up then 1 else 0) + ups ss := by
  unfold ups
  rw [List.filter_cons]
  by_cases h : s = .up
  · rw [if_pos (by simpa using h), if_pos h, List.length_cons]; omega
  · rw [if_neg (by simpa using h), if_neg h]; omega
/-- what a script makes of numbers apart by so many tails -/
theorem shift_gen {k d : Nat} (t : TOk k d) : ∀ (ss : List S) (_ : ∀ s ∈ ss, SOk k s) (_ : .tp ∉ ss) {c n m : Nat} (_ : c ≤ d) (_ : n < k ^ c) (_ : m < k ^ c) {y : Int} {e : Nat} (_ : ups ss ≤ e) (_ : ((k ^ c : Nat) : Int) ∣ (m : Int) - n - y * (k : Int) ^ e) {c' n' c2 m' : Nat}
    (_ : walked k d ss (some (c, n)) = some (c', n')) (_ : walked k d ss (some (c, m)) = some (c2, m')), c2 = c' ∧ ∃ e', e' + c = c' + e ∧ ((k ^ c' : Nat) : Int) ∣ (m' : Int) - n' - sgn ss * y * (k : Int) ^ e'
  | [], hs, ht, c, n, m, hc, hn, hm, y, e, he, hy, c', n', c2, m', w1, w2 => by
    cases w1
    cases w2
    exact ⟨rfl, e, by omega, by simpa [sgn] using hy⟩
  | s :: ss, hs, ht, c, n, m, hc, hn, hm, y, e, he, hy, c', n', c2, m', w1, w2 => by
    have hs0 := hs s List.mem_cons_self
    rw [walked, Option.bind_some] at w1 w2
    rw [ups_cons] at he
    cases z1 : step k d s (c, n) with
    | none => rw [z1, walked_none] at w1; cases w1
    | some r1 =>
      cases z2 : step k d s (c, m) with
      | none => rw [z2, walked_none] at w2; cases w2
      | some r2 =>
        obtain ⟨c1, n1⟩ := r1
        obtain ⟨c3, m1⟩ := r2
        obtain ⟨e0, e1, h1, h2, h3, h4⟩ := step_shift t hs0 (fun z => ht (by rw [z]; exact List.mem_cons_self)) hc hn hm (e := e) (fun z => by rw [if_pos z] at he; omega) hy z1 z2
        subst e0
        have o1 := step_ok t hs0 ⟨hc, hn⟩ z1
        have o2 := step_ok t hs0 ⟨hc, hm⟩ z2
        rw [z1] at w1
        rw [z2] at w2
        obtain ⟨g1, e2, g2, g3⟩ := shift_gen t ss (fun x hx => hs x (List.mem_cons_of_mem _ hx)) (fun z => ht (List.mem_cons_of_mem _ z)) o1.lv o1.nu o2.nu (e := e1) (by
          by_cases z : s = .up
          · have := h2 z; rw [if_pos z] at he; omega
          · have := h3 z; rw [if_neg z] at he; omega) h4 w1 w2
        refine ⟨g1, e2, by omega, ?_⟩
        rw [sgn_cons, Int.mul_comm (sgn [s]), Int.mul_assoc (sgn ss)]
        exact g3
/-- behind the top all is one -/
theorem top_same {k d : Nat} : ∀ (ss : List S) (_ : .tp ∈ ss) {p q : Option Pl}, p.map (·.1) = q.map (·.1) → walked k d ss p = walked k d ss q
  | s :: ss, ht, p, q, h => by
    rw [walked, walked]
    by_cases z : s = .tp
    · subst z
      cases p with
      | none => cases q with
        | none => rfl
        | some b => cases h
      | some a => cases q with
        | none => cases h
        | some b => rfl
    · refine top_same ss ((List.mem_cons.mp ht).resolve_left fun e => z e.symm) ?_
      cases p with
      | none => cases q with
        | none => rfl
        | some b => cases h
      | some a => cases q with
        | none => cases h
        | some b =>
          obtain ⟨l, n⟩ := a
          obtain ⟨l', m⟩ := b
          have e : l = l' := Option.some.inj h
          subst e
          exact step_lev k d s l n m
/-- how many last figures a script can lose, or all -/
def tlen (ss : List S) (l : Nat) : Nat := if .tp ∈ ss then l else min (ups ss) l
def fN (k d : Nat) (ss : List S) (l n : Nat) : Nat := ((walked k d ss (some (l, n))).getD (0, 0)).2
/-- what a script makes of numbers of a level -/
theorem shift_any {k d : Nat} (t : TOk k d) {ss : List S} (hs : ∀ s ∈ ss, SOk k s) {l n m : Nat} (hl : l ≤ d) (hn : n < k ^ l) (hm : m < k ^ l) {x : Int} (hx : ((k ^ l : Nat) : Int) ∣ (m : Int) - n - x * ((k ^ tlen ss l : Nat) : Int)) {c' n' c2 m' : Nat}
    (w1 : walked k d ss (some (l, n)) = some (c', n')) (w2 : walked k d ss (some (l, m)) = some (c2, m')) : c2 = c' ∧ ∃ e', e' + l = c' + tlen ss l ∧ ((k ^ c' : Nat) : Int) ∣ (m' : Int) - n' - sgn ss * x * ((k ^ e' : Nat) : Int) := by
  have triv : tlen ss l = l → c2 = c' ∧ ∃ e', e' + l = c' + tlen ss l ∧ ((k ^ c' : Nat) : Int) ∣ (m' : Int) - n' - sgn ss * x * ((k ^ e' : Nat) : Int) := fun z => by
    rw [z] at hx ⊢
    have : m = n := eq_of_dvd hm hn (by
      have := Int.dvd_add hx (Int.dvd_mul_left x ((k ^ l : Nat) : Int))
      rwa [Int.sub_add_cancel] at this)
    subst this
    rw [w1] at w2
    cases w2
    refine ⟨rfl, c', by omega, ?_⟩
    rw [Int.sub_self, Int.zero_sub]
    exact Int.dvd_neg.mpr (Int.dvd_mul_left _ _)
  by_cases ht : .tp ∈ ss
  · exact triv (by unfold tlen; rw [if_pos ht])
  · by_cases hu : l ≤ ups ss
    · exact triv (by unfold tlen; rw [if_neg ht]; omega)
    · have e1 : tlen ss l = ups ss := by unfold tlen; rw [if_neg ht]; omega
      rw [e1] at hx ⊢
      obtain ⟨a, e', b, c⟩ := shift_gen t ss hs ht hl hn hm (e := ups ss) (Nat.le_refl _) (by rw [← pow_cast]; exact hx) w1 w2
      exact ⟨a, e', b, by rw [pow_cast]; exact c⟩
/-- at a level that stays as it is -/
theorem sft {k d : Nat} (t : TOk k d) {ss : List S} (hs : ∀ s ∈ ss, SOk k s) {l : Nat} (hl : l ≤ d) (st : ∀ n, n < k ^ l → ∃ n', walked k d ss (some (l, n)) = some (l, n')) : Sft (k ^ l) (k ^ tlen ss l) (sgn ss) (fN k d ss l) := by
  have tl : tlen ss l ≤ l := by unfold tlen; split <;> omega
  have ev : ∀ n, n < k ^ l → walked k d ss (some (l, n)) = some (l, fN k d ss l n) := fun n hn => by
    obtain ⟨n', e⟩ := st n hn
    unfold fN
    rw [e]; rfl
  refine ⟨Nat.pow_pos t.pos, Nat.pow_dvd_pow k tl, sgn_or ss, fun n hn => (walked_ok t hs (p := (l, n)) ⟨hl, hn⟩ (ev n hn)).nu, fun n m x hn hm hx => ?_⟩
  obtain ⟨_, e', h1, h2⟩ := shift_any t hs hl hn hm hx (ev n hn) (ev m hm)
  have : e' = tlen ss l := by omega
  subst this
  exact h2
/-! ### the ring of a place -/
theorem stay_all {k d : Nat} {ss : List S} {l n n' : Nat} (w : walked k d ss (some (l, n)) = some (l, n')) (m : Nat) : ∃ m', walked k d ss (some (l, m)) = some (l, m') := by
  have := walked_lev k d ss (some (l, m)) (some (l, n)) rfl
  rw [w] at this
  cases e : walked k d ss (some (l, m)) with
  | none => rw [e] at this; cases this
  | some r =>
    rw [e] at this
    obtain ⟨a, b⟩ := r
    have : a = l := Option.some.inj this
    subst this
    exact ⟨b, rfl⟩
theorem seq_at {k d : Nat} {ss : List S} {l n n' : Nat} (w : walked k d ss (some (l, n)) = some (l, n')) : ∀ j, at_ k d ss (l, n) j = some (l, sq (fN k d ss l) n j)
  | 0 => rfl
  | j + 1 => by
    rw [at_succ, seq_at w j]
    obtain ⟨m', e⟩ := stay_all w (sq (fN k d ss l) n j)
    show _ = some (l, it (fN k d ss l) (j + 1) n)
    rw [it_succ, e]
    unfold fN
    rw [show walked k d ss (some (l, it (fun n => ((walked k d ss (some (l, n))).getD (0, 0)).2) j n)) = some (l, m') from e]
    rfl
theorem rnd_small {k d : Nat} (t : TOk k d) {ss : List S} (hl5 : ss.length ≤ 5) (l n : Nat) : ∃ be e, e ≤ 243 ∧ Rnd (k ^ tlen ss l) (sq (fN k d ss l) n) be e := by
  by_cases ht : .tp ∈ ss
  · obtain ⟨be, e, h1, h2⟩ := rnd_const (A := k ^ tlen ss l) (n0 := n) (f := fN k d ss l) (m0 := fN k d ss l 0) fun m => by
      unfold fN
      rw [top_same ss ht (p := some (l, m)) (q := some (l, 0)) rfl]
    exact ⟨be, e, by omega, h2⟩
  · obtain ⟨be, e, h1, h2⟩ := rnd_ex (A := k ^ tlen ss l) (Nat.pow_pos t.pos) (sq (fN k d ss l) n)
    refine ⟨be, e, Nat.le_trans h1 ?_, h2⟩
    have u5 : ups ss ≤ 5 := Nat.le_trans (List.length_filter_le _ _) hl5
    have : tlen ss l ≤ 5 := by unfold tlen; rw [if_neg ht]; omega
    have a := Nat.pow_le_pow_left (show k ≤ 3 by rcases t.k2 with h | h <;> omega) (tlen ss l)
    have b := Nat.pow_le_pow_right (show 0 < 3 by decide) this
    omega
/-- a ring is no longer than all there are -/
theorem IsRing.le {b : Nat → Nat} {M le pe : Nat} (h : IsRing b le pe) (lt : ∀ i, b i < M) : pe ≤ M := by
  have := nodup_len M ((List.range pe).map fun i => b (le + i)) (by
    rw [List.Nodup, List.pairwise_map]
    refine List.Pairwise.imp_of_mem ?_ (List.pairwise_lt_range)
    intro i j hi hj hij q
    have hj := List.mem_range.mp hj
    rcases (h.iff _ _).mp q with z | ⟨_, _, z⟩
    · omega
    · have := eq_of_dvd (a := i) (b := j) (M := pe) (by omega) hj (by
        have d := mod_dvd z
        have e : ((i : Nat) : Int) - (j : Nat) = -(((le + j : Nat) : Int) - ((le + i : Nat) : Int)) := by omega
        rw [e]
        exact Int.dvd_neg.mpr d)
      omega) fun x hx => by
    obtain ⟨i, _, rfl⟩ := List.mem_map.mp hx
    exact lt _
  simpa using this
/-- the ring: (lead, period) -/
theorem ring_at {k d : Nat} (t : TOk k d) {ss : List S} (hs : ∀ s ∈ ss, SOk k s) {p q r : Pl} (hp : POk k d p) {s : Nat} (mn : ∀ m, m < s → ¬ Stop k d ss p m) (h1 : at_ k d ss p s = some q) (h2 : at_ k d ss p (s + 1) = some r) (e : r.1 = q.1) {be e' : Nat}
    (R : Rnd (k ^ tlen ss q.1) (sq (fN k d ss q.1) q.2) be e') :
    IsRing (at_ k d ss p) (s + be) ((e' - be) * bkR (k ^ q.1) (sgn ss ^ (e' - be)) (sq (fN k d ss q.1) q.2 be) (sq (fN k d ss q.1) q.2 e')) := by
  obtain ⟨s1, s2, _⟩ := stays mn h1 h2 e
  obtain ⟨l, n⟩ := q
  obtain ⟨l', n'⟩ := r
  simp only at e s2 R
  subst e
  have w : walked k d ss (some (l', n)) = some (l', n') := by rw [at_succ, h1] at h2; exact h2
  have hq := at_ok t hs hp h1
  have F := sft t hs hq.lv fun m _ => stay_all w m
  have ring := R.ring F hq.nu
  have ev : ∀ j, at_ k d ss p (s + j) = some (l', sq (fN k d ss l') n j) := fun j => by
    show it (walked k d ss) (s + j) (some p) = _
    rw [it_add', show it (walked k d ss) s (some p) = some (l', n) from h1]
    exact seq_at w j
  generalize hP : (e' - be) * bkR (k ^ (l', n).1) (sgn ss ^ (e' - be)) (sq (fN k d ss (l', n).1) (l', n).2 be) (sq (fN k d ss (l', n).1) (l', n).2 e') = per at ring ⊢
  refine ⟨ring.pos, fun i j => ?_⟩
  by_cases hi : s ≤ i
  · by_cases hj : s ≤ j
    · have e1 := ev (i - s)
      have e2 := ev (j - s)
      rw [show s + (i - s) = i by omega] at e1
      rw [show s + (j - s) = j by omega] at e2
      rw [e1, e2]
      have := ring.iff (i - s) (j - s)
      constructor
      · intro z
        cases z' : Prod.mk.inj (Option.some.inj z) with
        | intro _ z2 =>
        rcases this.mp z2 with h | ⟨a, b, c⟩
        · exact .inl (by omega)
        · refine .inr ⟨by omega, by omega, ?_⟩
          rw [show i = (i - s) + s by omega, show j = (j - s) + s by omega, Nat.add_mod, c, ← Nat.add_mod]
      · rintro (h | ⟨a, b, c⟩)
        · subst h; rfl
        · have c2 : (i - s) % per = (j - s) % per := by
            have d1 := mod_dvd c
            refine dvd_mod ?_
            have : ((j - s : Nat) : Int) - ((i - s : Nat) : Int) = (j : Int) - i := by omega
            rw [this]
            exact d1
          rw [this.mpr (.inr ⟨by omega, by omega, c2⟩)]
    · obtain ⟨rfl, rfl⟩ : j = 0 ∧ s = 1 := by omega
      have e1 := ev (i - 1)
      rw [show 1 + (i - 1) = i by omega] at e1
      constructor
      · intro z
        rw [e1] at z
        have : p.1 = l' := by
          have z : some (l', _) = some p := z
          rw [← Option.some.inj z]
        exact absurd this (s2 (by omega))
      · rintro (h | ⟨a, b, c⟩)
        · subst h; rfl
        · omega
  · obtain ⟨rfl, rfl⟩ : i = 0 ∧ s = 1 := by omega
    by_cases hj : j = 0
    · subst hj; simp
    · have e1 := ev (j - 1)
      rw [show 1 + (j - 1) = j by omega] at e1
      constructor
      · intro z
        rw [e1] at z
        have : p.1 = l' := by
          have z : some p = some (l', _) := z
          rw [Option.some.inj z]
        exact absurd this (s2 (by omega))
      · rintro (h | ⟨a, b, c⟩)
        · exact absurd h.symm hj
        · omega
end FM

set_option linter.all false
set_option exponentiation.threshold 10000
/-! FMZ: steps that see neither leaves nor the top, on whole numbers (the number of a place is that modulo the size of its level). -/
namespace FM
def zst (k : Nat) : S → Int → Int
  | .up, x => x / (k : Int)
  | .dn w, x => x * k + w
  | .nx, x => x + 1
  | .ls, x => x - 1
  | .mi, x => -1 - x
  | _, x => x
def zw (k : Nat) : List S → Int → Int
  | [], x => x
  | s :: ss, x => zw k ss (zst k s x)
def plainS : S → Bool
  | .lf _ => false
  | .tp => false
  | _ => true
theorem z_step {k d : Nat} (hk : 0 < k) {s : S} (hp : plainS s = true) {c n c' n' : Nat} (hn : n < k ^ c) {x : Int} (hx : ((k ^ c : Nat) : Int) ∣ (n : Int) - x) (w : step k d s (c, n) = some (c', n')) : ((k ^ c' : Nat) : Int) ∣ (n' : Int) - zst k s x := by
  have pc : 0 < k ^ c := Nat.pow_pos hk
  cases s with
  | lf w => cases hp
  | tp => cases hp
  | up =>
    simp only [step] at w
    split at w
    · rename_i c0
      cases w
      obtain ⟨z, hz⟩ := hx
      have e2 : ((k ^ c : Nat) : Int) = k * ((k ^ (c - 1) : Nat) : Int) := by
        conv => lhs; rw [show c = (c - 1) + 1 by omega, Nat.pow_succ, Int.natCast_mul, Int.mul_comm]
      refine ⟨z, ?_⟩
      show ((n / k : Nat) : Int) - x / (k : Int) = _
      have hn2 : (n : Int) = x + k * (((k ^ (c - 1) : Nat) : Int) * z) := by
        rw [← Int.mul_assoc, ← e2]
        omega
      rw [Int.natCast_ediv, hn2, Int.add_mul_ediv_left _ _ (by omega)]
      omega
    · cases w
  | dn v =>
    simp only [step] at w
    split at w
    · cases w
      obtain ⟨z, hz⟩ := hx
      refine ⟨z, ?_⟩
      show ((n * k + v : Nat) : Int) - (x * k + v) = _
      rw [Nat.pow_succ, Int.natCast_add, Int.natCast_mul, Int.natCast_mul, Int.mul_right_comm, ← hz, Int.sub_mul]
      omega
    · cases w
  | nx =>
    cases w
    show ((k ^ c : Nat) : Int) ∣ (((n + 1) % k ^ c : Nat) : Int) - (x + 1)
    have := mod_dvd (A := k ^ c) (a := n + 1) (b := (n + 1) % k ^ c) (by rw [Nat.mod_mod])
    have := Int.dvd_add this hx
    rwa [show ((((n + 1) % k ^ c : Nat) : Int) - ((n + 1 : Nat) : Int)) + ((n : Int) - x) = (((n + 1) % k ^ c : Nat) : Int) - (x + 1) by omega] at this
  | ls =>
    cases w
    show ((k ^ c : Nat) : Int) ∣ (((n + (k ^ c - 1)) % k ^ c : Nat) : Int) - (x - 1)
    have h1 := mod_dvd (A := k ^ c) (a := n + (k ^ c - 1)) (b := (n + (k ^ c - 1)) % k ^ c) (by rw [Nat.mod_mod])
    have h2 := Int.dvd_add (Int.dvd_add h1 hx) (Int.dvd_refl ((k ^ c : Nat) : Int))
    generalize k ^ c = M at *
    rwa [show ((((n + (M - 1)) % M : Nat) : Int) - ((n + (M - 1) : Nat) : Int)) + ((n : Int) - x) + (M : Int) = (((n + (M - 1)) % M : Nat) : Int) - (x - 1) by omega] at h2
  | mi =>
    cases w
    show ((k ^ c : Nat) : Int) ∣ ((k ^ c - 1 - n : Nat) : Int) - (-1 - x)
    have h2 := Int.dvd_sub (Int.dvd_refl ((k ^ c : Nat) : Int)) hx
    generalize k ^ c = M at *
    rwa [show (M : Int) - ((n : Int) - x) = ((M - 1 - n : Nat) : Int) - (-1 - x) by omega] at h2
theorem z_walked {k d : Nat} (t : TOk k d) : ∀ (ss : List S) (_ : ∀ s ∈ ss, SOk k s) (_ : ∀ s ∈ ss, plainS s = true) {c n c' n' : Nat} (_ : POk k d (c, n)) {x : Int} (_ : ((k ^ c : Nat) : Int) ∣ (n : Int) - x) (_ : walked k d ss (some (c, n)) = some (c', n')), ((k ^ c' : Nat) : Int) ∣ (n' : Int) - zw k ss x
  | [], hs, hp, c, n, c', n', hn, x, hx, w => by cases w; exact hx
  | s :: ss, hs, hp, c, n, c', n', hn, x, hx, w => by
    rw [walked, Option.bind_some] at w
    cases z : step k d s (c, n) with
    | none => rw [z, walked_none] at w; cases w
    | some q =>
      obtain ⟨a, b⟩ := q
      rw [z] at w
      have h1 := z_step (d := d) t.pos (hp s List.mem_cons_self) hn.nu hx z
      have ok : POk k d (a, b) := walked_ok t (ss := [s]) (fun y hy => by rw [List.mem_singleton.mp hy]; exact hs s List.mem_cons_self) hn (by rw [walked, Option.bind_some, z]; rfl)
      exact z_walked t ss (fun y hy => hs y (List.mem_cons_of_mem _ hy)) (fun y hy => hp y (List.mem_cons_of_mem _ hy)) ok h1 w
/-! ### ups and downs -/
/-- how far a script goes up and down at most, from a level that is r above (as an integer) the begin -/
def relS : S → Int → Int
  | .up, r => r - 1
  | .dn _, r => r + 1
  | _, r => r
def relE (ss : List S) (r : Int) : Int := ss.foldl (fun r s => relS s r) r
/-- all levels on the way, relative -/
def relL : List S → Int → List Int
  | [], r => [r]
  | s :: ss, r => r :: relL ss (relS s r)
/-- it goes just if all levels on the way are levels of the tree -/
theorem goes {k d : Nat} : ∀ (ss : List S) (_ : ∀ s ∈ ss, plainS s = true) (c n : Nat) (l : Int), c ≤ d → ((∃ q, walked k d ss (some (c, n)) = some q) ↔ ∀ r ∈ relL ss (c : Int), 0 ≤ r ∧ r ≤ d)
  | [], _, c, n, l, hc => by
    constructor
    · intro _ r hr
      obtain rfl := List.mem_singleton.mp hr
      omega
    · intro _; exact ⟨_, rfl⟩
  | s :: ss, hp, c, n, l, hc => by
    have hp1 := hp s List.mem_cons_self
    have hp2 : ∀ s ∈ ss, plainS s = true := fun y hy => hp y (List.mem_cons_of_mem _ hy)
    rw [walked, Option.bind_some]
    have fst : ∀ r : Int, (∀ x ∈ relL (s :: ss) (c : Int), 0 ≤ x ∧ x ≤ d) ↔ (∀ x ∈ relL ss (relS s c), 0 ≤ x ∧ x ≤ d) := fun r => by
      rw [show relL (s :: ss) (c : Int) = (c : Int) :: relL ss (relS s c) from rfl]
      constructor
      · exact fun h x hx => h x (List.mem_cons_of_mem _ hx)
      · intro h x hx
        rcases List.mem_cons.mp hx with rfl | hx
        · omega
        · exact h x hx
    rw [fst 0]
    have head : ∀ (t : List S) (r : Int), r ∈ relL t r := fun t r => by cases t <;> exact List.mem_cons_self
    have same : ∀ n', step k d s (c, n) = some (c, n') → relS s (c : Int) = c → ((∃ q, walked k d ss (step k d s (c, n)) = some q) ↔ ∀ x ∈ relL ss (relS s c), 0 ≤ x ∧ x ≤ d) := fun n' e1 e2 => by
      rw [e1, e2]
      exact goes ss hp2 c n' 0 hc
    cases s with
    | lf w => cases hp1
    | tp => cases hp1
    | nx => exact same _ rfl rfl
    | ls => exact same _ rfl rfl
    | mi => exact same _ rfl rfl
    | up =>
      simp only [step]
      by_cases c0 : 0 < c
      · rw [if_pos c0]
        have := goes (k := k) (d := d) ss hp2 (c - 1) (n / k) 0 (by omega)
        rw [show relS .up (c : Int) = ((c - 1 : Nat) : Int) by show (c : Int) - 1 = ((c - 1 : Nat) : Int); omega]
        exact this
      · rw [if_neg c0, walked_none]
        refine iff_of_false (fun ⟨q, e⟩ => by cases e) fun h => ?_
        have := h _ (head ss _)
        have e : relS .up (c : Int) = (c : Int) - 1 := rfl
        rw [e] at this
        omega
    | dn w =>
      simp only [step]
      by_cases c0 : c < d
      · rw [if_pos c0]
        have := goes (k := k) (d := d) ss hp2 (c + 1) (n * k + w) 0 (by omega)
        rw [show relS (.dn w) (c : Int) = ((c + 1 : Nat) : Int) by show (c : Int) + 1 = ((c + 1 : Nat) : Int); omega]
        exact this
      · rw [if_neg c0, walked_none]
        refine iff_of_false (fun ⟨q, e⟩ => by cases e) fun h => ?_
        have := h _ (head ss _)
        have e : relS (.dn w) (c : Int) = (c : Int) + 1 := rfl
        rw [e] at this
        omega
/-- numbers apart by y tails -/
theorem z_shift {k : Nat} (hk : 0 < k) : ∀ (ss : List S) (_ : ∀ s ∈ ss, plainS s = true) (x y : Int) (e : Nat) (_ : ∀ r ∈ relL ss (e : Int), 0 ≤ r), ∃ e' : Nat, (e' : Int) = relE ss (e : Int) ∧ zw k ss (x + y * (k : Int) ^ e) = zw k ss x + sgn ss * y * (k : Int) ^ e'
  | [], hp, x, y, e, h => ⟨e, rfl, by simp [zw, sgn]⟩
  | s :: ss, hp, x, y, e, h => by
    have hp1 := hp s List.mem_cons_self
    have hp2 : ∀ s ∈ ss, plainS s = true := fun z hz => hp z (List.mem_cons_of_mem _ hz)
    have h2 : ∀ r ∈ relL ss (relS s (e : Int)), 0 ≤ r := fun r hr => h r (List.mem_cons_of_mem _ hr)
    have head : ∀ (t : List S) (r : Int), r ∈ relL t r := fun t r => by cases t <;> exact List.mem_cons_self
    have go : ∀ (e1 : Nat) (σ : Int), relS s (e : Int) = (e1 : Int) → zst k s (x + y * (k : Int) ^ e) = zst k s x + (σ * y) * (k : Int) ^ e1 → sgn (s :: ss) = sgn ss * σ → ∃ e' : Nat, (e' : Int) = relE (s :: ss) (e : Int) ∧ zw k (s :: ss) (x + y * (k : Int) ^ e) = zw k (s :: ss) x + sgn (s :: ss) * y * (k : Int) ^ e' := fun e1 σ q1 q2 q3 => by
      obtain ⟨e', r1, r2⟩ := z_shift hk ss hp2 (zst k s x) (σ * y) e1 (by rw [← q1]; exact h2)
      refine ⟨e', ?_, ?_⟩
      · rw [r1, ← q1]; rfl
      · show zw k ss (zst k s (x + y * (k : Int) ^ e)) = zw k ss (zst k s x) + _
        rw [q2, r2, q3, Int.mul_assoc (sgn ss) σ y]
    cases s with
    | lf w => cases hp1
    | tp => cases hp1
    | nx => exact go e 1 rfl (by show x + y * (k : Int) ^ e + 1 = x + 1 + 1 * y * (k : Int) ^ e; rw [Int.one_mul]; omega) (by simp [sgn])
    | ls => exact go e 1 rfl (by show x + y * (k : Int) ^ e - 1 = x - 1 + 1 * y * (k : Int) ^ e; rw [Int.one_mul]; omega) (by simp [sgn])
    | mi => exact go e (-1) rfl (by show -1 - (x + y * (k : Int) ^ e) = -1 - x + -1 * y * (k : Int) ^ e; rw [Int.neg_mul, Int.one_mul, Int.neg_mul]; omega) (by simp [sgn])
    | up =>
      have e0 := h2 _ (head ss _)
      have e0 : 0 ≤ (e : Int) - 1 := e0
      obtain ⟨f, rfl⟩ : ∃ f, e = f + 1 := ⟨e - 1, by omega⟩
      refine go f 1 (by show ((f + 1 : Nat) : Int) - 1 = f; omega) ?_ (by simp [sgn])
      show (x + y * (k : Int) ^ (f + 1)) / (k : Int) = x / (k : Int) + 1 * y * (k : Int) ^ f
      rw [Int.pow_succ, Int.mul_comm ((k : Int) ^ f), ← Int.mul_assoc, Int.mul_comm y, Int.mul_assoc, Int.add_mul_ediv_left _ _ (by omega), Int.one_mul]
    | dn w =>
      refine go (e + 1) 1 (by show (e : Int) + 1 = ((e + 1 : Nat) : Int); omega) ?_ (by simp [sgn])
      show (x + y * (k : Int) ^ e) * k + w = x * k + w + 1 * y * (k : Int) ^ (e + 1)
      rw [Int.pow_succ, Int.one_mul, Int.add_mul, Int.mul_assoc]
      omega
end FM

set_option linter.all false
set_option exponentiation.threshold 10000
set_option maxRecDepth 100000
/-! FMY: whether scripts of at most three steps fall, by levels alone: small trees stand for big ones. -/
namespace FM
inductive Kd where
  | up | dn | lf | tp | st
deriving DecidableEq
def kd : S → Kd
  | .up => .up
  | .dn _ => .dn
  | .lf _ => .lf
  | .tp => .tp
  | _ => .st
def lev (d : Nat) : List Kd → Nat → Option Nat
  | [], c => some c
  | .up :: r, c => if 0 < c then lev d r (c - 1) else none
  | .dn :: r, c => if c < d then lev d r (c + 1) else none
  | .lf :: r, c => lev d r d
  | .tp :: r, c => lev d r 0
  | .st :: r, c => lev d r c
theorem lev_ok {k d : Nat} : ∀ (ss : List S) (c n : Nat), (walked k d ss (some (c, n))).map (·.1) = lev d (ss.map kd) c
  | [], c, n => rfl
  | s :: ss, c, n => by
    rw [walked, Option.bind_some, List.map_cons]
    cases s with
    | up =>
      show (walked k d ss (if 0 < c then some (c - 1, n / k) else none)).map (·.1) = if 0 < c then lev d (ss.map kd) (c - 1) else none
      by_cases h : 0 < c
      · rw [if_pos h, if_pos h]; exact lev_ok ss _ _
      · rw [if_neg h, if_neg h, walked_none]; rfl
    | dn w =>
      show (walked k d ss (if c < d then some (c + 1, n * k + w) else none)).map (·.1) = if c < d then lev d (ss.map kd) (c + 1) else none
      by_cases h : c < d
      · rw [if_pos h, if_pos h]; exact lev_ok ss _ _
      · rw [if_neg h, if_neg h, walked_none]; rfl
    | lf w => exact lev_ok ss _ _
    | tp => exact lev_ok ss _ _
    | nx => exact lev_ok ss _ _
    | ls => exact lev_ok ss _ _
    | mi => exact lev_ok ss _ _
def kinds : List Kd := [.up, .dn, .lf, .tp, .st]
def upTo3 : List (List Kd) := [] :: (kinds.map fun a => [a]) ++ (kinds.flatMap fun a => kinds.map fun b => [a, b]) ++ (kinds.flatMap fun a => kinds.flatMap fun b => kinds.map fun c => [a, b, c])
theorem mem_kinds (a : Kd) : a ∈ kinds := by cases a <;> decide
theorem mem_upTo3 : ∀ ks : List Kd, ks.length ≤ 3 → ks ∈ upTo3
  | [], _ => by unfold upTo3; simp
  | [a], _ => by unfold upTo3; simp [mem_kinds]
  | [a, b], _ => by unfold upTo3; simp [mem_kinds]
  | [a, b, c], _ => by unfold upTo3; simp [mem_kinds]
  | a :: b :: c :: e :: r, h => by simp only [List.length_cons] at h; omega
/-- pairs (depth, level) -/
def pairsTo (m : Nat) : List (Nat × Nat) := (List.range (m + 1)).flatMap fun d => (List.range (d + 1)).map fun l => (d, l)
theorem mem_pairs {m d l : Nat} (h1 : d ≤ m) (h2 : l ≤ d) : (d, l) ∈ pairsTo m := List.mem_flatMap.mpr ⟨d, List.mem_range.mpr (by omega), List.mem_map.mpr ⟨l, List.mem_range.mpr (by omega), rfl⟩⟩
theorem pairs_mem {m : Nat} {p : Nat × Nat} (h : p ∈ pairsTo m) : p.1 ≤ m ∧ p.2 ≤ p.1 := by
  obtain ⟨d, hd, h⟩ := List.mem_flatMap.mp h
  obtain ⟨l, hl, rfl⟩ := List.mem_map.mp h
  have := List.mem_range.mp hd
  have := List.mem_range.mp hl
  exact ⟨by show d ≤ m; omega, by show l ≤ d; omega⟩
theorem small_check : (upTo3.all fun ks => !((pairsTo 16).any fun p => (lev p.1 ks p.2).isSome) ||
    (((pairsTo 5).any fun p => (lev p.1 ks p.2).isSome && decide (1 ≤ p.2)) &&
     ((pairsTo 5).any fun p => (lev p.1 ks p.2).isSome && (pairsTo 5).any fun q => (lev q.1 ks q.2).isSome && decide (p.1 - p.2 ≠ q.1 - q.2)))) = true := by decide +kernel
end FM

set_option linter.all false
set_option exponentiation.threshold 10000
/-! FNA: when one script undoes another one: small trees tell it of all. -/
namespace FM
/-! ### a plain script is near to the number, or to its negative -/
theorem z_near1 {k t : Nat} (hk : 2 ≤ k) {s : S} (hs : SOk k s) (hp : plainS s = true) (z : Int) (e e1 : Nat) (he : e ≤ t) (he1 : e1 ≤ t) (h : relS s (e : Int) = (e1 : Int)) :
    -((k ^ t : Nat) : Int) ≤ zst k s z * ((k ^ (t - e1) : Nat) : Int) - sgn [s] * z * ((k ^ (t - e) : Nat) : Int) ∧ zst k s z * ((k ^ (t - e1) : Nat) : Int) - sgn [s] * z * ((k ^ (t - e) : Nat) : Int) ≤ ((k ^ t : Nat) : Int) := by
  have le : ∀ g, g ≤ t → ((k ^ g : Nat) : Int) ≤ ((k ^ t : Nat) : Int) := fun g hg => Int.ofNat_le.mpr (Nat.pow_le_pow_right (by omega) hg)
  have l1 := le (t - e) (by omega)
  have l2 := le (t - e1) (by omega)
  have pos : (0 : Int) ≤ ((k ^ (t - e) : Nat) : Int) := Int.natCast_nonneg _
  cases s with
  | lf w => cases hp
  | tp => cases hp
  | up =>
    have h : (e : Int) - 1 = e1 := h
    have q : t - e1 = (t - e) + 1 := by omega
    have q2 : zst k .up z * ((k ^ (t - e1) : Nat) : Int) - sgn [.up] * z * ((k ^ (t - e) : Nat) : Int) = - ((z % (k : Int)) * ((k ^ (t - e) : Nat) : Int)) := by
      show z / (k : Int) * _ - _ = _
      rw [q, Nat.pow_succ, Int.natCast_mul, Int.mul_comm _ (k : Int), ← Int.mul_assoc]
      have := Int.emod_add_mul_ediv z (k : Int)
      have e2 : z / (k : Int) * (k : Int) = z - z % (k : Int) := by rw [Int.mul_comm]; omega
      rw [e2, Int.sub_mul]
      simp only [sgn, Int.one_mul]
      omega
    rw [q2]
    have m0 := Int.emod_nonneg z (show (k : Int) ≠ 0 by omega)
    have m1 := Int.emod_lt_of_pos z (show (0 : Int) < k by omega)
    have a := Int.mul_le_mul_of_nonneg_right (show z % (k : Int) ≤ (k : Int) by omega) pos
    have b := Int.mul_nonneg m0 pos
    have e3 : (k : Int) * ((k ^ (t - e) : Nat) : Int) = ((k ^ (t - e1) : Nat) : Int) := by rw [q, Nat.pow_succ, Int.natCast_mul, Int.mul_comm]
    rw [e3] at a
    omega
  | dn w =>
    have h : (e : Int) + 1 = e1 := h
    have q : t - e = (t - e1) + 1 := by omega
    have hw : w < k := hs
    have q2 : zst k (.dn w) z * ((k ^ (t - e1) : Nat) : Int) - sgn [.dn w] * z * ((k ^ (t - e) : Nat) : Int) = (w : Int) * ((k ^ (t - e1) : Nat) : Int) := by
      show (z * (k : Int) + w) * _ - _ = _
      rw [q, Nat.pow_succ, Int.natCast_mul, Int.add_mul]
      simp only [sgn, Int.one_mul]
      rw [Int.mul_assoc z, Int.mul_comm (k : Int)]
      omega
    rw [q2]
    have pos1 : (0 : Int) ≤ ((k ^ (t - e1) : Nat) : Int) := Int.natCast_nonneg _
    have a := Int.mul_le_mul_of_nonneg_right (show (w : Int) ≤ (k : Int) by omega) pos1
    have b := Int.mul_nonneg (show (0 : Int) ≤ w by omega) pos1
    have e3 : (k : Int) * ((k ^ (t - e1) : Nat) : Int) = ((k ^ (t - e) : Nat) : Int) := by rw [q, Nat.pow_succ, Int.natCast_mul, Int.mul_comm]
    rw [e3] at a
    omega
  | nx =>
    have h : (e : Int) = e1 := h
    obtain rfl : e = e1 := by omega
    have q2 : zst k .nx z * ((k ^ (t - e) : Nat) : Int) - sgn [.nx] * z * ((k ^ (t - e) : Nat) : Int) = ((k ^ (t - e) : Nat) : Int) := by
      show (z + 1) * _ - _ = _
      simp only [sgn, Int.one_mul, Int.add_mul]
      omega
    rw [q2]; omega
  | ls =>
    have h : (e : Int) = e1 := h
    obtain rfl : e = e1 := by omega
    have q2 : zst k .ls z * ((k ^ (t - e) : Nat) : Int) - sgn [.ls] * z * ((k ^ (t - e) : Nat) : Int) = -((k ^ (t - e) : Nat) : Int) := by
      show (z - 1) * _ - _ = _
      simp only [sgn, Int.one_mul, Int.sub_mul]
      omega
    rw [q2]; omega
  | mi =>
    have h : (e : Int) = e1 := h
    obtain rfl : e = e1 := by omega
    have q2 : zst k .mi z * ((k ^ (t - e) : Nat) : Int) - sgn [.mi] * z * ((k ^ (t - e) : Nat) : Int) = -((k ^ (t - e) : Nat) : Int) := by
      show (-1 - z) * _ - _ = _
      simp only [sgn, Int.one_mul, Int.sub_mul, Int.neg_mul]
      omega
    rw [q2]; omega
theorem z_near {k t : Nat} (hk : 2 ≤ k) : ∀ (ss : List S) (_ : ∀ s ∈ ss, SOk k s) (_ : ∀ s ∈ ss, plainS s = true) (z : Int) (e : Nat) (_ : ∀ r ∈ relL ss (e : Int), 0 ≤ r ∧ r ≤ t), ∃ e' : Nat, (e' : Int) = relE ss (e : Int) ∧
    -((ss.length : Int) * ((k ^ t : Nat) : Int)) ≤ zw k ss z * ((k ^ (t - e') : Nat) : Int) - sgn ss * z * ((k ^ (t - e) : Nat) : Int) ∧ zw k ss z * ((k ^ (t - e') : Nat) : Int) - sgn ss * z * ((k ^ (t - e) : Nat) : Int) ≤ (ss.length : Int) * ((k ^ t : Nat) : Int)
  | [], hs, hp, z, e, h => ⟨e, rfl, by simp [zw, sgn], by simp [zw, sgn]⟩
  | s :: ss, hs, hp, z, e, h => by
    have head : ∀ (t : List S) (r : Int), r ∈ relL t r := fun t r => by cases t <;> exact List.mem_cons_self
    have h0 := h _ List.mem_cons_self
    have h2 : ∀ r ∈ relL ss (relS s (e : Int)), 0 ≤ r ∧ r ≤ t := fun r hr => h r (List.mem_cons_of_mem _ hr)
    have h1 := h2 _ (head ss _)
    obtain ⟨e1, q1⟩ : ∃ e1 : Nat, relS s (e : Int) = (e1 : Int) := ⟨(relS s (e : Int)).toNat, by omega⟩
    rw [q1] at h1 h2
    obtain ⟨e', r1, r2, r3⟩ := z_near hk ss (fun y hy => hs y (List.mem_cons_of_mem _ hy)) (fun y hy => hp y (List.mem_cons_of_mem _ hy)) (zst k s z) e1 h2
    have n1 := z_near1 (t := t) hk (hs s List.mem_cons_self) (hp s List.mem_cons_self) z e e1 (by omega) (by omega) q1
    refine ⟨e', by rw [r1, ← q1]; rfl, ?_⟩
    have ex : zw k (s :: ss) z * ((k ^ (t - e') : Nat) : Int) - sgn (s :: ss) * z * ((k ^ (t - e) : Nat) : Int) =
        (zw k ss (zst k s z) * ((k ^ (t - e') : Nat) : Int) - sgn ss * zst k s z * ((k ^ (t - e1) : Nat) : Int)) + sgn ss * (zst k s z * ((k ^ (t - e1) : Nat) : Int) - sgn [s] * z * ((k ^ (t - e) : Nat) : Int)) := by
      rw [sgn_cons, Int.mul_comm (sgn [s]), Int.mul_sub]
      simp only [Int.mul_assoc]
      show zw k ss (zst k s z) * _ - _ = _
      omega
    rw [ex, List.length_cons, Int.natCast_add, Int.add_mul]
    generalize zw k ss (zst k s z) * ((k ^ (t - e') : Nat) : Int) - sgn ss * zst k s z * ((k ^ (t - e1) : Nat) : Int) = A at *
    generalize zst k s z * ((k ^ (t - e1) : Nat) : Int) - sgn [s] * z * ((k ^ (t - e) : Nat) : Int) = B at *
    generalize (ss.length : Int) * ((k ^ t : Nat) : Int) = C at *
    generalize ((k ^ t : Nat) : Int) = D at *
    rcases sgn_or ss with q | q <;> rw [q] <;> omega
/-! ### levels of plain scripts -/
theorem rel_shift : ∀ (ss : List S) (a x : Int), relL ss (a + x) = (relL ss a).map (· + x)
  | [], a, x => rfl
  | s :: ss, a, x => by
    have e : relS s (a + x) = relS s a + x := by cases s <;> simp only [relS] <;> omega
    show (a + x) :: relL ss (relS s (a + x)) = (a + x) :: (relL ss (relS s a)).map (· + x)
    rw [e, rel_shift ss]
theorem relE_shift : ∀ (ss : List S) (a x : Int), relE ss (a + x) = relE ss a + x
  | [], a, x => rfl
  | s :: ss, a, x => by
    have e : relS s (a + x) = relS s a + x := by cases s <;> simp only [relS] <;> omega
    show relE ss (relS s (a + x)) = relE ss (relS s a) + x
    rw [e, relE_shift ss]
theorem relE_ok {k d : Nat} : ∀ (ss : List S) (_ : ∀ s ∈ ss, plainS s = true) {c n : Nat} {q : Pl}, walked k d ss (some (c, n)) = some q → (q.1 : Int) = relE ss (c : Int)
  | [], _, c, n, q, h => by cases h; rfl
  | s :: ss, hp, c, n, q, h => by
    have hp1 := hp s List.mem_cons_self
    rw [walked, Option.bind_some] at h
    cases z : step k d s (c, n) with
    | none => rw [z, walked_none] at h; cases h
    | some r =>
      obtain ⟨c1, n1⟩ := r
      rw [z] at h
      have ih := relE_ok ss (fun y hy => hp y (List.mem_cons_of_mem _ hy)) h
      rw [ih]
      show _ = relE ss (relS s (c : Int))
      congr 1
      cases s with
      | lf w => cases hp1
      | tp => cases hp1
      | up =>
        simp only [step] at z
        split at z
        · cases z; show ((c - 1 : Nat) : Int) = (c : Int) - 1; omega
        · cases z
      | dn w =>
        simp only [step] at z
        split at z
        · cases z; show ((c + 1 : Nat) : Int) = (c : Int) + 1; omega
        · cases z
      | nx => cases z; rfl
      | ls => cases z; rfl
      | mi => cases z; rfl
theorem rel_head (ss : List S) (r : Int) : r ∈ relL ss r := by cases ss <;> exact List.mem_cons_self
/-- how far up and down -/
theorem reach : ∀ (ss : List S) (_ : ∀ s ∈ ss, plainS s = true) (a : Int), ∃ u h : Nat, u + h ≤ ss.length ∧ (∀ r ∈ relL ss a, a - u ≤ r ∧ r ≤ a + h) ∧ a - u ∈ relL ss a ∧ a + h ∈ relL ss a
  | [], _, a => ⟨0, 0, Nat.le_refl _, fun r hr => by obtain rfl := List.mem_singleton.mp hr; omega, by simp [relL], by simp [relL]⟩
  | s :: ss, hp, a => by
    have hp1 := hp s List.mem_cons_self
    obtain ⟨u, h, h1, h2, h3, h4⟩ := reach ss (fun y hy => hp y (List.mem_cons_of_mem _ hy)) (relS s a)
    have cons : ∀ r, r ∈ relL (s :: ss) a ↔ r = a ∨ r ∈ relL ss (relS s a) := fun r => List.mem_cons
    have same : relS s a = a → ∃ u h : Nat, u + h ≤ (s :: ss).length ∧ (∀ r ∈ relL (s :: ss) a, a - u ≤ r ∧ r ≤ a + h) ∧ a - u ∈ relL (s :: ss) a ∧ a + h ∈ relL (s :: ss) a := fun e => by
      rw [e] at h2 h3 h4
      refine ⟨u, h, by rw [List.length_cons]; omega, fun r hr => ?_, (cons _).mpr (.inr (by rw [e]; exact h3)), (cons _).mpr (.inr (by rw [e]; exact h4))⟩
      rcases (cons _).mp hr with rfl | hr
      · omega
      · rw [e] at hr; exact h2 r hr
    cases s with
    | lf w => cases hp1
    | tp => cases hp1
    | nx => exact same rfl
    | ls => exact same rfl
    | mi => exact same rfl
    | up =>
      have e : relS .up a = a - 1 := rfl
      rw [e] at h2 h3 h4
      refine ⟨u + 1, h - 1, by rw [List.length_cons]; omega, fun r hr => ?_, (cons _).mpr (.inr ?_), (cons _).mpr ?_⟩
      · rcases (cons _).mp hr with rfl | hr
        · omega
        · have := h2 r hr; omega
      · rw [show a - ((u + 1 : Nat) : Int) = a - 1 - u by omega, e]; exact h3
      · by_cases z : h = 0
        · exact .inl (by omega)
        · refine .inr ?_
          rw [show a + ((h - 1 : Nat) : Int) = a - 1 + h by omega, e]; exact h4
    | dn w =>
      have e : relS (.dn w) a = a + 1 := rfl
      rw [e] at h2 h3 h4
      refine ⟨u - 1, h + 1, by rw [List.length_cons]; omega, fun r hr => ?_, (cons _).mpr ?_, (cons _).mpr (.inr ?_)⟩
      · rcases (cons _).mp hr with rfl | hr
        · omega
        · have := h2 r hr; omega
      · by_cases z : u = 0
        · exact .inl (by omega)
        · refine .inr ?_
          rw [show a - ((u - 1 : Nat) : Int) = a + 1 - u by omega, e]; exact h3
      · rw [show a + ((h + 1 : Nat) : Int) = a + 1 + h by omega, e]; exact h4
/-! ### behind a leaf the level hangs on the depth -/
theorem leaf_sh1 : ∀ (ss : List S) (_ : .tp ∉ ss), ∃ f : Int → Int, ∀ (d : Nat) (a : Int), ss.foldl (Sh.st d) (.cn (d + a)) = .cn (d + f a)
  | [], _ => ⟨fun a => a, fun _ _ => rfl⟩
  | s :: ss, ht => by
    obtain ⟨f, hf⟩ := leaf_sh1 ss fun z => ht (List.mem_cons_of_mem _ z)
    cases s with
    | tp => exact absurd List.mem_cons_self ht
    | up => exact ⟨fun a => f (a - 1), fun d a => by rw [← hf, List.foldl_cons]; simp only [Sh.st]; congr 2; omega⟩
    | dn w => exact ⟨fun a => f (a + 1), fun d a => by rw [← hf, List.foldl_cons]; simp only [Sh.st]; congr 2; omega⟩
    | lf w => exact ⟨fun a => f 0, fun d a => by rw [← hf, List.foldl_cons]; simp only [Sh.st, Int.add_zero]⟩
    | nx => exact ⟨f, fun d a => by rw [← hf, List.foldl_cons]; rfl⟩
    | ls => exact ⟨f, fun d a => by rw [← hf, List.foldl_cons]; rfl⟩
    | mi => exact ⟨f, fun d a => by rw [← hf, List.foldl_cons]; rfl⟩
theorem leaf_sh : ∀ (ss : List S) (_ : .tp ∉ ss) {w : Nat} (_ : .lf w ∈ ss), ∃ c : Int, ∀ (d : Nat) (h : Sh), ss.foldl (Sh.st d) h = .cn (d + c)
  | s :: ss, ht, w, hl => by
    have ht' : S.tp ∉ ss := fun z => ht (List.mem_cons_of_mem _ z)
    by_cases z : ∃ v, S.lf v ∈ ss
    · obtain ⟨v, z⟩ := z
      obtain ⟨c, hc⟩ := leaf_sh ss ht' z
      exact ⟨c, fun d h => by rw [List.foldl_cons]; exact hc d _⟩
    · rcases List.mem_cons.mp hl with rfl | q
      · obtain ⟨f, hf⟩ := leaf_sh1 ss ht'
        refine ⟨f 0, fun d h => ?_⟩
        rw [← hf d 0, List.foldl_cons]
        cases h <;> simp only [Sh.st, Int.add_zero]
      · exact absurd ⟨w, q⟩ z
end FM
namespace FM
theorem lev_some {k d : Nat} {ss : List S} {c n : Nat} : (lev d (ss.map kd) c).isSome = (walked k d ss (some (c, n))).isSome := by
  rw [← lev_ok (k := k) ss c n, Option.isSome_map]
theorem some_of {α : Type} {o : Option α} (h : o.isSome = true) : ∃ q, o = some q := by
  cases o with
  | none => cases h
  | some q => exact ⟨q, rfl⟩
/-- small trees tell of all whether one undoes the other -/
theorem undo_full {k m : Nat} (hm : (k = 2 ∧ m = 7) ∨ (k = 3 ∧ m = 5)) {one other : List S} (o1 : ∀ s ∈ one, SOk k s) (o2 : ∀ s ∈ other, SOk k s) (l1 : one.length ≤ 5) (l2 : other.length ≤ 3)
    (H : ∀ d l n, d ≤ m → l ≤ d → n < k ^ l → (walked k d other (some (l, n))).isSome = true → walked k d (other ++ one) (some (l, n)) = some (l, n))
    {d l n : Nat} (hd : d ≤ 16) (hl : l ≤ d) (hn : n < k ^ l) (go : (walked k d other (some (l, n))).isSome = true) : walked k d (other ++ one) (some (l, n)) = some (l, n) := by
  have k2 : 2 ≤ k := by omega
  have m5 : 5 ≤ m := by omega
  have hW : ∀ s ∈ other ++ one, SOk k s := fun s hs => (List.mem_append.mp hs).elim (o2 s) (o1 s)
  have sc := (List.all_eq_true.mp small_check) _ (mem_upTo3 (other.map kd) (by rw [List.length_map]; exact l2))
  have big : ((pairsTo 16).any fun p => (lev p.1 (other.map kd) p.2).isSome) = true := List.any_eq_true.mpr ⟨(d, l), mem_pairs hd hl, by rw [lev_some (k := k) (n := n)]; exact go⟩
  rw [big, Bool.not_true, Bool.false_or, Bool.and_eq_true] at sc
  obtain ⟨sa, sb⟩ := sc
  obtain ⟨p, hp, sa⟩ := List.any_eq_true.mp sa
  rw [Bool.and_eq_true] at sa
  obtain ⟨sa1, sa2⟩ := sa
  have sa2 : 1 ≤ p.2 := by simpa using sa2
  have pm := pairs_mem hp
  have nt : S.tp ∉ other ++ one := fun z => by
    have e := top_same (k := k) (d := p.1) _ z (p := some (p.2, 0)) (q := some (p.2, 1)) rfl
    have one_lt : 1 < k ^ p.2 := Nat.one_lt_pow (by omega) (by omega)
    rw [H p.1 p.2 0 (by omega) pm.2 (by omega) (by rw [← lev_some]; exact sa1), H p.1 p.2 1 (by omega) pm.2 one_lt (by rw [← lev_some]; exact sa1)] at e
    cases e
  have nl : ∀ w, S.lf w ∉ other ++ one := fun w z => by
    obtain ⟨c, hc⟩ := leaf_sh _ nt z
    obtain ⟨p, hp, sb⟩ := List.any_eq_true.mp sb
    rw [Bool.and_eq_true] at sb
    obtain ⟨b1, sb⟩ := sb
    obtain ⟨q, hq, sb⟩ := List.any_eq_true.mp sb
    rw [Bool.and_eq_true] at sb
    obtain ⟨b2, b3⟩ := sb
    have b3 : p.1 - p.2 ≠ q.1 - q.2 := by simpa using b3
    have pm := pairs_mem hp
    have qm := pairs_mem hq
    have e1 := shape_ok (H p.1 p.2 0 (by omega) pm.2 (Nat.pow_pos (by omega)) (by rw [← lev_some]; exact b1))
    have e2 := shape_ok (H q.1 q.2 0 (by omega) qm.2 (Nat.pow_pos (by omega)) (by rw [← lev_some]; exact b2))
    unfold shape at e1 e2
    rw [hc] at e1 e2
    simp only [Sh.lv] at e1 e2
    omega
  have pW : ∀ s ∈ other ++ one, plainS s = true := fun s hs => by
    cases s with
    | lf w => exact absurd hs (nl w)
    | tp => exact absurd hs nt
    | _ => rfl
  have pO : ∀ s ∈ other, plainS s = true := fun s hs => pW s (List.mem_append_left _ hs)
  obtain ⟨u, h, uh, r1, r2, r3⟩ := reach other pO 0
  have oGo : ∀ (D L N : Nat), L ≤ D → ((walked k D other (some (L, N))).isSome = true ↔ u ≤ L ∧ L + h ≤ D) := fun D L N hLD => by
    have g := goes (k := k) (d := D) other pO L N 0 hLD
    have sh := rel_shift other 0 L
    rw [Int.zero_add] at sh
    have iff1 : (∀ r ∈ relL other (L : Int), 0 ≤ r ∧ r ≤ D) ↔ u ≤ L ∧ L + h ≤ D := by
      rw [sh]
      constructor
      · intro a
        have a1 := a _ (List.mem_map.mpr ⟨_, r2, rfl⟩)
        have a2 := a _ (List.mem_map.mpr ⟨_, r3, rfl⟩)
        omega
      · rintro ⟨a1, a2⟩ r hr
        obtain ⟨x, hx, rfl⟩ := List.mem_map.mp hr
        have := r1 x hx
        omega
    rw [← iff1, ← g]
    constructor
    · exact some_of
    · rintro ⟨q, e⟩; rw [e]; rfl
  -- the whole goes where the other one goes
  have w0 := H (u + h) u 0 (by omega) (by omega) (Nat.pow_pos (by omega)) ((oGo _ _ _ (by omega)).mpr ⟨Nat.le_refl _, Nat.le_refl _⟩)
  have wR := (goes (k := k) (d := u + h) (other ++ one) pW u 0 0 (by omega)).mp ⟨_, w0⟩
  have wE := relE_ok (other ++ one) pW w0
  have wE : relE (other ++ one) (u : Int) = u := wE.symm
  have tk : ∀ D, D ≤ 60 → TOk k D := fun D hD => ⟨by omega, hD⟩
  -- the great small tree
  obtain ⟨L, hL⟩ : ∃ L, L + h = m := ⟨m - h, by omega⟩
  have Lu : 9 * k ^ u ≤ k ^ L := by
    rcases hm with ⟨rfl, rfl⟩ | ⟨rfl, rfl⟩
    · have : 2 ^ (u + 4) ≤ 2 ^ L := Nat.pow_le_pow_right (by omega) (by omega)
      rw [Nat.pow_add] at this
      omega
    · have : 3 ^ (u + 2) ≤ 3 ^ L := Nat.pow_le_pow_right (by omega) (by omega)
      rw [Nat.pow_add] at this
      omega
  have pu : 0 < k ^ u := Nat.pow_pos (by omega)
  have atL : ∀ N, N < k ^ L → ((k ^ L : Nat) : Int) ∣ (N : Int) - zw k (other ++ one) N := fun N hN => by
    have w := H m L N (Nat.le_refl _) (by omega) hN ((oGo _ _ _ (by omega)).mpr ⟨by omega, by omega⟩)
    exact z_walked (tk m (by omega)) (other ++ one) hW pW ⟨by omega, hN⟩ (x := (N : Int)) (by rw [Int.sub_self]; exact Int.dvd_zero _) w
  have shift : ∀ x y : Int, zw k (other ++ one) (x + y * ((k ^ u : Nat) : Int)) = zw k (other ++ one) x + sgn (other ++ one) * y * ((k ^ u : Nat) : Int) := fun x y => by
    obtain ⟨e', q1, q2⟩ := z_shift (k := k) (by omega) (other ++ one) pW x y u fun r hr => (wR r hr).1
    rw [wE] at q1
    obtain rfl : e' = u := by omega
    rw [pow_cast]
    exact q2
  have s1 : sgn (other ++ one) = 1 := by
    rcases sgn_or (other ++ one) with z | z
    · exact z
    · exfalso
      have a := atL 0 (by omega)
      have b := atL (k ^ u) (by omega)
      have c := shift 0 1
      rw [z] at c
      simp only [Int.zero_add, Int.one_mul, Int.mul_one] at c
      rw [c] at b
      have dd := Int.dvd_sub b a
      have : ((k ^ u : Nat) : Int) - (zw k (other ++ one) 0 + -1 * ((k ^ u : Nat) : Int)) - (((0 : Nat) : Int) - zw k (other ++ one) ((0 : Nat) : Int)) = ((2 * k ^ u : Nat) : Int) := by
        rw [show (((0 : Nat) : Int)) = 0 from rfl]
        omega
      rw [this] at dd
      have := Nat.le_of_dvd (by omega) (Int.natCast_dvd_natCast.mp dd)
      omega
  have small : ∀ x : Nat, x < k ^ u → zw k (other ++ one) x = x := fun x hx => by
    obtain ⟨e', q1, q2, q3⟩ := z_near (t := u + h) k2 (other ++ one) hW pW (x : Int) u wR
    rw [wE] at q1
    obtain rfl : e' = u := by omega
    rw [s1, Int.one_mul, show e' + h - e' = h by omega, ← Int.sub_mul] at q2 q3
    have len : (((other ++ one).length : Nat) : Int) ≤ 8 := by rw [List.length_append]; omega
    have a := atL x (by omega)
    have ph : (0 : Int) < ((k ^ h : Nat) : Int) := Int.ofNat_lt.mpr (Nat.pow_pos (by omega))
    have e2 : ((k ^ (e' + h) : Nat) : Int) = ((k ^ e' : Nat) : Int) * ((k ^ h : Nat) : Int) := by rw [Nat.pow_add, Int.natCast_mul]
    have pu' : (0 : Int) ≤ ((k ^ e' : Nat) : Int) := Int.natCast_nonneg _
    have l8 := Int.mul_le_mul_of_nonneg_right len pu'
    rw [e2, ← Int.mul_assoc] at q2 q3
    have b1 : zw k (other ++ one) x - x ≤ 8 * ((k ^ e' : Nat) : Int) := Int.le_trans (Int.le_of_mul_le_mul_right q3 ph) l8
    have b2 : -(8 * ((k ^ e' : Nat) : Int)) ≤ zw k (other ++ one) x - x := by
      rw [← Int.neg_mul] at q2
      have := Int.le_of_mul_le_mul_right q2 ph
      omega
    obtain ⟨y, hy⟩ := a
    have Lu' : 9 * ((k ^ e' : Nat) : Int) ≤ ((k ^ L : Nat) : Int) := by
      have := Int.ofNat_le.mpr Lu
      rw [Int.natCast_mul] at this
      exact this
    have pu2 : (0 : Int) < ((k ^ e' : Nat) : Int) := Int.ofNat_lt.mpr pu
    have y0 : y = 0 := by
      rcases Int.lt_trichotomy y 0 with z | z | z
      · have := Int.mul_le_mul_of_nonneg_left (show y ≤ -1 by omega) (show (0 : Int) ≤ ((k ^ L : Nat) : Int) by omega)
        rw [← hy] at this
        omega
      · exact z
      · have := Int.mul_le_mul_of_nonneg_left (show 1 ≤ y by omega) (show (0 : Int) ≤ ((k ^ L : Nat) : Int) by omega)
        rw [← hy] at this
        omega
    rw [y0, Int.mul_zero] at hy
    omega
  have all : ∀ N : Nat, zw k (other ++ one) N = N := fun N => by
    have e : (N : Int) = ((N % k ^ u : Nat) : Int) + ((N / k ^ u : Nat) : Int) * ((k ^ u : Nat) : Int) := by
      rw [← Int.natCast_mul, ← Int.natCast_add, Nat.mul_comm, Nat.mod_add_div]
    conv => lhs; rw [e]
    rw [shift, small _ (Nat.mod_lt _ pu), s1, Int.one_mul]
    exact e.symm
  have og := (oGo d l n hl).mp go
  have gW := (goes (k := k) (d := d) (other ++ one) pW l n 0 hl).mpr (by
    intro r hr
    have sh := rel_shift (other ++ one) (u : Int) ((l : Int) - u)
    rw [show (u : Int) + ((l : Int) - u) = l by omega] at sh
    rw [sh] at hr
    obtain ⟨x, hx, rfl⟩ := List.mem_map.mp hr
    have := wR x hx
    omega)
  obtain ⟨⟨l', n'⟩, gW⟩ := gW
  have t := tk d (by omega)
  have ok := walked_ok t hW (p := (l, n)) ⟨hl, hn⟩ gW
  have el := relE_ok (other ++ one) pW gW
  have eS := relE_shift (other ++ one) (u : Int) ((l : Int) - u)
  rw [show (u : Int) + ((l : Int) - u) = l by omega, wE] at eS
  obtain rfl : l' = l := by
    have el : (l' : Int) = relE (other ++ one) (l : Int) := el
    omega
  have dv := z_walked t (other ++ one) hW pW ⟨hl, hn⟩ (x := (n : Int)) (by rw [Int.sub_self]; exact Int.dvd_zero _) gW
  rw [all n] at dv
  obtain rfl : n' = n := eq_of_dvd ok.nu hn dv
  exact gW
/-- a few first numbers tell of all of a level -/
theorem undo_sound {k d : Nat} (t : TOk k d) {ss : List S} (hs : ∀ s ∈ ss, SOk k s) {l : Nat} (hl : l ≤ d) (hc : ∀ n, n < k ^ min (ups ss) l + 1 → n < k ^ l → walked k d ss (some (l, n)) = some (l, n)) {n : Nat} (hn : n < k ^ l) : walked k d ss (some (l, n)) = some (l, n) := by
  have k2 : 2 ≤ k := by rcases t.k2 with h | h <;> omega
  have pA : 0 < k ^ min (ups ss) l := Nat.pow_pos (by omega)
  by_cases ht : .tp ∈ ss
  · by_cases l0 : l = 0
    · subst l0
      exact hc n (by simp at hn; omega) hn
    · have one_lt : 1 < k ^ l := Nat.one_lt_pow l0 (by omega)
      have e := top_same (k := k) (d := d) _ ht (p := some (l, 0)) (q := some (l, 1)) rfl
      rw [hc 0 (by omega) (by omega), hc 1 (by omega) one_lt] at e
      cases e
  · have tl : tlen ss l = min (ups ss) l := by unfold tlen; rw [if_neg ht]
    have tll : tlen ss l ≤ l := by rw [tl]; omega
    rw [← tl] at hc pA
    generalize hA : k ^ tlen ss l = A at *
    by_cases nA : n < A
    · exact hc n (by omega) hn
    · have e0 := hc 0 (by omega) (by omega)
      have eA := hc A (by omega) (by omega)
      have hq : n % A < A := Nat.mod_lt _ pA
      have eq := hc (n % A) (by omega) (by omega)
      obtain ⟨_, e', h1, h2⟩ := shift_any t hs hl (n := 0) (m := A) (by omega) (by omega) (x := 1) (by rw [hA]; simp) e0 eA
      obtain rfl : e' = tlen ss l := by omega
      cases w : walked k d ss (some (l, n)) with
      | none =>
        have := walked_isNone k d ss l n 0
        rw [w, e0] at this
        cases this
      | some q =>
        obtain ⟨l2, n2⟩ := q
        have dv0 : ((k ^ l : Nat) : Int) ∣ (n : Int) - (n % A : Nat) - ((n / A : Nat) : Int) * ((k ^ tlen ss l : Nat) : Int) := by
          rw [hA]
          have := Nat.mod_add_div n A
          have : (n : Int) = ((n % A : Nat) : Int) + (A : Int) * ((n / A : Nat) : Int) := by rw [← Int.natCast_mul, ← Int.natCast_add, this]
          rw [Int.mul_comm ((n / A : Nat) : Int)]
          rw [show (n : Int) - (n % A : Nat) - (A : Int) * ((n / A : Nat) : Int) = 0 by omega]
          exact Int.dvd_zero _
        obtain ⟨q1, e2, h3, h4⟩ := shift_any t hs hl (n := n % A) (m := n) (by omega) hn dv0 eq w
        obtain rfl : e2 = tlen ss l := by omega
        subst q1
        have ok := walked_ok t hs (p := (l2, n)) ⟨hl, hn⟩ w
        rw [hA] at h2 h4 dv0
        obtain ⟨y, hy⟩ := h2
        obtain ⟨y2, hy2⟩ := h4
        obtain ⟨y3, hy3⟩ := dv0
        have fin : ((k ^ l2 : Nat) : Int) ∣ (n2 : Int) - n := by
          rcases sgn_or ss with z | z
          · rw [z, Int.one_mul] at hy2
            exact ⟨y2 - y3, by rw [Int.mul_sub]; omega⟩
          · rw [z] at hy hy2
            simp only [Int.neg_mul, Int.one_mul] at hy hy2
            -- 2 A = M y; n2 - n = M y2 - M y3 - 2 x A
            refine ⟨y2 - y3 - ((n / A : Nat) : Int) * y, ?_⟩
            rw [Int.mul_sub, Int.mul_sub, ← hy2, ← hy3]
            have e5 : ((k ^ l2 : Nat) : Int) * (((n / A : Nat) : Int) * y) = ((n / A : Nat) : Int) * (((k ^ l2 : Nat) : Int) * y) := by
              rw [← Int.mul_assoc, Int.mul_comm _ ((n / A : Nat) : Int), Int.mul_assoc]
            rw [e5, ← hy, Int.mul_sub, Int.mul_sub]
            simp only [Int.mul_neg]
            have z0 : ((n / A : Nat) : Int) * ((0 : Nat) : Int) = 0 := by simp
            rw [z0]
            omega
        obtain rfl : n2 = n := eq_of_dvd ok.nu hn fin
        rfl
end FM

set_option Elab.async false
set_option linter.all false
set_option maxRecDepth 100000
set_option maxHeartbeats 2000000
set_option exponentiation.threshold 10000
namespace FT
open PySem PySem.Spec PyProof.Rows L2
local macro_rules | `(tactic| simp_arith [$ts,*]) => `(tactic| simp (disch := omega) only [$ts,*, at_nx, at_rt, at_err, at_bk, at_ct, at_stuck, bindS_stuck, x_seq, x_nx, x_set, x_ret, x_drop, x_ifS, x_raise, x_asg, x_par, x_for, x_lit, x_var, x_own, x_V, x_op2, x_lift2, x_lift1, gR_none, x_op1, x_tst, x_notT, x_andT, x_orT, x_notV, x_andV, x_orV, x_if, x_nilA, x_consA, x_nilO, x_consO, x_fn, x_tup, x_lst, rf_ok, rf_err, x_call, rfo_ok, x_iter, x_name, x_gtup, x_gcons, x_gnil, a_cmp, a_eqS, a_neS, a_eqI, a_neI, a_is, a_isNot, a_ix0, a_ix1, a_ixl0, a_ixl1, isNon_non, isNon_tup, isNon_lst, isNon_int, isNon_bl, f_len_t, f_len_l, f_len_s, f_int, f_min, f_max, f_tuple, f_tupleT, f_list, f_listT, x_br_rt, x_br_nx, x_br_err, x_br_rtO, x_br_nxO, gR_some, bind_ok, bind_err, bind_stuck, bindS_ok, bindS_err, mLit_eq, mNx_eq, a_neg, x_app, n_app, x_retOwn, x_callK, x_callO, n_add, n_addL, n_Ladd, x_told, x_toldE, x_toldO, x_wipe0, x_wipe, x_callV, x_callVK, n_sub, n_subL, n_mul, n_div, n_mod, n_mod1, x_zT, x_chain, x_rng1, n_rng1, words_ne, List.getElem?_cons_zero, List.getElem?_cons_succ, List.set_cons_zero, List.set_cons_succ, List.length_cons, List.length_nil, Option.join_some, Option.bind_some, Option.map_some, List.mapM_cons, List.mapM_nil, Option.pure_def, Option.bind_eq_bind, List.zip_cons_cons, List.zip_nil_left, List.zip_nil_right, List.foldl_cons, List.foldl_nil, if_true, if_false, ite_true, ite_false, if_pos, if_neg, decide_true, decide_false, Bool.not_true, Bool.not_false, Bool.true_eq_false, Bool.false_eq_true, decide_eq_true_eq, decide_not, Bool.not_eq_true', reduceIte, and_self, and_true, true_and, and_false, false_and, or_true, true_or, or_false, false_or, castL, eq_self, decide_eq_false_iff_not, not_true_eq_false, not_false_eq_true, Int.reduceLE, Int.reduceLT, Int.reduceEq, Int.reduceNe, Int.reduceNeg, Int.reduceAdd, Int.reduceSub, Int.reduceMul, reduceCtorEq, Nat.reduceAdd, Nat.zero_add, x_body, i_non_int, i_non_bool, i_non_str, i_non_tuple, i_non_list, i_non_tl, i_bl_int, i_bl_bool, i_bl_str, i_bl_tuple, i_bl_list, i_bl_tl, i_int_int, i_int_bool, i_int_str, i_int_tuple, i_int_list, i_int_tl, i_str_int, i_str_bool, i_str_str, i_str_tuple, i_str_list, i_str_tl, i_tup_int, i_tup_bool, i_tup_str, i_tup_tuple, i_tup_list, i_tup_tl, i_lst_int, i_lst_bool, i_lst_str, i_lst_tuple, i_lst_list, i_lst_tl, in_w_up, in_w_down, in_w_next, in_w_last, in_w_mirror, in_w_top, in_w_leaf, in_a_up, in_a_down, in_a_next, in_a_last, in_a_mirror, in_a_top, in_a_leaf, in_nl_up, in_nl_down, in_nl_next, in_nl_last, in_nl_mirror, in_nl_top, in_nl_leaf])
theorem den_power {k n : Nat} (hk : k ≤ 3) (hn : n ≤ 999) : F_power [.int k, .int n] = .ok (.int (k ^ n : Nat)) .non := by
  have key := for_fam0 (mt := mgName 3) (mb := m_power_b1) (fun j => [some (.int k), some (.int n), some (.int (k ^ j : Nat)), tn j]) (rangeD 0 (n : Nat)) rfl fun i d hd => by
    obtain ⟨hi, rfl⟩ := rangeD0_get hd
    refine ⟨_, rfl, ?_⟩
    have hp := Nat.pow_le_pow_left hk i
    have hp2 := Nat.pow_le_pow_right (show 0 < 3 by decide) (show i ≤ 999 by omega)
    have hp3 : (3 : Nat) ^ 999 < 2 ^ 1600 := by decide +kernel
    have hb : gMul (.int (k ^ i : Nat)) (.int k) = some (.int (k ^ i * k : Nat)) := by
      have := mul_int (i := (k ^ i : Nat)) (j := k) ⟨by omega, by omega⟩ ⟨by omega, by omega⟩
      rw [this] <;> rfl
    simp_arith [m_power_b1, hb, Nat.pow_succ, tn]
  rw [rangeD0_len] at key
  have s : startE 4 [D.int k, D.int n] = [some (.int k), some (.int n), none, none] := rfl
  have e0 : ∀ k n : Nat, [some (D.int k), some (.int n), some (.int 1), none] = [some (.int k), some (.int n), some (.int (k ^ 0 : Nat)), tn 0] := fun _ _ => rfl
  simp_arith [F_power, m_power, s, e0, key]
def tr (k d : Nat) : D := .tup [.int k, .int d]
def eP (p : FM.Pl) : D := .tup [.int p.1, .int p.2]
def eO : Option FM.Pl → D
  | some p => eP p
  | none => .non
def w1 (w : String) : D := .tup [.str (Str.ofString w)]
def w2 (w : String) (i : Nat) : D := .tup [.str (Str.ofString w), .int i]
def eS : FM.S → D
  | .up => w1 "up"
  | .dn i => w2 "down" i
  | .lf i => w2 "leaf" i
  | .nx => w1 "next"
  | .ls => w1 "last"
  | .mi => w1 "mirror"
  | .tp => w1 "top"
theorem pow_small {k l : Nat} (hk : k ≤ 3) (hl : l ≤ 300) : k ^ l < 2 ^ 500 := by
  have a : k ^ l ≤ 3 ^ l := Nat.pow_le_pow_left hk l
  have b : 3 ^ l ≤ 3 ^ 300 := Nat.pow_le_pow_right (by decide) hl
  have c : (3 : Nat) ^ 300 < 2 ^ 500 := by decide +kernel
  omega
theorem den_step {k d : Nat} (t : FM.TOk k d) {s : FM.S} (hs : FM.SOk k s) {p : FM.Pl} (hp : FM.POk k d p) : F_step_to [tr k d, eS s, eP p] = .ok (eO (FM.step k d s p)) .non := by
  obtain ⟨l, n⟩ := p
  obtain ⟨hl, hn⟩ := hp
  simp only at hl hn
  have hk : 2 ≤ k ∧ k ≤ 3 := by rcases t.k2 with h | h <;> omega
  have hd := t.dp
  have p1 := pow_small hk.2 (l := l) (by omega)
  have p2 := pow_small hk.2 (l := d - l) (by omega)
  have p0 : 0 < k ^ l := Nat.pow_pos (by omega)
  have p3 : 0 < k ^ (d - l) := Nat.pow_pos (by omega)
  have st : ∀ a b c : D, startE 10 [a, b, c] = [some a, some b, some c, none, none, none, none, none, none, none] := fun _ _ _ => rfl
  have pw := den_power (k := k) (n := l) hk.2 (by omega)
  have pw2 := den_power (k := k) (n := d - l) hk.2 (by omega)
  cases s with
  | up =>
    by_cases h : 0 < l
    · simp_arith [F_step_to, m_step_to, st, tr, eS, eP, w1, pw, FM.step, eO]
    · simp_arith [F_step_to, m_step_to, st, tr, eS, eP, w1, pw, FM.step, eO]
  | dn w =>
    by_cases h : l < d
    · simp_arith [F_step_to, m_step_to, st, tr, eS, eP, w2, pw, FM.step, eO]
    · simp_arith [F_step_to, m_step_to, st, tr, eS, eP, w2, pw, FM.step, eO]
  | lf w => 
    have hq : (k ^ (d - l) - 1) / (k - 1) ≤ k ^ (d - l) - 1 := Nat.div_le_self _ _
    have hw : w < k := hs
    simp_arith [F_step_to, m_step_to, st, tr, eS, eP, w2, pw, pw2, FM.step, eO]
  | nx => simp_arith [F_step_to, m_step_to, st, tr, eS, eP, w1, pw, FM.step, eO]
  | ls => simp_arith [F_step_to, m_step_to, st, tr, eS, eP, w1, pw, FM.step, eO, a_sub]
  | mi => simp_arith [F_step_to, m_step_to, st, tr, eS, eP, w1, pw, FM.step, eO]
  | tp => simp_arith [F_step_to, m_step_to, st, tr, eS, eP, w1, pw, FM.step, eO]
end FT

set_option Elab.async false
set_option linter.all false
set_option maxRecDepth 100000
set_option maxHeartbeats 2000000
set_option exponentiation.threshold 10000
namespace FT
open PySem PySem.Spec PyProof.Rows L2
local macro_rules | `(tactic| simp_arith [$ts,*]) => `(tactic| simp (disch := omega) only [$ts,*, at_nx, at_rt, at_err, at_bk, at_ct, at_stuck, bindS_stuck, x_seq, x_nx, x_set, x_ret, x_drop, x_ifS, x_raise, x_asg, x_par, x_for, x_lit, x_var, x_own, x_V, x_op2, x_lift2, x_lift1, gR_none, x_op1, x_tst, x_notT, x_andT, x_orT, x_notV, x_andV, x_orV, x_if, x_nilA, x_consA, x_nilO, x_consO, x_fn, x_tup, x_lst, rf_ok, rf_err, x_call, rfo_ok, x_iter, x_name, x_gtup, x_gcons, x_gnil, a_cmp, a_eqS, a_neS, a_eqI, a_neI, a_is, a_isNot, a_ix0, a_ix1, a_ixl0, a_ixl1, isNon_non, isNon_tup, isNon_lst, isNon_int, isNon_bl, f_len_t, f_len_l, f_len_s, f_int, f_min, f_max, f_tuple, f_tupleT, f_list, f_listT, x_br_rt, x_br_nx, x_br_err, x_br_rtO, x_br_nxO, gR_some, bind_ok, bind_err, bind_stuck, bindS_ok, bindS_err, mLit_eq, mNx_eq, a_neg, x_app, n_app, x_retOwn, x_callK, x_callO, n_add, n_addL, n_Ladd, x_told, x_toldE, x_toldO, x_wipe0, x_wipe, x_callV, x_callVK, n_sub, n_subL, n_mul, n_div, n_mod, n_mod1, x_zT, x_chain, x_rng1, n_rng1, words_ne, List.getElem?_cons_zero, List.getElem?_cons_succ, List.set_cons_zero, List.set_cons_succ, List.length_cons, List.length_nil, Option.join_some, Option.bind_some, Option.map_some, List.mapM_cons, List.mapM_nil, Option.pure_def, Option.bind_eq_bind, List.zip_cons_cons, List.zip_nil_left, List.zip_nil_right, List.foldl_cons, List.foldl_nil, if_true, if_false, ite_true, ite_false, if_pos, if_neg, decide_true, decide_false, Bool.not_true, Bool.not_false, Bool.true_eq_false, Bool.false_eq_true, decide_eq_true_eq, decide_not, Bool.not_eq_true', reduceIte, and_self, and_true, true_and, and_false, false_and, or_true, true_or, or_false, false_or, castL, eq_self, decide_eq_false_iff_not, not_true_eq_false, not_false_eq_true, Int.reduceLE, Int.reduceLT, Int.reduceEq, Int.reduceNe, Int.reduceNeg, Int.reduceAdd, Int.reduceSub, Int.reduceMul, reduceCtorEq, Nat.reduceAdd, Nat.zero_add, x_body, i_non_int, i_non_bool, i_non_str, i_non_tuple, i_non_list, i_non_tl, i_bl_int, i_bl_bool, i_bl_str, i_bl_tuple, i_bl_list, i_bl_tl, i_int_int, i_int_bool, i_int_str, i_int_tuple, i_int_list, i_int_tl, i_str_int, i_str_bool, i_str_str, i_str_tuple, i_str_list, i_str_tl, i_tup_int, i_tup_bool, i_tup_str, i_tup_tuple, i_tup_list, i_tup_tl, i_lst_int, i_lst_bool, i_lst_str, i_lst_tuple, i_lst_list, i_lst_tl, in_w_up, in_w_down, in_w_next, in_w_last, in_w_mirror, in_w_top, in_w_leaf, in_a_up, in_a_down, in_a_next, in_a_last, in_a_mirror, in_a_top, in_a_leaf, in_nl_up, in_nl_down, in_nl_next, in_nl_last, in_nl_mirror, in_nl_top, in_nl_leaf])
/-! ### whole numbers from one to another -/
theorem den_int {i a b : Int} : F_is_int [.int i, .int a, .int b] = .ok (.bl (decide (a ≤ i ∧ i ≤ b))) .non := by
  have s : startE 3 [D.int i, D.int a, D.int b] = [some (.int i), some (.int a), some (.int b)] := rfl
  by_cases h1 : a ≤ i
  · simp_arith [F_is_int, m_is_int, s, h1, true_and]
  · simp_arith [F_is_int, m_is_int, s, h1, false_and]
theorem den_intN {x y : D} : F_is_int [.non, x, y] = .ok (.bl false) .non := by
  have s : startE 3 [D.non, x, y] = [some .non, some x, some y] := rfl
  simp_arith [F_is_int, m_is_int, s]
theorem den_intB {b : Bool} {x y : D} : F_is_int [.bl b, x, y] = .ok (.bl false) .non := by
  have s : startE 3 [D.bl b, x, y] = [some (.bl b), some x, some y] := rfl
  simp_arith [F_is_int, m_is_int, s]
theorem den_intS {b : Str} {x y : D} : F_is_int [.str b, x, y] = .ok (.bl false) .non := by
  have s : startE 3 [D.str b, x, y] = [some (.str b), some x, some y] := rfl
  simp_arith [F_is_int, m_is_int, s]
theorem den_intT {b : List D} {x y : D} : F_is_int [.tup b, x, y] = .ok (.bl false) .non := by
  have s : startE 3 [D.tup b, x, y] = [some (.tup b), some x, some y] := rfl
  simp_arith [F_is_int, m_is_int, s]
theorem den_intL {b : List D} {x y : D} : F_is_int [.lst b, x, y] = .ok (.bl false) .non := by
  have s : startE 3 [D.lst b, x, y] = [some (.lst b), some x, some y] := rfl
  simp_arith [F_is_int, m_is_int, s]
/-! ### trees, places -/
section
variable {k d : Nat}
def isPl (k d : Nat) (a b : Int) : Bool := decide ((0 ≤ a ∧ a ≤ d) ∧ 0 ≤ b ∧ b < k ^ a.toNat)
theorem isPl_ok {p : FM.Pl} (hp : FM.POk k d p) : isPl k d p.1 p.2 = true := by
  have := hp.lv
  have := hp.nu
  have e1 : ((k ^ p.1 : Nat) : Int) = (k : Int) ^ p.1 := Int.natCast_pow k p.1
  refine decide_eq_true ⟨⟨by omega, by omega⟩, by omega, ?_⟩
  rw [Int.toNat_natCast]
  omega
/-! ### steps, scripts -/
def eSs (ss : List FM.S) : D := .tup (ss.map eS)
theorem den_is_step (hk : 2 ≤ k ∧ k ≤ 3) {x : FM.S} (hx : FM.SOk k x) : F_is_step [.int k, eS x] = .ok (.bl true) .non := by
  have s : ∀ a b : D, startE 2 [a, b] = [some a, some b] := fun _ _ => rfl
  cases x with
  | dn w =>
    have hw : w < k := hx
    have c1 : (0 : Int) ≤ w ∧ (w : Int) ≤ ((k - 1 : Nat) : Int) := by omega
    simp_arith [F_is_step, m_is_step, s, eS, w1, w2, den_int, c1]
  | lf w =>
    have hw : w < k := hx
    have c1 : (0 : Int) ≤ w ∧ (w : Int) ≤ ((k - 1 : Nat) : Int) := by omega
    simp_arith [F_is_step, m_is_step, s, eS, w1, w2, den_int, c1]
  | _ => simp_arith [F_is_step, m_is_step, s, eS, w1, w2]
theorem bls_true : ∀ l : List FM.S, fAll.bls? (l.map fun _ => D.bl true) = some (l.map fun _ => true)
  | [] => rfl
  | x :: r => by rw [List.map_cons, fAll.bls?, bls_true r] <;> rfl
theorem all_true (l : List FM.S) : fAll [.lst (l.map fun _ => D.bl true)] = some (.bl true) := by
  show Option.map (fun bs => D.bl (bs.all id)) (fAll.bls? (l.map fun _ => D.bl true)) = _
  rw [bls_true]
  simp
def SsOk (k : Nat) (ss : List FM.S) : Prop := ∀ s ∈ ss, FM.SOk k s
theorem den_are (hk : 2 ≤ k ∧ k ≤ 3) {ss : List FM.S} (hs : SsOk k ss) {m : Nat} (hl : ss.length ≤ m) (hm : m ≤ 1000) : F_are_steps [.int k, eSs ss, .int m] = .ok (.bl true) .non := by
  have s : ∀ a b c : D, startE 4 [a, b, c] = [some a, some b, some c, none] := fun _ _ _ => rfl
  have lc : mLc (mIter tupOf (mVar 1)) (mgName 3) mYes (mCall F_is_step (mConsA (mVar 0) (mConsA (mVar 3) mNilA))) [3] [some (.int k), some (.tup (ss.map eS)), some (.int m), none] = .ok (.lst (ss.map fun _ => .bl true)) [some (.int k), some (.tup (ss.map eS)), some (.int m), none] :=
    lc_eq (acc := [] ++ ss.map fun _ => .bl true) (iter_eq (mVar_eq rfl) rfl) (lc_map2 eS (fun _ => .bl true) ss [] (by simp; omega) fun c hc => ⟨[some (.int k), some (.tup (ss.map eS)), some (.int m), some (eS c)], _, _, rfl, rfl, call_eq (a_cons (mVar_eq rfl) (a_cons (mVar_eq rfl) a_nil)) (den_is_step hk (hs c hc)), rfl⟩)
  have c1 : ((ss.length : Nat) : Int) ≤ m := by omega
  simp_arith [F_are_steps, m_are_steps, s, eSs, lc, all_true, List.length_map, c1]
theorem den_need_script (hk : 2 ≤ k ∧ k ≤ 3) {ss : List FM.S} (hs : SsOk k ss) (hl : ss.length ≤ 5) : F_need_script [.int k, eSs ss] = .ok .non .non := by
  have s : ∀ a b : D, startE 2 [a, b] = [some a, some b] := fun _ _ => rfl
  have e : F_are_steps [.int k, eSs ss, .int 5] = .ok (.bl true) .non := den_are hk hs (m := 5) hl (by omega)
  simp_arith [F_need_script, m_need_script, s, e]
/-- what is none: the errors -/
def eTree : Er := ⟨Str.ofString "InvalidTree", none⟩
def eScript : Er := ⟨Str.ofString "InvalidScript", none⟩
def ePlace : Er := ⟨Str.ofString "InvalidPlace", none⟩
def eNumber : Er := ⟨Str.ofString "InvalidNumber", none⟩
theorem TOk.k23 (t : FM.TOk k d) : 2 ≤ k ∧ k ≤ 3 := by rcases t.k2 with h | h <;> omega
theorem ix_tr0 : gIdx (tr k d) (.int 0) = some (.int k) := rfl
theorem ix_tr1 : gIdx (tr k d) (.int 1) = some (.int d) := rfl
theorem need_script_f {y : D} (h : F_are_steps [.int k, y, .int 5] = .ok (.bl false) .non) : F_need_script [.int k, y] = .err eScript := by
  have s : ∀ a b : D, startE 2 [a, b] = [some a, some b] := fun _ _ => rfl
  simp_arith [F_need_script, m_need_script, s, h]
  rfl
theorem are_bad {k m : Int} {y : D} (h : ∀ ds, y ≠ .tup ds) (h2 : fIsi [y, .ty "tuple"] = some (.bl false)) : F_are_steps [.int k, y, .int m] = .ok (.bl false) .non := by
  have s : ∀ a b c : D, startE 4 [a, b, c] = [some a, some b, some c, none] := fun _ _ _ => rfl
  simp_arith [F_are_steps, m_are_steps, s, h2]
end
end FT

set_option Elab.async false
set_option linter.all false
set_option maxRecDepth 100000
set_option maxHeartbeats 2000000
set_option exponentiation.threshold 10000
namespace FT
open PySem PySem.Spec PyProof.Rows L2
local macro_rules | `(tactic| simp_arith [$ts,*]) => `(tactic| simp (disch := omega) only [$ts,*, at_nx, at_rt, at_err, at_bk, at_ct, at_stuck, bindS_stuck, x_seq, x_nx, x_set, x_ret, x_drop, x_ifS, x_raise, x_asg, x_par, x_for, x_lit, x_var, x_own, x_V, x_op2, x_lift2, x_lift1, gR_none, x_op1, x_tst, x_notT, x_andT, x_orT, x_notV, x_andV, x_orV, x_if, x_nilA, x_consA, x_nilO, x_consO, x_fn, x_tup, x_lst, rf_ok, rf_err, x_call, rfo_ok, x_iter, x_name, x_gtup, x_gcons, x_gnil, a_cmp, a_eqS, a_neS, a_eqI, a_neI, a_is, a_isNot, a_ix0, a_ix1, a_ixl0, a_ixl1, isNon_non, isNon_tup, isNon_lst, isNon_int, isNon_bl, f_len_t, f_len_l, f_len_s, f_int, f_min, f_max, f_tuple, f_tupleT, f_list, f_listT, x_br_rt, x_br_nx, x_br_err, x_br_rtO, x_br_nxO, gR_some, bind_ok, bind_err, bind_stuck, bindS_ok, bindS_err, mLit_eq, mNx_eq, a_neg, x_app, n_app, x_retOwn, x_callK, x_callO, n_add, n_addL, n_Ladd, x_told, x_toldE, x_toldO, x_wipe0, x_wipe, x_callV, x_callVK, n_sub, n_subL, n_mul, n_div, n_mod, n_mod1, x_zT, x_chain, x_rng1, n_rng1, words_ne, List.getElem?_cons_zero, List.getElem?_cons_succ, List.set_cons_zero, List.set_cons_succ, List.length_cons, List.length_nil, Option.join_some, Option.bind_some, Option.map_some, List.mapM_cons, List.mapM_nil, Option.pure_def, Option.bind_eq_bind, List.zip_cons_cons, List.zip_nil_left, List.zip_nil_right, List.foldl_cons, List.foldl_nil, if_true, if_false, ite_true, ite_false, if_pos, if_neg, decide_true, decide_false, Bool.not_true, Bool.not_false, Bool.true_eq_false, Bool.false_eq_true, decide_eq_true_eq, decide_not, Bool.not_eq_true', reduceIte, and_self, and_true, true_and, and_false, false_and, or_true, true_or, or_false, false_or, castL, eq_self, decide_eq_false_iff_not, not_true_eq_false, not_false_eq_true, Int.reduceLE, Int.reduceLT, Int.reduceEq, Int.reduceNe, Int.reduceNeg, Int.reduceAdd, Int.reduceSub, Int.reduceMul, reduceCtorEq, Nat.reduceAdd, Nat.zero_add, x_body, i_non_int, i_non_bool, i_non_str, i_non_tuple, i_non_list, i_non_tl, i_bl_int, i_bl_bool, i_bl_str, i_bl_tuple, i_bl_list, i_bl_tl, i_int_int, i_int_bool, i_int_str, i_int_tuple, i_int_list, i_int_tl, i_str_int, i_str_bool, i_str_str, i_str_tuple, i_str_list, i_str_tl, i_tup_int, i_tup_bool, i_tup_str, i_tup_tuple, i_tup_list, i_tup_tl, i_lst_int, i_lst_bool, i_lst_str, i_lst_tuple, i_lst_list, i_lst_tl, in_w_up, in_w_down, in_w_next, in_w_last, in_w_mirror, in_w_top, in_w_leaf, in_a_up, in_a_down, in_a_next, in_a_last, in_a_mirror, in_a_top, in_a_leaf, in_nl_up, in_nl_down, in_nl_next, in_nl_last, in_nl_mirror, in_nl_top, in_nl_leaf])
section
variable {k d : Nat}
theorem walked_loop (t : FM.TOk k d) (T : D) : ∀ (ss : List FM.S) (p : Option FM.Pl) (e3 : Option D), SsOk k ss → (∀ q, p = some q → FM.POk k d q) → ∃ e3', forL (mgName 3) m_walked_b1 (ss.map eS) [some (tr k d), some T, some (eO p), e3] = .nx [some (tr k d), some T, some (eO (FM.walked k d ss p)), e3']
  | [], p, e3, _, _ => ⟨e3, rfl⟩
  | s :: ss, p, e3, hs, hp => by
    have key : m_walked_b1 [some (tr k d), some T, some (eO p), some (eS s)] = .nx [some (tr k d), some T, some (eO (p.bind (FM.step k d s))), some (eS s)] := by
      cases p with
      | none => simp_arith [m_walked_b1, eO, Option.bind_none]
      | some q =>
        have e := den_step t (hs s List.mem_cons_self) (hp q rfl)
        have i0 : isNon (eP q) = false := rfl
        simp_arith [m_walked_b1, eO, i0, e]
    obtain ⟨e3', h⟩ := walked_loop t T ss (p.bind (FM.step k d s)) (some (eS s)) (fun x hx => hs x (List.mem_cons_of_mem _ hx)) (fun q hq => by
      cases p with
      | none => cases hq
      | some r => exact FM.step_ok t (hs s List.mem_cons_self) (hp r rfl) hq)
    refine ⟨e3', ?_⟩
    rw [List.map_cons]
    simp only [forL, x_name, List.set_cons_succ, List.set_cons_zero, key]
    exact h
theorem den_walked (t : FM.TOk k d) {ss : List FM.S} (hs : SsOk k ss) {p : FM.Pl} (hp : FM.POk k d p) : F_walked [tr k d, eSs ss, eP p] = .ok (eO (FM.walked k d ss (some p))) .non := by
  have s : ∀ a b c : D, startE 4 [a, b, c] = [some a, some b, some c, none] := fun _ _ _ => rfl
  obtain ⟨e3, h⟩ := walked_loop t (eSs ss) ss (some p) none hs (fun q hq => by cases hq; exact hp)
  have it : mIter tupOf (mVar 1) [some (tr k d), some (eSs ss), some (eP p), none] = .ok (ss.map eS) [some (tr k d), some (eSs ss), some (eP p), none] := rfl
  have h : forL (mgName 3) m_walked_b1 (ss.map eS) [some (tr k d), some (eSs ss), some (eP p), none] = .nx [some (tr k d), some (eSs ss), some (eO (FM.walked k d ss (some p))), e3] := h
  simp_arith [F_walked, m_walked, s, it, h]
theorem isNon_eP {p : FM.Pl} : isNon (eP p) = false := rfl
theorem ix_eP0 {p : FM.Pl} : gIdx (eP p) (.int 0) = some (.int p.1) := rfl
theorem ix_eP1 {p : FM.Pl} : gIdx (eP p) (.int 1) = some (.int p.2) := rfl
def eI : Option Nat → D
  | some n => .int n
  | none => .non
theorem isNon_eI {o : Option Nat} : isNon (eI o) = o.isNone := by cases o <;> rfl
/-! ### the trail -/
theorem at_last (xs : List D) (x : D) : gIdx (.lst (xs ++ [x])) (.int (-1)) = some x := by
  show L2.atI (xs ++ [x]) (-1) = _
  unfold L2.atI L2.ixN
  have h : ((xs ++ [x]).length : Int) = xs.length + 1 := by simp
  rw [if_neg (by decide), h, if_pos (by omega)]
  show (xs ++ [x])[((-1 : Int) + (xs.length + 1)).toNat]? = some x
  rw [show ((-1 : Int) + (xs.length + 1)).toNat = xs.length by omega]
  simp
def trailN (k d : Nat) : List FM.S → FM.Pl → List FM.Pl
  | [], p => [p]
  | s :: ss, p => p :: (match FM.step k d s p with
    | none => []
    | some q => trailN k d ss q)
end
end FT

set_option Elab.async false
set_option linter.all false
set_option maxRecDepth 100000
set_option maxHeartbeats 2000000
set_option exponentiation.threshold 10000
namespace FT
open PySem PySem.Spec PyProof.Rows L2
local macro_rules | `(tactic| simp_arith [$ts,*]) => `(tactic| simp (disch := omega) only [$ts,*, at_nx, at_rt, at_err, at_bk, at_ct, at_stuck, bindS_stuck, x_seq, x_nx, x_set, x_ret, x_drop, x_ifS, x_raise, x_asg, x_par, x_for, x_lit, x_var, x_own, x_V, x_op2, x_lift2, x_lift1, gR_none, x_op1, x_tst, x_notT, x_andT, x_orT, x_notV, x_andV, x_orV, x_if, x_nilA, x_consA, x_nilO, x_consO, x_fn, x_tup, x_lst, rf_ok, rf_err, x_call, rfo_ok, x_iter, x_name, x_gtup, x_gcons, x_gnil, a_cmp, a_eqS, a_neS, a_eqI, a_neI, a_is, a_isNot, a_ix0, a_ix1, a_ixl0, a_ixl1, isNon_non, isNon_tup, isNon_lst, isNon_int, isNon_bl, f_len_t, f_len_l, f_len_s, f_int, f_min, f_max, f_tuple, f_tupleT, f_list, f_listT, x_br_rt, x_br_nx, x_br_err, x_br_rtO, x_br_nxO, gR_some, bind_ok, bind_err, bind_stuck, bindS_ok, bindS_err, mLit_eq, mNx_eq, a_neg, x_app, n_app, x_retOwn, x_callK, x_callO, n_add, n_addL, n_Ladd, x_told, x_toldE, x_toldO, x_wipe0, x_wipe, x_callV, x_callVK, n_sub, n_subL, n_mul, n_div, n_mod, n_mod1, x_zT, x_chain, x_rng1, n_rng1, words_ne, List.getElem?_cons_zero, List.getElem?_cons_succ, List.set_cons_zero, List.set_cons_succ, List.length_cons, List.length_nil, Option.join_some, Option.bind_some, Option.map_some, List.mapM_cons, List.mapM_nil, Option.pure_def, Option.bind_eq_bind, List.zip_cons_cons, List.zip_nil_left, List.zip_nil_right, List.foldl_cons, List.foldl_nil, if_true, if_false, ite_true, ite_false, if_pos, if_neg, decide_true, decide_false, Bool.not_true, Bool.not_false, Bool.true_eq_false, Bool.false_eq_true, decide_eq_true_eq, decide_not, Bool.not_eq_true', reduceIte, and_self, and_true, true_and, and_false, false_and, or_true, true_or, or_false, false_or, castL, eq_self, decide_eq_false_iff_not, not_true_eq_false, not_false_eq_true, Int.reduceLE, Int.reduceLT, Int.reduceEq, Int.reduceNe, Int.reduceNeg, Int.reduceAdd, Int.reduceSub, Int.reduceMul, reduceCtorEq, Nat.reduceAdd, Nat.zero_add, x_body, i_non_int, i_non_bool, i_non_str, i_non_tuple, i_non_list, i_non_tl, i_bl_int, i_bl_bool, i_bl_str, i_bl_tuple, i_bl_list, i_bl_tl, i_int_int, i_int_bool, i_int_str, i_int_tuple, i_int_list, i_int_tl, i_str_int, i_str_bool, i_str_str, i_str_tuple, i_str_list, i_str_tl, i_tup_int, i_tup_bool, i_tup_str, i_tup_tuple, i_tup_list, i_tup_tl, i_lst_int, i_lst_bool, i_lst_str, i_lst_tuple, i_lst_list, i_lst_tl, in_w_up, in_w_down, in_w_next, in_w_last, in_w_mirror, in_w_top, in_w_leaf, in_a_up, in_a_down, in_a_next, in_a_last, in_a_mirror, in_a_top, in_a_leaf, in_nl_up, in_nl_down, in_nl_next, in_nl_last, in_nl_mirror, in_nl_top, in_nl_leaf])
theorem den_size {k n : Nat} (hk : k ≤ 3) (hn : n ≤ 300) : F_law_size [.int k, .int n] = .ok (.int (k ^ n : Nat)) .non := by
  have key := for_fam0 (mt := mgName 3) (mb := m_law_size_b1) (fun j => [some (.int k), some (.int n), some (.int (k ^ j : Nat)), tn j]) (rangeD 0 (n : Nat)) rfl fun i d hd => by
    obtain ⟨hi, rfl⟩ := rangeD0_get hd
    refine ⟨_, rfl, ?_⟩
    have hp := pow_small hk (l := i) (by omega)
    simp_arith [m_law_size_b1, Nat.pow_succ, tn]
  rw [rangeD0_len] at key
  have s : startE 4 [D.int k, D.int n] = [some (.int k), some (.int n), none, none] := rfl
  have e0 : ∀ k n : Nat, [some (D.int k), some (.int n), some (.int 1), none] = [some (.int k), some (.int n), some (.int (k ^ 0 : Nat)), tn 0] := fun _ _ => rfl
  simp_arith [F_law_size, m_law_size, s, e0, key]
/-! ### figures -/
def eF (xs : List Int) : D := .lst (xs.map D.int)
theorem fig_cons (k : Nat) : ∀ (j : Nat) (n : Nat), FM.fig k (j + 1) n = ((n / k ^ j % k : Nat) : Int) :: FM.fig k j n
  | 0, n => by simp [FM.fig]
  | j + 1, n => by
    have e : (n : Int) / (k : Int) = ((n / k : Nat) : Int) := rfl
    rw [FM.fig, e, fig_cons k j (n / k), FM.fig, e, Nat.div_div_eq_div_mul, Nat.pow_succ, Nat.mul_comm]
    rfl
theorem l_add {a b : List D} (h : a.length + b.length ≤ 1000000) : gAdd (.lst a) (.lst b) = some (.lst (a ++ b)) := by
  show (if a.length + b.length ≤ 1000000 then some (D.lst (a ++ b)) else none) = _
  rw [if_pos h]
theorem den_figures {k d : Nat} (t : FM.TOk k d) {p : FM.Pl} (hp : FM.POk k d p) : F_law_figures [.int k, eP p] = .ok (eF (FM.pfig k p)) .non := by
  obtain ⟨l, n⟩ := p
  obtain ⟨hl, hn⟩ := hp
  simp only at hl hn
  have hk := TOk.k23 t
  have hd := t.dp
  have s : ∀ a b : D, startE 6 [a, b] = [some a, some b, none, none, none, none] := fun _ _ => rfl
  have key := for_fam0 (mt := mgName 5) (mb := m_law_figures_b1) (fun j => [some (.int k), some (eP (l, n)), some (.int l), some (.int (n / k ^ j : Nat)), some (eF (FM.fig k j n)), tn j]) (rangeD 0 (l : Nat)) rfl fun i d hd => by
    obtain ⟨hi, rfl⟩ := rangeD0_get hd
    refine ⟨_, rfl, ?_⟩
    have hlen : [D.int ((n / k ^ i % k : Nat) : Int)].length + ((FM.fig k i n).map D.int).length ≤ 1000000 := by simp [FM.fig_len]; omega
    have e2 : n / k ^ (i + 1) = n / k ^ i / k := by rw [Nat.div_div_eq_div_mul, Nat.pow_succ]
    simp_arith [m_law_figures_b1, tn, eF, l_add hlen, fig_cons, List.map_cons, e2, List.singleton_append]
  rw [rangeD0_len] at key
  have e0 : ∀ k n : Nat, [some (D.int k), some (eP (l, n)), some (.int l), some (.int n), some (.lst []), none] = [some (.int k), some (eP (l, n)), some (.int l), some (.int (n / k ^ 0 : Nat)), some (eF (FM.fig k 0 n)), tn 0] := fun _ _ => by
    rw [Nat.pow_zero, Nat.div_one]; rfl
  have m1 : ∀ mg : MGs, mgTup mg (eP (l, n)) = mg [.int l, .int n] := fun _ => rfl
  simp_arith [F_law_figures, m_law_figures, s, m1, e0, key]
  rfl
theorem unf_lt {k : Nat} (hk : 0 < k) : ∀ (xs : List Int) (a : Int) (j : Nat), (∀ x ∈ xs, 0 ≤ x ∧ x < k) → 0 ≤ a → a < (k : Int) ^ j → 0 ≤ xs.foldl (fun (a x : Int) => a * (k : Int) + x) a ∧ xs.foldl (fun (a x : Int) => a * (k : Int) + x) a < (k : Int) ^ (j + xs.length)
  | [], a, j, _, h0, h1 => ⟨h0, h1⟩
  | x :: xs, a, j, h, h0, h1 => by
    have hx := h x List.mem_cons_self
    have b0 : 0 ≤ a * (k : Int) := Int.mul_nonneg h0 (by omega)
    have b1 : a * (k : Int) + k ≤ (k : Int) ^ (j + 1) := by
      have : (a + 1) * (k : Int) ≤ (k : Int) ^ j * k := Int.mul_le_mul_of_nonneg_right (by omega) (by omega)
      rw [Int.add_mul, Int.one_mul] at this
      rw [Int.pow_succ]; exact this
    have := unf_lt hk xs (a * k + x) (j + 1) (fun y hy => h y (List.mem_cons_of_mem _ hy)) (by omega) (by omega)
    rw [List.foldl_cons, List.length_cons, show j + (xs.length + 1) = j + 1 + xs.length by omega]
    exact this
theorem pow_smallI {k l : Nat} (hk : k ≤ 3) (hl : l ≤ 300) : (k : Int) ^ l < 2 ^ 500 := by
  have := pow_small hk hl
  have e : ((k ^ l : Nat) : Int) = (k : Int) ^ l := Int.natCast_pow k l
  omega
theorem by_loop {k : Nat} (hk : 2 ≤ k ∧ k ≤ 3) (T : D) : ∀ (xs : List Int) (a : Int) (j : Nat) (e3 : Option D), (∀ x ∈ xs, 0 ≤ x ∧ x < k) → 0 ≤ a → a < (k : Int) ^ j → j + xs.length ≤ 200 → ∃ e3', forL (mgName 3) m_law_by_figures_b1 (xs.map D.int) [some (.int k), some T, some (.int a), e3] = .nx [some (.int k), some T, some (.int (xs.foldl (fun (a x : Int) => a * (k : Int) + x) a)), e3']
  | [], a, j, e3, _, _, _, _ => ⟨e3, rfl⟩
  | x :: xs, a, j, e3, h, h0, h1, hl => by
    have hl' : j + (xs.length + 1) ≤ 200 := hl
    have hx := h x List.mem_cons_self
    have b0 : 0 ≤ a * (k : Int) := Int.mul_nonneg h0 (by omega)
    have b1 : a * (k : Int) + k ≤ (k : Int) ^ (j + 1) := by
      have : (a + 1) * (k : Int) ≤ (k : Int) ^ j * k := Int.mul_le_mul_of_nonneg_right (by omega) (by omega)
      rw [Int.add_mul, Int.one_mul] at this
      rw [Int.pow_succ]; exact this
    have sm := pow_smallI hk.2 (l := j) (by omega)
    have mu : gMul (.int a) (.int k) = some (.int (a * k)) := mul_int ⟨by omega, by omega⟩ ⟨by omega, by omega⟩
    obtain ⟨e3', ih⟩ := by_loop hk T xs (a * k + x) (j + 1) (some (.int x)) (fun y hy => h y (List.mem_cons_of_mem _ hy)) (by omega) (by omega) (by omega)
    refine ⟨e3', ?_⟩
    rw [List.map_cons, List.foldl_cons, ← ih]
    simp_arith [forL, m_law_by_figures_b1, mu, a_add]
theorem den_by {k : Nat} (hk : 2 ≤ k ∧ k ≤ 3) {xs : List Int} (h : ∀ x ∈ xs, 0 ≤ x ∧ x < k) (hl : xs.length ≤ 200) : F_law_by_figures [.int k, eF xs] = .ok (.tup [.int xs.length, .int (FM.unf k xs)]) .non := by
  have s : ∀ a b : D, startE 4 [a, b] = [some a, some b, none, none] := fun _ _ => rfl
  obtain ⟨e3', e⟩ := by_loop hk (eF xs) xs 0 0 none h (Int.le_refl _) (by simp) (by omega)
  have it : mIter seqOf (mVar 1) [some (.int k), some (eF xs), some (.int 0), none] = .ok (xs.map D.int) [some (.int k), some (eF xs), some (.int 0), none] := rfl
  have fl : fLen [eF xs] = some (.int xs.length) := by show some (D.int ((xs.map D.int).length)) = _; rw [List.length_map]
  simp_arith [F_law_by_figures, m_law_by_figures, s, it, e, fl]
  rfl
theorem mv_loop {k : Nat} (hk : 2 ≤ k ∧ k ≤ 3) (A B C : D) : ∀ (xs : List Int) (c : Int) (acc : List Int) (e5 : Option D), acc.length + xs.length ≤ 1000 → ∃ e4 e5', forL (mgName 5) m_law_moved_b1 (xs.map D.int) [some (.int k), some B, some C, some (eF acc), some (.int c), e5] = .nx [some (.int k), some B, some C, some (eF (FM.mvL k xs c acc)), e4, e5']
  | [], c, acc, e5, _ => ⟨_, e5, rfl⟩
  | x :: xs, c, acc, e5, hl => by
    have hl' : acc.length + (xs.length + 1) ≤ 1000 := hl
    obtain ⟨e4, e5', ih⟩ := mv_loop hk A B C xs ((x + c) / k) ((x + c) % k :: acc) (some (.int x)) (by simp; omega)
    refine ⟨e4, e5', ?_⟩
    have dv : gDiv (.int (x + c)) (.int k) = some (.int ((x + c) / k)) := div_int (by omega)
    have md : gMod (.int (x + c)) (.int k) = some (.int ((x + c) % k)) := mod_int (by omega)
    have la : gAdd (.lst [.int ((x + c) % k)]) (eF acc) = some (eF ((x + c) % k :: acc)) := l_add (by simp; omega)
    rw [List.map_cons, FM.mvL, ← ih]
    simp_arith [forL, m_law_moved_b1, a_add, dv, md, la]
theorem den_moved {k : Nat} (hk : 2 ≤ k ∧ k ≤ 3) {xs : List Int} {c : Int} (hl : xs.length ≤ 200) : F_law_moved [.int k, eF xs, .int c] = .ok (eF (FM.mvL k xs.reverse c [])) .non := by
  have s : ∀ a b c : D, startE 6 [a, b, c] = [some a, some b, some c, none, none, none] := fun _ _ _ => rfl
  obtain ⟨e4, e5, e⟩ := mv_loop hk .non (eF xs) (.int c) xs.reverse c [] none (by simp; omega)
  have it : mIter seqOf (mRevL (mVar 1)) [some (.int k), some (eF xs), some (.int c), some (.lst []), some (.int c), none] = .ok (xs.reverse.map D.int) [some (.int k), some (eF xs), some (.int c), some (.lst []), some (.int c), none] := by
    rw [List.map_reverse]; rfl
  have e : forL (mgName 5) m_law_moved_b1 (xs.reverse.map D.int) [some (.int k), some (eF xs), some (.int c), some (.lst []), some (.int c), none] = .nx [some (.int k), some (eF xs), some (.int c), some (eF (FM.mvL k xs.reverse c [])), e4, e5] := e
  simp_arith [F_law_moved, m_law_moved, s, it, e]
end FT

set_option Elab.async false
set_option linter.all false
set_option maxRecDepth 100000
set_option maxHeartbeats 2000000
set_option exponentiation.threshold 10000
namespace FT
open PySem PySem.Spec PyProof.Rows L2
local macro_rules | `(tactic| simp_arith [$ts,*]) => `(tactic| simp (disch := omega) only [$ts,*, at_nx, at_rt, at_err, at_bk, at_ct, at_stuck, bindS_stuck, x_seq, x_nx, x_set, x_ret, x_drop, x_ifS, x_raise, x_asg, x_par, x_for, x_lit, x_var, x_own, x_V, x_op2, x_lift2, x_lift1, gR_none, x_op1, x_tst, x_notT, x_andT, x_orT, x_notV, x_andV, x_orV, x_if, x_nilA, x_consA, x_nilO, x_consO, x_fn, x_tup, x_lst, rf_ok, rf_err, x_call, rfo_ok, x_iter, x_name, x_gtup, x_gcons, x_gnil, a_cmp, a_eqS, a_neS, a_eqI, a_neI, a_is, a_isNot, a_ix0, a_ix1, a_ixl0, a_ixl1, isNon_non, isNon_tup, isNon_lst, isNon_int, isNon_bl, f_len_t, f_len_l, f_len_s, f_int, f_min, f_max, f_tuple, f_tupleT, f_list, f_listT, x_br_rt, x_br_nx, x_br_err, x_br_rtO, x_br_nxO, gR_some, bind_ok, bind_err, bind_stuck, bindS_ok, bindS_err, mLit_eq, mNx_eq, a_neg, x_app, n_app, x_retOwn, x_callK, x_callO, n_add, n_addL, n_Ladd, x_told, x_toldE, x_toldO, x_wipe0, x_wipe, x_callV, x_callVK, n_sub, n_subL, n_mul, n_div, n_mod, n_mod1, x_zT, x_chain, x_rng1, n_rng1, words_ne, List.getElem?_cons_zero, List.getElem?_cons_succ, List.set_cons_zero, List.set_cons_succ, List.length_cons, List.length_nil, Option.join_some, Option.bind_some, Option.map_some, List.mapM_cons, List.mapM_nil, Option.pure_def, Option.bind_eq_bind, List.zip_cons_cons, List.zip_nil_left, List.zip_nil_right, List.foldl_cons, List.foldl_nil, if_true, if_false, ite_true, ite_false, if_pos, if_neg, decide_true, decide_false, Bool.not_true, Bool.not_false, Bool.true_eq_false, Bool.false_eq_true, decide_eq_true_eq, decide_not, Bool.not_eq_true', reduceIte, and_self, and_true, true_and, and_false, false_and, or_true, true_or, or_false, false_or, castL, eq_self, decide_eq_false_iff_not, not_true_eq_false, not_false_eq_true, Int.reduceLE, Int.reduceLT, Int.reduceEq, Int.reduceNe, Int.reduceNeg, Int.reduceAdd, Int.reduceSub, Int.reduceMul, reduceCtorEq, Nat.reduceAdd, Nat.zero_add, x_body, i_non_int, i_non_bool, i_non_str, i_non_tuple, i_non_list, i_non_tl, i_bl_int, i_bl_bool, i_bl_str, i_bl_tuple, i_bl_list, i_bl_tl, i_int_int, i_int_bool, i_int_str, i_int_tuple, i_int_list, i_int_tl, i_str_int, i_str_bool, i_str_str, i_str_tuple, i_str_list, i_str_tl, i_tup_int, i_tup_bool, i_tup_str, i_tup_tuple, i_tup_list, i_tup_tl, i_lst_int, i_lst_bool, i_lst_str, i_lst_tuple, i_lst_list, i_lst_tl, in_w_up, in_w_down, in_w_next, in_w_last, in_w_mirror, in_w_top, in_w_leaf, in_a_up, in_a_down, in_a_next, in_a_last, in_a_mirror, in_a_top, in_a_leaf, in_nl_up, in_nl_down, in_nl_next, in_nl_last, in_nl_mirror, in_nl_top, in_nl_leaf])
def eL : Option (List Int) → D
  | some xs => eF xs
  | none => .non
theorem cut_last (l : List D) (x : D) : cutD (l ++ [x]) none (some (-1)) = l := by
  unfold cutD HT.sIx
  simp
  rw [show (-1 + ((l.length : Int) + 1)).toNat = l.length by omega]
  simp
theorem cut_dropLast (xs : List Int) : cutD (xs.map D.int) none (some (-1)) = xs.dropLast.map D.int := by
  rcases List.eq_nil_or_concat xs with h | ⟨l, x, h⟩
  · subst h; rfl
  · subst h
    rw [List.concat_eq_append, List.map_append, List.map_singleton, cut_last, List.dropLast_concat]
theorem ints_ok (xs : List Int) : okD (eF xs) = true := (OkAt.lst (n := 1) (l := xs.map D.int) fun d hd => by
  obtain ⟨i, _, rfl⟩ := List.mem_map.mp hd
  exact OkAt.int i).okD (by decide)
theorem ne_nil (xs : List Int) : gNe (eF xs) (.lst []) = some (.bl (!decide (xs = []))) := by
  show gNe (eF xs) (eF []) = _
  rw [ne_gen (ints_ok xs) (ints_ok []) (fun x y h => by cases h)]
  congr 2
  cases xs with
  | nil => rfl
  | cons a b => rfl
theorem l_mul1 {x : D} {j : Nat} (h : j ≤ 1000) : gMul (.lst [x]) (.int j) = some (.lst (List.replicate j x)) := by
  show (if [x].length ≤ 1000 ∧ -1000 ≤ (j : Int) ∧ (j : Int) ≤ 1000 then some (D.lst (List.replicate (j : Int).toNat [x]).flatten) else none) = _
  rw [if_pos ⟨by simp, by omega, by omega⟩, Int.toNat_natCast]
  congr 2
  induction j with
  | zero => rfl
  | succ j ih => rw [List.replicate_succ, List.flatten_cons, ih (by omega), List.replicate_succ]; rfl
section
variable {k d : Nat}
theorem den_step_so (t : FM.TOk k d) {s : FM.S} (hs : FM.SOk k s) {xs : List Int} (hl : xs.length ≤ d) : F_law_step_so [tr k d, eS s, eF xs] = .ok (eL (FM.stepF k d s xs)) .non := by
  have hk := TOk.k23 t
  have hd := t.dp
  have st : ∀ a b c : D, startE 6 [a, b, c] = [some a, some b, some c, none, none, none] := fun _ _ _ => rfl
  have fl : fLen [eF xs] = some (.int xs.length) := by show some (D.int ((xs.map D.int).length)) = _; rw [List.length_map]
  have mv : ∀ c, F_law_moved [.int k, eF xs, .int c] = .ok (eF (FM.mvL k xs.reverse c [])) .non := fun c => den_moved hk (by omega)
  have m1 : ∀ mg : MGs, mgTup mg (tr k d) = mg [.int k, .int d] := fun _ => rfl
  have ap : ∀ w : Int, gAdd (eF xs) (.lst [.int w]) = some (eF (xs ++ [w])) := fun w => by
    have := l_add (a := xs.map D.int) (b := [.int w]) (by simp; omega)
    unfold eF; rw [this, List.map_append]; rfl
  have lf : ∀ w : Int, gAdd (eF xs) (.lst (List.replicate (d - xs.length) (.int w))) = some (eF (xs ++ List.replicate (d - xs.length) w)) := fun w => by
    have := l_add (a := xs.map D.int) (b := List.replicate (d - xs.length) (.int w)) (by simp; omega)
    unfold eF; rw [this, List.map_append, List.map_replicate]
  have mir : mLc (mIter seqOf (mVar 2)) (mgName 5) mYes (mOp2 gSub (mV (mOp2 gSub (mV (mVar 3)) (mV (mLit (.int 1))))) (mV (mVar 5))) [5] [some (tr k d), some (w1 "mirror"), some (eF xs), some (.int k), some (.int d), none] = .ok (eF (xs.map fun x => k - 1 - x)) [some (tr k d), some (w1 "mirror"), some (eF xs), some (.int k), some (.int d), none] := by
    have h := lc_map2 (mt := mgName 5) (tt := mYes) (te := mOp2 gSub (mV (mOp2 gSub (mV (mVar 3)) (mV (mLit (.int 1))))) (mV (mVar 5))) (vs := [5]) (e := [some (tr k d), some (w1 "mirror"), some (eF xs), some (.int k), some (.int d), none]) D.int (fun x => D.int ((k : Int) - 1 - x)) xs [] (by simp; omega) fun c hc =>
      ⟨[some (tr k d), some (w1 "mirror"), some (eF xs), some (.int k), some (.int d), some (.int c)], _, _, rfl, rfl, rfl, rfl⟩
    refine (lc_eq (acc := [] ++ xs.map fun x => D.int ((k : Int) - 1 - x)) (iter_eq (mVar_eq rfl) rfl) h).trans ?_
    unfold eF
    rw [List.map_map]
    rfl
  cases s with
  | up =>
    by_cases h : xs = []
    · simp_arith [F_law_step_so, m_law_step_so, st, m1, eS, w1, ne_nil, h, FM.stepF, eL]
    · have sl : mSl gSlice (mV (mVar 2)) mNoP (mPt (mOp1 gNeg (mLit (.int 1)))) [some (tr k d), some (.tup [.str (Str.ofString "up")]), some (eF xs), some (.int k), some (.int d), none] = .ok (eF xs.dropLast) [some (tr k d), some (.tup [.str (Str.ofString "up")]), some (eF xs), some (.int k), some (.int d), none] :=
        sl_hi (mVar_eq rfl) rfl (by show some (D.lst (cutD (xs.map D.int) none (some (-1)))) = _; rw [cut_dropLast]; rfl)
      simp_arith [F_law_step_so, m_law_step_so, st, m1, eS, w1, ne_nil, h, FM.stepF, eL, sl]
  | dn w =>
    by_cases h : xs.length < d
    · simp_arith [F_law_step_so, m_law_step_so, st, m1, eS, w2, FM.stepF, eL, fl, ap]
    · simp_arith [F_law_step_so, m_law_step_so, st, m1, eS, w2, FM.stepF, eL, fl]
  | lf w => simp_arith [F_law_step_so, m_law_step_so, st, m1, eS, w2, FM.stepF, eL, fl, l_mul1, lf]
  | nx => simp_arith [F_law_step_so, m_law_step_so, st, m1, eS, w1, FM.stepF, eL, mv]
  | ls => simp_arith [F_law_step_so, m_law_step_so, st, m1, eS, w1, FM.stepF, eL, mv]
  | mi =>
    have mir := mir
    unfold w1 at mir
    simp_arith [F_law_step_so, m_law_step_so, st, m1, eS, w1, FM.stepF, eL, mir]
  | tp => simp_arith [F_law_step_so, m_law_step_so, st, m1, eS, w1, FM.stepF, eL]; rfl
theorem isNon_eF {xs : List Int} : isNon (eF xs) = false := rfl
theorem pfig_len {p : FM.Pl} : (FM.pfig k p).length = p.1 := FM.fig_len _ _ _
theorem pfig_dig (hk : 0 < k) {l : Nat} {n : Int} : ∀ x ∈ FM.fig k l n, 0 ≤ x ∧ x < k := by
  induction l generalizing n with
  | zero => intro x hx; cases hx
  | succ l ih =>
    intro x hx
    rw [FM.fig] at hx
    rcases List.mem_append.mp hx with h | h
    · exact ih x h
    · obtain rfl : x = n % k := by simpa using h
      exact ⟨Int.emod_nonneg _ (by omega), Int.emod_lt_of_pos _ (by omega)⟩
theorem out_loop (t : FM.TOk k d) (T P : D) : ∀ (ss : List FM.S) (p : Option FM.Pl) (e4 : Option D), SsOk k ss → (∀ q, p = some q → FM.POk k d q) → ∃ e4', forL (mgName 4) m_law_out_b1 (ss.map eS) [some (tr k d), some T, some P, some (eL (p.map (FM.pfig k))), e4] = .nx [some (tr k d), some T, some P, some (eL ((FM.walked k d ss p).map (FM.pfig k))), e4']
  | [], p, e4, _, _ => ⟨e4, rfl⟩
  | s :: ss, p, e4, hs, hp => by
    have key : m_law_out_b1 [some (tr k d), some T, some P, some (eL (p.map (FM.pfig k))), some (eS s)] = .nx [some (tr k d), some T, some P, some (eL ((p.bind (FM.step k d s)).map (FM.pfig k))), some (eS s)] := by
      cases p with
      | none => simp_arith [m_law_out_b1, eL, Option.bind_none, Option.map_none]
      | some q =>
        have hq := hp q rfl
        have e := den_step_so t (hs s List.mem_cons_self) (xs := FM.pfig k q) (by rw [pfig_len]; exact hq.lv)
        rw [FM.step_fig t (hs s List.mem_cons_self) hq] at e
        have e : F_law_step_so [tr k d, eS s, eL (some (FM.pfig k q))] = _ := e
        have i0 : isNon (eL (some (FM.pfig k q))) = false := rfl
        simp_arith [m_law_out_b1, i0, e]
    obtain ⟨e4', h⟩ := out_loop t T P ss (p.bind (FM.step k d s)) (some (eS s)) (fun x hx => hs x (List.mem_cons_of_mem _ hx)) (fun q hq => by
      cases p with
      | none => cases hq
      | some r => exact FM.step_ok t (hs s List.mem_cons_self) (hp r rfl) hq)
    refine ⟨e4', ?_⟩
    rw [List.map_cons]
    simp only [forL, x_name, List.set_cons_succ, List.set_cons_zero, key]
    exact h
theorem den_out (t : FM.TOk k d) {ss : List FM.S} (hs : SsOk k ss) {p : FM.Pl} (hp : FM.POk k d p) : F_law_out [tr k d, eSs ss, eP p] = .ok (eO (FM.walked k d ss (some p))) .non := by
  have s : ∀ a b c : D, startE 5 [a, b, c] = [some a, some b, some c, none, none] := fun _ _ _ => rfl
  obtain ⟨e4, h⟩ := out_loop t (eSs ss) (eP p) ss (some p) none hs (fun q hq => by cases hq; exact hp)
  have it : mIter tupOf (mVar 1) [some (tr k d), some (eSs ss), some (eP p), some (eF (FM.pfig k p)), none] = .ok (ss.map eS) [some (tr k d), some (eSs ss), some (eP p), some (eF (FM.pfig k p)), none] := rfl
  have h : forL (mgName 4) m_law_out_b1 (ss.map eS) [some (tr k d), some (eSs ss), some (eP p), some (eF (FM.pfig k p)), none] = .nx [some (tr k d), some (eSs ss), some (eP p), some (eL ((FM.walked k d ss (some p)).map (FM.pfig k))), e4] := h
  cases hq : FM.walked k d ss (some p) with
  | none =>
    rw [hq] at h
    simp_arith [F_law_out, m_law_out, s, ix_tr0, den_figures t hp, it, h, eO, eL, Option.map_none]
  | some q =>
    rw [hq] at h
    have oq := FM.walked_ok t hs hp hq
    have b := den_by (TOk.k23 t) (xs := FM.pfig k q) (pfig_dig t.pos) (by rw [pfig_len]; have := oq.lv; have := t.dp; omega)
    obtain ⟨u1, u2⟩ := FM.unf_pfig t oq
    rw [u1, u2] at b
    simp_arith [F_law_out, m_law_out, s, ix_tr0, den_figures t hp, it, h, eO, eL, isNon_eF, b]
    rfl
end
end FT

set_option Elab.async false
set_option linter.all false
set_option maxRecDepth 100000
set_option maxHeartbeats 2000000
set_option exponentiation.threshold 10000
namespace FT
open PySem PySem.Spec PyProof.Rows L2
local macro_rules | `(tactic| simp_arith [$ts,*]) => `(tactic| simp (disch := omega) only [$ts,*, at_nx, at_rt, at_err, at_bk, at_ct, at_stuck, bindS_stuck, x_seq, x_nx, x_set, x_ret, x_drop, x_ifS, x_raise, x_asg, x_par, x_for, x_lit, x_var, x_own, x_V, x_op2, x_lift2, x_lift1, gR_none, x_op1, x_tst, x_notT, x_andT, x_orT, x_notV, x_andV, x_orV, x_if, x_nilA, x_consA, x_nilO, x_consO, x_fn, x_tup, x_lst, rf_ok, rf_err, x_call, rfo_ok, x_iter, x_name, x_gtup, x_gcons, x_gnil, a_cmp, a_eqS, a_neS, a_eqI, a_neI, a_is, a_isNot, a_ix0, a_ix1, a_ixl0, a_ixl1, isNon_non, isNon_tup, isNon_lst, isNon_int, isNon_bl, f_len_t, f_len_l, f_len_s, f_int, f_min, f_max, f_tuple, f_tupleT, f_list, f_listT, x_br_rt, x_br_nx, x_br_err, x_br_rtO, x_br_nxO, gR_some, bind_ok, bind_err, bind_stuck, bindS_ok, bindS_err, mLit_eq, mNx_eq, a_neg, x_app, n_app, x_retOwn, x_callK, x_callO, n_add, n_addL, n_Ladd, x_told, x_toldE, x_toldO, x_wipe0, x_wipe, x_callV, x_callVK, n_sub, n_subL, n_mul, n_div, n_mod, n_mod1, x_zT, x_chain, x_rng1, n_rng1, words_ne, List.getElem?_cons_zero, List.getElem?_cons_succ, List.set_cons_zero, List.set_cons_succ, List.length_cons, List.length_nil, Option.join_some, Option.bind_some, Option.map_some, List.mapM_cons, List.mapM_nil, Option.pure_def, Option.bind_eq_bind, List.zip_cons_cons, List.zip_nil_left, List.zip_nil_right, List.foldl_cons, List.foldl_nil, if_true, if_false, ite_true, ite_false, if_pos, if_neg, decide_true, decide_false, Bool.not_true, Bool.not_false, Bool.true_eq_false, Bool.false_eq_true, decide_eq_true_eq, decide_not, Bool.not_eq_true', reduceIte, and_self, and_true, true_and, and_false, false_and, or_true, true_or, or_false, false_or, castL, eq_self, decide_eq_false_iff_not, not_true_eq_false, not_false_eq_true, Int.reduceLE, Int.reduceLT, Int.reduceEq, Int.reduceNe, Int.reduceNeg, Int.reduceAdd, Int.reduceSub, Int.reduceMul, reduceCtorEq, Nat.reduceAdd, Nat.zero_add, x_body, i_non_int, i_non_bool, i_non_str, i_non_tuple, i_non_list, i_non_tl, i_bl_int, i_bl_bool, i_bl_str, i_bl_tuple, i_bl_list, i_bl_tl, i_int_int, i_int_bool, i_int_str, i_int_tuple, i_int_list, i_int_tl, i_str_int, i_str_bool, i_str_str, i_str_tuple, i_str_list, i_str_tl, i_tup_int, i_tup_bool, i_tup_str, i_tup_tuple, i_tup_list, i_tup_tl, i_lst_int, i_lst_bool, i_lst_str, i_lst_tuple, i_lst_list, i_lst_tl, in_w_up, in_w_down, in_w_next, in_w_last, in_w_mirror, in_w_top, in_w_leaf, in_a_up, in_a_down, in_a_next, in_a_last, in_a_mirror, in_a_top, in_a_leaf, in_nl_up, in_nl_down, in_nl_next, in_nl_last, in_nl_mirror, in_nl_top, in_nl_leaf])
/-- the law's own wood: a cell, a seed -/
def Wood (d : D) : Prop := ∃ c s : Int, d = .lst [.int c, .int s] ∧ 0 ≤ c ∧ c < 2 ^ 800 ∧ 0 ≤ s ∧ s < 2 ^ 32
theorem idx0 {a b : D} : gIdx (.lst [a, b]) (.int 0) = some a := rfl
theorem idx1 {a b : D} : gIdx (.lst [a, b]) (.int 1) = some b := rfl
theorem set0 {a b d : D} : setL (some (.lst [a, b])) 0 d = some (.lst [d, b]) := rfl
theorem set1 {a b d : D} : setL (some (.lst [a, b])) 1 d = some (.lst [a, d]) := rfl
theorem FUEL_eq : ∃ n, FUEL = n + 100 := ⟨999999900, by unfold FUEL; rfl⟩
theorem twig_loop (many : Int) (hm : 1 ≤ many ∧ many ≤ 2 ^ 260) (c : Int) : ∀ (m j n : Nat) (s f : Int), j + m = 20 → 0 ≤ s ∧ s < 2 ^ 32 → 0 ≤ f ∧ f < (8192 : Int) ^ j → ∃ (r s' : Int) (wd : D), 0 ≤ r ∧ 0 ≤ s' ∧ s' < 2 ^ 32 ∧
    whileL m_law_twig_b1 m_law_twig_b2 (n + m + 1) [some (.lst [.int c, .int s]), some (.int many), some (.int f), some (.int ((8192 : Int) ^ j))] = .nx [some (.lst [.int c, .int s']), some (.int many), some (.int r), some wd]
  | 0, j, n, s, f, hj, hs, hf => by
    refine ⟨f, s, .int ((8192 : Int) ^ j), hf.1, hs.1, hs.2, while_f ?_⟩
    obtain rfl : j = 20 := by omega
    have e : (8192 : Int) ^ 20 = 2 ^ 260 := by decide +kernel
    rw [e]
    have c1 : ¬ ((2 : Int) ^ 260 < many) := by omega
    have c2 : ¬ ((2 : Int) ^ 260 = 1) := by decide +kernel
    simp_arith [m_law_twig_b1, c1, c2]
  | m + 1, j, n, s, f, hj, hs, hf => by
    have hp : (8192 : Int) ^ j ≤ 8192 ^ 19 := by
      have := Nat.pow_le_pow_right (show 0 < 8192 by decide) (show j ≤ 19 by omega)
      have e1 : ((8192 ^ j : Nat) : Int) = (8192 : Int) ^ j := Int.natCast_pow 8192 j
      have e2 : ((8192 ^ 19 : Nat) : Int) = (8192 : Int) ^ 19 := Int.natCast_pow 8192 19
      omega
    have hp0 : 0 < (8192 : Int) ^ j := Int.pow_pos (by decide)
    have big : (8192 : Int) ^ 19 < 2 ^ 1000 := by decide +kernel
    by_cases h : (8192 : Int) ^ j < many ∨ (8192 : Int) ^ j = 1
    · have hs' : 0 ≤ (s * 22003 + 97) % 2147482951 ∧ (s * 22003 + 97) % 2147482951 < 2 ^ 32 := ⟨Int.emod_nonneg _ (by decide), by omega⟩
      have q0 : 0 ≤ (s * 22003 + 97) % 2147482951 / 65651 % 8192 := Int.emod_nonneg _ (by decide)
      have q1 : (s * 22003 + 97) % 2147482951 / 65651 % 8192 < 8192 := Int.emod_lt_of_pos _ (by decide)
      obtain ⟨r, s', wd, r0, s0, s1, e⟩ := twig_loop many hm c m (j + 1) n ((s * 22003 + 97) % 2147482951) (f * 8192 + (s * 22003 + 97) % 2147482951 / 65651 % 8192) (by omega) hs' ⟨by omega, by rw [Int.pow_succ]; omega⟩
      refine ⟨r, s', wd, r0, s0, s1, ?_⟩
      rw [Int.pow_succ] at e
      rw [← e]
      refine while_t (e1 := [some (.lst [.int c, .int s]), some (.int many), some (.int f), some (.int ((8192 : Int) ^ j))]) ?_ ?_
      · rcases h with h | h
        · simp_arith [m_law_twig_b1, h]
        · by_cases h2 : (8192 : Int) ^ j < many
          · simp_arith [m_law_twig_b1, h2]
          · simp_arith [m_law_twig_b1, h2, h]
      · unfold m_law_twig_b2
        rw [mSeq_eq (store_eq (op_VV (fn_1 (op_VV (op_VV (op_OV rfl mLit_eq rfl idx1) mLit_eq (mul_int (by omega) (by omega))) mLit_eq rfl) rfl) mLit_eq (mod_int (by decide))) rfl mLit_eq rfl set1)]
        rw [mSeq_eq (mSet_eq (op_VV (op_VV (mVar_eq rfl) mLit_eq (mul_int (by omega) (by omega))) (op_VV (fn_1 (op_VV (op_OV rfl mLit_eq rfl idx1) mLit_eq (div_int (by omega))) rfl) mLit_eq (mod_int (by decide))) rfl))]
        exact mSet_eq (op_VV (mVar_eq rfl) mLit_eq (mul_int (by omega) (by omega)))
    · refine ⟨f, s, .int ((8192 : Int) ^ j), hf.1, hs.1, hs.2, while_f ?_⟩
      have c1 : ¬ ((8192 : Int) ^ j < many) := fun z => h (.inl z)
      have c2 : ¬ ((8192 : Int) ^ j = 1) := fun z => h (.inr z)
      simp_arith [m_law_twig_b1, c1, c2]
theorem den_twig {d : D} (w : Wood d) {many : Int} (hm : 1 ≤ many ∧ many ≤ 2 ^ 260) : ∃ (r : Int) (d' : D), F_law_twig [d, .int many] = .ok (.int r) d' ∧ 0 ≤ r ∧ r < many ∧ Wood d' := by
  obtain ⟨c, s, rfl, h1, h2, h3, h4⟩ := w
  by_cases hc : 0 < c
  · refine ⟨c % many, .lst [.int (c / many), .int s], ?_, Int.emod_nonneg _ (by omega), Int.emod_lt_of_pos _ (by omega), _, _, rfl, Int.ediv_nonneg h1 (by omega), Int.lt_of_le_of_lt (Int.ediv_le_self _ h1) h2, h3, h4⟩
    have e : m_law_twig [some (.lst [.int c, .int s]), some (.int many), none, none] = .rt (.int (c % many)) [some (.lst [.int (c / many), .int s]), some (.int many), some (.int (c % many)), none] := by
      unfold m_law_twig
      rw [mSeq_rt]
      rw [mIfS_t (mTst_eq (op_VV (op_OV rfl mLit_eq rfl idx0) mLit_eq (by show some (D.bl (decide _)) = _; rw [decide_eq_true (by omega)])))]
      rw [mSeq_eq (mSet_eq (op_VV (fn_1 (op_OV rfl mLit_eq rfl idx0) rfl) (mVar_eq rfl) (mod_int (by omega))))]
      rw [mSeq_eq (store_eq (op_VV (op_OV rfl mLit_eq rfl idx0) (mVar_eq rfl) (div_int (by omega))) rfl mLit_eq rfl set0)]
      exact mRet_eq (mVar_eq rfl)
    show (match m_law_twig [some (.lst [.int c, .int s]), some (.int many), none, none] with
      | .nx env => RF.ok .non (ownOut true env)
      | .rt d env => .ok d (ownOut true env)
      | .err e => if true = true then .stuck else .err e
      | _ => .stuck) = _
    rw [e] <;> rfl
  · have c0 : c = 0 := by omega
    subst c0
    obtain ⟨n, hn⟩ := FUEL_eq
    obtain ⟨r, s', wd, r0, s0, s1, el⟩ := twig_loop many hm 0 20 0 (n + 79) s 0 rfl ⟨h3, h4⟩ ⟨by decide, by decide⟩
    refine ⟨r % many, .lst [.int 0, .int s'], ?_, Int.emod_nonneg _ (by omega), Int.emod_lt_of_pos _ (by omega), _, _, rfl, h1, h2, s0, s1⟩
    have e : m_law_twig [some (.lst [.int 0, .int s]), some (.int many), none, none] = .rt (.int (r % many)) [some (.lst [.int 0, .int s']), some (.int many), some (.int r), some wd] := by
      unfold m_law_twig
      rw [mSeq_eq ((mIfS_f (mTst_eq (op_VV (op_OV rfl mLit_eq rfl idx0) mLit_eq rfl))).trans mNx_eq)]
      rw [mSeq_eq (asg_eq (tup_eq (a_cons mLit_eq (a_cons mLit_eq a_nil))) rfl)]
      rw [mSeq_eq (show mWhile FUEL _ _ _ = _ from by rw [hn]; exact el)]
      exact mRet_eq (op_VV (fn_1 (mVar_eq rfl) rfl) (mVar_eq rfl) (mod_int (by omega)))
    show (match m_law_twig [some (.lst [.int 0, .int s]), some (.int many), none, none] with
      | .nx env => RF.ok .non (ownOut true env)
      | .rt d env => .ok d (ownOut true env)
      | .err e => if true = true then .stuck else .err e
      | _ => .stuck) = _
    rw [e] <;> rfl
end FT

set_option Elab.async false
set_option linter.all false
set_option maxRecDepth 100000
set_option maxHeartbeats 2000000
set_option exponentiation.threshold 10000
namespace FT
open PySem PySem.Spec PyProof.Rows L2
local macro_rules | `(tactic| simp_arith [$ts,*]) => `(tactic| simp (disch := omega) only [$ts,*, at_nx, at_rt, at_err, at_bk, at_ct, at_stuck, bindS_stuck, x_seq, x_nx, x_set, x_ret, x_drop, x_ifS, x_raise, x_asg, x_par, x_for, x_lit, x_var, x_own, x_V, x_op2, x_lift2, x_lift1, gR_none, x_op1, x_tst, x_notT, x_andT, x_orT, x_notV, x_andV, x_orV, x_if, x_nilA, x_consA, x_nilO, x_consO, x_fn, x_tup, x_lst, rf_ok, rf_err, x_call, rfo_ok, x_iter, x_name, x_gtup, x_gcons, x_gnil, a_cmp, a_eqS, a_neS, a_eqI, a_neI, a_is, a_isNot, a_ix0, a_ix1, a_ixl0, a_ixl1, isNon_non, isNon_tup, isNon_lst, isNon_int, isNon_bl, f_len_t, f_len_l, f_len_s, f_int, f_min, f_max, f_tuple, f_tupleT, f_list, f_listT, x_br_rt, x_br_nx, x_br_err, x_br_rtO, x_br_nxO, gR_some, bind_ok, bind_err, bind_stuck, bindS_ok, bindS_err, mLit_eq, mNx_eq, a_neg, x_app, n_app, x_retOwn, x_callK, x_callO, n_add, n_addL, n_Ladd, x_told, x_toldE, x_toldO, x_wipe0, x_wipe, x_callV, x_callVK, n_sub, n_subL, n_mul, n_div, n_mod, n_mod1, x_zT, x_chain, x_rng1, n_rng1, words_ne, List.getElem?_cons_zero, List.getElem?_cons_succ, List.set_cons_zero, List.set_cons_succ, List.length_cons, List.length_nil, Option.join_some, Option.bind_some, Option.map_some, List.mapM_cons, List.mapM_nil, Option.pure_def, Option.bind_eq_bind, List.zip_cons_cons, List.zip_nil_left, List.zip_nil_right, List.foldl_cons, List.foldl_nil, if_true, if_false, ite_true, ite_false, if_pos, if_neg, decide_true, decide_false, Bool.not_true, Bool.not_false, Bool.true_eq_false, Bool.false_eq_true, decide_eq_true_eq, decide_not, Bool.not_eq_true', reduceIte, and_self, and_true, true_and, and_false, false_and, or_true, true_or, or_false, false_or, castL, eq_self, decide_eq_false_iff_not, not_true_eq_false, not_false_eq_true, Int.reduceLE, Int.reduceLT, Int.reduceEq, Int.reduceNe, Int.reduceNeg, Int.reduceAdd, Int.reduceSub, Int.reduceMul, reduceCtorEq, Nat.reduceAdd, Nat.zero_add, x_body, i_non_int, i_non_bool, i_non_str, i_non_tuple, i_non_list, i_non_tl, i_bl_int, i_bl_bool, i_bl_str, i_bl_tuple, i_bl_list, i_bl_tl, i_int_int, i_int_bool, i_int_str, i_int_tuple, i_int_list, i_int_tl, i_str_int, i_str_bool, i_str_str, i_str_tuple, i_str_list, i_str_tl, i_tup_int, i_tup_bool, i_tup_str, i_tup_tuple, i_tup_list, i_tup_tl, i_lst_int, i_lst_bool, i_lst_str, i_lst_tuple, i_lst_list, i_lst_tl, in_w_up, in_w_down, in_w_next, in_w_last, in_w_mirror, in_w_top, in_w_leaf, in_a_up, in_a_down, in_a_next, in_a_last, in_a_mirror, in_a_top, in_a_leaf, in_nl_up, in_nl_down, in_nl_next, in_nl_last, in_nl_mirror, in_nl_top, in_nl_leaf])
def stp1 (w : String) : D := .tup [.str (Str.ofString w)]
def stp2 (w : String) (i : Int) : D := .tup [.str (Str.ofString w), .int i]
def stepsL (ways : Int) : List D := [stp1 "up", stp1 "next", stp1 "last", stp1 "mirror", stp1 "top", stp2 "down" 0, stp2 "down" 1, stp2 "leaf" 0, stp2 "leaf" 1] ++ (if ways = 3 then [stp2 "down" 2, stp2 "leaf" 2] else [])
abbrev Ways (w : Int) : Prop := w = 2 ∨ w = 3
theorem own1 {a : D} {e : En} : ownOut true (some a :: e) = a := rfl
theorem atI_nat {l : List D} {r : Int} (h : 0 ≤ r ∧ r < l.length) : ∃ x, L2.atI l r = some x ∧ x ∈ l := by
  have hi : r.toNat < l.length := by omega
  refine ⟨l[r.toNat], ?_, List.getElem_mem hi⟩
  unfold L2.atI L2.ixN
  rw [if_pos h.1, if_pos h.2]
  simp [hi]
theorem den_any {d : D} (wd : Wood d) {l : List D} (hl : 1 ≤ l.length ∧ l.length ≤ 8192) : ∃ x d', F_law_any [d, .lst l] = .ok x d' ∧ x ∈ l ∧ Wood d' := by
  obtain ⟨r, d', e, r0, r1, wd'⟩ := den_twig wd (many := l.length) (by omega)
  obtain ⟨x, ex, hx⟩ := atI_nat ⟨r0, r1⟩
  obtain ⟨c, s, ed, _⟩ := id wd
  refine ⟨x, d', ?_, hx, wd'⟩
  refine body_rt (e := [some d', some (.lst l)]) ?_
  unfold m_law_any
  subst ed
  exact mRet_eq (op_VV (mVar_eq rfl) (callO_eq rfl (a_cons (fn_1 (mVar_eq rfl) rfl) a_nil) rfl e) ex)
theorem den_one {d : D} (wd : Wood d) {w : Int} (hw : Ways w) : ∃ x d', F_law_one_step [d, .int w] = .ok x d' ∧ x ∈ stepsL w ∧ Wood d' := by
  obtain ⟨x, d1, e1, hx, wd1⟩ := den_any wd (l := [.str (Str.ofString "up"), .str (Str.ofString "up"), .str (Str.ofString "down"), .str (Str.ofString "down"), .str (Str.ofString "next"), .str (Str.ofString "next"), .str (Str.ofString "last"), .str (Str.ofString "mirror"), .str (Str.ofString "leaf"), .str (Str.ofString "leaf"), .str (Str.ofString "top")]) ⟨by decide, by decide⟩
  obtain ⟨c, s, ed, _⟩ := id wd
  subst ed
  obtain ⟨c1, s1, ed1, _⟩ := id wd1
  have first : (mSet 2 (mCallO F_law_any 0 (mConsA (mLst (mConsA (mLit (.str (Str.ofString "up"))) (mConsA (mLit (.str (Str.ofString "up"))) (mConsA (mLit (.str (Str.ofString "down"))) (mConsA (mLit (.str (Str.ofString "down"))) (mConsA (mLit (.str (Str.ofString "next"))) (mConsA (mLit (.str (Str.ofString "next"))) (mConsA (mLit (.str (Str.ofString "last"))) (mConsA (mLit (.str (Str.ofString "mirror"))) (mConsA (mLit (.str (Str.ofString "leaf"))) (mConsA (mLit (.str (Str.ofString "leaf"))) (mConsA (mLit (.str (Str.ofString "top"))) mNilA)))))))))))) mNilA))) [some (.lst [.int c, .int s]), some (.int w), none] = .nx [some d1, some (.int w), some x] :=
    mSet_eq (callO_eq rfl (a_cons (lst_eq (a_cons mLit_eq (a_cons mLit_eq (a_cons mLit_eq (a_cons mLit_eq (a_cons mLit_eq (a_cons mLit_eq (a_cons mLit_eq (a_cons mLit_eq (a_cons mLit_eq (a_cons mLit_eq (a_cons mLit_eq a_nil)))))))))))) a_nil) rfl e1)
  have one : ∀ x : D, gIn x (.tup [.str (Str.ofString "down"), .str (Str.ofString "leaf")]) = some (.bl false) → (mSet 2 (mCallO F_law_any 0 (mConsA (mLst (mConsA (mLit (.str (Str.ofString "up"))) (mConsA (mLit (.str (Str.ofString "up"))) (mConsA (mLit (.str (Str.ofString "down"))) (mConsA (mLit (.str (Str.ofString "down"))) (mConsA (mLit (.str (Str.ofString "next"))) (mConsA (mLit (.str (Str.ofString "next"))) (mConsA (mLit (.str (Str.ofString "last"))) (mConsA (mLit (.str (Str.ofString "mirror"))) (mConsA (mLit (.str (Str.ofString "leaf"))) (mConsA (mLit (.str (Str.ofString "leaf"))) (mConsA (mLit (.str (Str.ofString "top"))) mNilA)))))))))))) mNilA))) [some (.lst [.int c, .int s]), some (.int w), none] = .nx [some d1, some (.int w), some x] → F_law_one_step [.lst [.int c, .int s], .int w] = .ok (.tup [x]) d1 := fun x hx first => by
    refine body_rt (e := [some d1, some (.int w), some x]) ?_
    unfold m_law_one_step
    exact (mSeq_eq first).trans (mRet_eq ((mIf_f (mTst_eq (op_VV (mVar_eq rfl) (tup_eq (a_cons mLit_eq (a_cons mLit_eq a_nil))) hx))).trans (tup_eq (a_cons (mVar_eq rfl) a_nil))))
  have two : ∀ x : D, gIn x (.tup [.str (Str.ofString "down"), .str (Str.ofString "leaf")]) = some (.bl true) → (mSet 2 (mCallO F_law_any 0 (mConsA (mLst (mConsA (mLit (.str (Str.ofString "up"))) (mConsA (mLit (.str (Str.ofString "up"))) (mConsA (mLit (.str (Str.ofString "down"))) (mConsA (mLit (.str (Str.ofString "down"))) (mConsA (mLit (.str (Str.ofString "next"))) (mConsA (mLit (.str (Str.ofString "next"))) (mConsA (mLit (.str (Str.ofString "last"))) (mConsA (mLit (.str (Str.ofString "mirror"))) (mConsA (mLit (.str (Str.ofString "leaf"))) (mConsA (mLit (.str (Str.ofString "leaf"))) (mConsA (mLit (.str (Str.ofString "top"))) mNilA)))))))))))) mNilA))) [some (.lst [.int c, .int s]), some (.int w), none] = .nx [some d1, some (.int w), some x] →
      ∃ (i : Int) (d2 : D), F_law_one_step [.lst [.int c, .int s], .int w] = .ok (.tup [x, .int i]) d2 ∧ 0 ≤ i ∧ i < w ∧ Wood d2 := fun x hx first => by
    obtain ⟨i, d2, e2, i0, i1, wd2⟩ := den_twig wd1 (many := w) (by rcases hw with rfl | rfl <;> decide)
    refine ⟨i, d2, ?_, i0, i1, wd2⟩
    refine body_rt (e := [some d2, some (.int w), some x]) ?_
    unfold m_law_one_step
    subst ed1
    exact (mSeq_eq first).trans (mRet_eq ((mIf_t (mTst_eq (op_VV (mVar_eq rfl) (tup_eq (a_cons mLit_eq (a_cons mLit_eq a_nil))) hx))).trans (tup_eq (a_cons (mVar_eq rfl) (a_cons (callO_eq rfl (a_cons (mVar_eq rfl) a_nil) rfl e2) a_nil)))))
  have in2 : ∀ (v : String) (i : Int), (v = "down" ∨ v = "leaf") → 0 ≤ i → i < w → stp2 v i ∈ stepsL w := fun v i hv h0 h1 => by
    have hi : i = 0 ∨ i = 1 ∨ (i = 2 ∧ w = 3) := by rcases hw with rfl | rfl <;> omega
    unfold stepsL
    rcases hi with rfl | rfl | ⟨rfl, rfl⟩ <;> rcases hv with rfl | rfl <;> simp
  have in1 : ∀ v : String, v ∈ ["up", "next", "last", "mirror", "top"] → stp1 v ∈ stepsL w := fun v hv => by
    simp only [List.mem_cons, List.not_mem_nil, or_false] at hv
    unfold stepsL
    rcases hv with rfl | rfl | rfl | rfl | rfl <;> simp
  have g1 : ∀ v : String, v ∈ ["up", "next", "last", "mirror", "top"] → gIn (.str (Str.ofString v)) (.tup [.str (Str.ofString "down"), .str (Str.ofString "leaf")]) = some (.bl false) := fun v hv => by
    simp only [List.mem_cons, List.not_mem_nil, or_false] at hv
    rcases hv with rfl | rfl | rfl | rfl | rfl <;> kernel_rfl
  have c1 : ∀ v : String, v ∈ ["up", "next", "last", "mirror", "top"] → x = .str (Str.ofString v) → ∃ x d', F_law_one_step [.lst [.int c, .int s], .int w] = .ok x d' ∧ x ∈ stepsL w ∧ Wood d' := fun v hv ex => by
    subst ex
    exact ⟨_, _, one _ (g1 v hv) first, in1 v hv, wd1⟩
  have c2 : ∀ v : String, (v = "down" ∨ v = "leaf") → x = .str (Str.ofString v) → ∃ x d', F_law_one_step [.lst [.int c, .int s], .int w] = .ok x d' ∧ x ∈ stepsL w ∧ Wood d' := fun v hv ex => by
    subst ex
    obtain ⟨i, d2, e2, i0, i1, wd2⟩ := two _ (by rcases hv with rfl | rfl <;> kernel_rfl) first
    exact ⟨_, _, e2, in2 v i hv i0 i1, wd2⟩
  simp only [List.mem_cons, List.not_mem_nil, or_false] at hx
  rcases hx with h | h | h | h | h | h | h | h | h | h | h
  · exact c1 "up" (by simp) h
  · exact c1 "up" (by simp) h
  · exact c2 "down" (.inl rfl) h
  · exact c2 "down" (.inl rfl) h
  · exact c1 "next" (by simp) h
  · exact c1 "next" (by simp) h
  · exact c1 "last" (by simp) h
  · exact c1 "mirror" (by simp) h
  · exact c2 "leaf" (.inr rfl) h
  · exact c2 "leaf" (.inr rfl) h
  · exact c1 "top" (by simp) h
def IsS (w most : Int) (l : List D) : Prop := (l.length : Int) ≤ most ∧ ∀ d ∈ l, d ∈ stepsL w
theorem in_step {w : Int} (hw : Ways w) : (∀ v : String, v ∈ ["up", "next", "last", "mirror", "top"] → stp1 v ∈ stepsL w) ∧ ∀ (v : String) (i : Int), (v = "down" ∨ v = "leaf") → 0 ≤ i → i < w → stp2 v i ∈ stepsL w := by
  refine ⟨fun v hv => ?_, fun v i hv h0 h1 => ?_⟩
  · simp only [List.mem_cons, List.not_mem_nil, or_false] at hv
    unfold stepsL
    rcases hv with rfl | rfl | rfl | rfl | rfl <;> simp
  · have hi : i = 0 ∨ i = 1 ∨ (i = 2 ∧ w = 3) := by rcases hw with rfl | rfl <;> omega
    unfold stepsL
    rcases hi with rfl | rfl | ⟨rfl, rfl⟩ <;> rcases hv with rfl | rfl <;> simp
theorem cut_sub {l : List D} {lo hi : Option Int} {x : D} (h : x ∈ cutD l lo hi) : x ∈ l := List.mem_of_mem_drop (List.mem_of_mem_take h)
theorem cut1_len (l : List D) : (cutD l none (some 1)).length ≤ 1 := by
  unfold cutD
  rw [List.length_take, List.length_drop]
  have : HT.sIx l.length l.length (some 1) - HT.sIx l.length 0 none ≤ 1 := by
    have e : HT.sIx l.length l.length (some 1) = min (1 : Int).toNat l.length := by
      show (if (1 : Int) < 0 then ((1 : Int) + (l.length : Int)).toNat else min (1 : Int).toNat l.length) = _
      rw [if_neg (by decide)]
    rw [e]
    have : (1 : Int).toNat = 1 := rfl
    omega
  omega
theorem cut0_len (l : List D) {hi : Option Int} : (cutD (cutD l none (some 0)) none hi).length = 0 := by
  have e : cutD l none (some 0) = [] := by
    unfold cutD
    have e1 : HT.sIx l.length l.length (some 0) = 0 := by
      show (if (0 : Int) < 0 then ((0 : Int) + (l.length : Int)).toNat else min (0 : Int).toNat l.length) = 0
      rw [if_neg (by decide)]
      exact Nat.zero_min _
    rw [e1, Nat.zero_sub, List.take_zero]
  rw [e]
  unfold cutD
  rw [List.drop_nil, List.take_nil]
  rfl
theorem den_steps {d : D} (wd : Wood d) {w : Int} (hw : Ways w) {most : Int} (hm : 0 ≤ most ∧ most ≤ 1000) : ∃ l d', F_law_steps [d, .int w, .int most] = .ok (.tup l) d' ∧ IsS w most l ∧ Wood d' := by
  obtain ⟨r, d1, e1, r0, r1, wd1⟩ := den_twig wd (many := most + 1) (by omega)
  obtain ⟨c, s, ed, _⟩ := id wd
  subst ed
  -- the first steps
  obtain ⟨acc, ee, hl, ⟨d2, he, wd2, hacc⟩, hlen⟩ := lc_inv (mt := mgName 4) (tt := mYes) (te := mCallO F_law_one_step 0 (mConsA (mVar 1) mNilA)) (vs := [4])
    (fun acc e => ∃ d', e = [some d', some (.int w), some (.int most), none, none, none, none, none] ∧ Wood d' ∧ ∀ x ∈ acc, x ∈ stepsL w) (rangeD 0 r) [] [some d1, some (.int w), some (.int most), none, none, none, none, none]
    (by simp [rangeD]; omega) ⟨d1, rfl, wd1, fun x hx => nomatch hx⟩ fun acc e dd ⟨d', he, wd', ha⟩ hd => by
      subst he
      obtain ⟨x, d'', ex, hx, wd''⟩ := den_one wd' hw
      obtain ⟨c', s', ed', _⟩ := id wd'
      subst ed'
      refine ⟨_, _, x, _, rfl, rfl, callO_eq rfl (a_cons (mVar_eq rfl) a_nil) rfl ex, d'', rfl, wd'', fun y hy => ?_⟩
      rcases List.mem_append.mp hy with h | h
      · exact ha y h
      · have : y = x := by simpa using h
        rw [this]; exact hx
  subst he
  have hal : (acc.length : Int) ≤ most := by
    rw [hlen]
    simp [rangeD]
    omega
  have f1 : (mSet 3 (mFn fTuple (mConsO (mV (mLc (mRng1 (mConsA (mCallO F_law_twig 0 (mConsA (mOp2 gAdd (mV (mVar 2)) (mV (mLit (.int 1)))) mNilA)) mNilA)) (mgName 4) mYes (mCallO F_law_one_step 0 (mConsA (mVar 1) mNilA)) [4])) mNilO))) [some (.lst [.int c, .int s]), some (.int w), some (.int most), none, none, none, none, none] = .nx [some d2, some (.int w), some (.int most), some (.tup acc), none, none, none, none] :=
    (mSet_eq (fn_1 (lc_eq (rng1_eq (callO_eq rfl (a_cons (op_VV (mVar_eq rfl) mLit_eq rfl) a_nil) rfl e1) (by omega)) hl) rfl)).trans rfl
  obtain ⟨t, d3, e3, t0, t1, wd3⟩ := den_twig wd2 (many := 2) (by decide)
  obtain ⟨c2, s2, ed2, _⟩ := id wd2
  by_cases stop : t = 0 ∨ most < 3
  · refine ⟨acc, d3, ?_, ⟨hal, hacc⟩, wd3⟩
    refine body_rt (e := [some d3, some (.int w), some (.int most), some (.tup acc), none, none, none, none]) ?_
    unfold m_law_steps
    refine (mSeq_eq f1).trans ?_
    rw [mSeq_rt]
    subst ed2
    have tw : mOp2 gEq (mV (mCallO F_law_twig 0 (mConsA (mLit (.int 2)) mNilA))) (mV (mLit (.int 0))) [some (.lst [.int c2, .int s2]), some (.int w), some (.int most), some (.tup acc), none, none, none, none] = .ok (.bl (deq (.int t) (.int 0))) [some d3, some (.int w), some (.int most), some (.tup acc), none, none, none, none] :=
      op_VV (callO_eq rfl (a_cons mLit_eq a_nil) rfl e3) mLit_eq rfl
    by_cases ht : t = 0
    · subst ht
      exact (mIfS_t (mOrT_t (mTst_eq tw))).trans (mRet_eq (mVar_eq rfl))
    · have hb : deq (.int t) (.int 0) = false := by
        show PyData.eqv (.int t) (.int 0) = false
        simp only [PyData.eqv]
        simpa using ht
      rw [hb] at tw
      exact (mIfS_t ((mOrT_f (mTst_eq tw)).trans (mTst_eq (op_VV (mVar_eq rfl) mLit_eq (by show some (D.bl (decide _)) = _; rw [decide_eq_true (stop.resolve_left ht)]))))).trans (mRet_eq (mVar_eq rfl))
  · have hb : deq (.int t) (.int 0) = false := by
      show PyData.eqv (.int t) (.int 0) = false
      simp only [PyData.eqv]
      simpa using fun h => stop (.inl h)
    obtain ⟨x5, d4, e4, h5, wd4⟩ := den_any wd3 (l := [stp1 "next", stp1 "last", stp1 "mirror", stp1 "next"]) ⟨by decide, by decide⟩
    obtain ⟨x6, d5, e5, l0, l1, wd5⟩ := den_twig wd4 (many := w) (by rcases hw with rfl | rfl <;> decide)
    obtain ⟨x7, d6, e6, h7, wd6⟩ := den_any wd5 (l := [stp1 "next", stp1 "mirror"]) ⟨by decide, by decide⟩
    obtain ⟨x8, d7, e7, h8, wd7⟩ := den_any wd6 (l := [.tup [stp1 "up", x5, stp2 "down" x6], .tup [x5, stp1 "up", stp2 "down" x6], .tup [x5, x7], .tup [stp2 "leaf" x6, x5, stp1 "up"]]) ⟨by simp, by simp⟩
    obtain ⟨c3, s3, ed3, _⟩ := id wd3
    obtain ⟨c4, s4, ed4, _⟩ := id wd4
    obtain ⟨c5, s5, ed5, _⟩ := id wd5
    obtain ⟨c6, s6, ed6, _⟩ := id wd6
    have i1 := (in_step hw).1
    have i2 := (in_step hw).2
    have m5 : x5 ∈ stepsL w := by
      simp only [List.mem_cons, List.not_mem_nil, or_false] at h5
      rcases h5 with rfl | rfl | rfl | rfl <;> exact i1 _ (by simp)
    have m7 : x7 ∈ stepsL w := by
      simp only [List.mem_cons, List.not_mem_nil, or_false] at h7
      rcases h7 with rfl | rfl <;> exact i1 _ (by simp)
    have md := i2 "down" x6 (.inl rfl) l0 l1
    have ml := i2 "leaf" x6 (.inr rfl) l0 l1
    have mu := i1 "up" (by simp)
    obtain ⟨l8, rfl, hl8, hm8⟩ : ∃ l8, x8 = .tup l8 ∧ l8.length ≤ 3 ∧ ∀ x ∈ l8, x ∈ stepsL w := by
      simp only [List.mem_cons, List.not_mem_nil, or_false] at h8
      rcases h8 with rfl | rfl | rfl | rfl
      · exact ⟨_, rfl, by simp, by simp only [List.mem_cons, List.not_mem_nil, or_false]; rintro x (rfl | rfl | rfl) <;> assumption⟩
      · exact ⟨_, rfl, by simp, by simp only [List.mem_cons, List.not_mem_nil, or_false]; rintro x (rfl | rfl | rfl) <;> assumption⟩
      · exact ⟨_, rfl, by simp, by simp only [List.mem_cons, List.not_mem_nil, or_false]; rintro x (rfl | rfl) <;> assumption⟩
      · exact ⟨_, rfl, by simp, by simp only [List.mem_cons, List.not_mem_nil, or_false]; rintro x (rfl | rfl | rfl) <;> assumption⟩
    have hc1 := cut1_len (cutD acc none (some (most - 3)))
    have hc3 : most = 3 → (cutD (cutD acc none (some (most - 3))) none (some 1)).length = 0 := fun z => by subst z; exact cut0_len acc
    refine ⟨l8 ++ cutD (cutD acc none (some (most - 3))) none (some 1), d7, ?_, ⟨by rw [List.length_append]; omega, fun x hx => ?_⟩, wd7⟩
    · refine body_rt (e := [some d7, some (.int w), some (.int most), some (.tup acc), none, some x5, some (.int x6), some (.lst [.tup [stp1 "up", x5, stp2 "down" x6], .tup [x5, stp1 "up", stp2 "down" x6], .tup [x5, x7], .tup [stp2 "leaf" x6, x5, stp1 "up"]])]) ?_
      unfold m_law_steps
      refine (mSeq_eq f1).trans ?_
      subst ed2
      have tw : mOp2 gEq (mV (mCallO F_law_twig 0 (mConsA (mLit (.int 2)) mNilA))) (mV (mLit (.int 0))) [some (.lst [.int c2, .int s2]), some (.int w), some (.int most), some (.tup acc), none, none, none, none] = .ok (.bl (deq (.int t) (.int 0))) [some d3, some (.int w), some (.int most), some (.tup acc), none, none, none, none] :=
        op_VV (callO_eq rfl (a_cons mLit_eq a_nil) rfl e3) mLit_eq rfl
      rw [hb] at tw
      refine (mSeq_eq ((mIfS_f ((mOrT_f (mTst_eq tw)).trans (mTst_eq (op_VV (mVar_eq rfl) mLit_eq (by show some (D.bl (decide _)) = _; rw [decide_eq_false (fun h => stop (.inr h))]))))).trans rfl)).trans ?_
      subst ed3
      refine (mSeq_eq (mSet_eq (callO_eq rfl (a_cons (lst_eq (a_cons (tup_eq (a_cons mLit_eq a_nil)) (a_cons (tup_eq (a_cons mLit_eq a_nil)) (a_cons (tup_eq (a_cons mLit_eq a_nil)) (a_cons (tup_eq (a_cons mLit_eq a_nil)) a_nil))))) a_nil) rfl e4))).trans ?_
      subst ed4
      refine (mSeq_eq (mSet_eq (callO_eq rfl (a_cons (mVar_eq rfl) a_nil) rfl e5))).trans ?_
      refine (mSeq_eq (mSet_eq (lst_eq (a_cons (tup_eq (a_cons (tup_eq (a_cons mLit_eq a_nil)) (a_cons (mVar_eq rfl) (a_cons (tup_eq (a_cons mLit_eq (a_cons (mVar_eq rfl) a_nil))) a_nil)))) (a_cons (tup_eq (a_cons (mVar_eq rfl) (a_cons (tup_eq (a_cons mLit_eq a_nil)) (a_cons (tup_eq (a_cons mLit_eq (a_cons (mVar_eq rfl) a_nil))) a_nil)))) a_nil))))).trans ?_
      subst ed5
      refine (mSeq_eq (mSet_eq (op_VV (mVar_eq rfl) (lst_eq (a_cons (tup_eq (a_cons (mVar_eq rfl) (a_cons (callO_eq rfl (a_cons (lst_eq (a_cons (tup_eq (a_cons mLit_eq a_nil)) (a_cons (tup_eq (a_cons mLit_eq a_nil)) a_nil))) a_nil) rfl e6) a_nil))) (a_cons (tup_eq (a_cons (tup_eq (a_cons mLit_eq (a_cons (mVar_eq rfl) a_nil))) (a_cons (mVar_eq rfl) (a_cons (tup_eq (a_cons mLit_eq a_nil)) a_nil)))) a_nil))) rfl))).trans ?_
      subst ed6
      refine mRet_eq (op_VV (callO_eq rfl (a_cons (mVar_eq rfl) a_nil) rfl e7) (d' := .tup (cutD (cutD acc none (some (most - 3))) none (some 1))) ?_ ?_)
      · exact sl_hi (sl_hi (mVar_eq rfl) (op_VV (mVar_eq rfl) mLit_eq rfl) rfl) mLit_eq rfl
      · show (if l8.length + (cutD (cutD acc none (some (most - 3))) none (some 1)).length ≤ 1000000 then some (D.tup (l8 ++ cutD (cutD acc none (some (most - 3))) none (some 1))) else none) = _
        rw [if_pos (by omega)]
    · rcases List.mem_append.mp hx with h | h
      · exact hm8 x h
      · exact hacc x (cut_sub (cut_sub h))

/-! ### steps as plain steps -/
theorem stepsL_S {w : Nat} (hw : w = 2 ∨ w = 3) {x : D} (h : x ∈ stepsL w) : ∃ s : FM.S, x = eS s ∧ FM.SOk w s := by
  have h0 : x ∈ [stp1 "up", stp1 "next", stp1 "last", stp1 "mirror", stp1 "top", stp2 "down" 0, stp2 "down" 1, stp2 "leaf" 0, stp2 "leaf" 1] ∨ (w = 3 ∧ x ∈ [stp2 "down" 2, stp2 "leaf" 2]) := by
    unfold stepsL at h
    rcases List.mem_append.mp h with q | q
    · exact .inl q
    · split at q
      · rename_i e
        exact .inr ⟨by omega, q⟩
      · cases q
  simp only [List.mem_cons, List.not_mem_nil, or_false] at h0
  rcases h0 with (rfl | rfl | rfl | rfl | rfl | rfl | rfl | rfl | rfl) | ⟨rfl, rfl | rfl⟩
  · exact ⟨.up, rfl, trivial⟩
  · exact ⟨.nx, rfl, trivial⟩
  · exact ⟨.ls, rfl, trivial⟩
  · exact ⟨.mi, rfl, trivial⟩
  · exact ⟨.tp, rfl, trivial⟩
  · exact ⟨.dn 0, rfl, show 0 < w by omega⟩
  · exact ⟨.dn 1, rfl, show 1 < w by omega⟩
  · exact ⟨.lf 0, rfl, show 0 < w by omega⟩
  · exact ⟨.lf 1, rfl, show 1 < w by omega⟩
  · exact ⟨.dn 2, rfl, show 2 < 3 by omega⟩
  · exact ⟨.lf 2, rfl, show 2 < 3 by omega⟩
theorem stepsL_Ss {w : Nat} (hw : w = 2 ∨ w = 3) : ∀ {l : List D}, (∀ d ∈ l, d ∈ stepsL w) → ∃ ss : List FM.S, l = ss.map eS ∧ SsOk w ss
  | [], _ => ⟨[], rfl, fun _ h => nomatch h⟩
  | x :: r, h => by
    obtain ⟨s, e1, o1⟩ := stepsL_S hw (h x List.mem_cons_self)
    obtain ⟨ss, e2, o2⟩ := stepsL_Ss hw fun d hd => h d (List.mem_cons_of_mem _ hd)
    refine ⟨s :: ss, by rw [e1, e2]; rfl, fun z hz => ?_⟩
    rcases List.mem_cons.mp hz with rfl | hz
    · exact o1
    · exact o2 z hz
/-- a drawn script -/
theorem den_scr {d : D} (wd : Wood d) {k : Nat} (hk : k = 2 ∨ k = 3) {m : Nat} (hm : m ≤ 1000) : ∃ ss d', F_law_steps [d, .int k, .int m] = .ok (eSs ss) d' ∧ SsOk k ss ∧ ss.length ≤ m ∧ Wood d' := by
  obtain ⟨l, d', e, ⟨h1, h2⟩, wd'⟩ := den_steps wd (w := k) (by rcases hk with rfl | rfl; exact .inl rfl; exact .inr rfl) (most := m) (by omega)
  obtain ⟨ss, rfl, o⟩ := stepsL_Ss hk h2
  exact ⟨ss, d', e, o, by rw [List.length_map] at h1; omega, wd'⟩
end FT

set_option Elab.async false
set_option linter.all false
set_option maxRecDepth 100000
set_option maxHeartbeats 2000000
set_option exponentiation.threshold 10000
namespace FT
open PySem PySem.Spec PyProof.Rows L2
local macro_rules | `(tactic| simp_arith [$ts,*]) => `(tactic| simp (disch := omega) only [$ts,*, at_nx, at_rt, at_err, at_bk, at_ct, at_stuck, bindS_stuck, x_seq, x_nx, x_set, x_ret, x_drop, x_ifS, x_raise, x_asg, x_par, x_for, x_lit, x_var, x_own, x_V, x_op2, x_lift2, x_lift1, gR_none, x_op1, x_tst, x_notT, x_andT, x_orT, x_notV, x_andV, x_orV, x_if, x_nilA, x_consA, x_nilO, x_consO, x_fn, x_tup, x_lst, rf_ok, rf_err, x_call, rfo_ok, x_iter, x_name, x_gtup, x_gcons, x_gnil, a_cmp, a_eqS, a_neS, a_eqI, a_neI, a_is, a_isNot, a_ix0, a_ix1, a_ixl0, a_ixl1, isNon_non, isNon_tup, isNon_lst, isNon_int, isNon_bl, f_len_t, f_len_l, f_len_s, f_int, f_min, f_max, f_tuple, f_tupleT, f_list, f_listT, x_br_rt, x_br_nx, x_br_err, x_br_rtO, x_br_nxO, gR_some, bind_ok, bind_err, bind_stuck, bindS_ok, bindS_err, mLit_eq, mNx_eq, a_neg, x_app, n_app, x_retOwn, x_callK, x_callO, n_add, n_addL, n_Ladd, x_told, x_toldE, x_toldO, x_wipe0, x_wipe, x_callV, x_callVK, n_sub, n_subL, n_mul, n_div, n_mod, n_mod1, x_zT, x_chain, x_rng1, n_rng1, words_ne, List.getElem?_cons_zero, List.getElem?_cons_succ, List.set_cons_zero, List.set_cons_succ, List.length_cons, List.length_nil, Option.join_some, Option.bind_some, Option.map_some, List.mapM_cons, List.mapM_nil, Option.pure_def, Option.bind_eq_bind, List.zip_cons_cons, List.zip_nil_left, List.zip_nil_right, List.foldl_cons, List.foldl_nil, if_true, if_false, ite_true, ite_false, if_pos, if_neg, decide_true, decide_false, Bool.not_true, Bool.not_false, Bool.true_eq_false, Bool.false_eq_true, decide_eq_true_eq, decide_not, Bool.not_eq_true', reduceIte, and_self, and_true, true_and, and_false, false_and, or_true, true_or, or_false, false_or, castL, eq_self, decide_eq_false_iff_not, not_true_eq_false, not_false_eq_true, Int.reduceLE, Int.reduceLT, Int.reduceEq, Int.reduceNe, Int.reduceNeg, Int.reduceAdd, Int.reduceSub, Int.reduceMul, reduceCtorEq, Nat.reduceAdd, Nat.zero_add, x_body, i_non_int, i_non_bool, i_non_str, i_non_tuple, i_non_list, i_non_tl, i_bl_int, i_bl_bool, i_bl_str, i_bl_tuple, i_bl_list, i_bl_tl, i_int_int, i_int_bool, i_int_str, i_int_tuple, i_int_list, i_int_tl, i_str_int, i_str_bool, i_str_str, i_str_tuple, i_str_list, i_str_tl, i_tup_int, i_tup_bool, i_tup_str, i_tup_tuple, i_tup_list, i_tup_tl, i_lst_int, i_lst_bool, i_lst_str, i_lst_tuple, i_lst_list, i_lst_tl, in_w_up, in_w_down, in_w_next, in_w_last, in_w_mirror, in_w_top, in_w_leaf, in_a_up, in_a_down, in_a_next, in_a_last, in_a_mirror, in_a_top, in_a_leaf, in_nl_up, in_nl_down, in_nl_next, in_nl_last, in_nl_mirror, in_nl_top, in_nl_leaf])
/-- what the wood is made of -/
theorem wood_end {ns : List Int} {k c : Int} (hk : 0 ≤ k ∧ k ≤ 63) (hc : 0 ≤ c ∧ c < 2 ^ 800) : ∃ d : D, Wood d ∧ ∃ e : En,
    mRet (mLst (mConsA (mIf (mTst (mOp2 gGe (mV (mVar 2)) (mV (mOp2 gPow (mV (mLit (.int 10))) (mV (mLit (.int 18))))))) (mVar 2) (mLit (.int 0))) (mConsA (mOp2 gAdd (mV (mOp2 gMod (mV (mFn fInt (mConsO (mV (mOp2 gAdd (mV (mOp2 gAdd (mV (mOp2 gMul (mV (mOp2 gMod (mV (mVar 2)) (mV (mLit (.int 2147482951))))) (mV (mLit (.int 13))))) (mV (mOp2 gMul (mV (mLit (.int 83))) (mV (mVar 1)))))) (mV (mLit (.int 41))))) mNilO))) (mV (mLit (.int 2147482951))))) (mV (mLit (.int 1)))) mNilA))) [some (.scr ns), some (.int k), some (.int c)] = .rt d e := by
  have h2 : ∃ s : Int, 0 ≤ s ∧ s < 2 ^ 32 ∧ mOp2 gAdd (mV (mOp2 gMod (mV (mFn fInt (mConsO (mV (mOp2 gAdd (mV (mOp2 gAdd (mV (mOp2 gMul (mV (mOp2 gMod (mV (mVar 2)) (mV (mLit (.int 2147482951))))) (mV (mLit (.int 13))))) (mV (mOp2 gMul (mV (mLit (.int 83))) (mV (mVar 1)))))) (mV (mLit (.int 41))))) mNilO))) (mV (mLit (.int 2147482951))))) (mV (mLit (.int 1))) [some (.scr ns), some (.int k), some (.int c)] = .ok (.int s) [some (.scr ns), some (.int k), some (.int c)] := by
    have a0 := Int.emod_nonneg c (show (2147482951 : Int) ≠ 0 by decide)
    have a1 := Int.emod_lt_of_pos c (show (0 : Int) < 2147482951 by decide)
    have b0 := Int.emod_nonneg (c % 2147482951 * 13 + 83 * k + 41) (show (2147482951 : Int) ≠ 0 by decide)
    have b1 := Int.emod_lt_of_pos (c % 2147482951 * 13 + 83 * k + 41) (show (0 : Int) < 2147482951 by decide)
    refine ⟨(c % 2147482951 * 13 + 83 * k + 41) % 2147482951 + 1, by omega, by omega, ?_⟩
    exact op_VV (op_VV (fn_1 (op_VV (op_VV (op_VV (op_VV (mVar_eq rfl) mLit_eq (mod_int (by decide))) mLit_eq (mul_int ⟨by omega, by omega⟩ ⟨by decide, by decide⟩)) (op_VV mLit_eq (mVar_eq rfl) (mul_int ⟨by decide, by decide⟩ ⟨by omega, by omega⟩)) rfl) mLit_eq rfl) rfl) mLit_eq (mod_int (by decide))) mLit_eq rfl
  obtain ⟨s, s0, s1, hs⟩ := h2
  by_cases g : 10 ^ 18 ≤ c
  · exact ⟨_, ⟨c, s, rfl, hc.1, hc.2, s0, s1⟩, _, mRet_eq (lst_eq (a_cons ((mIf_t (mTst_eq (op_VV (mVar_eq rfl) (op_VV mLit_eq mLit_eq (show gPow (.int 10) (.int 18) = some (.int (10 ^ 18)) from by kernel_rfl)) (by show some (D.bl (decide _)) = _; rw [decide_eq_true g])))).trans (mVar_eq rfl)) (a_cons hs a_nil)))⟩
  · exact ⟨_, ⟨0, s, rfl, by decide, by decide, s0, s1⟩, _, mRet_eq (lst_eq (a_cons ((mIf_f (mTst_eq (op_VV (mVar_eq rfl) (op_VV mLit_eq mLit_eq (show gPow (.int 10) (.int 18) = some (.int (10 ^ 18)) from by kernel_rfl)) (by show some (D.bl (decide _)) = _; rw [decide_eq_false g])))).trans mLit_eq) (a_cons hs a_nil)))⟩
theorem den_wood {ns : List Int} {k : Int} (hk : 0 ≤ k ∧ k ≤ 63) : ∃ d, F_law_wood [.scr ns, .int k] = .ok d .non ∧ Wood d := by
  have f1 : mSet 2 (mOp2 gAdd (mV (mOp2 gMul (mV (mLit (.int 29009))) (mV (mVar 1)))) (mV (mLit (.int 71)))) [some (.scr ns), some (.int k), none] = .nx [some (.scr ns), some (.int k), some (.int (29009 * k + 71))] :=
    mSet_eq (op_VV (op_VV mLit_eq (mVar_eq rfl) (mul_int ⟨by decide, by decide⟩ ⟨by omega, by omega⟩)) mLit_eq rfl)
  have pw : gPow (.int 10) (.int 60) = some (.int (10 ^ 60)) := by kernel_rfl
  have p2 : gMul (.int (10 ^ 60)) (.int (10 ^ 60)) = some (.int (10 ^ 120)) := by kernel_rfl
  have p3 : gMul (.int (10 ^ 120)) (.int (10 ^ 60)) = some (.int (10 ^ 180)) := by kernel_rfl
  have p4 : gMul (.int (10 ^ 180)) (.int (10 ^ 60)) = some (.int (10 ^ 240)) := by kernel_rfl
  have fin : ∀ c : Int, 0 ≤ c → c < 2 ^ 800 → (mIfS (mTst (mOp2 gLt (mV (mVar 1)) (mV (mFn fLen (mConsO (mV (mVar 0)) mNilO))))) (mSet 2 (mOp2 gMod (mV (mFn fAbs (mConsO (mV (mFn fInt (mConsO (mV (mOp2 gIdx (mV (mVar 0)) (mV (mVar 1)))) mNilO))) mNilO))) (mV (mOp2 gMul (mV (mOp2 gMul (mV (mOp2 gMul (mV (mOp2 gPow (mV (mLit (.int 10))) (mV (mLit (.int 60))))) (mV (mOp2 gPow (mV (mLit (.int 10))) (mV (mLit (.int 60))))))) (mV (mOp2 gPow (mV (mLit (.int 10))) (mV (mLit (.int 60))))))) (mV (mOp2 gPow (mV (mLit (.int 10))) (mV (mLit (.int 60))))))))) (mIfS (mTst (mOp2 gGt (mV (mFn fLen (mConsO (mV (mVar 0)) mNilO))) (mV (mLit (.int 0))))) (mSet 2 (mOp2 gAdd (mV (mVar 2)) (mV (mOp2 gMod (mV (mFn fAbs (mConsO (mV (mFn fInt (mConsO (mV (mOp2 gIdx (mV (mVar 0)) (mV (mLit (.int 0))))) mNilO))) mNilO))) (mV (mLit (.int 1000381))))))) mNx)) [some (.scr ns), some (.int k), some (.int (29009 * k + 71))] = .nx [some (.scr ns), some (.int k), some (.int c)] → ∃ d, F_law_wood [.scr ns, .int k] = .ok d .non ∧ Wood d := fun c c0 c1 e2 => by
    obtain ⟨d, wd, e, e3⟩ := wood_end (ns := ns) hk ⟨c0, c1⟩
    refine ⟨d, body_rt (e := e) ?_, wd⟩
    unfold m_law_wood
    exact (mSeq_eq f1).trans ((mSeq_eq e2).trans e3)
  by_cases h1 : k < ns.length
  · obtain ⟨z, ez, _⟩ := (show ∃ x, L2.atI ns k = some x ∧ True from by
      have hi : k.toNat < ns.length := by omega
      refine ⟨ns[k.toNat], ?_, trivial⟩
      unfold L2.atI L2.ixN
      rw [if_pos hk.1, if_pos h1]
      simp [hi])
    have gi : gIdx (.scr ns) (.int k) = some (.int z) := by
      show (L2.atI ns k).map D.int = _
      rw [ez] <;> rfl
    refine fin ((z.natAbs : Int) % 10 ^ 240) (Int.emod_nonneg _ (by decide)) (Int.lt_of_lt_of_le (Int.emod_lt_of_pos _ (by decide)) (by decide)) ?_
    refine (mIfS_t (mTst_eq (op_VV (mVar_eq rfl) (fn_1 (mVar_eq rfl) rfl) (by show some (D.bl (decide _)) = _; rw [decide_eq_true h1])))).trans ?_
    exact mSet_eq (op_VV (fn_1 (fn_1 (op_VV (mVar_eq rfl) (mVar_eq rfl) gi) rfl) rfl) (op_VV (op_VV (op_VV (op_VV mLit_eq mLit_eq pw) (op_VV mLit_eq mLit_eq pw) p2) (op_VV mLit_eq mLit_eq pw) p3) (op_VV mLit_eq mLit_eq pw) p4) (mod_int (by decide)))
  · by_cases h2 : 0 < ns.length
    · obtain ⟨z, ez⟩ : ∃ z, L2.atI ns 0 = some z := by
        refine ⟨ns[0], ?_⟩
        unfold L2.atI L2.ixN
        rw [if_pos (by decide), if_pos (by omega)]
        simp [h2]
      have gi : gIdx (.scr ns) (.int 0) = some (.int z) := by
        show (L2.atI ns 0).map D.int = _
        rw [ez] <;> rfl
      have a0 := Int.emod_nonneg (z.natAbs : Int) (show (1000381 : Int) ≠ 0 by decide)
      have a1 := Int.emod_lt_of_pos (z.natAbs : Int) (show (0 : Int) < 1000381 by decide)
      refine fin (29009 * k + 71 + (z.natAbs : Int) % 1000381) (by omega) (by omega) ?_
      refine (mIfS_f (mTst_eq (op_VV (mVar_eq rfl) (fn_1 (mVar_eq rfl) rfl) (by show some (D.bl (decide _)) = _; rw [decide_eq_false h1])))).trans ?_
      refine (mIfS_t (mTst_eq (op_VV (fn_1 (mVar_eq rfl) rfl) mLit_eq (by show some (D.bl (decide _)) = _; rw [decide_eq_true (by omega)])))).trans ?_
      exact mSet_eq (op_VV (mVar_eq rfl) (op_VV (fn_1 (fn_1 (op_VV (mVar_eq rfl) mLit_eq gi) rfl) rfl) mLit_eq (mod_int (by decide))) rfl)
    · refine fin (29009 * k + 71) (by omega) (by omega) ?_
      refine (mIfS_f (mTst_eq (op_VV (mVar_eq rfl) (fn_1 (mVar_eq rfl) rfl) (by show some (D.bl (decide _)) = _; rw [decide_eq_false h1])))).trans ?_
      exact (mIfS_f (mTst_eq (op_VV (fn_1 (mVar_eq rfl) rfl) mLit_eq (by show some (D.bl (decide _)) = _; rw [decide_eq_false (by omega)])))).trans rfl
end FT

set_option Elab.async false
set_option linter.all false
set_option maxRecDepth 100000
set_option maxHeartbeats 2000000
set_option exponentiation.threshold 10000
namespace FT
open PySem PySem.Spec PyProof.Rows L2
local macro_rules | `(tactic| simp_arith [$ts,*]) => `(tactic| simp (disch := omega) only [$ts,*, at_nx, at_rt, at_err, at_bk, at_ct, at_stuck, bindS_stuck, x_seq, x_nx, x_set, x_ret, x_drop, x_ifS, x_raise, x_asg, x_par, x_for, x_lit, x_var, x_own, x_V, x_op2, x_lift2, x_lift1, gR_none, x_op1, x_tst, x_notT, x_andT, x_orT, x_notV, x_andV, x_orV, x_if, x_nilA, x_consA, x_nilO, x_consO, x_fn, x_tup, x_lst, rf_ok, rf_err, x_call, rfo_ok, x_iter, x_name, x_gtup, x_gcons, x_gnil, a_cmp, a_eqS, a_neS, a_eqI, a_neI, a_is, a_isNot, a_ix0, a_ix1, a_ixl0, a_ixl1, isNon_non, isNon_tup, isNon_lst, isNon_int, isNon_bl, f_len_t, f_len_l, f_len_s, f_int, f_min, f_max, f_tuple, f_tupleT, f_list, f_listT, x_br_rt, x_br_nx, x_br_err, x_br_rtO, x_br_nxO, gR_some, bind_ok, bind_err, bind_stuck, bindS_ok, bindS_err, mLit_eq, mNx_eq, a_neg, x_app, n_app, x_retOwn, x_callK, x_callO, n_add, n_addL, n_Ladd, x_told, x_toldE, x_toldO, x_wipe0, x_wipe, x_callV, x_callVK, n_sub, n_subL, n_mul, n_div, n_mod, n_mod1, x_zT, x_chain, x_rng1, n_rng1, words_ne, List.getElem?_cons_zero, List.getElem?_cons_succ, List.set_cons_zero, List.set_cons_succ, List.length_cons, List.length_nil, Option.join_some, Option.bind_some, Option.map_some, List.mapM_cons, List.mapM_nil, Option.pure_def, Option.bind_eq_bind, List.zip_cons_cons, List.zip_nil_left, List.zip_nil_right, List.foldl_cons, List.foldl_nil, if_true, if_false, ite_true, ite_false, if_pos, if_neg, decide_true, decide_false, Bool.not_true, Bool.not_false, Bool.true_eq_false, Bool.false_eq_true, decide_eq_true_eq, decide_not, Bool.not_eq_true', reduceIte, and_self, and_true, true_and, and_false, false_and, or_true, true_or, or_false, false_or, castL, eq_self, decide_eq_false_iff_not, not_true_eq_false, not_false_eq_true, Int.reduceLE, Int.reduceLT, Int.reduceEq, Int.reduceNe, Int.reduceNeg, Int.reduceAdd, Int.reduceSub, Int.reduceMul, reduceCtorEq, Nat.reduceAdd, Nat.zero_add, x_body, i_non_int, i_non_bool, i_non_str, i_non_tuple, i_non_list, i_non_tl, i_bl_int, i_bl_bool, i_bl_str, i_bl_tuple, i_bl_list, i_bl_tl, i_int_int, i_int_bool, i_int_str, i_int_tuple, i_int_list, i_int_tl, i_str_int, i_str_bool, i_str_str, i_str_tuple, i_str_list, i_str_tl, i_tup_int, i_tup_bool, i_tup_str, i_tup_tuple, i_tup_list, i_tup_tl, i_lst_int, i_lst_bool, i_lst_str, i_lst_tuple, i_lst_list, i_lst_tl, in_w_up, in_w_down, in_w_next, in_w_last, in_w_mirror, in_w_top, in_w_leaf, in_a_up, in_a_down, in_a_next, in_a_last, in_a_mirror, in_a_top, in_a_leaf, in_nl_up, in_nl_down, in_nl_next, in_nl_last, in_nl_mirror, in_nl_top, in_nl_leaf])
/-! ### draws, by the wood's two numbers -/
def WN (c s : Int) : Prop := 0 ≤ c ∧ c < 2 ^ 800 ∧ 0 ≤ s ∧ s < 2 ^ 32
theorem WN.w {c s : Int} (h : WN c s) : Wood (.lst [.int c, .int s]) := ⟨c, s, rfl, h⟩
theorem tw {c s : Int} (w : WN c s) {many : Nat} (hm : 1 ≤ many ∧ many ≤ 2 ^ 260) : ∃ (r : Nat) (c' s' : Int), F_law_twig [.lst [.int c, .int s], .int many] = .ok (.int r) (.lst [.int c', .int s']) ∧ r < many ∧ WN c' s' := by
  obtain ⟨r, d', e, r0, r1, c', s', rfl, w'⟩ := den_twig w.w (many := many) (by omega)
  obtain ⟨n, rfl⟩ := Int.eq_ofNat_of_zero_le r0
  exact ⟨n, c', s', e, by omega, w'⟩
theorem an {c s : Int} (w : WN c s) (l : List D) (hl : 1 ≤ l.length ∧ l.length ≤ 8192) : ∃ (x : D) (c' s' : Int), F_law_any [.lst [.int c, .int s], .lst l] = .ok x (.lst [.int c', .int s']) ∧ x ∈ l ∧ WN c' s' := by
  obtain ⟨x, d', e, hx, c', s', rfl, w'⟩ := den_any w.w hl
  exact ⟨x, c', s', e, hx, w'⟩
theorem sc {c s : Int} (w : WN c s) {k : Nat} (hk : k = 2 ∨ k = 3) {m : Nat} (hm : m ≤ 1000) : ∃ (ss : List FM.S) (c' s' : Int), F_law_steps [.lst [.int c, .int s], .int k, .int m] = .ok (eSs ss) (.lst [.int c', .int s']) ∧ SsOk k ss ∧ ss.length ≤ m ∧ WN c' s' := by
  obtain ⟨ss, d', e, o, l, c', s', rfl, w'⟩ := den_scr w.w hk hm
  exact ⟨ss, c', s', e, o, l, w'⟩
theorem wo {ns : List Int} {k : Int} (hk : 0 ≤ k ∧ k ≤ 63) : ∃ (c s : Int), F_law_wood [.scr ns, .int k] = .ok (.lst [.int c, .int s]) .non ∧ WN c s := by
  obtain ⟨d, e, c, s, rfl, w⟩ := den_wood (ns := ns) hk
  exact ⟨c, s, e, w⟩
theorem x_br_O {d o : D} {r : En} : bodyR true (.rt d (some o :: r)) = .ok d o := rfl
end FT

set_option Elab.async false
set_option linter.all false
set_option maxRecDepth 100000
set_option maxHeartbeats 2000000
set_option exponentiation.threshold 10000
namespace FT
open PySem PySem.Spec PyProof.Rows L2
local macro_rules | `(tactic| simp_arith [$ts,*]) => `(tactic| simp (disch := omega) only [$ts,*, at_nx, at_rt, at_err, at_bk, at_ct, at_stuck, bindS_stuck, x_seq, x_nx, x_set, x_ret, x_drop, x_ifS, x_raise, x_asg, x_par, x_for, x_lit, x_var, x_own, x_V, x_op2, x_lift2, x_lift1, gR_none, x_op1, x_tst, x_notT, x_andT, x_orT, x_notV, x_andV, x_orV, x_if, x_nilA, x_consA, x_nilO, x_consO, x_fn, x_tup, x_lst, rf_ok, rf_err, x_call, rfo_ok, x_iter, x_name, x_gtup, x_gcons, x_gnil, a_cmp, a_eqS, a_neS, a_eqI, a_neI, a_is, a_isNot, a_ix0, a_ix1, a_ixl0, a_ixl1, isNon_non, isNon_tup, isNon_lst, isNon_int, isNon_bl, f_len_t, f_len_l, f_len_s, f_int, f_min, f_max, f_tuple, f_tupleT, f_list, f_listT, x_br_rt, x_br_nx, x_br_err, x_br_rtO, x_br_nxO, gR_some, bind_ok, bind_err, bind_stuck, bindS_ok, bindS_err, mLit_eq, mNx_eq, a_neg, x_app, n_app, x_retOwn, x_callK, x_callO, n_add, n_addL, n_Ladd, x_told, x_toldE, x_toldO, x_wipe0, x_wipe, x_callV, x_callVK, n_sub, n_subL, n_mul, n_div, n_mod, n_mod1, x_zT, x_chain, x_rng1, n_rng1, words_ne, List.getElem?_cons_zero, List.getElem?_cons_succ, List.set_cons_zero, List.set_cons_succ, List.length_cons, List.length_nil, Option.join_some, Option.bind_some, Option.map_some, List.mapM_cons, List.mapM_nil, Option.pure_def, Option.bind_eq_bind, List.zip_cons_cons, List.zip_nil_left, List.zip_nil_right, List.foldl_cons, List.foldl_nil, if_true, if_false, ite_true, ite_false, if_pos, if_neg, decide_true, decide_false, Bool.not_true, Bool.not_false, Bool.true_eq_false, Bool.false_eq_true, decide_eq_true_eq, decide_not, Bool.not_eq_true', reduceIte, and_self, and_true, true_and, and_false, false_and, or_true, true_or, or_false, false_or, castL, eq_self, decide_eq_false_iff_not, not_true_eq_false, not_false_eq_true, Int.reduceLE, Int.reduceLT, Int.reduceEq, Int.reduceNe, Int.reduceNeg, Int.reduceAdd, Int.reduceSub, Int.reduceMul, reduceCtorEq, Nat.reduceAdd, Nat.zero_add, x_body, i_non_int, i_non_bool, i_non_str, i_non_tuple, i_non_list, i_non_tl, i_bl_int, i_bl_bool, i_bl_str, i_bl_tuple, i_bl_list, i_bl_tl, i_int_int, i_int_bool, i_int_str, i_int_tuple, i_int_list, i_int_tl, i_str_int, i_str_bool, i_str_str, i_str_tuple, i_str_list, i_str_tl, i_tup_int, i_tup_bool, i_tup_str, i_tup_tuple, i_tup_list, i_tup_tl, i_lst_int, i_lst_bool, i_lst_str, i_lst_tuple, i_lst_list, i_lst_tl, in_w_up, in_w_down, in_w_next, in_w_last, in_w_mirror, in_w_top, in_w_leaf, in_a_up, in_a_down, in_a_next, in_a_last, in_a_mirror, in_a_top, in_a_leaf, in_nl_up, in_nl_down, in_nl_next, in_nl_last, in_nl_mirror, in_nl_top, in_nl_leaf])
/-! ### what the program tells of scripts done again and again -/
theorem while_rt {t : MT} {a : MS} {n : Nat} {env e1 e2 : En} {d : D} (h : t env = .ok true e1) (hb : a e1 = .rt d e2) : whileL t a (n + 1) env = .rt d e2 := by
  have z : whileL t a (n + 1) env = bindS (t env) fun k s => if k = true then (match a s with
    | .nx e2 => whileL t a n e2
    | .ct e2 => whileL t a n e2
    | .bk e2 => .nx e2
    | r => r) else .nx s := rfl
  rw [z, h, bindS_ok, if_pos rfl, hb]
theorem FUEL_big (m : Nat) (h : m ≤ 1000000000) : ∃ n, FUEL = n + m := ⟨1000000000 - m, by unfold FUEL; omega⟩
theorem x_while {t : MT} {a : MS} {n : Nat} {env : En} : mWhile n t a env = whileL t a n env := rfl
/-! #### divisor -/
/-! #### scripts: ups, mirrors, the top -/
section
variable {k d : Nat} {ss : List FM.S}
def wd1 : FM.S → Str
  | .up => Str.ofString "up"
  | .dn _ => Str.ofString "down"
  | .lf _ => Str.ofString "leaf"
  | .nx => Str.ofString "next"
  | .ls => Str.ofString "last"
  | .mi => Str.ofString "mirror"
  | .tp => Str.ofString "top"
theorem len_filt (p : FM.S → Bool) (w : String) (i : Nat) {x0 x1 : D} (hp : ∀ s, gEq (.str (wd1 s)) (.str (Str.ofString w)) = some (.bl (p s))) (hl : ss.length ≤ 1000) {e : En} {mi : MI} (h : mi e = .ok (ss.map eS) e) (hi : e[i]? = some none) :
    mLc mi (mgName i) (mTst (mOp2 gEq (mV (mOp2 gIdx (mV (mVar i)) (mV (mLit (.int 0))))) (mV (mLit (.str (Str.ofString w)))))) (mVar i) [i] e = .ok (.lst ((ss.filter p).map eS)) e := by
  have hlt : i < e.length := (List.getElem?_eq_some_iff.mp hi).1
  have w0 : e.set i none = e := by
    have := List.set_getElem_self hlt
    rw [(List.getElem?_eq_some_iff.mp hi).2] at this
    exact this
  have l := lc_filt (mt := mgName i) (tt := mTst (mOp2 gEq (mV (mOp2 gIdx (mV (mVar i)) (mV (mLit (.int 0))))) (mV (mLit (.str (Str.ofString w)))))) (te := mVar i) (vs := [i]) (e := e) eS eS p ss [] (by simp; omega) fun c hc => by
    have g : (e.set i (some (eS c)))[i]? = some (some (eS c)) := List.getElem?_set_self hlt
    have back : wipeE [i] (e.set i (some (eS c))) = e := by
      show (e.set i (some (eS c))).set i none = e
      rw [List.set_set, w0]
    refine ⟨e.set i (some (eS c)), e.set i (some (eS c)), rfl, ?_, back, fun _ => ⟨e.set i (some (eS c)), mVar_eq g, back⟩⟩
    have hx : gIdx (eS c) (.int 0) = some (.str (wd1 c)) := by cases c <;> rfl
    have hpc := hp c
    simp only [mTst, x_op2, x_V, x_var, g, bind_ok, x_lit, x_lift2, gR_some, hx, hpc]
  refine (lc_eq h (vs := [i]) (acc := [] ++ (ss.filter p).map eS) (e2 := e) ?_).trans ?_
  · rw [show wipeE [i] e = e from w0]
    exact l
  · rw [List.nil_append]
    show R.ok _ (e.set i (e[i]?.join)) = _
    rw [hi, show (some (none : Option D)).join = none from rfl, w0]
theorem ups_eq : (ss.filter fun s => decide (s = .up)).length = FM.ups ss := rfl
theorem den_tail (hl : ss.length ≤ 1000) {l : Nat} : F_tail_length [eSs ss, .int l] = .ok (.int (min (FM.ups ss) l : Nat)) .non := by
  have s : ∀ a b : D, startE 3 [a, b] = [some a, some b, none] := fun _ _ => rfl
  have lc := len_filt (ss := ss) (fun s => decide (s = .up)) "up" 2 (x0 := .non) (x1 := .non) (fun s => by cases s <;> kernel_rfl) (by omega) (e := [some (eSs ss), some (.int l), none]) (mi := mIter tupOf (mVar 0)) rfl rfl
  have m : fMin [.int (FM.ups ss : Nat), .int l] = some (.int (min (FM.ups ss) l : Nat)) := by
    rw [f_min]
    congr 2
    omega
  have c1 : (((ss.filter fun s => decide (s = .up)).map eS).length : Nat) = FM.ups ss := by rw [List.length_map]; rfl
  simp_arith [F_tail_length, m_tail_length, s, lc, c1, m]
theorem mir_sgn : ∀ ss : List FM.S, FM.sgn ss = if (ss.filter fun s => decide (s = .mi)).length % 2 = 1 then -1 else 1
  | [] => rfl
  | s :: ss => by
    have ih := mir_sgn ss
    rw [List.filter_cons]
    by_cases h : s = .mi
    · subst h
      simp only [decide_true, if_true, List.length_cons, FM.sgn, ih]
      split <;> rename_i z
      · rw [if_neg (by omega)]; rfl
      · rw [if_pos (by omega)]
    · have hd : ¬ decide (s = .mi) = true := by simpa using h
      rw [if_neg hd, ← ih]
      cases s <;> first | rfl | exact absurd rfl h
theorem okStr {x : Str} (h : PyData.strOk x = true) : OkAt 1 (.str x) := ⟨h, by simp only [D.toP, PyData.depth]; omega⟩
theorem okS (s : FM.S) : OkAt 2 (eS s) := by
  cases s <;> exact .tup fun d hd => by
    simp only [List.mem_cons, List.not_mem_nil, or_false] at hd
    rcases hd with rfl | rfl <;> first | exact OkAt.int _ | exact okStr (by kernel_rfl)
theorem deq_top (s : FM.S) : deq (eS s) (w1 "top") = decide (s = .tp) := by
  cases s <;> kernel_rfl
theorem in_top (l : List FM.S) : gIn (w1 "top") (.tup (l.map eS)) = some (.bl (decide (.tp ∈ l))) := by
  have o1 : okD (w1 "top") = true := by kernel_rfl
  have o2 : okD (.tup (l.map eS)) = true := (OkAt.tup (n := 2) fun d hd => by
    obtain ⟨s, _, rfl⟩ := List.mem_map.mp hd
    exact okS s).okD (by decide)
  show (if okD (w1 "top") = true ∧ okD (.tup (l.map eS)) = true then some (D.bl ((l.map eS).any fun y => deq y (w1 "top"))) else none) = _
  rw [if_pos ⟨o1, o2⟩]
  congr 2
  induction l with
  | nil => rfl
  | cons s l ih =>
    have o2' : okD (.tup (l.map eS)) = true := (OkAt.tup (n := 2) fun d hd => by
      obtain ⟨s, _, rfl⟩ := List.mem_map.mp hd
      exact okS s).okD (by decide)
    rw [List.map_cons, List.any_cons, ih o2', deq_top]
    by_cases z : s = .tp
    · subst z; simp
    · have : ¬ (.tp = s) := fun h => z h.symm
      simp [z, this]
end
end FT

set_option Elab.async false
set_option linter.all false
set_option maxRecDepth 100000
set_option maxHeartbeats 2000000
set_option exponentiation.threshold 10000
namespace FT
open PySem PySem.Spec PyProof.Rows L2
local macro_rules | `(tactic| simp_arith [$ts,*]) => `(tactic| simp (disch := omega) only [$ts,*, at_nx, at_rt, at_err, at_bk, at_ct, at_stuck, bindS_stuck, x_seq, x_nx, x_set, x_ret, x_drop, x_ifS, x_raise, x_asg, x_par, x_for, x_lit, x_var, x_own, x_V, x_op2, x_lift2, x_lift1, gR_none, x_op1, x_tst, x_notT, x_andT, x_orT, x_notV, x_andV, x_orV, x_if, x_nilA, x_consA, x_nilO, x_consO, x_fn, x_tup, x_lst, rf_ok, rf_err, x_call, rfo_ok, x_iter, x_name, x_gtup, x_gcons, x_gnil, a_cmp, a_eqS, a_neS, a_eqI, a_neI, a_is, a_isNot, a_ix0, a_ix1, a_ixl0, a_ixl1, isNon_non, isNon_tup, isNon_lst, isNon_int, isNon_bl, f_len_t, f_len_l, f_len_s, f_int, f_min, f_max, f_tuple, f_tupleT, f_list, f_listT, x_br_rt, x_br_nx, x_br_err, x_br_rtO, x_br_nxO, gR_some, bind_ok, bind_err, bind_stuck, bindS_ok, bindS_err, mLit_eq, mNx_eq, a_neg, x_app, n_app, x_retOwn, x_callK, x_callO, n_add, n_addL, n_Ladd, x_told, x_toldE, x_toldO, x_wipe0, x_wipe, x_callV, x_callVK, n_sub, n_subL, n_mul, n_div, n_mod, n_mod1, x_zT, x_chain, x_rng1, n_rng1, words_ne, List.getElem?_cons_zero, List.getElem?_cons_succ, List.set_cons_zero, List.set_cons_succ, List.length_cons, List.length_nil, Option.join_some, Option.bind_some, Option.map_some, List.mapM_cons, List.mapM_nil, Option.pure_def, Option.bind_eq_bind, List.zip_cons_cons, List.zip_nil_left, List.zip_nil_right, List.foldl_cons, List.foldl_nil, if_true, if_false, ite_true, ite_false, if_pos, if_neg, decide_true, decide_false, Bool.not_true, Bool.not_false, Bool.true_eq_false, Bool.false_eq_true, decide_eq_true_eq, decide_not, Bool.not_eq_true', reduceIte, and_self, and_true, true_and, and_false, false_and, or_true, true_or, or_false, false_or, castL, eq_self, decide_eq_false_iff_not, not_true_eq_false, not_false_eq_true, Int.reduceLE, Int.reduceLT, Int.reduceEq, Int.reduceNe, Int.reduceNeg, Int.reduceAdd, Int.reduceSub, Int.reduceMul, reduceCtorEq, Nat.reduceAdd, Nat.zero_add, x_body, i_non_int, i_non_bool, i_non_str, i_non_tuple, i_non_list, i_non_tl, i_bl_int, i_bl_bool, i_bl_str, i_bl_tuple, i_bl_list, i_bl_tl, i_int_int, i_int_bool, i_int_str, i_int_tuple, i_int_list, i_int_tl, i_str_int, i_str_bool, i_str_str, i_str_tuple, i_str_list, i_str_tl, i_tup_int, i_tup_bool, i_tup_str, i_tup_tuple, i_tup_list, i_tup_tl, i_lst_int, i_lst_bool, i_lst_str, i_lst_tuple, i_lst_list, i_lst_tl, in_w_up, in_w_down, in_w_next, in_w_last, in_w_mirror, in_w_top, in_w_leaf, in_a_up, in_a_down, in_a_next, in_a_last, in_a_mirror, in_a_top, in_a_leaf, in_nl_up, in_nl_down, in_nl_next, in_nl_last, in_nl_mirror, in_nl_top, in_nl_leaf])
section
variable {k d : Nat} {ss : List FM.S}
end
theorem okP (p : FM.Pl) : OkAt 2 (eP p) := .tup fun d hd => by
  simp only [List.mem_cons, List.not_mem_nil, or_false] at hd
  rcases hd with rfl | rfl <;> exact OkAt.int _
theorem okO (o : Option FM.Pl) : OkAt 2 (eO o) := by
  cases o with
  | none => exact OkAt.non.mono (by decide)
  | some p => exact okP p
theorem deq_eP (p q : FM.Pl) : deq (eP p) (eP q) = decide (p = q) := by
  obtain ⟨a, b⟩ := p
  obtain ⟨c, e⟩ := q
  show (PyData.eqv (.int a) (.int c) && (PyData.eqv (.int b) (.int e) && true)) = _
  have e1 : ∀ x y : Nat, PyData.eqv (.int x) (.int y) = decide (x = y) := fun x y => by
    have z := a_eqI (i := x) (j := y)
    have z : some (D.bl (PyData.eqv (.int x) (.int y))) = some (D.bl (decide ((x : Int) = y))) := z
    injection z with z
    injection z with z
    rw [z]
    exact decide_eq_decide.mpr Int.ofNat_inj
  rw [e1, e1, Bool.and_true, ← Bool.decide_and]
  exact decide_eq_decide.mpr ⟨fun ⟨x, y⟩ => by rw [x, y], fun z => by cases z; exact ⟨rfl, rfl⟩⟩
theorem eq_eO (x y : Option FM.Pl) : gEq (eO x) (eO y) = some (.bl (decide (x = y))) := by
  rw [eq_gen ((okO x).okD (by decide)) ((okO y).okD (by decide)) (fun a b e => by cases x <;> cases e)]
  congr 2
  cases x with
  | none => cases y with
    | none => kernel_rfl
    | some q => exact (show deq .non (eP q) = false from rfl).trans (by simp)
  | some p => cases y with
    | none => exact (show deq (eP p) .non = false from rfl).trans (by simp)
    | some q =>
      show deq (eP p) (eP q) = _
      rw [deq_eP]
      simp
end FT

set_option Elab.async false
set_option linter.all false
set_option maxRecDepth 100000
set_option maxHeartbeats 2000000
set_option exponentiation.threshold 10000
namespace FT
open PySem PySem.Spec PyProof.Rows L2
local macro_rules | `(tactic| simp_arith [$ts,*]) => `(tactic| simp (disch := omega) only [$ts,*, at_nx, at_rt, at_err, at_bk, at_ct, at_stuck, bindS_stuck, x_seq, x_nx, x_set, x_ret, x_drop, x_ifS, x_raise, x_asg, x_par, x_for, x_lit, x_var, x_own, x_V, x_op2, x_lift2, x_lift1, gR_none, x_op1, x_tst, x_notT, x_andT, x_orT, x_notV, x_andV, x_orV, x_if, x_nilA, x_consA, x_nilO, x_consO, x_fn, x_tup, x_lst, rf_ok, rf_err, x_call, rfo_ok, x_iter, x_name, x_gtup, x_gcons, x_gnil, a_cmp, a_eqS, a_neS, a_eqI, a_neI, a_is, a_isNot, a_ix0, a_ix1, a_ixl0, a_ixl1, isNon_non, isNon_tup, isNon_lst, isNon_int, isNon_bl, f_len_t, f_len_l, f_len_s, f_int, f_min, f_max, f_tuple, f_tupleT, f_list, f_listT, x_br_rt, x_br_nx, x_br_err, x_br_rtO, x_br_nxO, gR_some, bind_ok, bind_err, bind_stuck, bindS_ok, bindS_err, mLit_eq, mNx_eq, a_neg, x_app, n_app, x_retOwn, x_callK, x_callO, n_add, n_addL, n_Ladd, x_told, x_toldE, x_toldO, x_wipe0, x_wipe, x_callV, x_callVK, n_sub, n_subL, n_mul, n_div, n_mod, n_mod1, x_zT, x_chain, x_rng1, n_rng1, words_ne, List.getElem?_cons_zero, List.getElem?_cons_succ, List.set_cons_zero, List.set_cons_succ, List.length_cons, List.length_nil, Option.join_some, Option.bind_some, Option.map_some, List.mapM_cons, List.mapM_nil, Option.pure_def, Option.bind_eq_bind, List.zip_cons_cons, List.zip_nil_left, List.zip_nil_right, List.foldl_cons, List.foldl_nil, if_true, if_false, ite_true, ite_false, if_pos, if_neg, decide_true, decide_false, Bool.not_true, Bool.not_false, Bool.true_eq_false, Bool.false_eq_true, decide_eq_true_eq, decide_not, Bool.not_eq_true', reduceIte, and_self, and_true, true_and, and_false, false_and, or_true, true_or, or_false, false_or, castL, eq_self, decide_eq_false_iff_not, not_true_eq_false, not_false_eq_true, Int.reduceLE, Int.reduceLT, Int.reduceEq, Int.reduceNe, Int.reduceNeg, Int.reduceAdd, Int.reduceSub, Int.reduceMul, reduceCtorEq, Nat.reduceAdd, Nat.zero_add, x_body, i_non_int, i_non_bool, i_non_str, i_non_tuple, i_non_list, i_non_tl, i_bl_int, i_bl_bool, i_bl_str, i_bl_tuple, i_bl_list, i_bl_tl, i_int_int, i_int_bool, i_int_str, i_int_tuple, i_int_list, i_int_tl, i_str_int, i_str_bool, i_str_str, i_str_tuple, i_str_list, i_str_tl, i_tup_int, i_tup_bool, i_tup_str, i_tup_tuple, i_tup_list, i_tup_tl, i_lst_int, i_lst_bool, i_lst_str, i_lst_tuple, i_lst_list, i_lst_tl, in_w_up, in_w_down, in_w_next, in_w_last, in_w_mirror, in_w_top, in_w_leaf, in_a_up, in_a_down, in_a_next, in_a_last, in_a_mirror, in_a_top, in_a_leaf, in_nl_up, in_nl_down, in_nl_next, in_nl_last, in_nl_mirror, in_nl_top, in_nl_leaf])
/-- a loop that looks for the first that .. -/
theorem for_first {γ : Type} {mt : MG} {mb : MS} (P : En → Prop) (g : γ → D) (good : γ → Option D) : ∀ (l : List γ) (env : En), P env → (∀ c ∈ l, ∀ e, P e → ∃ e1, mt (g c) e = some e1 ∧ match good c with
    | none => ∃ e2, mb e1 = .nx e2 ∧ P e2
    | some r => ∃ e2, mb e1 = .rt r e2) → match l.findSome? good with
    | none => ∃ e', forL mt mb (l.map g) env = .nx e' ∧ P e'
    | some r => ∃ e', forL mt mb (l.map g) env = .rt r e'
  | [], env, h, _ => ⟨env, rfl, h⟩
  | c :: l, env, h, step => by
    obtain ⟨e1, h1, h2⟩ := step c List.mem_cons_self env h
    rw [List.findSome?_cons]
    cases z : good c with
    | none =>
      rw [z] at h2
      obtain ⟨e2, h2, h3⟩ := h2
      have ih := for_first P g good l e2 h3 fun c' hc => step c' (List.mem_cons_of_mem _ hc)
      have e : forL mt mb ((c :: l).map g) env = forL mt mb (l.map g) e2 := by rw [List.map_cons]; simp only [forL, h1, h2]
      rw [e]
      exact ih
    | some r =>
      rw [z] at h2
      obtain ⟨e2, h2⟩ := h2
      exact ⟨e2, by rw [List.map_cons]; simp only [forL, h1, h2]⟩
section
variable {k d : Nat} {ss : List FM.S}
def eLv : Option FM.Pl → D
  | none => .non
  | some q => .int q.1
theorem den_behind (t : FM.TOk k d) (hs : SsOk k ss) {l : Nat} (hl : l ≤ d) : F_level_behind [tr k d, eSs ss, .int l] = .ok (eLv (FM.walked k d ss (some (l, 0)))) .non := by
  have se : ∀ a b c : D, startE 4 [a, b, c] = [some a, some b, some c, none] := fun _ _ _ => rfl
  have w : F_walked [tr k d, eSs ss, .tup [.int l, .int 0]] = .ok (eO (FM.walked k d ss (some (l, 0)))) .non := den_walked t hs (p := (l, 0)) ⟨hl, Nat.pow_pos t.pos⟩
  cases e : FM.walked k d ss (some (l, 0)) with
  | none =>
    rw [e] at w
    have w : F_walked [tr k d, eSs ss, .tup [.int l, .int 0]] = .ok .non .non := w
    simp_arith [F_level_behind, m_level_behind, se, w, eLv]
  | some q =>
    rw [e] at w
    have w : F_walked [tr k d, eSs ss, .tup [.int l, .int 0]] = .ok (eP q) .non := w
    simp_arith [F_level_behind, m_level_behind, se, w, eLv, isNon_eP, ix_eP0]
theorem ne_eO (x y : Option FM.Pl) : gNe (eO x) (eO y) = some (.bl (!decide (x = y))) := by
  rw [ne_gen ((okO x).okD (by decide)) ((okO y).okD (by decide)) (fun a b e => by cases x <;> cases e)]
  have := eq_eO x y
  rw [eq_gen ((okO x).okD (by decide)) ((okO y).okD (by decide)) (fun a b e => by cases x <;> cases e)] at this
  injection this with this
  injection this with this
  rw [this]
/-- the first number at which two scripts part -/
def tl2 (a b : List FM.S) (l : Nat) : Nat := max (min (FM.ups a) l) (min (FM.ups b) l)
def unl (k d l : Nat) (a b : List FM.S) : Option Nat := match FM.walked k d a (some (l, 0)), FM.walked k d b (some (l, 0)) with
  | none, none => none
  | none, some _ => some 0
  | some _, none => some 0
  | some p, some q => if p.1 = q.1 then (List.range (min (k ^ tl2 a b l + 1) (k ^ l))).findSome? (fun n => if FM.walked k d a (some (l, n)) = FM.walked k d b (some (l, n)) then none else some n) else some 0
def eN : Option Nat → D
  | none => .non
  | some n => .int n
theorem rangeD_map (n : Nat) : rangeD 0 (n : Int) = (List.range n).map fun i => D.int (i : Nat) := by
  apply List.ext_getElem?
  intro i
  by_cases h : i < n
  · have hl : i < (rangeD 0 (n : Int)).length := by rw [rangeD0_len]; exact h
    rw [List.getElem?_eq_getElem hl, (rangeD0_get (List.getElem?_eq_getElem hl)).2, List.getElem?_map, List.getElem?_range h]; rfl
  · rw [List.getElem?_eq_none (by rw [rangeD0_len]; omega), List.getElem?_eq_none (by simp; omega)]
theorem findSome_map {α β γ : Type} (f : α → Option β) (g : β → γ) (l : List α) : l.findSome? (fun a => (f a).map g) = (l.findSome? f).map g := by
  induction l with
  | nil => rfl
  | cons a l ih =>
    rw [List.findSome?_cons, List.findSome?_cons]
    cases f a with
    | none => exact ih
    | some b => rfl
theorem den_unlike (t : FM.TOk k d) {a b : List FM.S} (ha : SsOk k a) (hb : SsOk k b) (la : a.length ≤ 12) (lb : b.length ≤ 12) {l : Nat} (hl : l ≤ d) : F_unlike_number [tr k d, .int l, eSs a, eSs b] = .ok (eN (unl k d l a b)) .non := by
  have se : ∀ a b c e : D, startE 8 [a, b, c, e] = [some a, some b, some c, some e, none, none, none, none] := fun _ _ _ _ => rfl
  have w : ∀ {s : List FM.S} (_ : SsOk k s) {n : Nat} (_ : n < k ^ l), F_walked [tr k d, eSs s, .tup [.int l, .int n]] = .ok (eO (FM.walked k d s (some (l, n)))) .non := fun {s} hs {n} hn => den_walked t hs (p := (l, n)) ⟨hl, hn⟩
  have p0 : 0 < k ^ l := Nat.pow_pos t.pos
  have wa : F_walked [tr k d, eSs a, .tup [.int l, .int 0]] = _ := w ha p0
  have wb : F_walked [tr k d, eSs b, .tup [.int l, .int 0]] = _ := w hb p0
  have hk := TOk.k23 t
  have hd := t.dp
  have ta := den_tail (ss := a) (l := l) (by omega)
  have tb := den_tail (ss := b) (l := l) (by omega)
  have mx : fMax [.int (min (FM.ups a) l : Nat), .int (min (FM.ups b) l : Nat)] = some (.int (tl2 a b l : Nat)) := by
    rw [f_max]
    congr 2
    unfold tl2
    omega
  have ua : FM.ups a ≤ 12 := Nat.le_trans (List.length_filter_le _ _) la
  have ub : FM.ups b ≤ 12 := Nat.le_trans (List.length_filter_le _ _) lb
  have tle : tl2 a b l ≤ 12 := by unfold tl2; omega
  have pw := den_power (k := k) (n := tl2 a b l) hk.2 (by omega)
  have pl := den_power (k := k) (n := l) hk.2 (by omega)
  have mn : fMin [.int ((k ^ tl2 a b l + 1 : Nat)), .int (k ^ l : Nat)] = some (.int (min (k ^ tl2 a b l + 1) (k ^ l) : Nat)) := by
    rw [f_min]
    congr 2
    omega
  have small : k ^ tl2 a b l ≤ 531441 := by
    have h1 : k ^ tl2 a b l ≤ 3 ^ tl2 a b l := Nat.pow_le_pow_left hk.2 _
    have h2 : 3 ^ tl2 a b l ≤ 3 ^ 12 := Nat.pow_le_pow_right (by decide) tle
    omega
  unfold unl
  cases ea : FM.walked k d a (some (l, 0)) with
  | none =>
    rw [ea] at wa
    have wa : F_walked [tr k d, eSs a, .tup [.int l, .int 0]] = .ok .non .non := wa
    cases eb : FM.walked k d b (some (l, 0)) with
    | none =>
      rw [eb] at wb
      have wb : F_walked [tr k d, eSs b, .tup [.int l, .int 0]] = .ok .non .non := wb
      have ne : gNe .non .non = some (.bl false) := by kernel_rfl
      simp_arith [F_unlike_number, m_unlike_number, se, wa, wb, ne, eN]
    | some q =>
      rw [eb] at wb
      have wb : F_walked [tr k d, eSs b, .tup [.int l, .int 0]] = .ok (eP q) .non := wb
      have ne : gNe .non (eP q) = some (.bl true) := ne_eO none (some q)
      simp_arith [F_unlike_number, m_unlike_number, se, wa, wb, ne, eN]
  | some p =>
    rw [ea] at wa
    have wa : F_walked [tr k d, eSs a, .tup [.int l, .int 0]] = .ok (eP p) .non := wa
    cases eb : FM.walked k d b (some (l, 0)) with
    | none =>
      rw [eb] at wb
      have wb : F_walked [tr k d, eSs b, .tup [.int l, .int 0]] = .ok .non .non := wb
      have ne : gNe (eP p) .non = some (.bl true) := (ne_eO (some p) none).trans (by simp)
      simp_arith [F_unlike_number, m_unlike_number, se, wa, wb, ne, eN, isNon_eP]
    | some q =>
      rw [eb] at wb
      have wb : F_walked [tr k d, eSs b, .tup [.int l, .int 0]] = .ok (eP q) .non := wb
      show _ = RF.ok (eN (if p.1 = q.1 then _ else _)) _
      by_cases hpq : p.1 = q.1
      · rw [if_pos hpq]
        have hpq' : (p.1 : Int) = q.1 := by omega
        have rn := n_rng1 (n := min (k ^ tl2 a b l + 1) (k ^ l)) (env := [some (tr k d), some (.int l), some (eSs a), some (eSs b), some (eP p), some (eP q), some (.int (k ^ tl2 a b l : Nat)), none]) (by omega)
        have loop := for_first (mt := mgName 7) (mb := m_unlike_number_b1) (fun e => ∃ x7, e = [some (tr k d), some (.int l), some (eSs a), some (eSs b), some (eP p), some (eP q), some (.int (k ^ tl2 a b l : Nat)), x7]) (fun n : Nat => D.int n) (fun n => (if FM.walked k d a (some (l, n)) = FM.walked k d b (some (l, n)) then none else some n).map fun n : Nat => D.int n)
          (List.range (min (k ^ tl2 a b l + 1) (k ^ l))) [some (tr k d), some (.int l), some (eSs a), some (eSs b), some (eP p), some (eP q), some (.int (k ^ tl2 a b l : Nat)), none] ⟨none, rfl⟩ fun n hn e he => by
          obtain ⟨x7, rfl⟩ := he
          have hn := List.mem_range.mp hn
          have hnl : n < k ^ l := by omega
          refine ⟨_, rfl, ?_⟩
          have na := w ha hnl
          have nb := w hb hnl
          have ne := ne_eO (FM.walked k d a (some (l, n))) (FM.walked k d b (some (l, n)))
          by_cases hw : FM.walked k d a (some (l, n)) = FM.walked k d b (some (l, n))
          · rw [if_pos hw]
            rw [decide_eq_true hw] at ne
            exact ⟨[some (tr k d), some (.int l), some (eSs a), some (eSs b), some (eP p), some (eP q), some (.int (k ^ tl2 a b l : Nat)), some (.int n)], by simp_arith [m_unlike_number_b1, na, nb, ne], _, rfl⟩
          · rw [if_neg hw]
            rw [decide_eq_false hw] at ne
            exact ⟨[some (tr k d), some (.int l), some (eSs a), some (eSs b), some (eP p), some (eP q), some (.int (k ^ tl2 a b l : Nat)), some (.int n)], by simp_arith [m_unlike_number_b1, na, nb, ne]⟩
        rw [findSome_map] at loop
        rw [← rangeD_map] at loop
        generalize (List.range (min (k ^ tl2 a b l + 1) (k ^ l))).findSome? (fun n => if FM.walked k d a (some (l, n)) = FM.walked k d b (some (l, n)) then none else some n) = r at loop ⊢
        have nn : gNe (.int p.1) (.int q.1) = some (.bl false) := by rw [a_neI, hpq']; simp
        cases r with
        | none =>
          obtain ⟨e', h1, x7, rfl⟩ := loop
          simp_arith [F_unlike_number, m_unlike_number, se, wa, wb, isNon_eP, ix_eP0, nn, ix_tr0, ta, tb, mx, pw, pl, mn, rn, h1, eN]
        | some n =>
          obtain ⟨e', h1⟩ := loop
          simp_arith [F_unlike_number, m_unlike_number, se, wa, wb, isNon_eP, ix_eP0, nn, ix_tr0, ta, tb, mx, pw, pl, mn, rn, h1, eN]
      · rw [if_neg hpq]
        have nn : gNe (.int p.1) (.int q.1) = some (.bl true) := by rw [a_neI]; simp; omega
        simp_arith [F_unlike_number, m_unlike_number, se, wa, wb, isNon_eP, ix_eP0, nn, eN]
def B8 : List (Nat × Nat) := (List.range 17).flatMap fun d => ((List.range (d + 1)).filter fun l => decide (l ≤ 8) && decide (d - l ≤ 8)).map fun l => (d, l)
theorem den_levels8 : F_all_levels [.int 8] = .ok (.lst (B8.map eP)) .non := by kernel_rfl
theorem B8_mem (d l : Nat) : (d, l) ∈ B8 ↔ l ≤ d ∧ l ≤ 8 ∧ d - l ≤ 8 := by
  unfold B8
  simp only [List.mem_flatMap, List.mem_map, List.mem_filter, List.mem_range, Bool.and_eq_true, decide_eq_true_eq, Prod.mk.injEq]
  constructor
  · rintro ⟨x, hx, y, ⟨hy, h1, h2⟩, rfl, rfl⟩
    exact ⟨by omega, h1, h2⟩
  · rintro ⟨h1, h2, h3⟩
    exact ⟨d, by omega, l, ⟨by omega, h2, h3⟩, rfl, rfl⟩
/-! ### undoes -/
def undP (k : Nat) (one other : List FM.S) (p : Nat × Nat) : Bool := (FM.walked k p.1 other (some (p.2, 0))).isNone || (unl k p.1 p.2 (other ++ one) []).isNone
def und (k : Nat) (one other : List FM.S) : Bool := B8.all (undP k one other)
theorem t_add {a b : List D} (h : a.length + b.length ≤ 1000000) : gAdd (.tup a) (.tup b) = some (.tup (a ++ b)) := by
  show (if _ then _ else _) = _
  rw [if_pos h]
theorem add_Ss {a b : List FM.S} (h : a.length + b.length ≤ 1000000) : gAdd (eSs a) (eSs b) = some (eSs (a ++ b)) := by
  unfold eSs
  rw [t_add (by simpa using h), ← List.map_append]
theorem isNon_eLv (o : Option FM.Pl) : isNon (eLv o) = o.isNone := by cases o <;> rfl
theorem isNon_eN (o : Option Nat) : isNon (eN o) = o.isNone := by cases o <;> rfl
theorem findSome_all {γ : Type} (p : γ → Bool) (x : D) : ∀ l : List γ, (l.findSome? fun c => if p c = true then none else some x) = if l.all p = true then none else some x
  | [] => rfl
  | c :: l => by
    rw [List.findSome?_cons, List.all_cons]
    cases p c with
    | true => rw [if_pos rfl, Bool.true_and]; exact findSome_all p x l
    | false => rfl
theorem den_und (hk : k = 2 ∨ k = 3) {one other : List FM.S} (h1 : SsOk k one) (h2 : SsOk k other) (l1 : one.length ≤ 6) (l2 : other.length ≤ 6) : F_does_undo [.int k, eSs one, eSs other] = .ok (.bl (und k one other)) .non := by
  have se : ∀ a b c : D, startE 5 [a, b, c] = [some a, some b, some c, none, none] := fun _ _ _ => rfl
  have hW : SsOk k (other ++ one) := fun s hs => (List.mem_append.mp hs).elim (h2 s) (h1 s)
  have add := add_Ss (a := other) (b := one) (by omega)
  have lv := den_levels8
  have loop := for_first (mt := mgTup (mgCons (mgName 3) (mgCons (mgName 4) mgNil))) (mb := m_does_undo_b1) (fun e => ∃ x3 x4, e = [some (.int k), some (eSs one), some (eSs other), x3, x4]) eP (fun p => if undP k one other p = true then none else some (.bl false)) B8
    [some (.int k), some (eSs one), some (eSs other), none, none] ⟨none, none, rfl⟩ fun p hp e he => by
    obtain ⟨x3, x4, rfl⟩ := he
    obtain ⟨d, l⟩ := p
    obtain ⟨q1, q2, q3⟩ := (B8_mem d l).mp hp
    refine ⟨[some (.int k), some (eSs one), some (eSs other), some (.int d), some (.int l)], rfl, ?_⟩
    have t : FM.TOk k d := ⟨hk, by omega⟩
    have b1 : F_level_behind [.tup [.int k, .int d], eSs other, .int l] = _ := den_behind t h2 q1
    have b2 : F_unlike_number [.tup [.int k, .int d], .int l, eSs (other ++ one), .tup []] = _ := den_unlike t hW (b := []) (fun s hs => nomatch hs) (by rw [List.length_append]; omega) (by simp) q1
    have n1 := isNon_eLv (FM.walked k d other (some (l, 0)))
    have n2 := isNon_eN (unl k d l (other ++ one) [])
    unfold undP
    cases z1 : (FM.walked k d other (some (l, 0))).isNone with
    | true =>
      rw [z1] at n1
      rw [Bool.true_or, if_pos rfl]
      exact ⟨[some (.int k), some (eSs one), some (eSs other), some (.int d), some (.int l)], by simp_arith [m_does_undo_b1, b1, n1], _, _, rfl⟩
    | false =>
      rw [z1] at n1
      rw [Bool.false_or]
      cases z2 : (unl k d l (other ++ one) []).isNone with
      | true =>
        rw [z2] at n2
        rw [if_pos rfl]
        exact ⟨[some (.int k), some (eSs one), some (eSs other), some (.int d), some (.int l)], by simp_arith [m_does_undo_b1, b1, n1, b2, n2, add], _, _, rfl⟩
      | false =>
        rw [z2] at n2
        rw [if_neg (by simp)]
        exact ⟨[some (.int k), some (eSs one), some (eSs other), some (.int d), some (.int l)], by simp_arith [m_does_undo_b1, b1, n1, b2, n2, add]⟩
  rw [findSome_all] at loop
  have sq : seqOf (.lst (B8.map eP)) = some (B8.map eP) := rfl
  unfold und
  cases z : B8.all (undP k one other) with
  | true =>
    rw [z, if_pos rfl] at loop
    obtain ⟨e', h, x3, x4, rfl⟩ := loop
    simp_arith [F_does_undo, m_does_undo, se, lv, sq, h]
  | false =>
    rw [z, if_neg (by simp)] at loop
    obtain ⟨e', h⟩ := loop
    simp_arith [F_does_undo, m_does_undo, se, lv, sq, h]
theorem und_iff (hk : k = 2 ∨ k = 3) {one other : List FM.S} (h1 : SsOk k one) (h2 : SsOk k other) : und k one other = true ↔ ∀ d l n, l ≤ d → l ≤ 8 → d - l ≤ 8 → n < k ^ l → (FM.walked k d other (some (l, n))).isSome = true → FM.walked k d (other ++ one) (some (l, n)) = some (l, n) := by
  have hW : SsOk k (other ++ one) := fun s hs => (List.mem_append.mp hs).elim (h2 s) (h1 s)
  have nilw : ∀ (d l n : Nat), FM.walked k d [] (some (l, n)) = some (l, n) := fun _ _ _ => rfl
  have tl0 : ∀ a : List FM.S, ∀ l, tl2 a [] l = min (FM.ups a) l := fun a l => by
    unfold tl2
    rw [show FM.ups [] = 0 from rfl]
    omega
  unfold und
  rw [List.all_eq_true]
  constructor
  · intro H d l n q1 q2 q3 hn go
    have t : FM.TOk k d := ⟨hk, by omega⟩
    have h := H (d, l) ((B8_mem d l).mpr ⟨q1, q2, q3⟩)
    unfold undP at h
    have g0 : (FM.walked k d other (some (l, 0))).isNone = false := by
      rw [FM.walked_isNone k d other l 0 n]
      cases z : FM.walked k d other (some (l, n)) with
      | none => rw [z] at go; cases go
      | some q => rfl
    simp only at h
    rw [g0, Bool.false_or] at h
    unfold unl at h
    rw [nilw] at h
    cases e : FM.walked k d (other ++ one) (some (l, 0)) with
    | none => rw [e] at h; cases h
    | some p =>
      rw [e] at h
      simp only at h
      by_cases hp : p.1 = l
      · rw [if_pos hp, tl0] at h
        have h := Option.isNone_iff_eq_none.mp h
        rw [List.findSome?_eq_none_iff] at h
        refine FM.undo_sound t hW q1 (fun m m1 m2 => ?_) hn
        have := h m (List.mem_range.mpr (by omega))
        rw [nilw] at this
        by_cases w : FM.walked k d (other ++ one) (some (l, m)) = some (l, m)
        · exact w
        · rw [if_neg w] at this; cases this
      · rw [if_neg hp] at h; cases h
  · rintro H ⟨d, l⟩ hm
    obtain ⟨q1, q2, q3⟩ := (B8_mem d l).mp hm
    unfold undP
    cases z : (FM.walked k d other (some (l, 0))).isNone with
    | true => rfl
    | false =>
      rw [Bool.false_or]
      have go : ∀ n, n < k ^ l → FM.walked k d (other ++ one) (some (l, n)) = some (l, n) := fun n hn => H d l n q1 q2 q3 hn (by
        have := FM.walked_isNone k d other l 0 n
        rw [z] at this
        cases w : FM.walked k d other (some (l, n)) with
        | none => rw [w] at this; cases this
        | some q => rfl)
      unfold unl
      rw [nilw, go 0 (Nat.pow_pos (by omega))]
      simp only [if_pos]
      rw [Option.isNone_iff_eq_none, List.findSome?_eq_none_iff]
      intro m hm
      have hm := List.mem_range.mp hm
      rw [nilw, go m (by omega), if_pos rfl]
end
end FT

set_option Elab.async false
set_option linter.all false
set_option maxRecDepth 100000
set_option maxHeartbeats 2000000
set_option exponentiation.threshold 10000
namespace FT
open PySem PySem.Spec PyProof.Rows L2
local macro_rules | `(tactic| simp_arith [$ts,*]) => `(tactic| simp (disch := omega) only [$ts,*, at_nx, at_rt, at_err, at_bk, at_ct, at_stuck, bindS_stuck, x_seq, x_nx, x_set, x_ret, x_drop, x_ifS, x_raise, x_asg, x_par, x_for, x_lit, x_var, x_own, x_V, x_op2, x_lift2, x_lift1, gR_none, x_op1, x_tst, x_notT, x_andT, x_orT, x_notV, x_andV, x_orV, x_if, x_nilA, x_consA, x_nilO, x_consO, x_fn, x_tup, x_lst, rf_ok, rf_err, x_call, rfo_ok, x_iter, x_name, x_gtup, x_gcons, x_gnil, a_cmp, a_eqS, a_neS, a_eqI, a_neI, a_is, a_isNot, a_ix0, a_ix1, a_ixl0, a_ixl1, isNon_non, isNon_tup, isNon_lst, isNon_int, isNon_bl, f_len_t, f_len_l, f_len_s, f_int, f_min, f_max, f_tuple, f_tupleT, f_list, f_listT, x_br_rt, x_br_nx, x_br_err, x_br_rtO, x_br_nxO, gR_some, bind_ok, bind_err, bind_stuck, bindS_ok, bindS_err, mLit_eq, mNx_eq, a_neg, x_app, n_app, x_retOwn, x_callK, x_callO, n_add, n_addL, n_Ladd, x_told, x_toldE, x_toldO, x_wipe0, x_wipe, x_callV, x_callVK, n_sub, n_subL, n_mul, n_div, n_mod, n_mod1, x_zT, x_chain, x_rng1, n_rng1, words_ne, List.getElem?_cons_zero, List.getElem?_cons_succ, List.set_cons_zero, List.set_cons_succ, List.length_cons, List.length_nil, Option.join_some, Option.bind_some, Option.map_some, List.mapM_cons, List.mapM_nil, Option.pure_def, Option.bind_eq_bind, List.zip_cons_cons, List.zip_nil_left, List.zip_nil_right, List.foldl_cons, List.foldl_nil, if_true, if_false, ite_true, ite_false, if_pos, if_neg, decide_true, decide_false, Bool.not_true, Bool.not_false, Bool.true_eq_false, Bool.false_eq_true, decide_eq_true_eq, decide_not, Bool.not_eq_true', reduceIte, and_self, and_true, true_and, and_false, false_and, or_true, true_or, or_false, false_or, castL, eq_self, decide_eq_false_iff_not, not_true_eq_false, not_false_eq_true, Int.reduceLE, Int.reduceLT, Int.reduceEq, Int.reduceNe, Int.reduceNeg, Int.reduceAdd, Int.reduceSub, Int.reduceMul, reduceCtorEq, Nat.reduceAdd, Nat.zero_add, x_body, i_non_int, i_non_bool, i_non_str, i_non_tuple, i_non_list, i_non_tl, i_bl_int, i_bl_bool, i_bl_str, i_bl_tuple, i_bl_list, i_bl_tl, i_int_int, i_int_bool, i_int_str, i_int_tuple, i_int_list, i_int_tl, i_str_int, i_str_bool, i_str_str, i_str_tuple, i_str_list, i_str_tl, i_tup_int, i_tup_bool, i_tup_str, i_tup_tuple, i_tup_list, i_tup_tl, i_lst_int, i_lst_bool, i_lst_str, i_lst_tuple, i_lst_list, i_lst_tl, in_w_up, in_w_down, in_w_next, in_w_last, in_w_mirror, in_w_top, in_w_leaf, in_a_up, in_a_down, in_a_next, in_a_last, in_a_mirror, in_a_top, in_a_leaf, in_nl_up, in_nl_down, in_nl_next, in_nl_last, in_nl_mirror, in_nl_top, in_nl_leaf])
section
variable {k d : Nat} {ss : List FM.S}
/-! ### the law's own look at small trees -/
def spots (k d : Nat) : List FM.Pl := (List.range (d + 1)).flatMap fun l => (List.range (k ^ l)).map fun n => (l, n)
theorem spots_mem {p : FM.Pl} : p ∈ spots k d ↔ FM.POk k d p := by
  unfold spots
  simp only [List.mem_flatMap, List.mem_map, List.mem_range]
  constructor
  · rintro ⟨l, hl, n, hn, rfl⟩
    exact ⟨by omega, hn⟩
  · rintro ⟨h1, h2⟩
    exact ⟨p.1, by omega, p.2, h2, rfl⟩
theorem spots_len (hk : k ≤ 3) : ∀ d, d ≤ 8 → ((List.range d).flatMap fun l => (List.range (k ^ l)).map fun n => ((l, n) : FM.Pl)).length ≤ d * 6561
  | 0, _ => by simp
  | d + 1, h => by
    have ih := spots_len hk d (by omega)
    rw [List.range_succ, List.flatMap_append, List.length_append]
    have a : k ^ d ≤ 3 ^ d := Nat.pow_le_pow_left hk d
    have b : 3 ^ d ≤ 3 ^ 8 := Nat.pow_le_pow_right (by decide) (by omega)
    simp only [List.flatMap_cons, List.flatMap_nil, List.append_nil, List.length_map, List.length_range]
    omega
theorem den_spots8 (hk : k = 2 ∨ k = 3) (hd : d ≤ 7) : F_law_spots [tr k d] = .ok (.lst ((spots k d).map eP)) .non := by
  have se : ∀ a : D, startE 4 [a] = [some a, none, none, none] := fun _ => rfl
  let up : Nat → List FM.Pl := fun j => (List.range j).flatMap fun l => (List.range (k ^ l)).map fun n => (l, n)
  have k3 : k ≤ 3 := by omega
  have loop := for_fam0 (mt := mgName 2) (mb := m_law_spots_b1) (e0 := [some (tr k d), some (.lst []), none, none]) (fun j => [some (tr k d), some (.lst ((up j).map eP)), tn j, none]) (rangeD 0 ((d + 1 : Nat) : Int)) rfl fun j x hx => by
    obtain ⟨hj, rfl⟩ := rangeD0_get hx
    refine ⟨[some (tr k d), some (.lst ((up j).map eP)), some (.int j), none], rfl, ?_⟩
    have l1 := spots_len (k := k) k3 j (by omega)
    have l2 := spots_len (k := k) k3 (j + 1) (by omega)
    have pj : k ^ j ≤ 6561 := by
      have a : k ^ j ≤ 3 ^ j := Nat.pow_le_pow_left k3 j
      have b : 3 ^ j ≤ 3 ^ 8 := Nat.pow_le_pow_right (by decide) (by omega)
      omega
    have e : up (j + 1) = up j ++ (List.range (k ^ j)).map fun n => (j, n) := by
      show (List.range (j + 1)).flatMap _ = _
      rw [List.range_succ, List.flatMap_append]
      simp [up]
    have add : gAdd (.lst ((up j).map eP)) (.lst (((List.range (k ^ j)).map fun n => ((j, n) : FM.Pl)).map eP)) = some (.lst ((up (j + 1)).map eP)) := by
      rw [l_add (by simp only [List.length_map, List.length_range]; exact Nat.le_trans (Nat.add_le_add l1 pj) (by omega)), ← List.map_append, ← e]
    have rn := n_rng1 (n := k ^ j) (env := [some (tr k d), some (.lst ((up j).map eP)), some (.int j), none]) (by omega)
    have sz := den_size (k := k) (n := j) k3 (by omega)
    have lc : mLc (mRng1 (mConsA (mCall F_law_size (mConsA (mOp2 gIdx (mV (mVar 0)) (mV (mLit (.int 0)))) (mConsA (mVar 2) mNilA))) mNilA)) (mgName 3) mYes (mTup (mConsA (mVar 2) (mConsA (mVar 3) mNilA))) [3] [some (tr k d), some (.lst ((up j).map eP)), some (.int j), none] = .ok (.lst (((List.range (k ^ j)).map fun n => ((j, n) : FM.Pl)).map eP)) [some (tr k d), some (.lst ((up j).map eP)), some (.int j), none] := by
      have e0 : ((List.range (k ^ j)).map fun n => ((j, n) : FM.Pl)).map eP = [] ++ (List.range (k ^ j)).map fun n => eP (j, n) := by rw [List.map_map]; rfl
      rw [e0]
      refine lc_eq (e1 := [some (tr k d), some (.lst ((up j).map eP)), some (.int j), none]) (ds := rangeD 0 ((k ^ j : Nat) : Int)) (acc := [] ++ (List.range (k ^ j)).map fun n => eP (j, n)) (e2 := [some (tr k d), some (.lst ((up j).map eP)), some (.int j), none]) ?_ ?_
      · simp_arith [x_rng1, ix_tr0, sz, rn]
      · rw [rangeD_map]
        exact lc_map2 (fun n : Nat => D.int n) (fun n => eP (j, n)) (List.range (k ^ j)) [] (by simp; omega) fun n hn => ⟨[some (tr k d), some (.lst ((up j).map eP)), some (.int j), some (.int n)], [some (tr k d), some (.lst ((up j).map eP)), some (.int j), some (.int n)], [some (tr k d), some (.lst ((up j).map eP)), some (.int j), some (.int n)], rfl, rfl, rfl, rfl⟩
    unfold m_law_spots_b1
    exact mSet_eq (op_VV (mVar_eq rfl) lc add)
  rw [rangeD0_len] at loop
  have rn := n_rng1 (n := d + 1) (env := [some (tr k d), some (.lst []), none, none]) (by omega)
  have e : up (d + 1) = spots k d := rfl
  rw [e] at loop
  have r : mRng1 (mConsA (mOp2 gAdd (mV (mOp2 gIdx (mV (mVar 0)) (mV (mLit (.int 1))))) (mV (mLit (.int 1)))) mNilA) [some (tr k d), some (.lst []), none, none] = .ok (rangeD 0 ((d + 1 : Nat) : Int)) [some (tr k d), some (.lst []), none, none] :=
    rng1_eq (op_VV (op_VV (mVar_eq rfl) mLit_eq ix_tr1) mLit_eq (n_add (a := d) (b := 1))) (by omega)
  refine body_rt (e := [some (tr k d), some (.lst ((spots k d).map eP)), tn (d + 1), none]) ?_
  rw [se]
  unfold m_law_spots
  refine (mSeq_eq (a := mSet 1 (mLst mNilA)) (e1 := [some (tr k d), some (.lst []), none, none]) rfl).trans ?_
  refine (mSeq_eq (e1 := [some (tr k d), some (.lst ((spots k d).map eP)), tn (d + 1), none]) (by rw [for_eq r]; exact loop)).trans ?_
  exact mRet_eq (mVar_eq rfl)
/-- how deep the law looks -/
def Most (k m : Nat) : Prop := (k = 2 ∧ m ≤ 7) ∨ (k = 3 ∧ m ≤ 5)
theorem den_spots {m : Nat} (h : Most k m) (hd : d ≤ m) : F_law_spots [tr k d] = .ok (.lst ((spots k d).map eP)) .non := by
  exact den_spots8 (by rcases h with ⟨h, _⟩ | ⟨h, _⟩ <;> omega) (by rcases h with ⟨_, h⟩ | ⟨_, h⟩ <;> omega)
def doesP (k d : Nat) (one other : List FM.S) (p : FM.Pl) : Bool := match FM.walked k d other (some p) with
  | none => true
  | some q => decide (FM.walked k d one (some q) = some p)
def lawd (k : Nat) (one other : List FM.S) (m : Nat) : Bool := (List.range (m + 1)).all fun d => (spots k d).all (doesP k d one other)
theorem den_does {m : Nat} (h : Most k m) {one other : List FM.S} (h1 : SsOk k one) (h2 : SsOk k other) : F_law_does [.int k, eSs one, eSs other, .int m] = .ok (.bl (lawd k one other m)) .non := by
  have se : ∀ a b c e : D, startE 7 [a, b, c, e] = [some a, some b, some c, some e, none, none, none] := fun _ _ _ _ => rfl
  have hk : k = 2 ∨ k = 3 := by rcases h with ⟨h, _⟩ | ⟨h, _⟩ <;> omega
  have m7 : m ≤ 7 := by rcases h with ⟨_, h⟩ | ⟨_, h⟩ <;> omega
  let P : En → Prop := fun e => ∃ x4 x5 x6, e = [some (.int k), some (eSs one), some (eSs other), some (.int m), x4, x5, x6]
  have loop := for_first (mt := mgName 4) (mb := m_law_does_b2) P (fun n : Nat => D.int n) (fun d => if (spots k d).all (doesP k d one other) = true then none else some (.bl false)) (List.range (m + 1))
    [some (.int k), some (eSs one), some (eSs other), some (.int m), none, none, none] ⟨_, _, _, rfl⟩ fun d hd e he => by
    obtain ⟨x4, x5, x6, rfl⟩ := he
    have hd := List.mem_range.mp hd
    have t : FM.TOk k d := ⟨hk, by omega⟩
    refine ⟨[some (.int k), some (eSs one), some (eSs other), some (.int m), some (.int d), x5, x6], rfl, ?_⟩
    have sp : F_law_spots [.tup [.int k, .int d]] = _ := den_spots (d := d) h (by omega)
    have inner := for_first (mt := mgName 5) (mb := m_law_does_b1) (fun e => ∃ x5 x6, e = [some (.int k), some (eSs one), some (eSs other), some (.int m), some (.int d), x5, x6]) eP (fun p => if doesP k d one other p = true then none else some (.bl false)) (spots k d)
      [some (.int k), some (eSs one), some (eSs other), some (.int m), some (.int d), x5, x6] ⟨_, _, rfl⟩ fun p hp e he => by
      obtain ⟨y5, y6, rfl⟩ := he
      have hp := spots_mem.mp hp
      refine ⟨[some (.int k), some (eSs one), some (eSs other), some (.int m), some (.int d), some (eP p), y6], rfl, ?_⟩
      have o1 : F_law_out [.tup [.int k, .int d], eSs other, eP p] = _ := den_out t h2 hp
      unfold doesP
      cases z : FM.walked k d other (some p) with
      | none =>
        rw [z] at o1
        have o1 : F_law_out [.tup [.int k, .int d], eSs other, eP p] = .ok .non .non := o1
        rw [if_pos rfl]
        exact ⟨[some (.int k), some (eSs one), some (eSs other), some (.int m), some (.int d), some (eP p), some .non], by simp_arith [m_law_does_b1, o1], _, _, rfl⟩
      | some q =>
        rw [z] at o1
        have o1 : F_law_out [.tup [.int k, .int d], eSs other, eP p] = .ok (eP q) .non := o1
        have o2 : F_law_out [.tup [.int k, .int d], eSs one, eP q] = _ := den_out t h1 (FM.walked_ok t h2 hp z)
        have ne := ne_eO (FM.walked k d one (some q)) (some p)
        have ne : gNe (eO (FM.walked k d one (some q))) (eP p) = _ := ne
        show match (if decide (FM.walked k d one (some q) = some p) = true then none else some (D.bl false)) with | none => _ | some r => _
        by_cases w : FM.walked k d one (some q) = some p
        · rw [decide_eq_true w, if_pos rfl]
          rw [decide_eq_true w] at ne
          exact ⟨[some (.int k), some (eSs one), some (eSs other), some (.int m), some (.int d), some (eP p), some (eP q)], by simp_arith [m_law_does_b1, o1, o2, ne, isNon_eP], _, _, rfl⟩
        · rw [decide_eq_false w, if_neg (by simp)]
          rw [decide_eq_false w] at ne
          exact ⟨[some (.int k), some (eSs one), some (eSs other), some (.int m), some (.int d), some (eP p), some (eP q)], by simp_arith [m_law_does_b1, o1, o2, ne, isNon_eP]⟩
    rw [findSome_all] at inner
    have sq : seqOf (.lst ((spots k d).map eP)) = some ((spots k d).map eP) := rfl
    have it : mIter seqOf (mCall F_law_spots (mConsA (mTup (mConsA (mVar 0) (mConsA (mVar 4) mNilA))) mNilA)) [some (.int k), some (eSs one), some (eSs other), some (.int m), some (.int d), x5, x6] = .ok ((spots k d).map eP) [some (.int k), some (eSs one), some (eSs other), some (.int m), some (.int d), x5, x6] := iter_eq (call_eq (a_cons (tup_eq (a_cons (mVar_eq rfl) (a_cons (mVar_eq rfl) a_nil))) a_nil) sp) sq
    cases z : (spots k d).all (doesP k d one other) with
    | true =>
      rw [z, if_pos rfl] at inner
      obtain ⟨e', h1, y5, y6, rfl⟩ := inner
      rw [if_pos rfl]
      exact ⟨_, (for_eq it).trans h1, _, _, _, rfl⟩
    | false =>
      rw [z, if_neg (by simp)] at inner
      obtain ⟨e', h1⟩ := inner
      rw [if_neg (by simp)]
      exact ⟨e', (for_eq it).trans h1⟩
  rw [findSome_all, ← rangeD_map] at loop
  have r : mRng1 (mConsA (mOp2 gAdd (mV (mVar 3)) (mV (mLit (.int 1)))) mNilA) [some (.int k), some (eSs one), some (eSs other), some (.int m), none, none, none] = .ok (rangeD 0 ((m + 1 : Nat) : Int)) [some (.int k), some (eSs one), some (eSs other), some (.int m), none, none, none] :=
    rng1_eq (op_VV (mVar_eq rfl) mLit_eq (n_add (a := m) (b := 1))) (by omega)
  unfold lawd
  cases z : (List.range (m + 1)).all fun d => (spots k d).all (doesP k d one other) with
  | true =>
    rw [z, if_pos rfl] at loop
    obtain ⟨e', h1, x4, x5, x6, rfl⟩ := loop
    refine body_rt (e := [some (.int k), some (eSs one), some (eSs other), some (.int m), x4, x5, x6]) ?_
    rw [se]
    unfold m_law_does
    rw [mSeq_eq (by rw [for_eq r]; exact h1)]
    rfl
  | false =>
    rw [z, if_neg (by simp)] at loop
    obtain ⟨e', h1⟩ := loop
    refine body_rt (e := e') ?_
    rw [se]
    unfold m_law_does
    exact mSeq_rt (by rw [for_eq r]; exact h1)
theorem lawd_iff {one other : List FM.S} {m : Nat} : lawd k one other m = true ↔ ∀ d l n, d ≤ m → l ≤ d → n < k ^ l → (FM.walked k d other (some (l, n))).isSome = true → FM.walked k d (other ++ one) (some (l, n)) = some (l, n) := by
  unfold lawd
  rw [List.all_eq_true]
  constructor
  · intro H d l n hd hl hn go
    have h := H d (List.mem_range.mpr (by omega))
    have h := List.all_eq_true.mp h (l, n) (spots_mem.mpr ⟨hl, hn⟩)
    unfold doesP at h
    rw [FM.walked_append]
    cases z : FM.walked k d other (some (l, n)) with
    | none => rw [z] at go; cases go
    | some q => rw [z] at h; simpa using h
  · intro H d hd
    have hd := List.mem_range.mp hd
    rw [List.all_eq_true]
    rintro ⟨l, n⟩ hp
    obtain ⟨h1, h2⟩ := spots_mem.mp hp
    unfold doesP
    cases z : FM.walked k d other (some (l, n)) with
    | none => rfl
    | some q =>
      have := H d l n (by omega) h1 h2 (by rw [z]; rfl)
      rw [FM.walked_append, z] at this
      simpa using this
/-! ### all steps -/
def allS (k : Nat) : List FM.S := (List.range k).map FM.S.dn ++ [.ls] ++ (List.range k).map FM.S.lf ++ [.mi, .nx, .tp, .up]
theorem den_all (hk : k = 2 ∨ k = 3) : F_all_steps [.int k] = .ok (.lst ((allS k).map eS)) .non ∧ F_law_all_steps [.int k] = .ok (.lst ((allS k).map eS)) .non := by
  rcases hk with rfl | rfl
  · exact ⟨by kernel_rfl, by kernel_rfl⟩
  · exact ⟨by kernel_rfl, by kernel_rfl⟩
theorem allS_ok {s : FM.S} (h : s ∈ allS k) : FM.SOk k s := by
  unfold allS at h
  simp only [List.mem_append, List.mem_map, List.mem_range, List.mem_cons, List.not_mem_nil, or_false] at h
  rcases h with ((⟨w, h, rfl⟩ | rfl) | ⟨w, h, rfl⟩) | rfl | rfl | rfl | rfl
  · exact h
  · trivial
  · exact h
  · trivial
  · trivial
  · trivial
  · trivial
theorem allS_len (k : Nat) : (allS k).length = 2 * k + 5 := by unfold allS; simp; omega
def longer (k : Nat) (L : List (List FM.S)) : List (List FM.S) := L.flatMap fun l => (allS k).map fun s => l ++ [s]
theorem longer_len (L : List (List FM.S)) : (longer k L).length = L.length * (2 * k + 5) := by
  unfold longer
  induction L with
  | nil => simp
  | cons l L ih => rw [List.flatMap_cons, List.length_append, ih, List.length_map, allS_len, List.length_cons, Nat.add_mul]; omega
theorem longer_ok {L : List (List FM.S)} {n : Nat} (h : ∀ l ∈ L, SsOk k l ∧ l.length = n) : ∀ l ∈ longer k L, SsOk k l ∧ l.length = n + 1 := by
  intro l hl
  unfold longer at hl
  obtain ⟨a, ha, hl⟩ := List.mem_flatMap.mp hl
  obtain ⟨s, hs, rfl⟩ := List.mem_map.mp hl
  obtain ⟨h1, h2⟩ := h a ha
  refine ⟨fun x hx => ?_, by rw [List.length_append, h2]; rfl⟩
  rcases List.mem_append.mp hx with hx | hx
  · exact h1 x hx
  · rw [List.mem_singleton.mp hx]; exact allS_ok hs
/-! ### undo_for -/
theorem eSs_snoc {l : List FM.S} {s : FM.S} (h : l.length ≤ 100) : gAdd (eSs l) (.tup [eS s]) = some (eSs (l ++ [s])) := add_Ss (b := [s]) (by simp; omega)
theorem long_loop (hk : k = 2 ∨ k = 3) (x1 x2 x3 : Option D) : ∀ (L acc : List (List FM.S)) (x4 : Option D), (∀ l ∈ L, l.length ≤ 100) → acc.length + L.length * 20 ≤ 100000 → ∃ y4, forL (mgName 4) m_undo_for_b2 (L.map eSs) [some (.int k), x1, x2, x3, x4, some (.lst (acc.map eSs)), none] = .nx [some (.int k), x1, x2, x3, y4, some (.lst ((acc ++ longer k L).map eSs)), none]
  | [], acc, x4, _, _ => ⟨x4, by rw [show longer k [] = [] from rfl, List.append_nil]; rfl⟩
  | l :: L, acc, x4, hl, hn => by
    have kk : k ≤ 3 := by omega
    have h1 := hl l List.mem_cons_self
    have len1 : ((allS k).map fun s => l ++ [s]).length ≤ 11 := by rw [List.length_map, allS_len]; omega
    rw [List.length_cons] at hn
    obtain ⟨y4, ih⟩ := long_loop hk x1 x2 x3 L (acc ++ (allS k).map fun s => l ++ [s]) (some (eSs l)) (fun x hx => hl x (List.mem_cons_of_mem _ hx)) (by rw [List.length_append]; omega)
    have lc : mLc (mIter seqOf (mCall F_all_steps (mConsA (mVar 0) mNilA))) (mgName 6) mYes (mOp2 gAdd (mV (mVar 4)) (mV (mTup (mConsA (mVar 6) mNilA)))) [6] [some (.int k), x1, x2, x3, some (eSs l), some (.lst (acc.map eSs)), none] = .ok (.lst (((allS k).map fun s => l ++ [s]).map eSs)) [some (.int k), x1, x2, x3, some (eSs l), some (.lst (acc.map eSs)), none] := by
      have e0 : ((allS k).map fun s => l ++ [s]).map eSs = [] ++ (allS k).map fun s => eSs (l ++ [s]) := by rw [List.map_map]; rfl
      rw [e0]
      exact lc_eq (acc := [] ++ (allS k).map fun s => eSs (l ++ [s])) (e2 := [some (.int k), x1, x2, x3, some (eSs l), some (.lst (acc.map eSs)), none]) (iter_eq (call_eq (a_cons (mVar_eq rfl) a_nil) (den_all hk).1) rfl) (lc_map2 eS (fun s => eSs (l ++ [s])) (allS k) [] (by rw [allS_len]; simp; omega) fun s hs =>
        ⟨[some (.int k), x1, x2, x3, some (eSs l), some (.lst (acc.map eSs)), some (eS s)], [some (.int k), x1, x2, x3, some (eSs l), some (.lst (acc.map eSs)), some (eS s)], [some (.int k), x1, x2, x3, some (eSs l), some (.lst (acc.map eSs)), some (eS s)], rfl, rfl, op_VV (mVar_eq rfl) (tup_eq (a_cons (mVar_eq rfl) a_nil)) (eSs_snoc h1), rfl⟩)
    have add : gAdd (.lst (acc.map eSs)) (.lst (((allS k).map fun s => l ++ [s]).map eSs)) = some (.lst ((acc ++ (allS k).map fun s => l ++ [s]).map eSs)) := by
      rw [l_add (by rw [List.length_map, List.length_map]; omega), ← List.map_append]
    have body : m_undo_for_b2 [some (.int k), x1, x2, x3, some (eSs l), some (.lst (acc.map eSs)), none] = .nx [some (.int k), x1, x2, x3, some (eSs l), some (.lst ((acc ++ (allS k).map fun s => l ++ [s]).map eSs)), none] := by
      unfold m_undo_for_b2
      exact mSet_eq (op_VV (mVar_eq rfl) lc add)
    refine ⟨y4, ?_⟩
    have e : longer k (l :: L) = ((allS k).map fun s => l ++ [s]) ++ longer k L := by unfold longer; rw [List.flatMap_cons]
    rw [e, ← List.append_assoc, ← ih, List.map_cons]
    simp only [forL, x_name, List.set_cons_succ, List.set_cons_zero, body]
def undF (k : Nat) (ss : List FM.S) (l : List FM.S) : Option (List FM.S) := if und k l ss = true then some l else none
def eUn : Option (List FM.S) → D
  | none => .non
  | some l => eSs l
/-- one length of lines -/
theorem turn_ok (hk : k = 2 ∨ k = 3) {ss : List FM.S} (hs : SsOk k ss) (hl : ss.length ≤ 5) {L : List (List FM.S)} (hL : ∀ l ∈ L, SsOk k l ∧ l.length ≤ 2) (hn : L.length ≤ 200) (x3 x4 x5 : Option D) : match L.findSome? (undF k ss) with
    | none => ∃ y4, m_undo_for_b3 [some (.int k), some (eSs ss), some (.lst (L.map eSs)), x3, x4, x5, none] = .nx [some (.int k), some (eSs ss), some (.lst ((longer k L).map eSs)), x3, y4, some (.lst ((longer k L).map eSs)), none]
    | some l => ∃ e, m_undo_for_b3 [some (.int k), some (eSs ss), some (.lst (L.map eSs)), x3, x4, x5, none] = .rt (eSs l) e := by
  have loop := for_first (mt := mgName 4) (mb := m_undo_for_b1) (fun e => ∃ y4, e = [some (.int k), some (eSs ss), some (.lst (L.map eSs)), x3, y4, x5, none]) eSs (fun l => (undF k ss l).map eSs) L [some (.int k), some (eSs ss), some (.lst (L.map eSs)), x3, x4, x5, none] ⟨_, rfl⟩ fun l hl' e he => by
    obtain ⟨y4, rfl⟩ := he
    refine ⟨[some (.int k), some (eSs ss), some (.lst (L.map eSs)), x3, some (eSs l), x5, none], rfl, ?_⟩
    obtain ⟨o1, o2⟩ := hL l hl'
    have du := den_und hk o1 hs (by omega) (by omega)
    unfold undF
    cases z : und k l ss with
    | true =>
      rw [z] at du
      rw [if_pos rfl]
      exact ⟨[some (.int k), some (eSs ss), some (.lst (L.map eSs)), x3, some (eSs l), x5, none], by simp_arith [m_undo_for_b1, du]⟩
    | false =>
      rw [z] at du
      rw [if_neg (by simp)]
      exact ⟨[some (.int k), some (eSs ss), some (.lst (L.map eSs)), x3, some (eSs l), x5, none], by simp_arith [m_undo_for_b1, du], _, rfl⟩
  rw [findSome_map] at loop
  have sq : seqOf (.lst (L.map eSs)) = some (L.map eSs) := rfl
  cases z : L.findSome? (undF k ss) with
  | some l =>
    rw [z] at loop
    obtain ⟨e', h1⟩ := loop
    exact ⟨e', by simp_arith [m_undo_for_b3, sq, h1]⟩
  | none =>
    rw [z] at loop
    obtain ⟨e', h1, y4, rfl⟩ := loop
    obtain ⟨z4, h2⟩ := long_loop hk (some (eSs ss)) (some (.lst (L.map eSs))) x3 L [] y4 (fun l h => by have := (hL l h).2; omega) (by simp; omega)
    rw [List.nil_append] at h2
    have h2 : forL (mgName 4) m_undo_for_b2 (L.map eSs) [some (.int k), some (eSs ss), some (.lst (L.map eSs)), x3, y4, some (.lst []), none] = _ := h2
    exact ⟨z4, by simp_arith [m_undo_for_b3, sq, h1, h2]⟩
def L0 : List (List FM.S) := [[]]
def L1 (k : Nat) : List (List FM.S) := longer k L0
def L2' (k : Nat) : List (List FM.S) := longer k (L1 k)
theorem lines_ok (hk : k = 2 ∨ k = 3) : (∀ l ∈ L0, SsOk k l ∧ l.length = 0) ∧ (∀ l ∈ L1 k, SsOk k l ∧ l.length = 1) ∧ (∀ l ∈ L2' k, SsOk k l ∧ l.length = 2) ∧ (L1 k).length ≤ 11 ∧ (L2' k).length ≤ 121 := by
  have h0 : ∀ l ∈ L0, SsOk k l ∧ l.length = 0 := fun l hl => by
    rw [List.mem_singleton.mp hl]
    exact ⟨fun s hs => (by cases hs), rfl⟩
  have h1 := longer_ok h0
  have n1 : (L1 k).length = 1 * (2 * k + 5) := longer_len L0
  have n2 : (L2' k).length = (L1 k).length * (2 * k + 5) := longer_len (L1 k)
  refine ⟨h0, h1, longer_ok h1, by omega, ?_⟩
  rw [n2, n1]
  rcases hk with rfl | rfl <;> decide
def undFor (k : Nat) (ss : List FM.S) : Option (List FM.S) := (L0 ++ L1 k ++ L2' k).findSome? (undF k ss)
theorem den_need_ways (hk : k = 2 ∨ k = 3) : F_need_ways [.int k] = .ok .non .non := by
  rcases hk with rfl | rfl <;> kernel_rfl
theorem den_undo_for (hk : k = 2 ∨ k = 3) {ss : List FM.S} (hs : SsOk k ss) (hl : ss.length ≤ 5) : F_undo_for [.int k, eSs ss] = .ok (eUn (undFor k ss)) .non := by
  have se : ∀ a b : D, startE 7 [a, b] = [some a, some b, none, none, none, none, none] := fun _ _ => rfl
  obtain ⟨o0, o1, o2, n1, n2⟩ := lines_ok hk
  have nw := den_need_ways hk
  have ns := den_need_script (k := k) (by omega) hs hl
  have rn := n_rng1 (n := 3) (env := [some (.int k), some (eSs ss), some (.lst (L0.map eSs)), none, none, none, none]) (by decide)
  have r3 : rangeD 0 ((3 : Nat) : Int) = [.int 0, .int 1, .int 2] := rfl
  have t0 := turn_ok hk hs hl (L := L0) (fun l h => ⟨(o0 l h).1, by have := (o0 l h).2; omega⟩) (by decide) (some (.int 0)) none none
  rw [r3] at rn
  have rn : rngR (.ok [.int 3] [some (.int k), some (eSs ss), some (.lst [.tup []]), none, none, none, none]) = .ok [.int 0, .int 1, .int 2] [some (.int k), some (eSs ss), some (.lst [.tup []]), none, none, none, none] := rn
  have fin0 : ∀ e, forL (mgName 3) m_undo_for_b3 [.int 0, .int 1, .int 2] [some (.int k), some (eSs ss), some (.lst [.tup []]), none, none, none, none] = .nx e → F_undo_for [.int k, eSs ss] = .ok (eUn none) .non := fun e h => by
    simp_arith [F_undo_for, m_undo_for, se, nw, ns, rn, h, eUn]
  have fin1 : ∀ l e, forL (mgName 3) m_undo_for_b3 [.int 0, .int 1, .int 2] [some (.int k), some (eSs ss), some (.lst [.tup []]), none, none, none, none] = .rt (eSs l) e → F_undo_for [.int k, eSs ss] = .ok (eUn (some l)) .non := fun l e h => by
    simp_arith [F_undo_for, m_undo_for, se, nw, ns, rn, h, eUn]
  have fin : ∀ (r : Option (List FM.S)), (∃ e, forL (mgName 3) m_undo_for_b3 [.int 0, .int 1, .int 2] [some (.int k), some (eSs ss), some (.lst (L0.map eSs)), none, none, none, none] = match r with
      | none => .nx e
      | some l => .rt (eSs l) e) → F_undo_for [.int k, eSs ss] = .ok (eUn r) .non := by
    rintro r ⟨e, h⟩
    cases r with
    | none => exact fin0 e h
    | some l => exact fin1 l e h
  refine fin _ ?_
  unfold undFor
  rw [List.findSome?_append, List.findSome?_append]
  have nm : ∀ (z : D) (e : En) (x0 x1 x2 x3 x4 x5 x6 : Option D), forL (mgName 3) m_undo_for_b3 [] [x0, x1, x2, x3, x4, x5, x6] = .nx [x0, x1, x2, x3, x4, x5, x6] := fun _ _ _ _ _ _ _ _ _ => rfl
  cases z0 : L0.findSome? (undF k ss) with
  | some l =>
    rw [z0] at t0
    obtain ⟨e, h0⟩ := t0
    exact ⟨e, by simp only [forL, x_name, List.set_cons_succ, List.set_cons_zero, h0]; rfl⟩
  | none =>
    rw [z0] at t0
    obtain ⟨y4, h0⟩ := t0
    have t1 := turn_ok hk hs hl (L := L1 k) (fun l h => ⟨(o1 l h).1, by have := (o1 l h).2; omega⟩) (by omega) (some (.int 1)) y4 (some (.lst ((L1 k).map eSs)))
    cases z1 : (L1 k).findSome? (undF k ss) with
    | some l =>
      rw [z1] at t1
      obtain ⟨e, h1⟩ := t1
      exact ⟨e, by simp only [forL, x_name, List.set_cons_succ, List.set_cons_zero, h0, show longer k L0 = L1 k from rfl, h1]; rfl⟩
    | none =>
      rw [z1] at t1
      obtain ⟨z4, h1⟩ := t1
      have t2 := turn_ok hk hs hl (L := L2' k) (fun l h => ⟨(o2 l h).1, by have := (o2 l h).2; omega⟩) (by omega) (some (.int 2)) z4 (some (.lst ((L2' k).map eSs)))
      cases z2 : (L2' k).findSome? (undF k ss) with
      | some l =>
        rw [z2] at t2
        obtain ⟨e, h2⟩ := t2
        exact ⟨e, by simp only [forL, x_name, List.set_cons_succ, List.set_cons_zero, h0, show longer k L0 = L1 k from rfl, h1, show longer k (L1 k) = L2' k from rfl, h2]; rfl⟩
      | none =>
        rw [z2] at t2
        obtain ⟨v4, h2⟩ := t2
        exact ⟨_, by simp only [forL, x_name, List.set_cons_succ, List.set_cons_zero, h0, show longer k L0 = L1 k from rfl, h1, show longer k (L1 k) = L2' k from rfl, h2]; rfl⟩
end
end FT

set_option Elab.async false
set_option linter.all false
set_option maxRecDepth 100000
set_option maxHeartbeats 2000000
set_option exponentiation.threshold 10000
namespace FT
open PySem PySem.Spec PyProof.Rows L2
local macro_rules | `(tactic| simp_arith [$ts,*]) => `(tactic| simp (disch := omega) only [$ts,*, at_nx, at_rt, at_err, at_bk, at_ct, at_stuck, bindS_stuck, x_seq, x_nx, x_set, x_ret, x_drop, x_ifS, x_raise, x_asg, x_par, x_for, x_lit, x_var, x_own, x_V, x_op2, x_lift2, x_lift1, gR_none, x_op1, x_tst, x_notT, x_andT, x_orT, x_notV, x_andV, x_orV, x_if, x_nilA, x_consA, x_nilO, x_consO, x_fn, x_tup, x_lst, rf_ok, rf_err, x_call, rfo_ok, x_iter, x_name, x_gtup, x_gcons, x_gnil, a_cmp, a_eqS, a_neS, a_eqI, a_neI, a_is, a_isNot, a_ix0, a_ix1, a_ixl0, a_ixl1, isNon_non, isNon_tup, isNon_lst, isNon_int, isNon_bl, f_len_t, f_len_l, f_len_s, f_int, f_min, f_max, f_tuple, f_tupleT, f_list, f_listT, x_br_rt, x_br_nx, x_br_err, x_br_rtO, x_br_nxO, gR_some, bind_ok, bind_err, bind_stuck, bindS_ok, bindS_err, mLit_eq, mNx_eq, a_neg, x_app, n_app, x_retOwn, x_callK, x_callO, n_add, n_addL, n_Ladd, x_told, x_toldE, x_toldO, x_wipe0, x_wipe, x_callV, x_callVK, n_sub, n_subL, n_mul, n_div, n_mod, n_mod1, x_zT, x_chain, x_rng1, n_rng1, words_ne, List.getElem?_cons_zero, List.getElem?_cons_succ, List.set_cons_zero, List.set_cons_succ, List.length_cons, List.length_nil, Option.join_some, Option.bind_some, Option.map_some, List.mapM_cons, List.mapM_nil, Option.pure_def, Option.bind_eq_bind, List.zip_cons_cons, List.zip_nil_left, List.zip_nil_right, List.foldl_cons, List.foldl_nil, if_true, if_false, ite_true, ite_false, if_pos, if_neg, decide_true, decide_false, Bool.not_true, Bool.not_false, Bool.true_eq_false, Bool.false_eq_true, decide_eq_true_eq, decide_not, Bool.not_eq_true', reduceIte, and_self, and_true, true_and, and_false, false_and, or_true, true_or, or_false, false_or, castL, eq_self, decide_eq_false_iff_not, not_true_eq_false, not_false_eq_true, Int.reduceLE, Int.reduceLT, Int.reduceEq, Int.reduceNe, Int.reduceNeg, Int.reduceAdd, Int.reduceSub, Int.reduceMul, reduceCtorEq, Nat.reduceAdd, Nat.zero_add, x_body, i_non_int, i_non_bool, i_non_str, i_non_tuple, i_non_list, i_non_tl, i_bl_int, i_bl_bool, i_bl_str, i_bl_tuple, i_bl_list, i_bl_tl, i_int_int, i_int_bool, i_int_str, i_int_tuple, i_int_list, i_int_tl, i_str_int, i_str_bool, i_str_str, i_str_tuple, i_str_list, i_str_tl, i_tup_int, i_tup_bool, i_tup_str, i_tup_tuple, i_tup_list, i_tup_tl, i_lst_int, i_lst_bool, i_lst_str, i_lst_tuple, i_lst_list, i_lst_tl, in_w_up, in_w_down, in_w_next, in_w_last, in_w_mirror, in_w_top, in_w_leaf, in_a_up, in_a_down, in_a_next, in_a_last, in_a_mirror, in_a_top, in_a_leaf, in_nl_up, in_nl_down, in_nl_next, in_nl_last, in_nl_mirror, in_nl_top, in_nl_leaf])
/-! ### parts of scripts -/
def ptR (d : D) (s : En) : R (Option Int) := match d with
  | .int i => .ok (some i) s
  | _ => .stuck
theorem x_pt {m : ME} {env : En} : mPt m env = (m env).bind ptR := rfl
theorem x_ptR {i : Int} {s : En} : ptR (.int i) s = .ok (some i) s := rfl
theorem x_noP {env : En} : mNoP env = .ok none env := rfl
theorem x_sl {m : MO} {l h : MPt} {env : En} : mSl gSlice m l h env = (m env).bind fun r e1 => (l e1).bind fun lo e2 => (h e2).bind fun hi e3 => lift1 (fun d => gSlice d lo hi) (r e3) e3 := rfl
theorem six_nat (n : Nat) (z : Nat) (r : Nat) : HT.sIx n z (some (r : Int)) = min r n := by
  show (if (r : Int) < 0 then ((r : Int) + (n : Int)).toNat else min (r : Int).toNat n) = _
  rw [if_neg (by omega), Int.toNat_natCast]
theorem cut_take (l : List D) (r : Nat) : cutD l none (some (r : Int)) = l.take r := by
  unfold cutD
  rw [six_nat]
  show (l.drop 0).take (min r l.length - 0) = _
  rw [List.drop_zero, Nat.sub_zero]
  rcases Nat.le_total r l.length with h | h
  · rw [Nat.min_eq_left h]
  · rw [Nat.min_eq_right h, List.take_of_length_le (Nat.le_refl _), List.take_of_length_le h]
theorem cut_drop (l : List D) (r : Nat) : cutD l (some (r : Int)) none = l.drop r := by
  unfold cutD
  rw [six_nat]
  show (l.drop (min r l.length)).take (l.length - min r l.length) = _
  rw [List.take_of_length_le (by rw [List.length_drop]; exact Nat.le_refl _)]
  rcases Nat.le_total r l.length with h | h
  · rw [Nat.min_eq_left h]
  · rw [Nat.min_eq_right h, List.drop_eq_nil_of_le (Nat.le_refl _), List.drop_eq_nil_of_le h]
theorem cut_mid (l : List D) (a b : Nat) : ∃ c, cutD l (some (a : Int)) (some (b : Int)) = (l.drop a).take c ∧ c ≤ b - a := by
  unfold cutD
  rw [six_nat, six_nat]
  rcases Nat.le_total a l.length with h | h
  · exact ⟨min b l.length - min a l.length, by rw [Nat.min_eq_left h], by omega⟩
  · exact ⟨0, by rw [Nat.min_eq_right h, List.drop_eq_nil_of_le (Nat.le_refl _)]; simp, by omega⟩
theorem sl_take (ss : List FM.S) (r : Nat) : gSlice (eSs ss) none (some (r : Int)) = some (eSs (ss.take r)) := by
  show some (D.tup (cutD (ss.map eS) none (some (r : Int)))) = _
  rw [cut_take]
  unfold eSs
  rw [List.map_take]
theorem sl_drop (ss : List FM.S) (r : Nat) : gSlice (eSs ss) (some (r : Int)) none = some (eSs (ss.drop r)) := by
  show some (D.tup (cutD (ss.map eS) (some (r : Int)) none)) = _
  rw [cut_drop]
  unfold eSs
  rw [List.map_drop]
theorem sl_mid (ss : List FM.S) (a b : Nat) : ∃ c, gSlice (eSs ss) (some (a : Int)) (some (b : Int)) = some (eSs ((ss.drop a).take c)) ∧ c ≤ b - a := by
  obtain ⟨c, h, h2⟩ := cut_mid (ss.map eS) a b
  refine ⟨c, ?_, h2⟩
  show some (D.tup (cutD (ss.map eS) (some (a : Int)) (some (b : Int)))) = _
  rw [h]
  unfold eSs
  rw [List.map_take, List.map_drop]
theorem x_revT {m : ME} {env : En} : mRevT m env = (m env).bind fun d s => match d with
  | .tup ds => .ok (.tup ds.reverse) s
  | _ => .stuck := rfl
theorem rev_Ss (ss : List FM.S) (s : En) : (match eSs ss with
  | .tup ds => R.ok (D.tup ds.reverse) s
  | _ => .stuck) = .ok (eSs ss.reverse) s := by
  unfold eSs
  rw [List.map_reverse]
section
variable {k d : Nat} {ss : List FM.S}
theorem SsOk.take {n : Nat} (h : SsOk k ss) : SsOk k (ss.take n) := fun s hs => h s (List.mem_of_mem_take hs)
theorem SsOk.drop {n : Nat} (h : SsOk k ss) : SsOk k (ss.drop n) := fun s hs => h s (List.mem_of_mem_drop hs)
theorem SsOk.app {a b : List FM.S} (h : SsOk k a) (h2 : SsOk k b) : SsOk k (a ++ b) := fun s hs => (List.mem_append.mp hs).elim (h s) (h2 s)
theorem SsOk.rev (h : SsOk k ss) : SsOk k ss.reverse := fun s hs => h s (List.mem_reverse.mp hs)
theorem SsOk.one {s : FM.S} (h : FM.SOk k s) : SsOk k [s] := fun x hx => by rw [List.mem_singleton.mp hx]; exact h
theorem on {c s : Int} (w : WN c s) (hk : k = 2 ∨ k = 3) : ∃ (x : FM.S) (c' s' : Int), F_law_one_step [.lst [.int c, .int s], .int k] = .ok (eS x) (.lst [.int c', .int s']) ∧ FM.SOk k x ∧ WN c' s' := by
  obtain ⟨x, d', e, hx, c', s', rfl, w'⟩ := den_one w.w (w := (k : Int)) (by rcases hk with rfl | rfl; exact .inl rfl; exact .inr rfl)
  obtain ⟨y, rfl, oy⟩ := stepsL_S hk hx
  exact ⟨y, c', s', e, oy, w'⟩
theorem add3 {a b c : List FM.S} (h : a.length + b.length + c.length ≤ 1000) : gAdd (eSs a) (eSs b) = some (eSs (a ++ b)) ∧ gAdd (eSs (a ++ b)) (eSs c) = some (eSs (a ++ b ++ c)) := ⟨add_Ss (by omega), add_Ss (by rw [List.length_append]; omega)⟩
theorem fl_Ss (ss : List FM.S) : fLen [eSs ss] = some (.int ss.length) := by
  show some (D.int (((ss.map eS).length : Nat) : Int)) = _
  rw [List.length_map]
theorem den_near {c s : Int} (w : WN c s) (hk : k = 2 ∨ k = 3) (hs : SsOk k ss) (hl : ss.length ≤ 5) : ∃ (xs : List FM.S) (c' s' : Int), F_law_near [.lst [.int c, .int s], .int k, eSs ss] = .ok (eSs xs) (.lst [.int c', .int s']) ∧ SsOk k xs ∧ xs.length ≤ 5 ∧ WN c' s' := by
  have se : ∀ a b c : D, startE 7 [a, b, c] = [some a, some b, some c, none, none, none, none] := fun _ _ _ => rfl
  obtain ⟨r1, c1, s1, e1, h1, w1⟩ := tw w (many := ss.length + 1) (by omega)
  obtain ⟨r2, c2, s2, e2, h2, w2⟩ := tw w1 (many := 6) (by decide)
  have e2 : F_law_twig [.lst [.int c1, .int s1], .int 6] = _ := e2
  have mn : min (4 : Int) (r1 : Int) = ((min 4 r1 : Nat) : Int) := by omega
  have p4 : min 4 r1 ≤ 4 := by omega
  have pl : min 4 r1 ≤ ss.length := by omega
  have fl := fl_Ss ss
  generalize hp : min 4 r1 = p at mn p4 pl
  have tk := sl_take ss p
  have dr := sl_drop ss p
  have dr1 := sl_drop ss (p + 1)
  have dr2 := sl_drop ss (p + 2)
  have tl : (ss.take p).length = p := by rw [List.length_take]; omega
  have x_brO : ∀ (d o : D) (r : En), bodyR true (.rt d (some o :: r)) = .ok d o := fun _ _ _ => rfl
  have last : ¬ r2 = 0 → ¬ (r2 = 1 ∧ ss.length < 5) → ¬ r2 = 2 → ¬ (r2 = 3 ∧ ss.length < 4) → ∃ (xs : List FM.S) (c' s' : Int), F_law_near [.lst [.int c, .int s], .int k, eSs ss] = .ok (eSs xs) (.lst [.int c', .int s']) ∧ SsOk k xs ∧ xs.length ≤ 5 ∧ WN c' s' := by
    intro n0 n1 n2 n3
    obtain ⟨x, c3, s3, e3, ox, w3⟩ := on w2 hk
    obtain ⟨a1, a2⟩ := add3 (a := ss.take p) (b := [x]) (c := ss.drop (p + 1)) (by simp; omega)
    have a1 : gAdd (eSs (ss.take p)) (.tup [eS x]) = _ := a1
    refine ⟨ss.take p ++ [x] ++ ss.drop (p + 1), c3, s3, ?_, (hs.take.app (SsOk.one ox)).app hs.drop, by simp; omega, w3⟩
    have m0 : ¬ ((r2 : Int) = 0) := by omega
    have m2 : ¬ ((r2 : Int) = 2) := by omega
    by_cases i1 : r2 = 1
    · have l5 : ¬ ((ss.length : Int) < 5) := fun z => n1 ⟨i1, by omega⟩
      subst i1
      simp_arith [F_law_near, m_law_near, se, fl, e1, mn, e2, x_sl, x_pt, x_ptR, x_noP, l5, tk, dr1, e3, a1, a2, x_brO]
    · have m1 : ¬ ((r2 : Int) = 1) := by omega
      by_cases i3 : r2 = 3
      · have l4 : ¬ ((ss.length : Int) < 4) := fun z => n3 ⟨i3, by omega⟩
        subst i3
        simp_arith [F_law_near, m_law_near, se, fl, e1, mn, e2, x_sl, x_pt, x_ptR, x_noP, l4, tk, dr1, e3, a1, a2, x_brO]
      · have m3 : ¬ ((r2 : Int) = 3) := by omega
        simp_arith [F_law_near, m_law_near, se, fl, e1, mn, e2, x_sl, x_pt, x_ptR, x_noP, m0, m1, m2, m3, tk, dr1, e3, a1, a2, x_brO]
  by_cases i0 : r2 = 0
  · subst i0
    have a1 := add_Ss (a := ss.take p) (b := ss.drop (p + 1)) (by simp; omega)
    refine ⟨ss.take p ++ ss.drop (p + 1), c2, s2, ?_, hs.take.app hs.drop, by simp; omega, w2⟩
    simp_arith [F_law_near, m_law_near, se, fl, e1, mn, e2, x_sl, x_pt, x_ptR, x_noP, tk, dr1, a1, x_brO]
  · by_cases i1 : r2 = 1 ∧ ss.length < 5
    · obtain ⟨i1, l5⟩ := i1
      subst i1
      obtain ⟨x, c3, s3, e3, ox, w3⟩ := on w2 hk
      obtain ⟨a1, a2⟩ := add3 (a := ss.take p) (b := [x]) (c := ss.drop p) (by simp; omega)
      have a1 : gAdd (eSs (ss.take p)) (.tup [eS x]) = _ := a1
      have l5' : ((ss.length : Int) < 5) := by omega
      refine ⟨ss.take p ++ [x] ++ ss.drop p, c3, s3, ?_, (hs.take.app (SsOk.one ox)).app hs.drop, by simp; omega, w3⟩
      simp_arith [F_law_near, m_law_near, se, fl, e1, mn, e2, x_sl, x_pt, x_ptR, x_noP, l5', tk, dr, e3, a1, a2, x_brO]
    · by_cases i2 : r2 = 2
      · subst i2
        obtain ⟨cc, mid, hcc⟩ := sl_mid ss p (p + 2)
        obtain ⟨a1, a2⟩ := add3 (a := ss.take p) (b := ((ss.drop p).take cc).reverse) (c := ss.drop (p + 2)) (by simp; omega)
        refine ⟨ss.take p ++ ((ss.drop p).take cc).reverse ++ ss.drop (p + 2), c2, s2, ?_, (hs.take.app hs.drop.take.rev).app hs.drop, by simp; omega, w2⟩
        have rv := rev_Ss ((ss.drop p).take cc)
        simp_arith [F_law_near, m_law_near, se, fl, e1, mn, e2, x_sl, x_pt, x_ptR, x_noP, x_revT, tk, mid, rv, dr2, a1, a2, x_brO]
      · by_cases i3 : r2 = 3 ∧ ss.length < 4
        · obtain ⟨i3, l4⟩ := i3
          subst i3
          obtain ⟨y, c3, s3, e3, hy, w3⟩ := an w2 [eSs [.nx, .ls], eSs [.mi, .mi]] (by simp)
          obtain ⟨b, rfl, ob, lb⟩ : ∃ b : List FM.S, y = eSs b ∧ SsOk k b ∧ b.length = 2 := by
            simp only [List.mem_cons, List.not_mem_nil, or_false] at hy
            rcases hy with rfl | rfl
            · exact ⟨_, rfl, fun s hs => by simp only [List.mem_cons, List.not_mem_nil, or_false] at hs; rcases hs with rfl | rfl <;> trivial, rfl⟩
            · exact ⟨_, rfl, fun s hs => by simp only [List.mem_cons, List.not_mem_nil, or_false] at hs; rcases hs with rfl | rfl <;> trivial, rfl⟩
          obtain ⟨a1, a2⟩ := add3 (a := ss.take p) (b := b) (c := ss.drop p) (by simp; omega)
          have l4' : ((ss.length : Int) < 4) := by omega
          have mu : gMul (.tup [.tup [.str (Str.ofString "mirror")]]) (.int 2) = some (.tup [.tup [.str (Str.ofString "mirror")], .tup [.str (Str.ofString "mirror")]]) := by kernel_rfl
          have e3 : F_law_any [.lst [.int c2, .int s2], .lst [.tup [.tup [.str (Str.ofString "next")], .tup [.str (Str.ofString "last")]], .tup [.tup [.str (Str.ofString "mirror")], .tup [.str (Str.ofString "mirror")]]]] = _ := e3
          refine ⟨ss.take p ++ b ++ ss.drop p, c3, s3, ?_, (hs.take.app ob).app hs.drop, by simp; omega, w3⟩
          simp_arith [F_law_near, m_law_near, se, fl, e1, mn, e2, x_sl, x_pt, x_ptR, x_noP, l4', mu, tk, dr, e3, a1, a2, x_brO]
        · exact last i0 i1 i2 i3
/-! ### the way back -/
def back1 : FM.S → FM.S
  | .up => .dn 0
  | .dn _ => .up
  | .nx => .ls
  | .ls => .nx
  | _ => .mi
theorem disp_eq {kvs : List (Str × D)} {mk mv : ME} {env e1 e2 : En} {d v : D} {key : Key} (hk : mk env = .ok d e1) (hv : mv e1 = .ok v e2) (h : toKey d = some key) : mDispGet kvs mk mv env = .ok ((valD (dispD kvs) key).getD v) e2 := by simp only [mDispGet, hk, hv, R.bind, h]
theorem back_val (s : FM.S) : (valD (dispD [(Str.ofString "up", (.tup [(.str (Str.ofString "down")), (.int 0)])), (Str.ofString "down", (.tup [(.str (Str.ofString "up"))])), (Str.ofString "next", (.tup [(.str (Str.ofString "last"))])), (Str.ofString "last", (.tup [(.str (Str.ofString "next"))]))]) (.inr (wd1 s))).getD (.tup [.str (Str.ofString "mirror")]) = eS (back1 s) := by
  cases s <;> kernel_rfl
theorem back_loop (x0 x1 x2 : Option D) : ∀ (l acc : List FM.S) (x4 x5 : Option D), acc.length + l.length ≤ 100 → ∃ y4 y5, forL (mgName 4) m_law_back_b1 (l.map eS) [x0, x1, x2, some (eSs acc), x4, x5] = .nx [x0, x1, x2, some (eSs (acc ++ l.map back1)), y4, y5]
  | [], acc, x4, x5, _ => ⟨x4, x5, by rw [show acc ++ List.map back1 [] = acc from List.append_nil _]; rfl⟩
  | s :: l, acc, x4, x5, h => by
    rw [List.length_cons] at h
    obtain ⟨y4, y5, ih⟩ := back_loop x0 x1 x2 l (acc ++ [back1 s]) (some (eS s)) (some (eS (back1 s))) (by rw [List.length_append]; simp; omega)
    have ix : gIdx (eS s) (.int 0) = some (.str (wd1 s)) := by cases s <;> rfl
    have v := disp_eq (kvs := [(Str.ofString "up", (.tup [(.str (Str.ofString "down")), (.int 0)])), (Str.ofString "down", (.tup [(.str (Str.ofString "up"))])), (Str.ofString "next", (.tup [(.str (Str.ofString "last"))])), (Str.ofString "last", (.tup [(.str (Str.ofString "next"))]))]) (mk := mOp2 gIdx (mV (mVar 4)) (mV (mLit (.int 0)))) (mv := mTup (mConsA (mLit (.str (Str.ofString "mirror"))) mNilA)) (env := [x0, x1, x2, some (eSs acc), some (eS s), x5]) (op_VV (mVar_eq rfl) mLit_eq ix) (tup_eq (a_cons mLit_eq a_nil)) (key := .inr (wd1 s)) rfl
    rw [back_val] at v
    have add : gAdd (eSs acc) (.tup [eS (back1 s)]) = some (eSs (acc ++ [back1 s])) := eSs_snoc (by omega)
    have body : m_law_back_b1 [x0, x1, x2, some (eSs acc), some (eS s), x5] = .nx [x0, x1, x2, some (eSs (acc ++ [back1 s])), some (eS s), some (eS (back1 s))] := by
      unfold m_law_back_b1
      refine (mSeq_eq (mSet_eq v)).trans ?_
      exact mSet_eq (op_VV (mVar_eq rfl) (tup_eq (a_cons (mVar_eq rfl) a_nil)) add)
    refine ⟨y4, y5, ?_⟩
    rw [List.map_cons, List.map_cons, show acc ++ back1 s :: l.map back1 = acc ++ [back1 s] ++ l.map back1 by simp, ← ih]
    simp only [forL, x_name, List.set_cons_succ, List.set_cons_zero, body]
theorem back_ok (hk : 1 ≤ k) : SsOk k (ss.reverse.map back1) := fun s hs => by
  obtain ⟨x, _, rfl⟩ := List.mem_map.mp hs
  cases x <;> first | trivial | exact hk
theorem den_back1 {c s : Int} {kd : D} (hl : ss.length ≤ 50) : F_law_back [.lst [.int c, .int s], kd, eSs ss] = .ok (eSs (ss.reverse.map back1)) (.lst [.int c, .int s]) := by
  have se : ∀ a b c : D, startE 6 [a, b, c] = [some a, some b, some c, none, none, none] := fun _ _ _ => rfl
  obtain ⟨y4, y5, l⟩ := back_loop (some (.lst [.int c, .int s])) (some kd) (some (eSs ss)) ss.reverse [] none none (by simp; omega)
  have l : forL (mgName 4) m_law_back_b1 (ss.reverse.map eS) [some (.lst [.int c, .int s]), some kd, some (eSs ss), some (.tup []), none, none] = _ := l
  rw [List.nil_append] at l
  have rv : mRevT (mVar 2) [some (.lst [.int c, .int s]), some kd, some (eSs ss), some (.tup []), none, none] = .ok (.tup (ss.reverse.map eS)) [some (.lst [.int c, .int s]), some kd, some (eSs ss), some (.tup []), none, none] := by
    rw [List.map_reverse]
    rfl
  refine body_rt (own := true) (e := [some (.lst [.int c, .int s]), some kd, some (eSs ss), some (eSs (ss.reverse.map back1)), y4, y5]) ?_
  rw [se]
  unfold m_law_back
  refine (mSeq_eq (a := mSet 3 (mTup mNilA)) (e1 := [some (.lst [.int c, .int s]), some kd, some (eSs ss), some (.tup []), none, none]) rfl).trans ?_
  refine (mSeq_eq ((for_eq (iter_eq rv rfl)).trans l)).trans ?_
  exact mRet_eq (mVar_eq rfl)
end
end FT

set_option Elab.async false
set_option linter.all false
set_option maxRecDepth 100000
set_option maxHeartbeats 2000000
set_option exponentiation.threshold 10000
namespace FT
open PySem PySem.Spec PyProof.Rows L2
local macro_rules | `(tactic| simp_arith [$ts,*]) => `(tactic| simp (disch := omega) only [$ts,*, at_nx, at_rt, at_err, at_bk, at_ct, at_stuck, bindS_stuck, x_seq, x_nx, x_set, x_ret, x_drop, x_ifS, x_raise, x_asg, x_par, x_for, x_lit, x_var, x_own, x_V, x_op2, x_lift2, x_lift1, gR_none, x_op1, x_tst, x_notT, x_andT, x_orT, x_notV, x_andV, x_orV, x_if, x_nilA, x_consA, x_nilO, x_consO, x_fn, x_tup, x_lst, rf_ok, rf_err, x_call, rfo_ok, x_iter, x_name, x_gtup, x_gcons, x_gnil, a_cmp, a_eqS, a_neS, a_eqI, a_neI, a_is, a_isNot, a_ix0, a_ix1, a_ixl0, a_ixl1, isNon_non, isNon_tup, isNon_lst, isNon_int, isNon_bl, f_len_t, f_len_l, f_len_s, f_int, f_min, f_max, f_tuple, f_tupleT, f_list, f_listT, x_br_rt, x_br_nx, x_br_err, x_br_rtO, x_br_nxO, gR_some, bind_ok, bind_err, bind_stuck, bindS_ok, bindS_err, mLit_eq, mNx_eq, a_neg, x_app, n_app, x_retOwn, x_callK, x_callO, n_add, n_addL, n_Ladd, x_told, x_toldE, x_toldO, x_wipe0, x_wipe, x_callV, x_callVK, n_sub, n_subL, n_mul, n_div, n_mod, n_mod1, x_zT, x_chain, x_rng1, n_rng1, words_ne, List.getElem?_cons_zero, List.getElem?_cons_succ, List.set_cons_zero, List.set_cons_succ, List.length_cons, List.length_nil, Option.join_some, Option.bind_some, Option.map_some, List.mapM_cons, List.mapM_nil, Option.pure_def, Option.bind_eq_bind, List.zip_cons_cons, List.zip_nil_left, List.zip_nil_right, List.foldl_cons, List.foldl_nil, if_true, if_false, ite_true, ite_false, if_pos, if_neg, decide_true, decide_false, Bool.not_true, Bool.not_false, Bool.true_eq_false, Bool.false_eq_true, decide_eq_true_eq, decide_not, Bool.not_eq_true', reduceIte, and_self, and_true, true_and, and_false, false_and, or_true, true_or, or_false, false_or, castL, eq_self, decide_eq_false_iff_not, not_true_eq_false, not_false_eq_true, Int.reduceLE, Int.reduceLT, Int.reduceEq, Int.reduceNe, Int.reduceNeg, Int.reduceAdd, Int.reduceSub, Int.reduceMul, reduceCtorEq, Nat.reduceAdd, Nat.zero_add, x_body, i_non_int, i_non_bool, i_non_str, i_non_tuple, i_non_list, i_non_tl, i_bl_int, i_bl_bool, i_bl_str, i_bl_tuple, i_bl_list, i_bl_tl, i_int_int, i_int_bool, i_int_str, i_int_tuple, i_int_list, i_int_tl, i_str_int, i_str_bool, i_str_str, i_str_tuple, i_str_list, i_str_tl, i_tup_int, i_tup_bool, i_tup_str, i_tup_tuple, i_tup_list, i_tup_tl, i_lst_int, i_lst_bool, i_lst_str, i_lst_tuple, i_lst_list, i_lst_tl, in_w_up, in_w_down, in_w_next, in_w_last, in_w_mirror, in_w_top, in_w_leaf, in_a_up, in_a_down, in_a_next, in_a_last, in_a_mirror, in_a_top, in_a_leaf, in_nl_up, in_nl_down, in_nl_next, in_nl_last, in_nl_mirror, in_nl_top, in_nl_leaf])
/-! ### scripts compared -/
theorem eqv_i (x y : Nat) : PyData.eqv (.int x) (.int y) = decide (x = y) := by
  have z := a_eqI (i := x) (j := y)
  have z : some (D.bl (PyData.eqv (.int x) (.int y))) = some (D.bl (decide ((x : Int) = y))) := z
  injection z with z
  injection z with z
  rw [z]
  exact decide_eq_decide.mpr Int.ofNat_inj
theorem eqv_w2 (a : String) (w v : Nat) (ha : PyData.eqv (D.str (Str.ofString a)).toP (D.str (Str.ofString a)).toP = true) : PyData.eqv (w2 a w).toP (w2 a v).toP = decide (w = v) := by
  show (PyData.eqv (D.str (Str.ofString a)).toP (D.str (Str.ofString a)).toP && (PyData.eqv (.int w) (.int v) && true)) = _
  rw [ha, Bool.true_and, Bool.and_true, eqv_i]
theorem deq_S (a b : FM.S) : PyData.eqv (eS a).toP (eS b).toP = decide (a = b) := by
  cases a with
  | dn w => cases b with
    | dn v => exact (eqv_w2 "down" w v (by kernel_rfl)).trans (decide_eq_decide.mpr ⟨fun h => by rw [h], fun h => by cases h; rfl⟩)
    | _ => rfl
  | lf w => cases b with
    | lf v => exact (eqv_w2 "leaf" w v (by kernel_rfl)).trans (decide_eq_decide.mpr ⟨fun h => by rw [h], fun h => by cases h; rfl⟩)
    | _ => rfl
  | _ => cases b <;> first | rfl | kernel_rfl
theorem deq_Ss : ∀ a b : List FM.S, PyData.eqvAll (D.toPs (a.map eS)) (D.toPs (b.map eS)) = decide (a = b)
  | [], [] => rfl
  | [], _ :: _ => rfl
  | _ :: _, [] => rfl
  | x :: a, y :: b => by
    show (PyData.eqv (eS x).toP (eS y).toP && PyData.eqvAll (D.toPs (a.map eS)) (D.toPs (b.map eS))) = _
    rw [deq_S, deq_Ss a b, ← Bool.decide_and]
    exact decide_eq_decide.mpr ⟨fun ⟨h1, h2⟩ => by rw [h1, h2], fun h => by cases h; exact ⟨rfl, rfl⟩⟩
theorem okSs (a : List FM.S) : OkAt 3 (eSs a) := .tup fun d hd => by
  obtain ⟨s, _, rfl⟩ := List.mem_map.mp hd
  exact okS s
theorem okUn (o : Option (List FM.S)) : OkAt 3 (eUn o) := by
  cases o with
  | none => exact OkAt.non.mono (by decide)
  | some a => exact okSs a
theorem eq_Un (a : List FM.S) (o : Option (List FM.S)) : gEq (eSs a) (eUn o) = some (.bl (decide (some a = o))) := by
  rw [eq_gen ((okSs a).okD (by decide)) ((okUn o).okD (by decide)) (fun x y e => by cases e)]
  congr 2
  cases o with
  | none => rfl
  | some b =>
    refine (deq_Ss a b).trans (decide_eq_decide.mpr ⟨fun h => by rw [h], fun h => Option.some.inj h⟩)
theorem eq_Ss (a b : List FM.S) : gEq (eSs a) (eSs b) = some (.bl (decide (a = b))) := by
  refine (eq_Un a (some b)).trans ?_
  congr 2
  exact decide_eq_decide.mpr ⟨fun h => Option.some.inj h, fun h => by rw [h]⟩
theorem ne_Ss (a b : List FM.S) : gNe (eSs a) (eSs b) = some (.bl (!decide (a = b))) := by
  rw [ne_gen ((okSs a).okD (by decide)) ((okSs b).okD (by decide)) (fun x y e => by cases e)]
  have := eq_Ss a b
  rw [eq_gen ((okSs a).okD (by decide)) ((okSs b).okD (by decide)) (fun x y e => by cases e)] at this
  injection this with this
  injection this with this
  rw [this]
section
variable {k d : Nat} {ss : List FM.S}
/-! ### are steps -/
def isTr : RF → Bool
  | .ok (.bl true) .non => true
  | _ => false
theorem isTr_eq {r : RF} (h : isTr r = true) : r = .ok (.bl true) .non := by
  unfold isTr at h
  split at h
  · rfl
  · cases h
theorem lstep_all (hk : k = 2 ∨ k = 3) : ((allS k).all fun s => isTr (F_law_is_step [.int k, eS s])) = true := by
  rcases hk with rfl | rfl <;> kernel_rfl
theorem mem_allS {s : FM.S} (h : FM.SOk k s) : s ∈ allS k := by
  unfold allS
  simp only [List.mem_append, List.mem_map, List.mem_range, List.mem_cons, List.not_mem_nil, or_false]
  cases s with
  | dn w => exact .inl (.inl (.inl ⟨w, h, rfl⟩))
  | lf w => exact .inl (.inr ⟨w, h, rfl⟩)
  | ls => exact .inl (.inl (.inr rfl))
  | mi => exact .inr (.inl rfl)
  | nx => exact .inr (.inr (.inl rfl))
  | tp => exact .inr (.inr (.inr (.inl rfl)))
  | up => exact .inr (.inr (.inr (.inr rfl)))
theorem den_lstep (hk : k = 2 ∨ k = 3) {s : FM.S} (h : FM.SOk k s) : F_law_is_step [.int k, eS s] = .ok (.bl true) .non := isTr_eq (List.all_eq_true.mp (lstep_all hk) s (mem_allS h))
theorem den_lare (hk : k = 2 ∨ k = 3) (hs : SsOk k ss) (hl : ss.length ≤ 5) : F_law_are_steps [.int k, eSs ss] = .ok (.bl true) .non := by
  have se : ∀ a b : D, startE 3 [a, b] = [some a, some b, none] := fun _ _ => rfl
  have lc : mLc (mIter tupOf (mVar 1)) (mgName 2) (mNotT (mTst (mCall F_law_is_step (mConsA (mVar 0) (mConsA (mVar 2) mNilA))))) (mVar 2) [2] [some (.int k), some (eSs ss), none] = .ok (.lst []) [some (.int k), some (eSs ss), none] :=
    lc_eq (acc := []) (e2 := [some (.int k), some (eSs ss), none]) (iter_eq (mVar_eq rfl) rfl) (lc_none (ss.map eS) [] fun d hd => by
      obtain ⟨s, hm, rfl⟩ := List.mem_map.mp hd
      exact ⟨[some (.int k), some (eSs ss), some (eS s)], [some (.int k), some (eSs ss), some (eS s)], rfl, mNotT_eq (mTst_eq (call_eq (a_cons (mVar_eq rfl) (a_cons (mVar_eq rfl) a_nil)) (den_lstep hk (hs s hm)))), rfl⟩)
  have e0 : gEq (.lst []) (.lst []) = some (.bl true) := by kernel_rfl
  have gt : gGt (.int ss.length) (.int 5) = some (.bl false) := by
    show some (D.bl (decide ((5 : Int) < ss.length))) = _
    rw [decide_eq_false (by omega)]
  have isi : fIsi [eSs ss, .ty "tuple"] = some (.bl true) := rfl
  have fl := fl_Ss ss
  simp_arith [F_law_are_steps, m_law_are_steps, se, isi, fl, gt, lc, e0]
/-! ### undoes -/
theorem den_undoes (hk : k = 2 ∨ k = 3) {one other : List FM.S} (h1 : SsOk k one) (h2 : SsOk k other) (l1 : one.length ≤ 5) (l2 : other.length ≤ 5) : F_undoes [.int k, eSs one, eSs other] = .ok (.bl (und k one other)) .non := by
  have se : ∀ a b c : D, startE 3 [a, b, c] = [some a, some b, some c] := fun _ _ _ => rfl
  have nw := den_need_ways hk
  have n1 := den_need_script (k := k) (by omega) h1 l1
  have n2 := den_need_script (k := k) (by omega) h2 l2
  have nb : F_need_both [.int k, eSs one, eSs other] = .ok .non .non := by simp_arith [F_need_both, m_need_both, se, nw, n1, n2]
  have du := den_und hk h1 h2 (by omega) (by omega)
  simp_arith [F_undoes, m_undoes, se, nb, du]
/-- what is told is so in small trees -/
theorem und_sound (hk : k = 2 ∨ k = 3) {one other : List FM.S} (h1 : SsOk k one) (h2 : SsOk k other) (h : und k one other = true) {m : Nat} (hm : m ≤ 8) : lawd k one other m = true :=
  lawd_iff.mpr fun d l n hd hl hn go => (und_iff hk h1 h2).mp h d l n hl (by omega) (by omega) hn go
theorem und_full {m : Nat} (hm : (k = 2 ∧ m = 7) ∨ (k = 3 ∧ m = 5)) {one other : List FM.S} (h1 : SsOk k one) (h2 : SsOk k other) (l1 : one.length ≤ 5) (l2 : other.length ≤ 3) (h : lawd k one other m = true) : und k one other = true :=
  (und_iff (by omega) h1 h2).mpr fun d l n hl q1 q2 hn go => FM.undo_full hm h1 h2 l1 l2 (lawd_iff.mp h) (by omega) hl hn go
/-! ### the first one that undoes -/
def lines (k : Nat) : List (List FM.S) := L0 ++ L1 k ++ L2' k
theorem lines_mem (hk : k = 2 ∨ k = 3) {l : List FM.S} (h : l ∈ lines k) : SsOk k l ∧ l.length ≤ 2 := by
  obtain ⟨o0, o1, o2, _, _⟩ := lines_ok hk
  unfold lines at h
  rcases List.mem_append.mp h with h | h
  · rcases List.mem_append.mp h with h | h
    · exact ⟨(o0 l h).1, by have := (o0 l h).2; omega⟩
    · exact ⟨(o1 l h).1, by have := (o1 l h).2; omega⟩
  · exact ⟨(o2 l h).1, by have := (o2 l h).2; omega⟩
theorem undFor_some {l : List FM.S} (h : undFor k ss = some l) : l ∈ lines k ∧ und k l ss = true := by
  unfold undFor at h
  obtain ⟨a, ha, e⟩ := List.exists_of_findSome?_eq_some h
  unfold undF at e
  split at e
  · cases e; exact ⟨ha, by assumption⟩
  · cases e
def goodL (k : Nat) (ss : List FM.S) (o : Option (List FM.S)) (l : List FM.S) : Option D := if some l = o then some (.bl true) else if lawd k l ss 3 = true ∧ und k l ss = true then some (.bl false) else none
theorem find_good (o : Option (List FM.S)) (hu : ∀ l, o = some l → und k l ss = true) : ∀ L : List (List FM.S), o = L.findSome? (undF k ss) → L.findSome? (goodL k ss o) = o.map fun _ => .bl true
  | [], h => by rw [h]; rfl
  | c :: L, h => by
    rw [List.findSome?_cons] at h ⊢
    have e1 : undF k ss c = if und k c ss = true then some c else none := rfl
    cases z : und k c ss with
    | true =>
      rw [z, if_pos rfl] at e1
      rw [e1] at h
      have : goodL k ss o c = some (.bl true) := by unfold goodL; rw [if_pos h.symm]
      rw [this, h]
      rfl
    | false =>
      rw [z, if_neg (by simp)] at e1
      rw [e1] at h
      have : goodL k ss o c = none := by
        unfold goodL
        rw [if_neg (fun q => by have := hu c q.symm; rw [z] at this; cases this), if_neg (fun q => by rw [z] at q; cases q.2)]
      rw [this]
      exact find_good o hu L h
theorem pair_loop (hk : k = 2 ∨ k = 3) (x1 x2 x3 x7 : Option D) : ∀ (S : List FM.S) (acc : List (List FM.S)) (x5 : Option D), acc.length + S.length * 20 ≤ 100000 → ∃ y5, forL (mgName 5) m_law_first_right_b1 (S.map eS) [some (.int k), x1, x2, x3, some (.lst (acc.map eSs)), x5, none, x7] = .nx [some (.int k), x1, x2, x3, some (.lst ((acc ++ S.flatMap fun s => (allS k).map fun t => [s, t]).map eSs)), y5, none, x7]
  | [], acc, x5, _ => ⟨x5, by rw [List.flatMap_nil, List.append_nil]; rfl⟩
  | s :: S, acc, x5, hn => by
    rw [List.length_cons] at hn
    have len1 : ((allS k).map fun t => [s, t]).length ≤ 11 := by rw [List.length_map, allS_len]; omega
    obtain ⟨y5, ih⟩ := pair_loop hk x1 x2 x3 x7 S (acc ++ (allS k).map fun t => [s, t]) (some (eS s)) (by rw [List.length_append]; omega)
    have lc : mLc (mIter seqOf (mCall F_law_all_steps (mConsA (mVar 0) mNilA))) (mgName 6) mYes (mTup (mConsA (mVar 5) (mConsA (mVar 6) mNilA))) [6] [some (.int k), x1, x2, x3, some (.lst (acc.map eSs)), some (eS s), none, x7] = .ok (.lst (((allS k).map fun t => [s, t]).map eSs)) [some (.int k), x1, x2, x3, some (.lst (acc.map eSs)), some (eS s), none, x7] := by
      have e0 : ((allS k).map fun t => [s, t]).map eSs = [] ++ (allS k).map fun t => eSs [s, t] := by rw [List.map_map]; rfl
      rw [e0]
      exact lc_eq (acc := [] ++ (allS k).map fun t => eSs [s, t]) (e2 := [some (.int k), x1, x2, x3, some (.lst (acc.map eSs)), some (eS s), none, x7]) (iter_eq (call_eq (a_cons (mVar_eq rfl) a_nil) (den_all hk).2) rfl) (lc_map2 eS (fun t => eSs [s, t]) (allS k) [] (by rw [allS_len]; simp; omega) fun t ht =>
        ⟨[some (.int k), x1, x2, x3, some (.lst (acc.map eSs)), some (eS s), some (eS t), x7], [some (.int k), x1, x2, x3, some (.lst (acc.map eSs)), some (eS s), some (eS t), x7], [some (.int k), x1, x2, x3, some (.lst (acc.map eSs)), some (eS s), some (eS t), x7], rfl, rfl, tup_eq (a_cons (mVar_eq rfl) (a_cons (mVar_eq rfl) a_nil)), rfl⟩)
    have add : gAdd (.lst (acc.map eSs)) (.lst (((allS k).map fun t => [s, t]).map eSs)) = some (.lst ((acc ++ (allS k).map fun t => [s, t]).map eSs)) := by
      rw [l_add (by rw [List.length_map, List.length_map]; omega), ← List.map_append]
    have body : m_law_first_right_b1 [some (.int k), x1, x2, x3, some (.lst (acc.map eSs)), some (eS s), none, x7] = .nx [some (.int k), x1, x2, x3, some (.lst ((acc ++ (allS k).map fun t => [s, t]).map eSs)), some (eS s), none, x7] := by
      unfold m_law_first_right_b1
      exact mSet_eq (op_VV (mVar_eq rfl) lc add)
    refine ⟨y5, ?_⟩
    rw [List.flatMap_cons, ← List.append_assoc, ← ih, List.map_cons]
    simp only [forL, x_name, List.set_cons_succ, List.set_cons_zero, body]
theorem lines_eq (k : Nat) : L0 ++ (allS k).map (fun s => [s]) ++ (allS k).flatMap (fun s => (allS k).map fun t => [s, t]) = lines k := by
  unfold lines L2' L1 L0 longer
  simp [List.flatMap_map]
theorem most_ok (hk : k = 2 ∨ k = 3) (x : Nat) (y : Nat) (env : En) (h0 : env[0]? = some (some (.int k))) : mIf (mTst (mOp2 gEq (mV (mVar 0)) (mV (mLit (.int 2))))) (mLit (.int x)) (mLit (.int y)) env = .ok (.int ((if k = 2 then x else y : Nat) : Int)) env := by
  rcases hk with rfl | rfl
  · exact mIf_t (mTst_eq (op_VV (mVar_eq h0) mLit_eq (by kernel_rfl)))
  · exact mIf_f (mTst_eq (op_VV (mVar_eq h0) mLit_eq (by kernel_rfl)))
theorem den_first_right (hk : k = 2 ∨ k = 3) (hs : SsOk k ss) (hl : ss.length ≤ 2) : F_law_first_right [.int k, eSs ss] = .ok (.bl true) .non := by
  have se : ∀ a b : D, startE 8 [a, b] = [some a, some b, none, none, none, none, none, none] := fun _ _ => rfl
  have uf := den_undo_for hk hs (by omega)
  have mo := most_ok hk 5 4 [some (.int k), some (eSs ss), none, none, none, none, none, none] rfl
  have mo : mIf (mTst (mOp2 gEq (mV (mVar 0)) (mV (mLit (.int 2))))) (mLit (.int 5)) (mLit (.int 4)) [some (.int k), some (eSs ss), none, none, none, none, none, none] = _ := mo
  generalize hm : (if k = 2 then 5 else 4 : Nat) = m at mo
  have hmm : m ≤ 5 ∧ Most k m := by
    rcases hk with rfl | rfl
    · rw [if_pos rfl] at hm; subst hm; exact ⟨by decide, .inl ⟨rfl, by decide⟩⟩
    · rw [if_neg (by decide)] at hm; subst hm; exact ⟨by decide, .inr ⟨rfl, by decide⟩⟩
  have s1 : m_law_first_right (startE 8 [.int k, eSs ss]) = m_law_first_right (startE 8 [.int k, eSs ss]) := rfl
  generalize ho : undFor k ss = o at uf
  have hu : ∀ l, o = some l → l ∈ lines k ∧ und k l ss = true := fun l e => undFor_some (ho.trans e)
  have par : mPar [2, 3] (mConsA (mCall F_undo_for (mConsA (mVar 0) (mConsA (mVar 1) mNilA))) (mConsA (mIf (mTst (mOp2 gEq (mV (mVar 0)) (mV (mLit (.int 2))))) (mLit (.int 5)) (mLit (.int 4))) mNilA)) [some (.int k), some (eSs ss), none, none, none, none, none, none] = .nx [some (.int k), some (eSs ss), some (eUn o), some (.int m), none, none, none, none] := by
    rw [x_par, a_cons (call_eq (a_cons (mVar_eq rfl) (a_cons (mVar_eq rfl) a_nil)) uf) (a_cons mo a_nil)]
    rfl
  have lc : mLc (mIter seqOf (mCall F_law_all_steps (mConsA (mVar 0) mNilA))) (mgName 5) mYes (mTup (mConsA (mVar 5) mNilA)) [5] [some (.int k), some (eSs ss), some (eUn o), some (.int m), none, none, none, none] = .ok (.lst (((allS k).map fun s => [s]).map eSs)) [some (.int k), some (eSs ss), some (eUn o), some (.int m), none, none, none, none] := by
    have e0 : ((allS k).map fun s => [s]).map eSs = [] ++ (allS k).map fun t => eSs [t] := by rw [List.map_map]; rfl
    rw [e0]
    exact lc_eq (acc := [] ++ (allS k).map fun t => eSs [t]) (e2 := [some (.int k), some (eSs ss), some (eUn o), some (.int m), none, none, none, none]) (iter_eq (call_eq (a_cons (mVar_eq rfl) a_nil) (den_all hk).2) rfl) (lc_map2 eS (fun t => eSs [t]) (allS k) [] (by rw [allS_len]; simp; omega) fun t ht =>
      ⟨[some (.int k), some (eSs ss), some (eUn o), some (.int m), none, some (eS t), none, none], [some (.int k), some (eSs ss), some (eUn o), some (.int m), none, some (eS t), none, none], [some (.int k), some (eSs ss), some (eUn o), some (.int m), none, some (eS t), none, none], rfl, rfl, tup_eq (a_cons (mVar_eq rfl) a_nil), rfl⟩)
  have set4 : mSet 4 (mOp2 gAdd (mV (mLst (mConsA (mTup mNilA) mNilA))) (mV (mLc (mIter seqOf (mCall F_law_all_steps (mConsA (mVar 0) mNilA))) (mgName 5) mYes (mTup (mConsA (mVar 5) mNilA)) [5]))) [some (.int k), some (eSs ss), some (eUn o), some (.int m), none, none, none, none] = .nx [some (.int k), some (eSs ss), some (eUn o), some (.int m), some (.lst ((L0 ++ (allS k).map fun s => [s]).map eSs)), none, none, none] := by
    refine mSet_eq (op_VV (d := .lst (L0.map eSs)) (lst_eq (a_cons (tup_eq a_nil) a_nil)) lc ?_)
    rw [l_add (by simp only [List.length_map, allS_len, L0]; simp; omega), ← List.map_append]
  obtain ⟨y5, pl⟩ := pair_loop hk (some (eSs ss)) (some (eUn o)) (some (.int m)) none (allS k) (L0 ++ (allS k).map fun s => [s]) none (by rw [List.length_append, List.length_map, allS_len]; simp [L0]; omega)
  rw [lines_eq] at pl
  have fp : mFor (mIter seqOf (mCall F_law_all_steps (mConsA (mVar 0) mNilA))) (mgName 5) m_law_first_right_b1 [some (.int k), some (eSs ss), some (eUn o), some (.int m), some (.lst ((L0 ++ (allS k).map fun s => [s]).map eSs)), none, none, none] = .nx [some (.int k), some (eSs ss), some (eUn o), some (.int m), some (.lst ((lines k).map eSs)), y5, none, none] :=
    (for_eq (iter_eq (call_eq (a_cons (mVar_eq rfl) a_nil) (den_all hk).2) rfl)).trans pl
  have loop := for_first (mt := mgName 7) (mb := m_law_first_right_b2) (fun e => ∃ x7, e = [some (.int k), some (eSs ss), some (eUn o), some (.int m), some (.lst ((lines k).map eSs)), y5, none, x7]) eSs (goodL k ss o) (lines k) [some (.int k), some (eSs ss), some (eUn o), some (.int m), some (.lst ((lines k).map eSs)), y5, none, none] ⟨_, rfl⟩ fun l hl' e he => by
    obtain ⟨x7, rfl⟩ := he
    refine ⟨[some (.int k), some (eSs ss), some (eUn o), some (.int m), some (.lst ((lines k).map eSs)), y5, none, some (eSs l)], rfl, ?_⟩
    obtain ⟨ol, ll⟩ := lines_mem hk hl'
    have eq := eq_Un l o
    have du := den_undoes hk ol hs (by omega) (by omega)
    have ld := den_does (k := k) (m := 3) (by rcases hk with h | h; exact .inl ⟨h, by decide⟩; exact .inr ⟨h, by decide⟩) ol hs
    have ld : F_law_does [.int k, eSs l, eSs ss, .int 3] = _ := ld
    unfold goodL
    by_cases q : some l = o
    · rw [decide_eq_true q] at eq
      rw [if_pos q]
      exact ⟨[some (.int k), some (eSs ss), some (eUn o), some (.int m), some (.lst ((lines k).map eSs)), y5, none, some (eSs l)], by simp_arith [m_law_first_right_b2, eq]⟩
    · rw [decide_eq_false q] at eq
      rw [if_neg q]
      cases z1 : lawd k l ss 3 with
      | false =>
        rw [z1] at ld
        rw [if_neg (by simp)]
        exact ⟨[some (.int k), some (eSs ss), some (eUn o), some (.int m), some (.lst ((lines k).map eSs)), y5, none, some (eSs l)], by simp_arith [m_law_first_right_b2, eq, ld], _, rfl⟩
      | true =>
        rw [z1] at ld
        cases z2 : und k l ss with
        | false =>
          rw [z2] at du
          rw [if_neg (by simp)]
          exact ⟨[some (.int k), some (eSs ss), some (eUn o), some (.int m), some (.lst ((lines k).map eSs)), y5, none, some (eSs l)], by simp_arith [m_law_first_right_b2, eq, ld, du], _, rfl⟩
        | true =>
          rw [z2] at du
          rw [if_pos ⟨rfl, rfl⟩]
          exact ⟨[some (.int k), some (eSs ss), some (eUn o), some (.int m), some (.lst ((lines k).map eSs)), y5, none, some (eSs l)], by simp_arith [m_law_first_right_b2, eq, ld, du]⟩
  rw [find_good o (fun l e => (hu l e).2) (lines k) ho.symm] at loop
  have itl : mIter seqOf (mVar 4) [some (.int k), some (eSs ss), some (eUn o), some (.int m), some (.lst ((lines k).map eSs)), y5, none, none] = .ok ((lines k).map eSs) [some (.int k), some (eSs ss), some (eUn o), some (.int m), some (.lst ((lines k).map eSs)), y5, none, none] := iter_eq (mVar_eq rfl) rfl
  have key : ∃ e, m_law_first_right [some (.int k), some (eSs ss), none, none, none, none, none, none] = .rt (.bl true) e := by
    unfold m_law_first_right
    rw [mSeq_eq par]
    have ifs : ∀ (b : MS), mSeq (mIfS (mAndT (mTst (mOp2 gIsNot (mV (mVar 2)) (mV (mLit .non)))) (mOrT (mNotT (mTst (mCall F_law_are_steps (mConsA (mVar 0) (mConsA (mVar 2) mNilA))))) (mTst (mOp2 gGt (mV (mFn fLen (mConsO (mV (mVar 2)) mNilO))) (mV (mLit (.int 2))))))) (mRet (mLit (.bl false))) mNx)
        (mSeq (mIfS (mAndT (mTst (mOp2 gIsNot (mV (mVar 2)) (mV (mLit .non)))) (mNotT (mTst (mCall F_law_does (mConsA (mVar 0) (mConsA (mVar 2) (mConsA (mVar 1) (mConsA (mVar 3) mNilA)))))))) (mRet (mLit (.bl false))) mNx) b) [some (.int k), some (eSs ss), some (eUn o), some (.int m), none, none, none, none] = b [some (.int k), some (eSs ss), some (eUn o), some (.int m), none, none, none, none] := fun b => by
      cases o with
      | none =>
        have t1 : mTst (mOp2 gIsNot (mV (mVar 2)) (mV (mLit .non))) [some (.int k), some (eSs ss), some (eUn none), some (.int m), none, none, none, none] = .ok false [some (.int k), some (eSs ss), some (eUn none), some (.int m), none, none, none, none] := mTst_eq (op_VV (mVar_eq rfl) mLit_eq rfl)
        exact (mSeq_eq ((mIfS_f (mAndT_f t1)).trans rfl)).trans (mSeq_eq ((mIfS_f (mAndT_f t1)).trans rfl))
      | some l =>
        obtain ⟨hm1, hm2⟩ := hu l rfl
        obtain ⟨ol, ll⟩ := lines_mem hk hm1
        have ar := den_lare hk ol (by omega)
        have fl := fl_Ss l
        have gt : gGt (.int l.length) (.int 2) = some (.bl false) := by
          show some (D.bl (decide ((2 : Int) < l.length))) = _
          rw [decide_eq_false (by omega)]
        have ld := den_does hmm.2 ol hs
        rw [und_sound hk ol hs hm2 (by omega)] at ld
        have nn : isNon (eSs l) = false := rfl
        have t1 : mTst (mOp2 gIsNot (mV (mVar 2)) (mV (mLit .non))) [some (.int k), some (eSs ss), some (eUn (some l)), some (.int m), none, none, none, none] = .ok true [some (.int k), some (eSs ss), some (eUn (some l)), some (.int m), none, none, none, none] := mTst_eq (op_VV (mVar_eq rfl) mLit_eq rfl)
        have t2 : mOrT (mNotT (mTst (mCall F_law_are_steps (mConsA (mVar 0) (mConsA (mVar 2) mNilA))))) (mTst (mOp2 gGt (mV (mFn fLen (mConsO (mV (mVar 2)) mNilO))) (mV (mLit (.int 2))))) [some (.int k), some (eSs ss), some (eUn (some l)), some (.int m), none, none, none, none] = .ok false [some (.int k), some (eSs ss), some (eUn (some l)), some (.int m), none, none, none, none] :=
          (mOrT_f (mNotT_eq (mTst_eq (call_eq (a_cons (mVar_eq rfl) (a_cons (mVar_eq rfl) a_nil)) ar)))).trans (mTst_eq (op_VV (fn_1 (mVar_eq rfl) fl) mLit_eq gt))
        have t3 : mNotT (mTst (mCall F_law_does (mConsA (mVar 0) (mConsA (mVar 2) (mConsA (mVar 1) (mConsA (mVar 3) mNilA)))))) [some (.int k), some (eSs ss), some (eUn (some l)), some (.int m), none, none, none, none] = .ok false [some (.int k), some (eSs ss), some (eUn (some l)), some (.int m), none, none, none, none] :=
          mNotT_eq (mTst_eq (call_eq (a_cons (mVar_eq rfl) (a_cons (mVar_eq rfl) (a_cons (mVar_eq rfl) (a_cons (mVar_eq rfl) a_nil)))) ld))
        exact (mSeq_eq ((mIfS_f ((mAndT_t t1).trans t2)).trans rfl)).trans (mSeq_eq ((mIfS_f ((mAndT_t t1).trans t3)).trans rfl))
    rw [ifs, mSeq_eq set4, mSeq_eq fp]
    cases o with
    | none =>
      obtain ⟨e', h1, x7, rfl⟩ := loop
      refine ⟨[some (.int k), some (eSs ss), some (eUn none), some (.int m), some (.lst ((lines k).map eSs)), y5, none, x7], (mSeq_eq ((for_eq itl).trans h1)).trans ?_⟩
      exact mRet_eq (op_VV (mVar_eq rfl) mLit_eq rfl)
    | some l =>
      obtain ⟨e', h1⟩ := loop
      exact ⟨e', mSeq_rt ((for_eq itl).trans h1)⟩
  obtain ⟨e, key⟩ := key
  exact body_rt (e := e) key
end
end FT

set_option Elab.async false
set_option linter.all false
set_option maxRecDepth 100000
set_option maxHeartbeats 2000000
set_option exponentiation.threshold 10000
namespace FT
open PySem PySem.Spec PyProof.Rows L2
local macro_rules | `(tactic| simp_arith [$ts,*]) => `(tactic| simp (disch := omega) only [$ts,*, at_nx, at_rt, at_err, at_bk, at_ct, at_stuck, bindS_stuck, x_seq, x_nx, x_set, x_ret, x_drop, x_ifS, x_raise, x_asg, x_par, x_for, x_lit, x_var, x_own, x_V, x_op2, x_lift2, x_lift1, gR_none, x_op1, x_tst, x_notT, x_andT, x_orT, x_notV, x_andV, x_orV, x_if, x_nilA, x_consA, x_nilO, x_consO, x_fn, x_tup, x_lst, rf_ok, rf_err, x_call, rfo_ok, x_iter, x_name, x_gtup, x_gcons, x_gnil, a_cmp, a_eqS, a_neS, a_eqI, a_neI, a_is, a_isNot, a_ix0, a_ix1, a_ixl0, a_ixl1, isNon_non, isNon_tup, isNon_lst, isNon_int, isNon_bl, f_len_t, f_len_l, f_len_s, f_int, f_min, f_max, f_tuple, f_tupleT, f_list, f_listT, x_br_rt, x_br_nx, x_br_err, x_br_rtO, x_br_nxO, gR_some, bind_ok, bind_err, bind_stuck, bindS_ok, bindS_err, mLit_eq, mNx_eq, a_neg, x_app, n_app, x_retOwn, x_callK, x_callO, n_add, n_addL, n_Ladd, x_told, x_toldE, x_toldO, x_wipe0, x_wipe, x_callV, x_callVK, n_sub, n_subL, n_mul, n_div, n_mod, n_mod1, x_zT, x_chain, x_rng1, n_rng1, words_ne, List.getElem?_cons_zero, List.getElem?_cons_succ, List.set_cons_zero, List.set_cons_succ, List.length_cons, List.length_nil, Option.join_some, Option.bind_some, Option.map_some, List.mapM_cons, List.mapM_nil, Option.pure_def, Option.bind_eq_bind, List.zip_cons_cons, List.zip_nil_left, List.zip_nil_right, List.foldl_cons, List.foldl_nil, if_true, if_false, ite_true, ite_false, if_pos, if_neg, decide_true, decide_false, Bool.not_true, Bool.not_false, Bool.true_eq_false, Bool.false_eq_true, decide_eq_true_eq, decide_not, Bool.not_eq_true', reduceIte, and_self, and_true, true_and, and_false, false_and, or_true, true_or, or_false, false_or, castL, eq_self, decide_eq_false_iff_not, not_true_eq_false, not_false_eq_true, Int.reduceLE, Int.reduceLT, Int.reduceEq, Int.reduceNe, Int.reduceNeg, Int.reduceAdd, Int.reduceSub, Int.reduceMul, reduceCtorEq, Nat.reduceAdd, Nat.zero_add, x_body, i_non_int, i_non_bool, i_non_str, i_non_tuple, i_non_list, i_non_tl, i_bl_int, i_bl_bool, i_bl_str, i_bl_tuple, i_bl_list, i_bl_tl, i_int_int, i_int_bool, i_int_str, i_int_tuple, i_int_list, i_int_tl, i_str_int, i_str_bool, i_str_str, i_str_tuple, i_str_list, i_str_tl, i_tup_int, i_tup_bool, i_tup_str, i_tup_tuple, i_tup_list, i_tup_tl, i_lst_int, i_lst_bool, i_lst_str, i_lst_tuple, i_lst_list, i_lst_tl, in_w_up, in_w_down, in_w_next, in_w_last, in_w_mirror, in_w_top, in_w_leaf, in_a_up, in_a_down, in_a_next, in_a_last, in_a_mirror, in_a_top, in_a_leaf, in_nl_up, in_nl_down, in_nl_next, in_nl_last, in_nl_mirror, in_nl_top, in_nl_leaf])
section
variable {k : Nat} {ss : List FM.S}
theorem b1_ok (hk : k = 2 ∨ k = 3) {one : List FM.S} (h1 : SsOk k one) (l1 : one.length ≤ 5) (hs : SsOk k ss) (hl : ss.length ≤ 3) (x0 x1 x2 x3 x6 x8 x9 x10 : Option D) : ∃ e, m_law_b1 [x0, x1, x2, x3, some (.int k), some (eSs ss), x6, some (eSs one), x8, x9, x10] = .nx e ∧
    ∃ y8, e = [x0, x1, x2, x3, some (.int k), some (eSs ss), x6, some (eSs one), y8, x9, x10] := by
  have du := den_undoes hk h1 hs l1 (by omega)
  refine ⟨[x0, x1, x2, x3, some (.int k), some (eSs ss), x6, some (eSs one), some (.bl (und k one ss)), x9, x10], ?_, _, rfl⟩
  have most : ∀ (x y : Nat), mIf (mTst (mOp2 gEq (mV (mVar 4)) (mV (mLit (.int 2))))) (mLit (.int x)) (mLit (.int y)) [x0, x1, x2, x3, some (.int k), some (eSs ss), x6, some (eSs one), some (.bl (und k one ss)), x9, x10] = .ok (.int ((if k = 2 then x else y : Nat) : Int)) [x0, x1, x2, x3, some (.int k), some (eSs ss), x6, some (eSs one), some (.bl (und k one ss)), x9, x10] := fun x y => by
    rcases hk with rfl | rfl
    · exact mIf_t (mTst_eq (op_VV (mVar_eq rfl) mLit_eq (by kernel_rfl)))
    · exact mIf_f (mTst_eq (op_VV (mVar_eq rfl) mLit_eq (by kernel_rfl)))
  have m1 := most 5 4
  have m2 := most 7 5
  have dm : ∀ (x y : Nat), x ≤ 7 → y ≤ 5 → Most k (if k = 2 then x else y) := fun x y hx hy => by
    rcases hk with rfl | rfl
    · rw [if_pos rfl]; exact .inl ⟨rfl, hx⟩
    · rw [if_neg (by decide)]; exact .inr ⟨rfl, hy⟩
  have d1 := den_does (dm 5 4 (by decide) (by decide)) h1 hs
  have d2 := den_does (dm 7 5 (by decide) (by decide)) h1 hs
  have c1 := call_eq (ms := mConsA (mVar 4) (mConsA (mVar 7) (mConsA (mVar 5) (mConsA (mIf (mTst (mOp2 gEq (mV (mVar 4)) (mV (mLit (.int 2))))) (mLit (.int ((5 : Nat) : Int))) (mLit (.int ((4 : Nat) : Int)))) mNilA)))) (a_cons (mVar_eq rfl) (a_cons (mVar_eq rfl) (a_cons (mVar_eq rfl) (a_cons m1 a_nil)))) d1
  have c2 := call_eq (ms := mConsA (mVar 4) (mConsA (mVar 7) (mConsA (mVar 5) (mConsA (mIf (mTst (mOp2 gEq (mV (mVar 4)) (mV (mLit (.int 2))))) (mLit (.int ((7 : Nat) : Int))) (mLit (.int ((5 : Nat) : Int)))) mNilA)))) (a_cons (mVar_eq rfl) (a_cons (mVar_eq rfl) (a_cons (mVar_eq rfl) (a_cons m2 a_nil)))) d2
  have t0 : mSet 8 (mCall F_undoes (mConsA (mVar 4) (mConsA (mVar 7) (mConsA (mVar 5) mNilA)))) [x0, x1, x2, x3, some (.int k), some (eSs ss), x6, some (eSs one), x8, x9, x10] = .nx [x0, x1, x2, x3, some (.int k), some (eSs ss), x6, some (eSs one), some (.bl (und k one ss)), x9, x10] := mSet_eq (call_eq (a_cons (mVar_eq rfl) (a_cons (mVar_eq rfl) (a_cons (mVar_eq rfl) a_nil))) du)
  have tI : mNotT (mTst (mFn fIsi (mConsO (mV (mVar 8)) (mConsO (mV (mLit (.ty "bool"))) mNilO)))) [x0, x1, x2, x3, some (.int k), some (eSs ss), x6, some (eSs one), some (.bl (und k one ss)), x9, x10] = .ok false [x0, x1, x2, x3, some (.int k), some (eSs ss), x6, some (eSs one), some (.bl (und k one ss)), x9, x10] := mNotT_eq (q := true) (mTst_eq (fn_2 (mVar_eq rfl) mLit_eq (show fIsi [.bl (und k one ss), .ty "bool"] = some (.bl true) from rfl)))
  have t8 : mTst (mVar 8) [x0, x1, x2, x3, some (.int k), some (eSs ss), x6, some (eSs one), some (.bl (und k one ss)), x9, x10] = .ok (und k one ss) [x0, x1, x2, x3, some (.int k), some (eSs ss), x6, some (eSs one), some (.bl (und k one ss)), x9, x10] := mTst_eq (mVar_eq rfl)
  unfold m_law_b1
  refine (mSeq_eq t0).trans ?_
  cases z : und k one ss with
  | true =>
    rw [z] at t8 tI c1
    rw [und_sound hk h1 hs z (by rcases dm 5 4 (by decide) (by decide) with ⟨_, h⟩ | ⟨_, h⟩ <;> omega)] at c1
    refine (mSeq_eq ((mIfS_f ((mOrT_f tI).trans ((mAndT_t t8).trans (mNotT_eq (mTst_eq c1))))).trans rfl)).trans ?_
    exact (mIfS_f (mAndT_f (mNotT_eq t8))).trans rfl
  | false =>
    rw [z] at t8 tI c2
    have ld : lawd k one ss (if k = 2 then 7 else 5) = false := by
      cases q : lawd k one ss (if k = 2 then 7 else 5) with
      | false => rfl
      | true =>
        have := und_full (m := if k = 2 then 7 else 5) (by rcases hk with rfl | rfl; exact .inl ⟨rfl, rfl⟩; exact .inr ⟨rfl, rfl⟩) h1 hs l1 hl q
        rw [z] at this
        cases this
    rw [ld] at c2
    refine (mSeq_eq ((mIfS_f ((mOrT_f tI).trans (mAndT_f t8))).trans rfl)).trans ?_
    exact (mIfS_f ((mAndT_t (mNotT_eq t8)).trans (mTst_eq c2))).trans rfl
end
/-- the state of the law's body behind a turn -/
def Sh (ns : List Int) (e : En) : Prop := ∃ (c s : Int) (k : Nat) (x1 x3 x5 x6 x7 x8 x9 x10 : Option D), e = [some (.scr ns), x1, some (.lst [.int c, .int s]), x3, some (.int k), x5, x6, x7, x8, x9, x10] ∧ WN c s ∧ (k = 2 ∨ k = 3)
theorem x_brO (d o : D) (r : En) : bodyR true (.rt d (some o :: r)) = .ok d o := rfl
theorem b2_ok (ns : List Int) {c s : Int} (w : WN c s) (x1 x3 x4 x5 x6 x7 x8 x9 x10 : Option D) : ∃ e, m_law_b2 [some (.scr ns), x1, some (.lst [.int c, .int s]), x3, x4, x5, x6, x7, x8, x9, x10] = .nx e ∧ Sh ns e := by
  obtain ⟨r, c1, s1, e1, h1, w1⟩ := tw w (many := 2) (by decide)
  have hk : 2 + r = 2 ∨ 2 + r = 3 := by omega
  have hk' : gAdd (.int 2) (.int r) = some (.int ((2 + r : Nat) : Int)) := n_add (a := 2) (b := r)
  generalize 2 + r = k at hk hk'
  obtain ⟨ss, c2, s2, e2, hs, hl, w2⟩ := sc w1 hk (m := 3) (by decide)
  have k1 : 1 ≤ k := by omega
  have e3 := den_back1 (c := c2) (s := s2) (kd := .int k) (ss := ss) (by omega)
  have ob : SsOk k (ss.reverse.map back1) := back_ok k1
  have lb : (ss.reverse.map back1).length ≤ 5 := by simp; omega
  generalize ss.reverse.map back1 = bk at e3 ob lb
  obtain ⟨ne, c4, s4, e4, on, ln, w4⟩ := den_near w2 hk ob lb
  obtain ⟨tw2, c5, s5, e5, o5, l5, w5⟩ := sc w4 hk (m := 2) (by decide)
  have e1 : F_law_twig [.lst [.int c, .int s], .int 2] = _ := e1
  have e2 : F_law_steps [.lst [.int c1, .int s1], .int k, .int 3] = _ := e2
  have e5 : F_law_steps [.lst [.int c4, .int s4], .int k, .int 2] = _ := e5
  unfold m_law_b2
  refine n_step (e1 := [some (.scr ns), x1, some (.lst [.int c1, .int s1]), x3, some (.int k), x5, x6, x7, x8, x9, x10]) (mSet_eq (op_VV mLit_eq (callO_eq rfl (a_cons mLit_eq a_nil) rfl e1) hk')) ?_
  refine n_step (e1 := [some (.scr ns), x1, some (.lst [.int c2, .int s2]), x3, some (.int k), some (eSs ss), x6, x7, x8, x9, x10]) (mSet_eq (callO_eq rfl (a_cons (mVar_eq rfl) (a_cons mLit_eq a_nil)) rfl e2)) ?_
  refine n_step (e1 := [some (.scr ns), x1, some (.lst [.int c2, .int s2]), x3, some (.int k), some (eSs ss), some (eSs bk), x7, x8, x9, x10]) (mSet_eq (callO_eq rfl (a_cons (mVar_eq rfl) (a_cons (mVar_eq rfl) a_nil)) rfl e3)) ?_
  obtain ⟨e', h, p⟩ := ex_for (a := m_law_b1) (mt := mgName 7) (mi := mIter tupOf (mTup (mConsA (mVar 6) (mConsA (mCallO F_law_near 2 (mConsA (mVar 4) (mConsA (mVar 6) mNilA))) (mConsA (mCallO F_law_steps 2 (mConsA (mVar 4) (mConsA (mLit (.int 2)) mNilA))) mNilA)))))
    (env := [some (.scr ns), x1, some (.lst [.int c2, .int s2]), x3, some (.int k), some (eSs ss), some (eSs bk), x7, x8, x9, x10]) (ds := [eSs bk, eSs ne, eSs tw2])
    (e1 := [some (.scr ns), x1, some (.lst [.int c5, .int s5]), x3, some (.int k), some (eSs ss), some (eSs bk), x7, x8, x9, x10])
    (fun e => ∃ x7 x8, e = [some (.scr ns), x1, some (.lst [.int c5, .int s5]), x3, some (.int k), some (eSs ss), some (eSs bk), x7, x8, x9, x10])
    (iter_eq (tup_eq (a_cons (mVar_eq rfl) (a_cons (callO_eq rfl (a_cons (mVar_eq rfl) (a_cons (mVar_eq rfl) a_nil)) rfl e4) (a_cons (callO_eq rfl (a_cons (mVar_eq rfl) (a_cons mLit_eq a_nil)) rfl e5) a_nil)))) rfl) ⟨_, _, rfl⟩ fun d hd e he => by
      obtain ⟨y7, y8, rfl⟩ := he
      obtain ⟨one, rfl, o1, l1⟩ : ∃ one, d = eSs one ∧ SsOk k one ∧ one.length ≤ 5 := by
        simp only [List.mem_cons, List.not_mem_nil, or_false] at hd
        rcases hd with rfl | rfl | rfl
        · exact ⟨_, rfl, ob, lb⟩
        · exact ⟨_, rfl, on, ln⟩
        · exact ⟨_, rfl, o5, by omega⟩
      refine ⟨_, rfl, ?_⟩
      obtain ⟨e', h, z8, rfl⟩ := b1_ok hk o1 l1 hs hl (some (.scr ns)) x1 (some (.lst [.int c5, .int s5])) x3 (some (eSs bk)) y8 x9 x10
      exact ⟨_, h, _, _, rfl⟩
  obtain ⟨y7, y8, rfl⟩ := p
  exact ⟨_, h, c5, s5, k, _, _, _, _, _, _, _, _, rfl, w5, hk⟩
theorem tkWays : toldK ERS ⟨Str.ofString "InvalidWays", none⟩ = some (.tup [.str (Str.ofString "InvalidWays +")]) := by kernel_rfl
theorem tkScript : toldK ERS eScript = some (.tup [.str (Str.ofString "InvalidScript +")]) := by kernel_rfl
theorem und_bad1 : F_undoes [.non, .non, .non] = .err ⟨Str.ofString "InvalidWays", none⟩ := by kernel_rfl
theorem und_bad2 {k : Nat} (hk : k = 2 ∨ k = 3) : F_undoes [.int k, .tup [], .lst [.tup [.str (Str.ofString "up")]]] = .err eScript := by rcases hk with rfl | rfl <;> kernel_rfl
theorem und_bad3 {k : Nat} (hk : k = 2 ∨ k = 3) : F_undo_for [.int k, .non] = .err eScript := by rcases hk with rfl | rfl <;> kernel_rfl
theorem b3_ok (ns : List Int) {j : Int} (hj : 0 ≤ j ∧ j ≤ 63) (x2 x3 x4 x5 x6 x7 x8 x9 x10 : Option D) : ∃ e, m_law_b3 [some (.scr ns), some (.int j), x2, x3, x4, x5, x6, x7, x8, x9, x10] = .nx e ∧ Sh ns e := by
  obtain ⟨c, s, e0, w⟩ := wo (ns := ns) hj
  unfold m_law_b3
  refine n_step (e1 := [some (.scr ns), some (.int j), some (.lst [.int c, .int s]), x3, x4, x5, x6, x7, x8, x9, x10]) (mSet_eq (call_eq (a_cons (mVar_eq rfl) (a_cons (mVar_eq rfl) a_nil)) e0)) ?_
  refine n_ex (Sh ns) ?_ ?_
  · have rg : mRng1 (mConsA (mLit (.int 3)) mNilA) [some (.scr ns), some (.int j), some (.lst [.int c, .int s]), x3, x4, x5, x6, x7, x8, x9, x10] = .ok [.int 0, .int 1, .int 2] [some (.scr ns), some (.int j), some (.lst [.int c, .int s]), x3, x4, x5, x6, x7, x8, x9, x10] := rng1_eq mLit_eq (by decide)
    obtain ⟨e0', f0, c0, s0, k0, a1, a3, a5, a6, a7, a8, a9, a10, rfl, w0, hk0⟩ := b2_ok ns w (some (.int j)) (some (.int 0)) x4 x5 x6 x7 x8 x9 x10
    obtain ⟨e1', f1, c1, s1, k1, b1, b3, b5, b6, b7, b8, b9, b10, rfl, w1, hk1⟩ := b2_ok ns w0 a1 (some (.int 1)) (some (.int k0)) a5 a6 a7 a8 a9 a10
    obtain ⟨e2', f2, c2, s2, k2, d1, d3, d5, d6, d7, d8, d9, d10, rfl, w2, hk2⟩ := b2_ok ns w1 b1 (some (.int 2)) (some (.int k1)) b5 b6 b7 b8 b9 b10
    refine ⟨_, (for_eq rg).trans ?_, c2, s2, k2, d1, d3, d5, d6, d7, d8, d9, d10, rfl, w2, hk2⟩
    simp only [forL, x_name, List.set_cons_succ, List.set_cons_zero, f0, f1, f2]
  · rintro e ⟨c1, s1, k, x1, x3, x5, x6, x7, x8, x9, x10, rfl, w1, hk⟩
    obtain ⟨ss, c2, s2, e2, hs, hl, w2⟩ := sc w1 hk (m := 2) (by decide)
    have e2 : F_law_steps [.lst [.int c1, .int s1], .int k, .int 2] = _ := e2
    have fr := den_first_right hk hs hl
    have ne1 : gNe (.tup [.str (Str.ofString "InvalidWays +")]) (.tup [.str (Str.ofString "InvalidWays +")]) = some (.bl false) := by kernel_rfl
    have ne2 : gNe (.tup [.str (Str.ofString "InvalidScript +")]) (.tup [.str (Str.ofString "InvalidScript +")]) = some (.bl false) := by kernel_rfl
    refine n_step (e1 := [some (.scr ns), x1, some (.lst [.int c2, .int s2]), x3, some (.int k), x5, x6, x7, x8, x9, x10]) ((mIfS_f (mNotT_eq (mTst_eq (call_eq (a_cons (mVar_eq rfl) (a_cons (callO_eq rfl (a_cons (mVar_eq rfl) (a_cons mLit_eq a_nil)) rfl e2) a_nil)) fr)))).trans rfl) ?_
    refine n_step (e1 := [some (.scr ns), x1, some (.lst [.int c2, .int s2]), x3, some (.int k), x5, x6, x7, x8, x9, x10]) ((mIfS_f (mTst_eq (op_VV (told_err (call_err (a_cons mLit_eq (a_cons mLit_eq (a_cons mLit_eq a_nil))) und_bad1) tkWays) (tup_eq (a_cons mLit_eq a_nil)) ne1))).trans rfl) ?_
    refine n_step (e1 := [some (.scr ns), x1, some (.lst [.int c2, .int s2]), x3, some (.int k), x5, x6, x7, x8, x9, x10]) ((mIfS_f (mTst_eq (op_VV (told_err (call_err (a_cons (mVar_eq rfl) (a_cons (tup_eq a_nil) (a_cons (lst_eq (a_cons (tup_eq (a_cons mLit_eq a_nil)) a_nil)) a_nil))) (und_bad2 hk)) tkScript) (tup_eq (a_cons mLit_eq a_nil)) ne2))).trans rfl) ?_
    exact ⟨_, (mIfS_f (mTst_eq (op_VV (told_err (call_err (a_cons (mVar_eq rfl) (a_cons mLit_eq a_nil)) (und_bad3 hk)) tkScript) (tup_eq (a_cons mLit_eq a_nil)) ne2))).trans rfl, c2, s2, k, x1, x3, x5, x6, x7, x8, x9, x10, rfl, w2, hk⟩
/-! ### the written ones -/
theorem w_1 : undFor 2 [.dn 0] = some [.up] := by decide +kernel
theorem w_2 : undFor 2 [.up, .nx, .dn 0] = none := by decide +kernel
theorem w_3 : undFor 3 [.mi, .nx] = some [.ls, .mi] := by decide +kernel
theorem w_4 : undFor 2 [] = some [] := by decide +kernel
theorem ok_of (k : Nat) (l : List FM.S) (h : (l.all fun s => decide (s ∈ allS k)) = true) : SsOk k l := fun s hs => by
  have := List.all_eq_true.mp h s hs
  exact allS_ok (of_decide_eq_true this)
theorem f_1 : F_undo_for [.int 2, .tup [.tup [.str (Str.ofString "down"), .int 0]]] = .ok (.tup [.tup [.str (Str.ofString "up")]]) .non := by
  have := den_undo_for (k := 2) (.inl rfl) (ss := [.dn 0]) (ok_of _ _ (by decide +kernel)) (by decide)
  rw [w_1] at this
  exact this
theorem f_2 : F_undo_for [.int 2, .tup [.tup [.str (Str.ofString "up")], .tup [.str (Str.ofString "next")], .tup [.str (Str.ofString "down"), .int 0]]] = .ok .non .non := by
  have := den_undo_for (k := 2) (.inl rfl) (ss := [.up, .nx, .dn 0]) (ok_of _ _ (by decide +kernel)) (by decide)
  rw [w_2] at this
  exact this
theorem f_3 : F_undo_for [.int 3, .tup [.tup [.str (Str.ofString "mirror")], .tup [.str (Str.ofString "next")]]] = .ok (.tup [.tup [.str (Str.ofString "last")], .tup [.str (Str.ofString "mirror")]]) .non := by
  have := den_undo_for (k := 3) (.inr rfl) (ss := [.mi, .nx]) (ok_of _ _ (by decide +kernel)) (by decide)
  rw [w_3] at this
  exact this
theorem f_4 : F_undo_for [.int 2, .tup []] = .ok (.tup []) .non := by
  have := den_undo_for (k := 2) (.inl rfl) (ss := []) (ok_of _ _ (by decide +kernel)) (by decide)
  rw [w_4] at this
  exact this
theorem tail_ok (x0 x1 x2 x3 x4 x5 x6 x7 x8 x9 x10 : Option D) : ∃ e, (mSeq (mAsg (mTup (mConsA (mTup (mConsA (mLit (.str (Str.ofString "down"))) (mConsA (mLit (.int 0)) mNilA))) (mConsA (mTup (mConsA (mLit (.str (Str.ofString "next"))) mNilA)) (mConsA (mTup (mConsA (mLit (.str (Str.ofString "last"))) mNilA)) mNilA)))) (mgTup (mgCons (mgName 9) (mgCons (mgName 10) (mgCons (mgName 6) mgNil)))))
    (mSeq (mIfS (mOrT (mTst (mOp2 gNe (mV (mCall F_undo_for (mConsA (mLit (.int 2)) (mConsA (mTup (mConsA (mVar 9) mNilA)) mNilA)))) (mV (mTup (mConsA (mTup (mConsA (mLit (.str (Str.ofString "up"))) mNilA)) mNilA))))) (mTst (mOp2 gIsNot (mV (mCall F_undo_for (mConsA (mLit (.int 2)) (mConsA (mTup (mConsA (mTup (mConsA (mLit (.str (Str.ofString "up"))) mNilA)) (mConsA (mVar 10) (mConsA (mVar 9) mNilA)))) mNilA)))) (mV (mLit .non))))) (mRet (mLit (.bl false))) mNx)
    (mRet (mAndV (mOp2 gEq (mV (mCall F_undo_for (mConsA (mLit (.int 3)) (mConsA (mTup (mConsA (mTup (mConsA (mLit (.str (Str.ofString "mirror"))) mNilA)) (mConsA (mVar 10) mNilA))) mNilA)))) (mV (mTup (mConsA (mVar 6) (mConsA (mTup (mConsA (mLit (.str (Str.ofString "mirror"))) mNilA)) mNilA))))) (mOp2 gEq (mV (mCall F_undo_for (mConsA (mLit (.int 2)) (mConsA (mTup mNilA) mNilA)))) (mV (mTup mNilA))))))) [x0, x1, x2, x3, x4, x5, x6, x7, x8, x9, x10] = .rt (.bl true) e := by
  have n1 : gNe (.tup [.tup [.str (Str.ofString "up")]]) (.tup [.tup [.str (Str.ofString "up")]]) = some (.bl false) := by kernel_rfl
  have n3 : gEq (.tup [.tup [.str (Str.ofString "last")], .tup [.str (Str.ofString "mirror")]]) (.tup [.tup [.str (Str.ofString "last")], .tup [.str (Str.ofString "mirror")]]) = some (.bl true) := by kernel_rfl
  have n4 : gEq (.tup []) (.tup []) = some (.bl true) := by kernel_rfl
  have as : (mAsg (mTup (mConsA (mTup (mConsA (mLit (.str (Str.ofString "down"))) (mConsA (mLit (.int 0)) mNilA))) (mConsA (mTup (mConsA (mLit (.str (Str.ofString "next"))) mNilA)) (mConsA (mTup (mConsA (mLit (.str (Str.ofString "last"))) mNilA)) mNilA)))) (mgTup (mgCons (mgName 9) (mgCons (mgName 10) (mgCons (mgName 6) mgNil))))) [x0, x1, x2, x3, x4, x5, x6, x7, x8, x9, x10] = .nx [x0, x1, x2, x3, x4, x5, some (w1 "last"), x7, x8, some (w2 "down" 0), some (w1 "next")] := rfl
  refine ⟨[x0, x1, x2, x3, x4, x5, some (w1 "last"), x7, x8, some (w2 "down" 0), some (w1 "next")], (mSeq_eq as).trans ?_⟩
  · refine (mSeq_eq ((mIfS_f ((mOrT_f (mTst_eq (op_VV (call_eq (a_cons mLit_eq (a_cons (tup_eq (a_cons (mVar_eq rfl) a_nil)) a_nil)) f_1) (tup_eq (a_cons (tup_eq (a_cons mLit_eq a_nil)) a_nil)) n1))).trans (mTst_eq (op_VV (call_eq (a_cons mLit_eq (a_cons (tup_eq (a_cons (tup_eq (a_cons mLit_eq a_nil)) (a_cons (mVar_eq rfl) (a_cons (mVar_eq rfl) a_nil)))) a_nil)) f_2) mLit_eq rfl)))).trans rfl)).trans ?_
    exact mRet_eq ((mAndV_t (op_VV (call_eq (a_cons mLit_eq (a_cons (tup_eq (a_cons (tup_eq (a_cons mLit_eq a_nil)) (a_cons (mVar_eq rfl) a_nil))) a_nil)) f_3) (tup_eq (a_cons (mVar_eq rfl) (a_cons (tup_eq (a_cons mLit_eq a_nil)) a_nil))) n3)).trans (op_VV (call_eq (a_cons mLit_eq (a_cons (tup_eq a_nil) a_nil)) f_4) (tup_eq a_nil) n4))
theorem den_law (ns : List Int) (hn : ns.length ≤ 63) : ∃ o, F_law [.scr ns] = .ok (.bl true) o := by
  have key : ∃ e, m_law (startE 11 [.scr ns]) = .rt (.bl true) e := by
    unfold m_law
    refine t_ex (fun e => ∃ a1 a2 a3 a4 a5 a6 a7 a8 a9 a10, e = [some (.scr ns), a1, a2, a3, a4, a5, a6, a7, a8, a9, a10]) ?_ ?_
    · refine ex_for (fun e => ∃ a1 a2 a3 a4 a5 a6 a7 a8 a9 a10, e = [some (.scr ns), a1, a2, a3, a4, a5, a6, a7, a8, a9, a10])
        (rng1_eq (fn_2 mLit_eq (fn_2 mLit_eq (fn_1 (mVar_eq rfl) rfl) rfl) rfl) (by omega)) ⟨_, _, _, _, _, _, _, _, _, _, rfl⟩ fun d hd e he => ?_
      obtain ⟨a1, a2, a3, a4, a5, a6, a7, a8, a9, a10, rfl⟩ := he
      obtain ⟨i, hi⟩ := List.getElem?_of_mem hd
      obtain ⟨i0, rfl⟩ := rangeD_get hi
      refine ⟨_, rfl, ?_⟩
      obtain ⟨e, h1, c, s, k, b1, b3, b5, b6, b7, b8, b9, b10, rfl, _, _⟩ := b3_ok ns (j := 0 + i) (by omega) a2 a3 a4 a5 a6 a7 a8 a9 a10
      exact ⟨_, h1, _, _, _, _, _, _, _, _, _, _, rfl⟩
    · rintro e ⟨a1, a2, a3, a4, a5, a6, a7, a8, a9, a10, rfl⟩
      exact tail_ok _ _ _ _ _ _ _ _ _ _ _
  obtain ⟨e, h⟩ := key
  exact ⟨_, body_rt h⟩
end FT

set_option Elab.async false
set_option linter.all false
set_option maxRecDepth 100000
set_option maxHeartbeats 0
namespace FT
open PySem PySem.Spec PyProof.Rows L2 He
abbrev RR : PySem.W.OpenRow := PySem.W.OpenLaw.row PySem.Challenge.rw_fulltrees_k13_whole_scripts_that_undo_ot
def loose0 : List Str := [Str.ofString "TreeError", Str.ofString "InvalidTree", Str.ofString "InvalidPlace", Str.ofString "InvalidWays", Str.ofString "InvalidScript", Str.ofString "InvalidNumber", Str.ofString "InvalidWord", Str.ofString "InvalidSeen", Str.ofString "Unlike", Str.ofString "Fallen", Str.ofString "NothingToUndo", Str.ofString "TooMany", Str.ofString "InvalidText", Str.ofString "MOST_STEPS", Str.ofString "WITH_WAY", Str.ofString "ALONE", Str.ofString "is_int", Str.ofString "power", Str.ofString "is_step", Str.ofString "are_steps", Str.ofString "need_ways", Str.ofString "need_script", Str.ofString "step_to", Str.ofString "walked", Str.ofString "level_behind", Str.ofString "tail_length", Str.ofString "ENOUGH", Str.ofString "all_levels", Str.ofString "unlike_number", Str.ofString "need_both"]
def loose1 : List Str := [Str.ofString "does_undo", Str.ofString "all_steps", Str.ofString "undoes", Str.ofString "undo_for", Str.ofString "_law_wood", Str.ofString "_law_twig", Str.ofString "_law_any", Str.ofString "_law_one_step", Str.ofString "_law_steps", Str.ofString "_law_size", Str.ofString "_law_figures", Str.ofString "_law_by_figures", Str.ofString "_law_moved", Str.ofString "_law_step_so", Str.ofString "_law_out", Str.ofString "_law_spots", Str.ofString "_law_is_whole", Str.ofString "_law_is_step", Str.ofString "_law_are_steps", Str.ofString "_law_kinds", Str.ofString "_law_call", Str.ofString "_law_near", Str.ofString "_law_does", Str.ofString "_law_all_steps", Str.ofString "_law_back", Str.ofString "_law_first_right"]
def loose : List Str := loose0 ++ loose1
def fnL : List DefD := [dOf (Str.ofString "is_int") s_is_int, dOf (Str.ofString "power") s_power, dOf (Str.ofString "is_step") s_is_step, dOf (Str.ofString "are_steps") s_are_steps, dOf (Str.ofString "need_ways") s_need_ways, dOf (Str.ofString "need_script") s_need_script, dOf (Str.ofString "step_to") s_step_to, dOf (Str.ofString "walked") s_walked, dOf (Str.ofString "level_behind") s_level_behind, dOf (Str.ofString "tail_length") s_tail_length, dOf (Str.ofString "all_levels") s_all_levels, dOf (Str.ofString "unlike_number") s_unlike_number, dOf (Str.ofString "need_both") s_need_both, dOf (Str.ofString "does_undo") s_does_undo, dOf (Str.ofString "all_steps") s_all_steps, dOf (Str.ofString "undoes") s_undoes, dOf (Str.ofString "undo_for") s_undo_for, dOf (Str.ofString "_law_wood") s_law_wood, dOf (Str.ofString "_law_twig") s_law_twig, dOf (Str.ofString "_law_any") s_law_any, dOf (Str.ofString "_law_one_step") s_law_one_step, dOf (Str.ofString "_law_steps") s_law_steps, dOf (Str.ofString "_law_size") s_law_size, dOf (Str.ofString "_law_figures") s_law_figures, dOf (Str.ofString "_law_by_figures") s_law_by_figures, dOf (Str.ofString "_law_moved") s_law_moved, dOf (Str.ofString "_law_step_so") s_law_step_so, dOf (Str.ofString "_law_out") s_law_out, dOf (Str.ofString "_law_spots") s_law_spots, dOf (Str.ofString "_law_is_whole") s_law_is_whole, dOf (Str.ofString "_law_is_step") s_law_is_step, dOf (Str.ofString "_law_are_steps") s_law_are_steps, dOf (Str.ofString "_law_kinds") s_law_kinds, dOf (Str.ofString "_law_call") s_law_call, dOf (Str.ofString "_law_near") s_law_near, dOf (Str.ofString "_law_does") s_law_does, dOf (Str.ofString "_law_all_steps") s_law_all_steps, dOf (Str.ofString "_law_back") s_law_back, dOf (Str.ofString "_law_first_right") s_law_first_right, dOf (Str.ofString "law") s_law]
abbrev LL : TabL := [((Str.ofString "law", none), Str.ofString "law.<locals>.<lambda>")]
def exL (K : PySem.W.Frag) : List Bool := [isG K (Str.ofString "is_int"),
  isG K (Str.ofString "power"),
  isG K (Str.ofString "is_step"),
  isG K (Str.ofString "are_steps"),
  isG K (Str.ofString "need_ways"),
  isG K (Str.ofString "need_script"),
  isG K (Str.ofString "step_to"),
  isG K (Str.ofString "walked"),
  isG K (Str.ofString "level_behind"),
  isG K (Str.ofString "tail_length"),
  isG K (Str.ofString "all_levels"),
  isG K (Str.ofString "unlike_number"),
  isG K (Str.ofString "need_both"),
  isG K (Str.ofString "does_undo"),
  isG K (Str.ofString "all_steps"),
  isG K (Str.ofString "undoes"),
  isG K (Str.ofString "undo_for"),
  isG K (Str.ofString "_law_wood"),
  isG K (Str.ofString "_law_twig"),
  isG K (Str.ofString "_law_any"),
  isG K (Str.ofString "_law_one_step"),
  isG K (Str.ofString "_law_steps"),
  isG K (Str.ofString "_law_size"),
  isG K (Str.ofString "_law_figures"),
  isG K (Str.ofString "_law_by_figures"),
  isG K (Str.ofString "_law_moved"),
  isG K (Str.ofString "_law_step_so"),
  isG K (Str.ofString "_law_out"),
  isG K (Str.ofString "_law_spots"),
  isG K (Str.ofString "_law_is_whole"),
  isG K (Str.ofString "_law_is_step"),
  isG K (Str.ofString "_law_are_steps"),
  isG K (Str.ofString "_law_kinds"),
  isG K (Str.ofString "_law_call"),
  isG K (Str.ofString "_law_near"),
  isG K (Str.ofString "_law_does"),
  isG K (Str.ofString "_law_all_steps"),
  isG K (Str.ofString "_law_back"),
  isG K (Str.ofString "_law_first_right"),
  isG K (Str.ofString "law"),
  gloB K (Str.ofString "ALONE") (.tup [(.str (Str.ofString "up")), (.str (Str.ofString "next")), (.str (Str.ofString "last")), (.str (Str.ofString "mirror")), (.str (Str.ofString "top"))]),
  gloB K (Str.ofString "ENOUGH") (.int 8),
  gloB K (Str.ofString "MOST_STEPS") (.int 5),
  gloB K (Str.ofString "WITH_WAY") (.tup [(.str (Str.ofString "down")), (.str (Str.ofString "leaf"))]),
  errB K (Str.ofString "InvalidScript"),
  errB K (Str.ofString "InvalidWays"),
  isF K (Str.ofString "ValueError"),
  isF K (Str.ofString "abs"),
  isF K (Str.ofString "all"),
  isF K (Str.ofString "bool"),
  isF K (Str.ofString "int"),
  isF K (Str.ofString "isinstance"),
  isF K (Str.ofString "len"),
  isF K (Str.ofString "max"),
  isF K (Str.ofString "min"),
  isF K (Str.ofString "range"),
  isF K (Str.ofString "sorted"),
  isF K (Str.ofString "str"),
  isF K (Str.ofString "tuple"),
  isF K (Str.ofString "zip"),
  tellB K ERS,
  ndB K LL]
def exB (K : PySem.W.Frag) : Bool := (exL K).all id
abbrev hk : PySem.W.Hook := hookB 4 [] fnL [] [(Str.ofString "law", none)] exB
def obR (s : PySem.W.SharedT) : AlX := obsB 4 [] fnL [] [(Str.ofString "law", none)] exB (HandSHeadRun.getT s)
theorem obR_eq (s : PySem.W.SharedT) : obR s = hk.obs s.abs := obsB_eq (HandSHeadRun.getT_eq s)
theorem run_a (w : World) : ∀ os : OsState, (HandSHeadRun.endF (HandSHeadRun.stepQ (HandSHeadRun.denQ HandSHeadRun.tabQ) RR.prog w) 8000 RR.prog w os).map (fun s => (HandSHeadRun.looksF RR.prog (PySem.W.boot_heap w.params) s.abs, HandSHeadRun.seenQ (PySem.W.view RR.prog [63]) loose (PySem.importedModules RR.prog.main.body) (fun s => PySem.W.xlAt (PySem.W.view RR.prog [63]) [] s && PySem.W.recOk RR.toRowW.records s) s.abs)) = some (true, PySem.W.openGood (PySem.W.view RR.prog [63]) loose) := by
  intro os
  kernel_rfl
theorem run_b (w : World) : ∀ os : OsState, (HandSHeadRun.endF (HandSHeadRun.stepQ (HandSHeadRun.denQ HandSHeadRun.tabQ) RR.prog w) 8000 RR.prog w os).map obR = some (hk.val w) := by
  intro os
  kernel_rfl
theorem run (w : World) : HandSHeadRun.RunEq RR (PySem.W.view RR.prog [63]) hk obR 8000 loose w := FTR.run_two (run_a w) (run_b w)
theorem txt_of {w : World} {h : Heap} {K : PySem.W.Frag} {mg : Str → Option Value} (X : K.In h) (G : h.Ns mainGlobals mg) (c : SaysX [] fnL [] [(Str.ofString "law", none)] exB w h K) : Txt K mg := by
  have e := List.all_eq_true.mp (show (exL K).all id = true from c.more)
  have d := c.t.d
  exact { f_is_int := dOf_in X G d (by simp [fnL]) (e _ (List.mem_of_getElem? (i := 0) rfl))
          f_power := dOf_in X G d (by simp [fnL]) (e _ (List.mem_of_getElem? (i := 1) rfl))
          f_is_step := dOf_in X G d (by simp [fnL]) (e _ (List.mem_of_getElem? (i := 2) rfl))
          f_are_steps := dOf_in X G d (by simp [fnL]) (e _ (List.mem_of_getElem? (i := 3) rfl))
          f_need_ways := dOf_in X G d (by simp [fnL]) (e _ (List.mem_of_getElem? (i := 4) rfl))
          f_need_script := dOf_in X G d (by simp [fnL]) (e _ (List.mem_of_getElem? (i := 5) rfl))
          f_step_to := dOf_in X G d (by simp [fnL]) (e _ (List.mem_of_getElem? (i := 6) rfl))
          f_walked := dOf_in X G d (by simp [fnL]) (e _ (List.mem_of_getElem? (i := 7) rfl))
          f_level_behind := dOf_in X G d (by simp [fnL]) (e _ (List.mem_of_getElem? (i := 8) rfl))
          f_tail_length := dOf_in X G d (by simp [fnL]) (e _ (List.mem_of_getElem? (i := 9) rfl))
          f_all_levels := dOf_in X G d (by simp [fnL]) (e _ (List.mem_of_getElem? (i := 10) rfl))
          f_unlike_number := dOf_in X G d (by simp [fnL]) (e _ (List.mem_of_getElem? (i := 11) rfl))
          f_need_both := dOf_in X G d (by simp [fnL]) (e _ (List.mem_of_getElem? (i := 12) rfl))
          f_does_undo := dOf_in X G d (by simp [fnL]) (e _ (List.mem_of_getElem? (i := 13) rfl))
          f_all_steps := dOf_in X G d (by simp [fnL]) (e _ (List.mem_of_getElem? (i := 14) rfl))
          f_undoes := dOf_in X G d (by simp [fnL]) (e _ (List.mem_of_getElem? (i := 15) rfl))
          f_undo_for := dOf_in X G d (by simp [fnL]) (e _ (List.mem_of_getElem? (i := 16) rfl))
          f_law_wood := dOf_in X G d (by simp [fnL]) (e _ (List.mem_of_getElem? (i := 17) rfl))
          f_law_twig := dOf_in X G d (by simp [fnL]) (e _ (List.mem_of_getElem? (i := 18) rfl))
          f_law_any := dOf_in X G d (by simp [fnL]) (e _ (List.mem_of_getElem? (i := 19) rfl))
          f_law_one_step := dOf_in X G d (by simp [fnL]) (e _ (List.mem_of_getElem? (i := 20) rfl))
          f_law_steps := dOf_in X G d (by simp [fnL]) (e _ (List.mem_of_getElem? (i := 21) rfl))
          f_law_size := dOf_in X G d (by simp [fnL]) (e _ (List.mem_of_getElem? (i := 22) rfl))
          f_law_figures := dOf_in X G d (by simp [fnL]) (e _ (List.mem_of_getElem? (i := 23) rfl))
          f_law_by_figures := dOf_in X G d (by simp [fnL]) (e _ (List.mem_of_getElem? (i := 24) rfl))
          f_law_moved := dOf_in X G d (by simp [fnL]) (e _ (List.mem_of_getElem? (i := 25) rfl))
          f_law_step_so := dOf_in X G d (by simp [fnL]) (e _ (List.mem_of_getElem? (i := 26) rfl))
          f_law_out := dOf_in X G d (by simp [fnL]) (e _ (List.mem_of_getElem? (i := 27) rfl))
          f_law_spots := dOf_in X G d (by simp [fnL]) (e _ (List.mem_of_getElem? (i := 28) rfl))
          f_law_is_whole := dOf_in X G d (by simp [fnL]) (e _ (List.mem_of_getElem? (i := 29) rfl))
          f_law_is_step := dOf_in X G d (by simp [fnL]) (e _ (List.mem_of_getElem? (i := 30) rfl))
          f_law_are_steps := dOf_in X G d (by simp [fnL]) (e _ (List.mem_of_getElem? (i := 31) rfl))
          f_law_kinds := dOf_in X G d (by simp [fnL]) (e _ (List.mem_of_getElem? (i := 32) rfl))
          f_law_call := dOf_in X G d (by simp [fnL]) (e _ (List.mem_of_getElem? (i := 33) rfl))
          f_law_near := dOf_in X G d (by simp [fnL]) (e _ (List.mem_of_getElem? (i := 34) rfl))
          f_law_does := dOf_in X G d (by simp [fnL]) (e _ (List.mem_of_getElem? (i := 35) rfl))
          f_law_all_steps := dOf_in X G d (by simp [fnL]) (e _ (List.mem_of_getElem? (i := 36) rfl))
          f_law_back := dOf_in X G d (by simp [fnL]) (e _ (List.mem_of_getElem? (i := 37) rfl))
          f_law_first_right := dOf_in X G d (by simp [fnL]) (e _ (List.mem_of_getElem? (i := 38) rfl))
          f_law := dOf_in X G d (by simp [fnL]) (e _ (List.mem_of_getElem? (i := 39) rfl))
          g_ALONE := gloB_ok X G (e _ (List.mem_of_getElem? (i := 40) rfl))
          g_ENOUGH := gloB_ok X G (e _ (List.mem_of_getElem? (i := 41) rfl))
          g_MOST_STEPS := gloB_ok X G (e _ (List.mem_of_getElem? (i := 42) rfl))
          g_WITH_WAY := gloB_ok X G (e _ (List.mem_of_getElem? (i := 43) rfl))
          e_InvalidScript := errB_ok X G (e _ (List.mem_of_getElem? (i := 44) rfl))
          e_InvalidWays := errB_ok X G (e _ (List.mem_of_getElem? (i := 45) rfl))
          z_ValueError := isF_ok X G (e _ (List.mem_of_getElem? (i := 46) rfl))
          z_abs := isF_ok X G (e _ (List.mem_of_getElem? (i := 47) rfl))
          z_all := isF_ok X G (e _ (List.mem_of_getElem? (i := 48) rfl))
          z_bool := isF_ok X G (e _ (List.mem_of_getElem? (i := 49) rfl))
          z_int := isF_ok X G (e _ (List.mem_of_getElem? (i := 50) rfl))
          z_isinstance := isF_ok X G (e _ (List.mem_of_getElem? (i := 51) rfl))
          z_len := isF_ok X G (e _ (List.mem_of_getElem? (i := 52) rfl))
          z_max := isF_ok X G (e _ (List.mem_of_getElem? (i := 53) rfl))
          z_min := isF_ok X G (e _ (List.mem_of_getElem? (i := 54) rfl))
          z_range := isF_ok X G (e _ (List.mem_of_getElem? (i := 55) rfl))
          z_sorted := isF_ok X G (e _ (List.mem_of_getElem? (i := 56) rfl))
          z_str := isF_ok X G (e _ (List.mem_of_getElem? (i := 57) rfl))
          z_tuple := isF_ok X G (e _ (List.mem_of_getElem? (i := 58) rfl))
          z_zip := isF_ok X G (e _ (List.mem_of_getElem? (i := 59) rfl))
          tell := tellB_ok X G (e _ (List.mem_of_getElem? (i := 60) rfl)) }
theorem all_ok {P : Program} {w : World} {K : PySem.W.Frag} {mg : Str → Option Value} {base : Heap} (T : Txt K mg) (nd : ndB K LL = true) (TB : ∀ p ∈ LL, LamX.TabB base mg (cT K p.1).1 (cT K p.1).2) {f : Addr} {fd : FuncData} (hm : mg (Str.ofString "law") = some (.ref f)) (hF : Fun K (Str.ofString "law") (Str.ofString "law") s_law f fd) (hc : fd.code = .ref (cT K (Str.ofString "law", none)).1) :
    FnOk P w K mg base (L2N.CX P w) 9 f fd [Str.ofString "_law_script"] (spF K mg (tbl K LL) 1 false false F_law) := by
  generalize hTb : tbl K LL = Tb
  have h__law_call := k_law_call (P := P) (w := w) (Tb := Tb) (base := base) T (k_law_kinds T)
  have h_is_int := k_is_int (P := P) (w := w) (Tb := Tb) (base := base) T 
  have h_power := k_power (P := P) (w := w) (Tb := Tb) (base := base) T 
  have h_is_step := k_is_step (P := P) (w := w) (Tb := Tb) (base := base) T h_is_int
  have h_are_steps := k_are_steps (P := P) (w := w) (Tb := Tb) (base := base) T h_is_step
  have h_need_ways := k_need_ways (P := P) (w := w) (Tb := Tb) (base := base) T h_is_int
  have h_need_script := k_need_script (P := P) (w := w) (Tb := Tb) (base := base) T h_are_steps
  have h_step_to := k_step_to (P := P) (w := w) (Tb := Tb) (base := base) T h_power
  have h_walked := k_walked (P := P) (w := w) (Tb := Tb) (base := base) T h_step_to
  have h_level_behind := k_level_behind (P := P) (w := w) (Tb := Tb) (base := base) T h_walked
  have h_tail_length := k_tail_length (P := P) (w := w) (Tb := Tb) (base := base) T 
  have h_all_levels := k_all_levels (P := P) (w := w) (Tb := Tb) (base := base) T 
  have h_unlike_number := k_unlike_number (P := P) (w := w) (Tb := Tb) (base := base) T h_power h_tail_length h_walked
  have h_need_both := k_need_both (P := P) (w := w) (Tb := Tb) (base := base) T h_need_script h_need_ways
  have h_does_undo := k_does_undo (P := P) (w := w) (Tb := Tb) (base := base) T h_all_levels h_level_behind h_unlike_number
  have h_all_steps := k_all_steps (P := P) (w := w) (Tb := Tb) (base := base) T 
  have h_undoes := k_undoes (P := P) (w := w) (Tb := Tb) (base := base) T h_does_undo h_need_both
  have h_undo_for := k_undo_for (P := P) (w := w) (Tb := Tb) (base := base) T h_all_steps h_does_undo h_need_script h_need_ways
  have h_law_wood := k_law_wood (P := P) (w := w) (Tb := Tb) (base := base) T 
  have h_law_twig := k_law_twig (P := P) (w := w) (Tb := Tb) (base := base) T 
  have h_law_any := k_law_any (P := P) (w := w) (Tb := Tb) (base := base) T h_law_twig
  have h_law_one_step := k_law_one_step (P := P) (w := w) (Tb := Tb) (base := base) T h_law_any h_law_twig
  have h_law_steps := k_law_steps (P := P) (w := w) (Tb := Tb) (base := base) T h_law_any h_law_one_step h_law_twig
  have h_law_size := k_law_size (P := P) (w := w) (Tb := Tb) (base := base) T 
  have h_law_figures := k_law_figures (P := P) (w := w) (Tb := Tb) (base := base) T 
  have h_law_by_figures := k_law_by_figures (P := P) (w := w) (Tb := Tb) (base := base) T 
  have h_law_moved := k_law_moved (P := P) (w := w) (Tb := Tb) (base := base) T 
  have h_law_step_so := k_law_step_so (P := P) (w := w) (Tb := Tb) (base := base) T h_law_moved
  have h_law_out := k_law_out (P := P) (w := w) (Tb := Tb) (base := base) T h_law_by_figures h_law_figures h_law_step_so
  have h_law_spots := k_law_spots (P := P) (w := w) (Tb := Tb) (base := base) T h_law_size
  have h_law_is_whole := k_law_is_whole (P := P) (w := w) (Tb := Tb) (base := base) T 
  have h_law_is_step := k_law_is_step (P := P) (w := w) (Tb := Tb) (base := base) T h_law_is_whole
  have h_law_are_steps := k_law_are_steps (P := P) (w := w) (Tb := Tb) (base := base) T h_law_is_step
  have h_law_near := k_law_near (P := P) (w := w) (Tb := Tb) (base := base) T h_law_any h_law_one_step h_law_twig
  have h_law_does := k_law_does (P := P) (w := w) (Tb := Tb) (base := base) T h_law_out h_law_spots
  have h_law_all_steps := k_law_all_steps (P := P) (w := w) (Tb := Tb) (base := base) T 
  have h_law_back := k_law_back (P := P) (w := w) (Tb := Tb) (base := base) T 
  have h_law_first_right := k_law_first_right (P := P) (w := w) (Tb := Tb) (base := base) T h_law_all_steps h_law_are_steps h_law_does h_undo_for h_undoes
  exact k_law T h_law_back h_law_does h_law_first_right h_law_near h_law_steps h_law_twig h_law_wood h_undo_for h_undoes h__law_call (TB _ (show (((Str.ofString "law", none), Str.ofString "law.<locals>.<lambda>") : Defn × Str) ∈ LL from List.mem_of_getElem? (i := 0) rfl)) (by rw [← hTb]; exact tbl_mem (show (((Str.ofString "law", none), Str.ofString "law.<locals>.<lambda>") : Defn × Str) ∈ LL from List.mem_of_getElem? (i := 0) rfl)) (fun p hp e => by rw [← hTb] at hp; exact tbl_uniq nd (show (((Str.ofString "law", none), Str.ofString "law.<locals>.<lambda>") : Defn × Str) ∈ LL from List.mem_of_getElem? (i := 0) rfl) p hp e) hm hF hc
end FT
open PySem PySem.W PySem.Calls PyProof.Rows
theorem PySem.Challenge.cw_fulltrees_k13_whole_scripts_that_undo_ot_holds : PySem.Challenge.rw_fulltrees_k13_whole_scripts_that_undo_ot.Holds := by
  w_on; o_law
  refine HandSHeadRun.head_any (r := OpenLaw.row PySem.Challenge.rw_fulltrees_k13_whole_scripts_that_undo_ot) (q := view (OpenLaw.row PySem.Challenge.rw_fulltrees_k13_whole_scripts_that_undo_ot).prog [63]) (H := FT.hk) (ob := FT.obR) (M := 8000) (loose := FT.loose) (d := HandSHeadRun.topDef (OpenLaw.row PySem.Challenge.rw_fulltrees_k13_whole_scripts_that_undo_ot).prog 63) (kwd := []) FT.obR_eq
    (by kernel_rfl) (fun s => by kernel_rfl) FT.run (by kernel_rfl) (by kernel_rfl) (by kernel_rfl) (by rfl) (by first | assumption | decide +kernel) (by decide +kernel) ⟨rfl, rfl, rfl, rfl, rfl, by decide +kernel⟩ ?hw ?hc
  case hw => w_witness2
  case hc =>
    refine LamX.walk_ofTsE (l := PySem.Challenge.rw_fulltrees_k13_whole_scripts_that_undo_ot) (n := 63) (k := 9) (x := "_law_script") (CX := fun w => L2N.CX (PySem.Challenge.rw_fulltrees_k13_whole_scripts_that_undo_ot).prog w) rfl (by decide) (by kernel_rfl) ⟨rfl, by decide, by decide⟩ ?F (fun w H s e s' z => FT.noErr z)
    intro w mg fa h Y G hmg0
    obtain ⟨K, KX, c⟩ := Y
    have hmg : mg ("law" : PySem.Str) = some (.ref fa) := by
      have e : (HandSHeadRun.topDef (OpenLaw.row PySem.Challenge.rw_fulltrees_k13_whole_scripts_that_undo_ot).prog 63).name = ("law" : PySem.Str) := by kernel_rfl
      rw [← e]
      exact hmg0
    have T := FT.txt_of KX G c
    obtain ⟨f, fd, hm, hF⟩ := T.f_law
    obtain rfl : f = fa := by
      have z := hm.symm.trans hmg
      cases z; rfl
    have nd : FT.ndB K FT.LL = true := (List.all_eq_true.mp (show (FT.exL K).all id = true from c.more) _ (List.mem_of_getElem? (i := 61) rfl))
    obtain ⟨f2, fd2, hm2, hF2, hc⟩ := FT.told_at KX G T.f_law (List.all_eq_true.mp (show (FT.exL K).all id = true from c.more) _ (List.mem_of_getElem? (i := 39) rfl))
    obtain rfl : f2 = f := by
      have z := hm2.symm.trans hm
      cases z; rfl
    have hT : ∀ p ∈ FT.LL, p.1 ∈ ([(PySem.Str.ofString "law", none)] : List He.Defn) := fun p hp => List.mem_map.mpr ⟨p, hp, rfl⟩
    have hF3 := hF2
    obtain ⟨oc, od, kV, doc, pm, an, cdv, ct, osl, rfl, lk, hcd⟩ := hF3.ex
    refine ⟨K, KX, FT.law_atN (l := PySem.Challenge.rw_fulltrees_k13_whole_scripts_that_undo_ot) (F := FT.F_law) (fd := PySem.W.fnOf "law" "law" (L2.defArgs FT.s_law) (L2.defBody FT.s_law) (L2.defScope FT.s_law) .none kV doc pm an cdv ct) FT.LL (fun p hp => c.empty _ (hT p hp)) (fun p hp => c.out _ (hT p hp)) (fun p hp => PySem.W.codeHd_of_K KX (c.hd _ (hT p hp))) (fun s u => .of_eq rfl) (fun ns h1 _ => FT.den_law ns h1) fun base b1 b2 TB => ?_⟩
    exact FT.all_ok T nd TB hm hF2 hc

