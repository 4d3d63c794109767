import PyProof.Rows.All
import Wide.All
import OpenK.AllK
import Wide.FinOn
import HandS.ForMost
import HandS.Exc
import HandS.ExcOwn
import HandS.TryOnly
import HandS.WordsExc
import HandS.Defaults
import HandS.TupAny
import HandS.Deep
import HandS.Zip
import HandS.IsInst
import HandS.Small
import KE.SortData
import HandS.Dict
import HandS.Flow
import HandS.SetFor
import HandS.TupSets
import HandS.Strs
import HandS.Rev
import HandS.Conv
import HandS.RevTup
import HandS.Style
import HandS.HeadHook2
import HandS.More
import HandS.Head0
import HandS.Head1
import HandS.Head2
import HandS.HeadEnd
import HandS.HeadHook1
import HandS.HeadHook3
import HandS.HeadHook4
import PySem.Challenge.RW_everyhistory_k06_whole_rings
set_option Elab.async false
set_option linter.all false
set_option maxRecDepth 100000
set_option maxHeartbeats 0
set_option autoImplicit false
/-! Ev1: data, the monad of what is asked, ghosts, readings. -/
namespace Ev
open PySem PySem.Spec PyProof.Rows L2

abbrev D := PyData
abbrev St := L2.St

/-- an exception of the program: its class's name, its fields -/
structure Exc where
  cls : Str
  flds : List (Str × D) := []

/-- what is asked of a computation, so that its end has Q or its exception X -/
structure W (ε α : Type) where
  run : (α → Prop) → (ε → Prop) → Prop
  mono : ∀ {Q Q' : α → Prop} {X X' : ε → Prop}, (∀ a, Q a → Q' a) → (∀ x, X x → X' x) → run Q X → run Q' X'
namespace W
variable {ε α β : Type}
def ret (a : α) : W ε α := ⟨fun Q _ => Q a, fun h _ q => h _ q⟩
def err (x : ε) : W ε α := ⟨fun _ X => X x, fun _ h q => h _ q⟩
def stuck : W ε α := ⟨fun _ _ => False, fun _ _ q => q⟩
def bind (m : W ε α) (f : α → W ε β) : W ε β :=
  ⟨fun Q X => m.run (fun a => (f a).run Q X) X, fun h hx q => m.mono (fun a qa => (f a).mono h hx qa) hx q⟩
/-- must be shown -/
def ask (p : Prop) : W ε Unit := ⟨fun Q _ => p ∧ Q (), fun h _ q => ⟨q.1, h _ q.2⟩⟩
/-- may be used -/
def given (p : Prop) : W ε Unit := ⟨fun Q _ => p → Q (), fun h _ q hp => h _ (q hp)⟩
/-- any number below n -/
def draw (n : Int) : W ε Int := ⟨fun Q _ => 0 < n ∧ ∀ v, 0 ≤ v → v < n → Q v, fun h _ q => ⟨q.1, fun v a b => h _ (q.2 v a b)⟩⟩
/-- another exception type -/
def mapErr {ε' : Type} (g : ε → ε') (m : W ε α) : W ε' α := ⟨fun Q X => m.run Q (fun x => X (g x)), fun h hx q => m.mono h (fun x qx => hx _ qx) q⟩
/-- what an exception is turned into -/
def catch_ {ε' : Type} (m : W ε α) (g : ε → W ε' α) : W ε' α := ⟨fun Q X => m.run Q (fun x => (g x).run Q X), fun h hx q => m.mono h (fun x qx => (g x).mono h hx qx) q⟩
instance : Monad (W ε) where
  pure := ret
  bind := bind
@[simp] theorem ret_run {a : α} {Q : α → Prop} {X : ε → Prop} : (ret a : W ε α).run Q X = Q a := rfl
@[simp] theorem pure_run {a : α} {Q : α → Prop} {X : ε → Prop} : (pure a : W ε α).run Q X = Q a := rfl
@[simp] theorem err_run {x : ε} {Q : α → Prop} {X : ε → Prop} : (err x : W ε α).run Q X = X x := rfl
@[simp] theorem stuck_run {Q : α → Prop} {X : ε → Prop} : (stuck : W ε α).run Q X = False := rfl
@[simp] theorem bind_run {m : W ε α} {f : α → W ε β} {Q : β → Prop} {X : ε → Prop} : (m.bind f).run Q X = m.run (fun a => (f a).run Q X) X := rfl
@[simp] theorem bind_run' {m : W ε α} {f : α → W ε β} {Q : β → Prop} {X : ε → Prop} : (m >>= f).run Q X = m.run (fun a => (f a).run Q X) X := rfl
@[simp] theorem ask_run {p : Prop} {Q : Unit → Prop} {X : ε → Prop} : (ask p : W ε Unit).run Q X = (p ∧ Q ()) := rfl
@[simp] theorem given_run {p : Prop} {Q : Unit → Prop} {X : ε → Prop} : (given p : W ε Unit).run Q X = (p → Q ()) := rfl
@[simp] theorem draw_run {n : Int} {Q : Int → Prop} {X : ε → Prop} : (draw n : W ε Int).run Q X = (0 < n ∧ ∀ v, 0 ≤ v → v < n → Q v) := rfl
@[simp] theorem mapErr_run {ε' : Type} {g : ε → ε'} {m : W ε α} {Q : α → Prop} {X : ε' → Prop} : (m.mapErr g).run Q X = m.run Q (fun x => X (g x)) := rfl
@[simp] theorem catch_run {ε' : Type} {m : W ε α} {g : ε → W ε' α} {Q : α → Prop} {X : ε' → Prop} : (m.catch_ g).run Q X = m.run Q (fun x => (g x).run Q X) := rfl
theorem ret_bind {a : α} {f : α → W ε β} : (ret a).bind f = f a := rfl
end W

/-! ### data in the heap -/
section
variable {K : PySem.W.Frag} {γ γ' H H' : Hp}
theorem Same.sqt {a : Addr} {xs : List V} (e : Same H H') (h : SqT K H a xs) : SqT K H' a xs := by
  rcases h with (h | ⟨o, h⟩) | h
  · exact .inl (.inl (e _ _ h))
  · exact .inl (.inr ⟨o, e _ _ h⟩)
  · exact .inr h
/-- a tuple of ours: its object is known to bear no dict of its own; or one of the written part -/
def TupAt (K : PySem.W.Frag) (γ : Hp) (a : Addr) (xs : List V) : Prop :=
  (∃ o : Obj, γ a = some (.frz o (.tup xs)) ∧ o.dict = none) ∨
    ∃ (o : Obj) (its : Array Value) (n : Nat), K.lookup a = some o ∧ o.cls = .type "tuple" ∧ o.dict = none ∧ o.data = .seq its n ∧ its.size ≤ sizeLine ∧ Vals xs its.toList
theorem TupAt.sq {a : Addr} {xs : List V} (h : TupAt K γ a xs) : SqT K γ a xs := by
  rcases h with ⟨o, h, _⟩ | ⟨o, its, n, h1, h2, _, h3, h4, h5⟩
  · exact .inl (.inr ⟨o, h⟩)
  · exact .inr ⟨o, its, n, h1, h2, h3, h4, h5⟩
theorem TupAt.mono {a : Addr} {xs : List V} (h : TupAt K γ a xs) (s : Same γ γ') : TupAt K γ' a xs := by
  rcases h with ⟨o, h, d⟩ | h
  · exact .inl ⟨o, s _ _ h, d⟩
  · exact .inr h
def kvOf (ks : List Str) (vs : List V) : List (Key × V) := (ks.zip vs).map fun q => (Sum.inr q.1, q.2)
/-- a dict with text keys, as data -/
def dkv (ks : List Str) (ds : List D) : List (D × D) := (ks.zip ds).map fun q => (PyData.str q.1, q.2)
/-- a dict's items at a, locked -/
def DkAt (γ : Hp) (a : Addr) (kvs : List (Key × V)) : Prop := ∃ o : Obj, γ a = some (.frz o (.dK kvs))
theorem DkAt.mono {γ γ' : Hp} {a : Addr} {kvs : List (Key × V)} (h : DkAt γ a kvs) (s : Same γ γ') : DkAt γ' a kvs := let ⟨o, e⟩ := h; ⟨o, s _ _ e⟩
def KsOk (ks : List Str) (ds : List D) : Prop := (ks.Nodup ∧ ks.length = ds.length) ∧ ∀ k ∈ ks, PyData.strOk k = true
mutual
inductive Dq (K : PySem.W.Frag) (γ : Hp) : V → D → Prop
  | non : Dq K γ .non .none
  | bl (b : Bool) : Dq K γ (.bl b) (.bool b)
  | int (i : Int) : Dq K γ (.int i) (.int i)
  | str (x : Str) : PyData.strOk x = true → Dq K γ (.str x) (.str x)
  | lst {a : Addr} {xs : List V} {ds : List D} : γ a = some (.lst xs) → DqAll K γ xs ds → Dq K γ (.ref a) (.list ds)
  | tup {a : Addr} {xs : List V} {ds : List D} : TupAt K γ a xs → DqAll K γ xs ds → Dq K γ (.ref a) (.tuple ds)
  | dct {a : Addr} {ks : List Str} {xs : List V} {ds : List D} {kvs : List (D × D)} : DkAt γ a (mergeK [] (kvOf ks xs)) → DqAll K γ xs ds → KsOk ks ds → kvs = dkv ks ds → Dq K γ (.ref a) (.dict kvs)
inductive DqAll (K : PySem.W.Frag) (γ : Hp) : List V → List D → Prop
  | nil : DqAll K γ [] []
  | cons {v : V} {vs : List V} {d : D} {ds : List D} : Dq K γ v d → DqAll K γ vs ds → DqAll K γ (v :: vs) (d :: ds)
end
mutual
theorem dq_mono' (s : Same γ γ') : ∀ {v : V} {d : D}, Dq K γ v d → Dq K γ' v d
  | _, _, .non => .non
  | _, _, .bl _ => .bl _
  | _, _, .int _ => .int _
  | _, _, .str _ h => .str _ h
  | _, _, .lst a b => .lst (s _ _ a) (dqAll_mono' s b)
  | _, _, .tup a b => .tup (a.mono s) (dqAll_mono' s b)
  | _, _, .dct a b e1 e2 => .dct (a.mono s) (dqAll_mono' s b) e1 e2
theorem dqAll_mono' (s : Same γ γ') : ∀ {vs : List V} {ds : List D}, DqAll K γ vs ds → DqAll K γ' vs ds
  | _, _, .nil => .nil
  | _, _, .cons a b => .cons (dq_mono' s a) (dqAll_mono' s b)
end
theorem dq_mono (s : Same γ γ') (d : D) (v : V) (h : Dq K γ v d) : Dq K γ' v d := dq_mono' s h
theorem dqAll_mono (s : Same γ γ') (ds : List D) (vs : List V) (h : DqAll K γ vs ds) : DqAll K γ' vs ds := dqAll_mono' s h
mutual
/-- no dict in it -/
def nd : D → Bool
  | .list ds => ndAll ds
  | .tuple ds => ndAll ds
  | .dict _ => false
  | _ => true
def ndAll : List D → Bool
  | [] => true
  | d :: ds => nd d && ndAll ds
end
mutual
theorem dq_dp : ∀ (d : D) (v : V), nd d = true → Dq K γ v d → Dp K γ v d ∧ d.canLay0 = true
  | .none, _, _, h => by cases h; exact ⟨.non, by simp [PyData.canLay0]⟩
  | .bool _, _, _, h => by cases h; exact ⟨.bl _, by simp [PyData.canLay0]⟩
  | .int _, _, _, h => by cases h; exact ⟨.int _, by simp [PyData.canLay0]⟩
  | .str _, _, _, h => by cases h with | str x e => exact ⟨.str _, by simp [PyData.canLay0, e]⟩
  | .list ds, _, n, h => by
    cases h with
    | lst a b =>
      obtain ⟨q1, q2⟩ := dqAll_dp ds _ (by simpa [nd] using n) b
      exact ⟨.lst (.of a) q1, by simp [PyData.canLay0, q2]⟩
  | .tuple ds, _, n, h => by
    cases h with
    | tup a b =>
      obtain ⟨q1, q2⟩ := dqAll_dp ds _ (by simpa [nd] using n) b
      exact ⟨.tup a.sq q1, by simp [PyData.canLay0, q2]⟩
  | .dict _, _, n, h => by simp [nd] at n
theorem dqAll_dp : ∀ (ds : List D) (vs : List V), ndAll ds = true → DqAll K γ vs ds → DpAll K γ vs ds ∧ PyData.canLayAll0 ds = true
  | [], _, _, h => by cases h; exact ⟨.nil, by simp [PyData.canLayAll0]⟩
  | d :: ds, _, n, h => by
    cases h with
    | cons a b =>
      have n' : nd d = true ∧ ndAll ds = true := by simpa [ndAll] using n
      obtain ⟨p1, p2⟩ := dq_dp d _ n'.1 a
      obtain ⟨q1, q2⟩ := dqAll_dp ds _ n'.2 b
      exact ⟨.cons p1 q1, by simp [PyData.canLayAll0, p2, q2]⟩
end
/-- v is d, in γ -/
def Rep (K : PySem.W.Frag) (γ : Hp) (v : V) (d : D) : Prop := Dq K γ v d ∧ True
def RepAll (K : PySem.W.Frag) (γ : Hp) (vs : List V) (ds : List D) : Prop := DqAll K γ vs ds ∧ True
theorem Rep.mono {v : V} {d : D} (h : Rep K γ v d) (s : Same γ γ') : Rep K γ' v d := ⟨dq_mono s _ _ h.1, h.2⟩
theorem RepAll.mono {vs : List V} {ds : List D} (h : RepAll K γ vs ds) (s : Same γ γ') : RepAll K γ' vs ds := ⟨dqAll_mono s _ _ h.1, h.2⟩
theorem RepAll.nil : RepAll K γ [] [] := ⟨.nil, trivial⟩
theorem RepAll.cons {v : V} {d : D} {vs : List V} {ds : List D} (h : Rep K γ v d) (t : RepAll K γ vs ds) : RepAll K γ (v :: vs) (d :: ds) :=
  ⟨.cons h.1 t.1, trivial⟩
theorem RepAll.head {v : V} {d : D} {vs : List V} {ds : List D} (h : RepAll K γ (v :: vs) (d :: ds)) : Rep K γ v d := by
  obtain ⟨h1, h2⟩ := h
  cases h1 with
  | cons a b => exact ⟨a, trivial⟩
theorem RepAll.tail {v : V} {d : D} {vs : List V} {ds : List D} (h : RepAll K γ (v :: vs) (d :: ds)) : RepAll K γ vs ds := by
  obtain ⟨h1, h2⟩ := h
  cases h1 with
  | cons a b => exact ⟨b, trivial⟩
theorem RepAll.length : ∀ {vs : List V} {ds : List D}, RepAll K γ vs ds → vs.length = ds.length
  | [], [], _ => rfl
  | [], _ :: _, h => by cases h.1
  | _ :: _, [], h => by cases h.1
  | _ :: vs, _ :: ds, h => by simp [RepAll.length h.tail]
theorem RepAll.get : ∀ {vs : List V} {ds : List D} {i : Nat} {d : D}, RepAll K γ vs ds → ds[i]? = some d → ∃ v, vs[i]? = some v ∧ Rep K γ v d
  | [], [], _, _, _, e => by simp at e
  | [], _ :: _, _, _, h, _ => by cases h.1
  | _ :: _, [], _, _, h, _ => by cases h.1
  | v :: vs, d :: ds, 0, x, h, e => by simp at e; subst e; exact ⟨v, rfl, h.head⟩
  | v :: vs, d :: ds, i + 1, x, h, e => by
    obtain ⟨w, e1, r⟩ := RepAll.get (i := i) (d := x) h.tail (by simpa using e)
    exact ⟨w, by simpa using e1, r⟩
theorem RepAll.getV : ∀ {vs : List V} {ds : List D} {i : Nat} {v : V}, RepAll K γ vs ds → vs[i]? = some v → ∃ d, ds[i]? = some d ∧ Rep K γ v d
  | [], [], _, _, _, e => by simp at e
  | [], _ :: _, _, _, h, _ => by cases h.1
  | _ :: _, [], _, _, h, _ => by cases h.1
  | v :: vs, d :: ds, 0, x, h, e => by simp at e; subst e; exact ⟨d, rfl, h.head⟩
  | v :: vs, d :: ds, i + 1, x, h, e => by
    obtain ⟨w, e1, r⟩ := RepAll.getV (i := i) (v := x) h.tail (by simpa using e)
    exact ⟨w, by simpa using e1, r⟩
theorem RepAll.append : ∀ {vs : List V} {ds : List D} {ws : List V} {es : List D}, RepAll K γ vs ds → RepAll K γ ws es → RepAll K γ (vs ++ ws) (ds ++ es)
  | [], [], _, _, _, t => t
  | [], _ :: _, _, _, h, _ => by cases h.1
  | _ :: _, [], _, _, h, _ => by cases h.1
  | v :: vs, d :: ds, _, _, h, t => .cons h.head (RepAll.append h.tail t)
theorem RepAll.take : ∀ {vs : List V} {ds : List D} (n : Nat), RepAll K γ vs ds → RepAll K γ (vs.take n) (ds.take n)
  | _, _, 0, _ => by simpa using .nil
  | [], [], _ + 1, _ => by simpa using .nil
  | [], _ :: _, _ + 1, h => by cases h.1
  | _ :: _, [], _ + 1, h => by cases h.1
  | v :: vs, d :: ds, n + 1, h => by simpa using RepAll.cons h.head (RepAll.take n h.tail)
theorem RepAll.drop : ∀ {vs : List V} {ds : List D} (n : Nat), RepAll K γ vs ds → RepAll K γ (vs.drop n) (ds.drop n)
  | _, _, 0, h => by simpa using h
  | [], [], _ + 1, _ => by simpa using .nil
  | [], _ :: _, _ + 1, h => by cases h.1
  | _ :: _, [], _ + 1, h => by cases h.1
  | v :: vs, d :: ds, n + 1, h => by simpa using RepAll.drop n h.tail
theorem RepAll.set {v : V} {d : D} (r : Rep K γ v d) : ∀ {vs : List V} {ds : List D} (n : Nat), RepAll K γ vs ds → RepAll K γ (vs.set n v) (ds.set n d)
  | [], [], _, h => by simpa using h
  | [], _ :: _, _, h => by cases h.1
  | _ :: _, [], _, h => by cases h.1
  | _ :: _, _ :: _, 0, h => by simpa using RepAll.cons r h.tail
  | _ :: _, _ :: _, n + 1, h => by simpa using RepAll.cons h.head (RepAll.set r n h.tail)
theorem Rep.tup {a : Addr} {vs : List V} {ds : List D} (h : TupAt K γ a vs) (r : RepAll K γ vs ds) : Rep K γ (.ref a) (.tuple ds) := ⟨.tup h r.1, trivial⟩
theorem Rep.lst {a : Addr} {vs : List V} {ds : List D} (h : γ a = some (.lst vs)) (r : RepAll K γ vs ds) : Rep K γ (.ref a) (.list ds) := ⟨.lst h r.1, trivial⟩
theorem Rep.ofTup {v : V} {ds : List D} (h : Rep K γ v (.tuple ds)) : ∃ a vs, v = .ref a ∧ TupAt K γ a vs ∧ RepAll K γ vs ds := by
  obtain ⟨h1, h2⟩ := h
  cases h1 with
  | tup a b => exact ⟨_, _, rfl, a, b, trivial⟩
theorem Rep.ofLst {v : V} {ds : List D} (h : Rep K γ v (.list ds)) : ∃ a vs, v = .ref a ∧ γ a = some (.lst vs) ∧ RepAll K γ vs ds := by
  obtain ⟨h1, h2⟩ := h
  cases h1 with
  | lst a b => exact ⟨_, _, rfl, a, b, trivial⟩
theorem Rep.ofInt {v : V} {i : Int} (h : Rep K γ v (.int i)) : v = .int i := by cases h.1; rfl
theorem Rep.ofBool {v : V} {i : Bool} (h : Rep K γ v (.bool i)) : v = .bl i := by cases h.1; rfl
theorem Rep.ofStr {v : V} {i : Str} (h : Rep K γ v (.str i)) : v = .str i := by cases h.1; rfl
theorem Rep.ofNone {v : V} (h : Rep K γ v .none) : v = .non := by cases h.1; rfl
theorem Rep.int {i : Int} : Rep K γ (.int i) (.int i) := ⟨.int _, trivial⟩
theorem Rep.bl {i : Bool} : Rep K γ (.bl i) (.bool i) := ⟨.bl _, trivial⟩
theorem Rep.non : Rep K γ .non .none := ⟨.non, trivial⟩
theorem Rep.str {i : Str} (h : PyData.strOk i = true) : Rep K γ (.str i) (.str i) := ⟨.str _ h, trivial⟩
theorem Rep.strOk {v : V} {i : Str} (h : Rep K γ v (.str i)) : PyData.strOk i = true := by cases h.1; assumption
theorem Rep.dct {a : Addr} {ks : List Str} {xs : List V} {ds : List D} (h : DkAt γ a (mergeK [] (kvOf ks xs))) (r : RepAll K γ xs ds) (e : KsOk ks ds) : Rep K γ (.ref a) (.dict (dkv ks ds)) := ⟨.dct h r.1 e rfl, trivial⟩
theorem Rep.ofDct {v : V} {kvs : List (D × D)} (h : Rep K γ v (.dict kvs)) : ∃ a ks xs ds, v = .ref a ∧ DkAt γ a (mergeK [] (kvOf ks xs)) ∧ RepAll K γ xs ds ∧ KsOk ks ds ∧ kvs = dkv ks ds := by
  obtain ⟨h1, h2⟩ := h
  cases h1 with
  | dct a b e1 e2 => exact ⟨_, _, _, _, rfl, a, ⟨b, trivial⟩, e1, e2⟩
end

theorem merge_keep : ∀ (ks : List Str) (vs : List V) (acc : List (Key × V)) (z : Str), z ∉ ks → valV (mergeK acc (kvOf ks vs)) (Sum.inr z : Key) = valV acc (Sum.inr z)
  | [], vs, acc, z, _ => by cases vs <;> rfl
  | x :: ks, [], acc, z, _ => rfl
  | x :: ks, v :: vs, acc, z, h => by
    have h1 : z ≠ x := fun e => h (by rw [e]; exact List.mem_cons_self)
    have h2 : z ∉ ks := fun e => h (List.mem_cons_of_mem _ e)
    show valV (mergeK (putK acc (Sum.inr x) v) (kvOf ks vs)) _ = _
    rw [merge_keep ks vs _ z h2, valV_put, if_neg (fun e => h1 (Sum.inr.inj e))]
theorem merge_get : ∀ (ks : List Str) (vs : List V) (acc : List (Key × V)) (z : Str) (v : V), ks.Nodup → (ks.zip vs).lookup z = some v → valV (mergeK acc (kvOf ks vs)) (Sum.inr z : Key) = some v
  | [], vs, acc, z, v, _, h => by cases vs <;> simp at h
  | x :: ks, [], acc, z, v, _, h => by simp at h
  | x :: ks, w :: vs, acc, z, v, nd, h => by
    obtain ⟨n1, n2⟩ := List.nodup_cons.mp nd
    show valV (mergeK (putK acc (Sum.inr x) w) (kvOf ks vs)) _ = _
    by_cases e : z = x
    · subst e
      simp only [List.zip_cons_cons, List.lookup_cons, beq_self_eq_true] at h
      cases h
      rw [merge_keep ks vs _ z n1, valV_put, if_pos rfl]
    · have hb : (z == x) = false := by simpa using e
      simp only [List.zip_cons_cons, List.lookup_cons, hb] at h
      exact merge_get ks vs _ z v n2 h
theorem look_rep {K : PySem.W.Frag} {γ : Hp} : ∀ {ks : List Str} {vs : List V} {ds : List D} {z : Str} {d : D}, RepAll K γ vs ds → (ks.zip ds).lookup z = some d → ∃ v, (ks.zip vs).lookup z = some v ∧ Rep K γ v d
  | [], vs, ds, z, d, _, h => by simp at h
  | x :: ks, [], [], z, d, _, h => by simp at h
  | x :: ks, [], _ :: _, z, d, r, h => by cases r.1
  | x :: ks, _ :: _, [], z, d, r, h => by cases r.1
  | x :: ks, v :: vs, dd :: ds, z, d, r, h => by
    cases e : z == x with
    | true =>
      simp only [List.zip_cons_cons, List.lookup_cons, e] at h ⊢
      cases h
      exact ⟨v, rfl, r.head⟩
    | false =>
      simp only [List.zip_cons_cons, List.lookup_cons, e] at h ⊢
      exact look_rep r.tail h
/-- a dict of data, looked into -/
def dlk : List (D × D) → Str → Option D
  | [], _ => none
  | (.str k, d) :: r, z => if z == k then some d else dlk r z
  | _ :: r, z => dlk r z
theorem dlk_dkv : ∀ (ks : List Str) (ds : List D) (z : Str), dlk (dkv ks ds) z = (ks.zip ds).lookup z
  | [], ds, z => by simp [dkv, dlk]
  | k :: ks, [], z => by simp [dkv, dlk]
  | k :: ks, d :: ds, z => by
    show (if z == k then some d else dlk (dkv ks ds) z) = ((k, d) :: ks.zip ds).lookup z
    rw [List.lookup_cons, dlk_dkv ks ds z]
    cases z == k <;> rfl
theorem zip_none {α : Type} {ks : List Str} {ds : List α} (hl : ks.length = ds.length) {z : Str} (h : (ks.zip ds).lookup z = none) : z ∉ ks := by
  intro hz
  induction ks generalizing ds with
  | nil => cases hz
  | cons k ks ih =>
    cases ds with
    | nil => simp at hl
    | cons d ds =>
      rw [List.zip_cons_cons, List.lookup_cons] at h
      cases e : z == k with
      | true => rw [e] at h; cases h
      | false =>
        rw [e] at h
        have hne : z ≠ k := by simpa using e
        rcases List.mem_cons.mp hz with q | q
        · exact hne q
        · exact ih (by simpa using hl) h q
/-- what stands at a key -/
theorem dct_get {K : PySem.W.Frag} {γ H : Hp} {a : Addr} {ks : List Str} {xs : List V} {ds : List D} (s : Same γ H) (h : DkAt γ a (mergeK [] (kvOf ks xs))) (r : RepAll K γ xs ds) (e : ks.Nodup ∧ ks.length = ds.length) (z : Str) :
    (∃ d v, dlk (dkv ks ds) z = some d ∧ Rep K γ v d ∧ DGet H a (.str z) (some v)) ∨ (dlk (dkv ks ds) z = none ∧ DGet H a (.str z) none) := by
  obtain ⟨oo, hH⟩ := h.mono s
  rw [dlk_dkv]
  cases q : (ks.zip ds).lookup z with
  | some d =>
    obtain ⟨v, hv, rv⟩ := look_rep r q
    exact .inl ⟨d, v, rfl, rv, .inl ⟨_, Sum.inr z, .inr ⟨oo, hH⟩, rfl, (merge_get ks xs [] z v e.1 hv).symm⟩⟩
  | none =>
    have hz := zip_none e.2 q
    exact .inr ⟨rfl, .inl ⟨_, Sum.inr z, .inr ⟨oo, hH⟩, rfl, by rw [merge_keep ks xs [] z hz]; rfl⟩⟩
/-! ### the state: γ is what stays as it is -/
def PoolAt (K : PySem.W.Frag) (γ H : Hp) (a : Addr) : Prop :=
  ∃ (c : Addr) (ns : List Int) (i j k l : Int), H a = some (.lst [.ref c, .int i, .int j, .int k, .int l]) ∧ SqL K γ c (ns.map V.int) ∧ 0 ≤ i
structure Stt (K : PySem.W.Frag) (p : Option Addr) (γ H : Hp) : Prop where
  sub : Same γ H
  pool : ∀ a, p = some a → γ a = none ∧ PoolAt K γ H a
structure Ext (K : PySem.W.Frag) (p : Option Addr) (γ H γ' H' : Hp) : Prop where
  gg : Same γ γ'
  new : ∀ a o, γ' a = some o → γ a = some o ∨ H a = none
  same : ∀ a o, p ≠ some a → H a = some o → H' a = some o
  st : Stt K p γ' H'
section
variable {K : PySem.W.Frag} {p : Option Addr} {γ γ' γ1 γ2 H H' H1 H2 H0 : Hp}
theorem Ext.refl (h : Stt K p γ H) : Ext K p γ H γ H := ⟨Same.refl _, fun _ _ q => .inl q, fun _ _ _ q => q, h⟩
theorem Ext.there (e : Ext K p γ H γ' H') (h : Stt K p γ H) {a : Addr} {o : HO} (q : H a = some o) : ∃ o', H' a = some o' := by
  by_cases hp : p = some a
  · obtain ⟨_, c, ns, i, j, k, l, e1, _⟩ := e.st.pool a hp
    exact ⟨_, e1⟩
  · exact ⟨o, e.same a o hp q⟩
theorem Ext.trans (h : Stt K p γ H) (a : Ext K p γ H γ1 H1) (b : Ext K p γ1 H1 γ2 H2) : Ext K p γ H γ2 H2 where
  gg := a.gg.trans b.gg
  new := fun c o q => by
    rcases b.new c o q with z | z
    · exact a.new c o z
    · cases e : H c with
      | none => exact .inr rfl
      | some o' =>
        obtain ⟨o2, e2⟩ := a.there h e
        rw [z] at e2; cases e2
  same := fun c o hp q => b.same c o hp (a.same c o hp q)
  st := b.st
theorem Stt.upd (h : Stt K p γ H) {a : Addr} {o : HO} (n : H a = none) : Stt K p (upd γ a o) (upd H a o) := by
  have ng : ∀ b o', γ b = some o' → b ≠ a := fun b o' q z => by
    have := h.sub b o' q
    rw [z, n] at this; cases this
  have sg : Same γ (L2.upd γ a o) := fun b o' q => by rw [upd_ne (ng b o' q)]; exact q
  refine ⟨fun b o' q => ?_, fun b hb => ?_⟩
  · by_cases hb : b = a
    · subst hb; rw [upd_same] at q ⊢; exact q
    · rw [upd_ne hb] at q ⊢; exact h.sub b o' q
  · obtain ⟨g, c, ns, i, j, k, l, e1, e2, e3⟩ := h.pool b hb
    have hb : b ≠ a := fun z => by rw [z, n] at e1; cases e1
    exact ⟨by rw [upd_ne hb]; exact g, c, ns, i, j, k, l, by rw [upd_ne hb]; exact e1, sg.seq e2, e3⟩
theorem Ext.upd (h : Stt K p γ H) {a : Addr} {o : HO} (n : H a = none) : Ext K p γ H (upd γ a o) (upd H a o) := by
  have ng : ∀ b o', γ b = some o' → b ≠ a := fun b o' q z => by
    have := h.sub b o' q
    rw [z, n] at this; cases this
  refine ⟨fun b o' q => by rw [upd_ne (ng b o' q)]; exact q, fun b o' q => ?_, fun b o' _ q => ?_, h.upd n⟩
  · by_cases hb : b = a
    · subst hb; exact .inr n
    · rw [upd_ne hb] at q; exact .inl q
  · rw [upd_ne (ne_of_none q n)]; exact q
/-- an object of ours laid that does not belong to what stays -/
theorem Ext.own (h : Stt K p γ H) {a : Addr} {o : HO} (n : H a = none) : Ext K p γ H γ (L2.upd H a o) := by
  have ng : ∀ b o', H b = some o' → b ≠ a := fun b o' q z => by rw [z, n] at q; cases q
  refine ⟨Same.refl _, fun b o' q => .inl q, fun b o' _ q => by rw [upd_ne (ng b o' q)]; exact q, ⟨fun b o' q => ?_, fun b hb => ?_⟩⟩
  · rw [upd_ne (ng b o' (h.sub b o' q))]; exact h.sub b o' q
  · obtain ⟨g, c, ns, i, j, k, l, e1, e2, e3⟩ := h.pool b hb
    exact ⟨g, c, ns, i, j, k, l, by rw [upd_ne (ng _ _ e1)]; exact e1, e2, e3⟩
/-- what is new joins what stays -/
theorem Ext.freeze (h : Stt K p γ H) (e : Ext K p γ H γ' H') {a : Addr} {o : HO} (n : H a = none) (q : H' a = some o) : Ext K p γ H (L2.upd γ' a o) H' := by
  have pa : ∀ b, p = some b → b ≠ a := fun b hb z => by
    obtain ⟨_, c, ns, i, j, k, l, e1, _⟩ := h.pool b hb
    rw [z, n] at e1; cases e1
  have sg : Same γ' (L2.upd γ' a o) := fun b o' q' => by
    by_cases hb : b = a
    · subst hb
      have := e.st.sub b o' q'
      rw [q] at this; cases this; exact upd_same
    · rw [upd_ne hb]; exact q'
  refine ⟨e.gg.trans sg, fun b o' q' => ?_, e.same, ⟨fun b o' q' => ?_, fun b hb => ?_⟩⟩
  · by_cases hb : b = a
    · subst hb; exact .inr n
    · rw [upd_ne hb] at q'; exact e.new b o' q'
  · by_cases hb : b = a
    · subst hb; rw [upd_same] at q'; cases q'; exact q
    · rw [upd_ne hb] at q'; exact e.st.sub b o' q'
  · obtain ⟨g, c, ns, i, j, k, l, e1, e2, e3⟩ := e.st.pool b hb
    exact ⟨by rw [upd_ne (pa b hb)]; exact g, c, ns, i, j, k, l, e1, sg.seq e2, e3⟩
end

/-! ### slots -/
inductive Sl where
  | un | val (d : D) | own (xs : List D) | pool | dic (kvs : List (Key × D))
/-- a dict's items, as data -/
def KVR (K : PySem.W.Frag) (γ : Hp) (ws : List (Key × V)) (ds : List (Key × D)) : Prop := ws.map (·.1) = ds.map (·.1) ∧ RepAll K γ (ws.map (·.2)) (ds.map (·.2))
theorem KVR.mono {K : PySem.W.Frag} {γ γ' : Hp} {ws : List (Key × V)} {ds : List (Key × D)} (h : KVR K γ ws ds) (s : Same γ γ') : KVR K γ' ws ds := ⟨h.1, h.2.mono s⟩
def SlotR (K : PySem.W.Frag) (p : Option Addr) (H0 γ H : Hp) (ov : Option V) : Sl → Prop
  | .un => True
  | .val d => ∃ v, ov = some v ∧ Rep K γ v d
  | .own xs => ∃ a vs, ov = some (.ref a) ∧ H a = some (.lst vs) ∧ γ a = none ∧ p ≠ some a ∧ H0 a = none ∧ RepAll K γ vs xs
  | .pool => ∃ a, ov = some (.ref a) ∧ p = some a
  | .dic kvs => ∃ a ws, ov = some (.ref a) ∧ H a = some (.dK ws) ∧ γ a = none ∧ p ≠ some a ∧ H0 a = none ∧ KVR K γ ws kvs ∧ (kvs.map (·.1)).Nodup ∧ ∀ z, (Sum.inr z : Key) ∈ kvs.map (·.1) → PyData.strOk z = true
structure EnvR (K : PySem.W.Frag) (p : Option Addr) (H0 γ H : Hp) (σ : St) (ρ : List Sl) : Prop where
  len : σ.length = ρ.length
  sl : ∀ (i : Nat) (s : Sl), ρ[i]? = some s → ∃ ov, σ[i]? = some ov ∧ SlotR K p H0 γ H ov s
  ap : ∀ (i j : Nat) (xs ys : List D), i ≠ j → ρ[i]? = some (.own xs) → ρ[j]? = some (.own ys) → σ[i]? ≠ σ[j]?
  apd : ∀ (i j : Nat) (xs ys : List (Key × D)), i ≠ j → ρ[i]? = some (.dic xs) → ρ[j]? = some (.dic ys) → σ[i]? ≠ σ[j]?
section
variable {K : PySem.W.Frag} {p : Option Addr} {γ γ' H H' H0 : Hp} {σ : St} {ρ : List Sl}
theorem SlotR.ext {ov : Option V} {s : Sl} (r : SlotR K p H0 γ H ov s) (e : Ext K p γ H γ' H') : SlotR K p H0 γ' H' ov s := by
  cases s with
  | un => trivial
  | val d => obtain ⟨v, e1, r1⟩ := r; exact ⟨v, e1, r1.mono e.gg⟩
  | own xs =>
    obtain ⟨a, vs, e1, e2, e3, e4, e5, r1⟩ := r
    refine ⟨a, vs, e1, e.same a _ e4 e2, ?_, e4, e5, r1.mono e.gg⟩
    cases q : γ' a with
    | none => rfl
    | some o =>
      rcases e.new a o q with z | z
      · rw [e3] at z; cases z
      · rw [e2] at z; cases z
  | dic kvs =>
    obtain ⟨a, vs, e1, e2, e3, e4, e5, r1, nd⟩ := r
    refine ⟨a, vs, e1, e.same a _ e4 e2, ?_, e4, e5, r1.mono e.gg, nd.1, nd.2⟩
    cases q : γ' a with
    | none => rfl
    | some o =>
      rcases e.new a o q with z | z
      · rw [e3] at z; cases z
      · rw [e2] at z; cases z
  | pool => exact r
theorem EnvR.ext (r : EnvR K p H0 γ H σ ρ) (e : Ext K p γ H γ' H') : EnvR K p H0 γ' H' σ ρ :=
  ⟨r.len, fun i s q => let ⟨ov, e1, z⟩ := r.sl i s q; ⟨ov, e1, z.ext e⟩, r.ap, r.apd⟩
theorem EnvR.val (r : EnvR K p H0 γ H σ ρ) {i : Nat} {d : D} (h : ρ[i]? = some (.val d)) : ∃ v, σ[i]? = some (some v) ∧ Rep K γ v d := by
  obtain ⟨ov, e1, v, e2, z⟩ := r.sl i _ h
  subst e2
  exact ⟨v, e1, z⟩
theorem EnvR.set (r : EnvR K p H0 γ H σ ρ) {i : Nat} {v : V} {s : Sl} (z : SlotR K p H0 γ H (some v) s) (no : ∀ xs, s = .own xs → ∀ (j : Nat) (ys : List D), j ≠ i → ρ[j]? = some (.own ys) → σ[j]? ≠ some (some v))
    (nd : ∀ xs, s = .dic xs → ∀ (j : Nat) (ys : List (Key × D)), j ≠ i → ρ[j]? = some (.dic ys) → σ[j]? ≠ some (some v) := by intro _ e; cases e) : EnvR K p H0 γ H (σ.set i (some v)) (ρ.set i s) := by
  refine ⟨by simp [r.len], fun j t q => ?_, fun j k xs ys hjk q1 q2 => ?_, fun j k xs ys hjk q1 q2 => ?_⟩
  · by_cases hj : i = j
    · subst hj
      by_cases hl : i < ρ.length
      · rw [List.getElem?_set_self hl] at q; cases q
        exact ⟨_, List.getElem?_set_self (by rw [r.len]; exact hl), z⟩
      · rw [List.getElem?_eq_none (by simpa using hl)] at q; cases q
    · rw [List.getElem?_set_ne hj] at q
      obtain ⟨ov, e1, z1⟩ := r.sl j t q
      exact ⟨ov, by rw [List.getElem?_set_ne hj]; exact e1, z1⟩
  · by_cases hj : i = j
    · subst hj
      have hl : i < ρ.length := by
        by_cases hl : i < ρ.length
        · exact hl
        · rw [List.getElem?_eq_none (by simpa using hl)] at q1; cases q1
      rw [List.getElem?_set_self hl] at q1
      rw [List.getElem?_set_ne hjk] at q2
      rw [List.getElem?_set_self (by rw [r.len]; exact hl), List.getElem?_set_ne hjk]
      exact fun e => no xs (Option.some.inj q1) k ys (Ne.symm hjk) q2 e.symm
    · rw [List.getElem?_set_ne hj] at q1
      by_cases hk : i = k
      · subst hk
        have hl : i < ρ.length := by
          by_cases hl : i < ρ.length
          · exact hl
          · rw [List.getElem?_eq_none (by simpa using hl)] at q2; cases q2
        rw [List.getElem?_set_self hl] at q2
        rw [List.getElem?_set_self (by rw [r.len]; exact hl), List.getElem?_set_ne hj]
        exact no ys (Option.some.inj q2) j xs (Ne.symm hj) q1
      · rw [List.getElem?_set_ne hk] at q2
        rw [List.getElem?_set_ne hj, List.getElem?_set_ne hk]
        exact r.ap j k xs ys hjk q1 q2
  · by_cases hj : i = j
    · subst hj
      have hl : i < ρ.length := by
        by_cases hl : i < ρ.length
        · exact hl
        · rw [List.getElem?_eq_none (by simpa using hl)] at q1; cases q1
      rw [List.getElem?_set_self hl] at q1
      rw [List.getElem?_set_ne hjk] at q2
      rw [List.getElem?_set_self (by rw [r.len]; exact hl), List.getElem?_set_ne hjk]
      exact fun e => nd xs (Option.some.inj q1) k ys (Ne.symm hjk) q2 e.symm
    · rw [List.getElem?_set_ne hj] at q1
      by_cases hk : i = k
      · subst hk
        have hl : i < ρ.length := by
          by_cases hl : i < ρ.length
          · exact hl
          · rw [List.getElem?_eq_none (by simpa using hl)] at q2; cases q2
        rw [List.getElem?_set_self hl] at q2
        rw [List.getElem?_set_self (by rw [r.len]; exact hl), List.getElem?_set_ne hj]
        exact nd ys (Option.some.inj q2) j xs (Ne.symm hj) q1
      · rw [List.getElem?_set_ne hk] at q2
        rw [List.getElem?_set_ne hj, List.getElem?_set_ne hk]
        exact r.apd j k xs ys hjk q1 q2
theorem EnvR.setVal (r : EnvR K p H0 γ H σ ρ) {i : Nat} {v : V} {d : D} (z : Rep K γ v d) : EnvR K p H0 γ H (σ.set i (some v)) (ρ.set i (.val d)) :=
  r.set ⟨v, rfl, z⟩ (fun _ e => by cases e)
/-- the own list of slot i joins what stays -/
theorem EnvR.freeze (r : EnvR K p H0 γ H σ ρ) (st : Stt K p γ H) {i : Nat} {xs : List D} (h : ρ[i]? = some (.own xs)) :
    ∃ a vs, H a = some (.lst vs) ∧ H0 a = none ∧ Stt K p (upd γ a (.lst vs)) H ∧ Same γ (upd γ a (.lst vs)) ∧ EnvR K p H0 (upd γ a (.lst vs)) H σ (ρ.set i (.val (.list xs))) := by
  obtain ⟨ov, e0, a, vs, e1, e2, e3, e4, e5, r1⟩ := r.sl i _ h
  have sg : Same γ (upd γ a (.lst vs)) := fun b o q => by
    have hb : b ≠ a := fun z => by rw [z, e3] at q; cases q
    rw [upd_ne hb]; exact q
  have hl : i < ρ.length := (List.getElem?_eq_some_iff.mp h).1
  refine ⟨a, vs, e2, e5, ⟨fun b o q => ?_, fun b hb => ?_⟩, sg, ⟨by simp [r.len], fun j t q => ?_, fun j k ys zs hjk q1 q2 => ?_, fun j k ys zs hjk q1 q2 => ?_⟩⟩
  · by_cases hb : b = a
    · subst hb; rw [upd_same] at q; cases q; exact e2
    · rw [upd_ne hb] at q; exact st.sub b o q
  · obtain ⟨g, c, ns, i', j', k', l', f1, f2, f3⟩ := st.pool b hb
    have hb : b ≠ a := fun z => e4 (by rw [hb, z])
    exact ⟨by rw [upd_ne hb]; exact g, c, ns, i', j', k', l', f1, sg.seq f2, f3⟩
  · by_cases hj : i = j
    · subst hj
      rw [List.getElem?_set_self hl] at q; cases q
      exact ⟨ov, e0, .ref a, e1, Rep.lst upd_same (r1.mono sg)⟩
    · rw [List.getElem?_set_ne hj] at q
      obtain ⟨ov', f0, z⟩ := r.sl j t q
      refine ⟨ov', f0, ?_⟩
      cases t with
      | un => trivial
      | val d => obtain ⟨v, g1, g2⟩ := z; exact ⟨v, g1, g2.mono sg⟩
      | own ys =>
        obtain ⟨b, ws, g1, g2, g3, g4, g5, g6⟩ := z
        have hb : b ≠ a := fun z => r.ap i j xs ys hj h q (by rw [e0, f0, e1, g1, z])
        exact ⟨b, ws, g1, g2, by rw [upd_ne hb]; exact g3, g4, g5, g6.mono sg⟩
      | dic ys =>
        obtain ⟨b, ws, g1, g2, g3, g4, g5, g6, g7⟩ := z
        have hb : b ≠ a := fun z => by rw [z, e2] at g2; cases g2
        exact ⟨b, ws, g1, g2, by rw [upd_ne hb]; exact g3, g4, g5, g6.mono sg, g7⟩
      | pool => exact z
  · by_cases hj : i = j
    · subst hj; rw [List.getElem?_set_self hl] at q1; cases q1
    · rw [List.getElem?_set_ne hj] at q1
      by_cases hk : i = k
      · subst hk; rw [List.getElem?_set_self hl] at q2; cases q2
      · rw [List.getElem?_set_ne hk] at q2
        exact r.ap j k ys zs hjk q1 q2
  · by_cases hj : i = j
    · subst hj; rw [List.getElem?_set_self hl] at q1; cases q1
    · rw [List.getElem?_set_ne hj] at q1
      by_cases hk : i = k
      · subst hk; rw [List.getElem?_set_self hl] at q2; cases q2
      · rw [List.getElem?_set_ne hk] at q2
        exact r.apd j k ys zs hjk q1 q2
/-- a dict's keys, all texts -/
def txK : List (Key × D) → Option (List Str)
  | [] => some []
  | (.inr s, _) :: r => (txK r).map (s :: ·)
  | (.inl _, _) :: _ => none
theorem txK_keys : ∀ {kvs : List (Key × D)} {ks : List Str}, txK kvs = some ks → kvs.map (·.1) = ks.map Sum.inr
  | [], ks, h => by cases h; rfl
  | (.inr s, d) :: r, ks, h => by
    cases e : txK r with
    | none => simp [txK, e] at h
    | some l =>
      have h' : s :: l = ks := by simpa [txK, e] using h
      subst h'
      simp [txK_keys e]
  | (.inl _, _) :: _, ks, h => by cases h
theorem merge_nd : ∀ (more acc : List (Key × V)), ((acc ++ more).map (·.1)).Nodup → mergeK acc more = acc ++ more
  | [], acc, _ => by simp [mergeK]
  | kv :: more, acc, h => by
    have hn : valV acc kv.1 = none := by
      cases e : valV acc kv.1 with
      | none => rfl
      | some v =>
        have hm : kv.1 ∈ acc.map (·.1) := by
          unfold valV at e
          cases f : acc.find? (fun z => decide (z.1 = kv.1)) with
          | none => rw [f] at e; cases e
          | some z =>
            have h1 := List.find?_some f
            have h2 := List.mem_of_find?_eq_some f
            exact List.mem_map.mpr ⟨z, h2, by simpa using h1⟩
        rw [List.map_append, List.map_cons, List.nodup_append] at h
        exact absurd rfl (h.2.2 _ hm _ List.mem_cons_self)
    have e : mergeK acc (kv :: more) = mergeK (putK acc kv.1 kv.2) more := rfl
    rw [e, putK_new kv.2 hn, merge_nd more (acc ++ [(kv.1, kv.2)]) (by rw [List.append_assoc]; exact h), List.append_assoc]
    rfl
theorem kv_zip : ∀ {ks : List Str} {ws : List (Key × V)}, ws.map (·.1) = ks.map Sum.inr → ws = kvOf ks (ws.map (·.2))
  | [], [], _ => rfl
  | [], _ :: _, h => by cases h
  | _ :: _, [], h => by cases h
  | k :: ks, w :: ws, h => by
    have h' : w.1 = Sum.inr k ∧ ws.map (·.1) = ks.map Sum.inr := by simpa using h
    have e := kv_zip h'.2
    unfold kvOf at e ⊢
    rw [List.map_cons, List.zip_cons_cons, List.map_cons, ← e, ← h'.1]
/-- the own dict of slot i joins what stays -/
theorem EnvR.freezeD (r : EnvR K p H0 γ H σ ρ) (st : Stt K p γ H) {i : Nat} {xs : List (Key × D)} {ks : List Str} (h : ρ[i]? = some (.dic xs)) (hk : txK xs = some ks) {al : Addr} {vl : List (Key × V)} (oa : H al = some (.dK vl)) (hs : σ[i]? = some (some (.ref al))) (od : Obj) :
    γ al = none ∧ H0 al = none ∧ Stt K p (upd γ al (.frz od (.dK vl))) (upd H al (.frz od (.dK vl))) ∧ Same γ (upd γ al (.frz od (.dK vl))) ∧ EnvR K p H0 (upd γ al (.frz od (.dK vl))) (upd H al (.frz od (.dK vl))) σ (ρ.set i (.val (.dict (dkv ks (xs.map (·.2)))))) := by
  obtain ⟨ov, e0, a, vs, e1, e2, e3, e4, e5, r1, nd, ntx⟩ := r.sl i _ h
  have ea : a = al := by
    rw [hs] at e0
    cases e0; cases e1; rfl
  subst ea
  have ev : vs = vl := by rw [e2] at oa; cases oa; rfl
  subst ev
  have hks := txK_keys hk
  have hvs : vs = mergeK [] (kvOf ks (vs.map (·.2))) := by
    rw [merge_nd _ [] (by rw [List.nil_append, ← kv_zip (r1.1.trans hks), r1.1]; exact nd), List.nil_append]
    exact kv_zip (r1.1.trans hks)
  have hnd : ks.Nodup := by
    rw [hks] at nd
    exact (List.pairwise_map.mp nd).imp fun h z => h (by rw [z])
  have hlen : ks.length = (xs.map (·.2)).length := by
    have := congrArg List.length hks
    simpa using this.symm
  have htx : ∀ k ∈ ks, PyData.strOk k = true := fun k hk => ntx k (by rw [hks]; exact List.mem_map.mpr ⟨k, hk, rfl⟩)
  have sg : Same γ (upd γ a (.frz od (.dK vs))) := fun b o q => by
    have hb : b ≠ a := fun z => by rw [z, e3] at q; cases q
    rw [upd_ne hb]; exact q
  have hl : i < ρ.length := (List.getElem?_eq_some_iff.mp h).1
  refine ⟨e3, e5, ⟨fun b o q => ?_, fun b hb => ?_⟩, sg, ⟨by simp [r.len], fun j t q => ?_, fun j k ys zs hjk q1 q2 => ?_, fun j k ys zs hjk q1 q2 => ?_⟩⟩
  · by_cases hb : b = a
    · subst hb; rw [upd_same] at q ⊢; exact q
    · rw [upd_ne hb] at q ⊢; exact st.sub b o q
  · obtain ⟨g, c, ns, i', j', k', l', f1, f2, f3⟩ := st.pool b hb
    have hb : b ≠ a := fun z => e4 (by rw [hb, z])
    exact ⟨by rw [upd_ne hb]; exact g, c, ns, i', j', k', l', by rw [upd_ne hb]; exact f1, sg.seq f2, f3⟩
  · by_cases hj : i = j
    · subst hj
      rw [List.getElem?_set_self hl] at q; cases q
      exact ⟨ov, e0, .ref a, e1, Rep.dct ⟨od, by rw [← hvs]; exact upd_same⟩ (r1.2.mono sg) ⟨⟨hnd, hlen⟩, htx⟩⟩
    · rw [List.getElem?_set_ne hj] at q
      obtain ⟨ov', f0, z⟩ := r.sl j t q
      refine ⟨ov', f0, ?_⟩
      cases t with
      | un => trivial
      | val d => obtain ⟨v, g1, g2⟩ := z; exact ⟨v, g1, g2.mono sg⟩
      | own ys =>
        obtain ⟨b, ws, g1, g2, g3, g4, g5, g6⟩ := z
        have hb : b ≠ a := fun z => by rw [z, e2] at g2; cases g2
        exact ⟨b, ws, g1, by rw [upd_ne hb]; exact g2, by rw [upd_ne hb]; exact g3, g4, g5, g6.mono sg⟩
      | dic ys =>
        obtain ⟨b, ws, g1, g2, g3, g4, g5, g6, g7⟩ := z
        have hb : b ≠ a := fun z => r.apd i j xs ys hj h q (by rw [e0, f0, e1, g1, z])
        exact ⟨b, ws, g1, by rw [upd_ne hb]; exact g2, by rw [upd_ne hb]; exact g3, g4, g5, g6.mono sg, g7⟩
      | pool => exact z
  · by_cases hj : i = j
    · subst hj; rw [List.getElem?_set_self hl] at q1; cases q1
    · rw [List.getElem?_set_ne hj] at q1
      by_cases hk : i = k
      · subst hk; rw [List.getElem?_set_self hl] at q2; cases q2
      · rw [List.getElem?_set_ne hk] at q2
        exact r.ap j k ys zs hjk q1 q2
  · by_cases hj : i = j
    · subst hj; rw [List.getElem?_set_self hl] at q1; cases q1
    · rw [List.getElem?_set_ne hj] at q1
      by_cases hk : i = k
      · subst hk; rw [List.getElem?_set_self hl] at q2; cases q2
      · rw [List.getElem?_set_ne hk] at q2
        exact r.apd j k ys zs hjk q1 q2
/-- slots forgotten -/
def wipeR (ρ : List Sl) : List Nat → List Sl
  | [] => ρ
  | v :: vs => (wipeR ρ vs).set v .un
theorem EnvR.unset (r : EnvR K p H0 γ H σ ρ) (i : Nat) (ov : Option V) : EnvR K p H0 γ H (σ.set i ov) (ρ.set i .un) := by
  refine ⟨by simp [r.len], fun j t q => ?_, fun j k xs ys hjk q1 q2 => ?_, fun j k xs ys hjk q1 q2 => ?_⟩
  · by_cases hj : i = j
    · subst hj
      by_cases hl : i < ρ.length
      · rw [List.getElem?_set_self hl] at q; cases q
        exact ⟨_, List.getElem?_set_self (by rw [r.len]; exact hl), trivial⟩
      · rw [List.getElem?_eq_none (by simpa using hl)] at q; cases q
    · rw [List.getElem?_set_ne hj] at q
      obtain ⟨ov', e1, z1⟩ := r.sl j t q
      exact ⟨ov', by rw [List.getElem?_set_ne hj]; exact e1, z1⟩
  · have hj : i ≠ j := fun hj => by
      subst hj
      have hl : i < ρ.length := by
        by_cases hl : i < ρ.length
        · exact hl
        · rw [List.getElem?_eq_none (by simpa using hl)] at q1; cases q1
      rw [List.getElem?_set_self hl] at q1; cases q1
    have hk : i ≠ k := fun hj => by
      subst hj
      have hl : i < ρ.length := by
        by_cases hl : i < ρ.length
        · exact hl
        · rw [List.getElem?_eq_none (by simpa using hl)] at q2; cases q2
      rw [List.getElem?_set_self hl] at q2; cases q2
    rw [List.getElem?_set_ne hj] at q1
    rw [List.getElem?_set_ne hk] at q2
    rw [List.getElem?_set_ne hj, List.getElem?_set_ne hk]
    exact r.ap j k xs ys hjk q1 q2
  · have hj : i ≠ j := fun hj => by
      subst hj
      have hl : i < ρ.length := by
        by_cases hl : i < ρ.length
        · exact hl
        · rw [List.getElem?_eq_none (by simpa using hl)] at q1; cases q1
      rw [List.getElem?_set_self hl] at q1; cases q1
    have hk : i ≠ k := fun hj => by
      subst hj
      have hl : i < ρ.length := by
        by_cases hl : i < ρ.length
        · exact hl
        · rw [List.getElem?_eq_none (by simpa using hl)] at q2; cases q2
      rw [List.getElem?_set_self hl] at q2; cases q2
    rw [List.getElem?_set_ne hj] at q1
    rw [List.getElem?_set_ne hk] at q2
    rw [List.getElem?_set_ne hj, List.getElem?_set_ne hk]
    exact r.apd j k xs ys hjk q1 q2
theorem EnvR.wipe (r : EnvR K p H0 γ H σ ρ) : ∀ vs : List Nat, EnvR K p H0 γ H (wipe σ vs) (wipeR ρ vs)
  | [] => r
  | v :: vs => (EnvR.wipe r vs).unset v none
end

/-! ### readings -/
/-- how an exception of ours stands: its class, its own dict -/
def ExcR (mg : Str → Option Value) (x : Exc) (c : Value) (dd : Option Addr) (H : Hp) : Prop :=
  ∃ C, mg x.cls = some (.ref C) ∧ c = .ref C ∧ x.flds = [] ∧ dd = none
section
variable (K : PySem.W.Frag) (mg : Str → Option Value) (Wx : WX)
def Post (p : Option Addr) (γ H : Hp) (Q : VK) : D → Prop := fun d => ∀ γ' H' v, Ext K p γ H γ' H' → Rep K γ' v d → Q v H'
def PostB (p : Option Addr) (γ H : Hp) (Q : Bool → Hp → Prop) : Bool → Prop := fun b => ∀ γ' H', Ext K p γ H γ' H' → Q b H'
/-- a fresh list -/
def PostF (p : Option Addr) (γ H : Hp) (Q : VK) : List D → Prop := fun xs => ∀ γ' H' a vs, Ext K p γ H γ' H' → H a = none → γ' a = none → H' a = some (.lst vs) → RepAll K γ' vs xs → Q (.ref a) H'
def ExW (p : Option Addr) (γ H : Hp) (σ : St) : Exc → Prop := fun x => ∀ γ' H' c dd, Ext K p γ H γ' H' → ExcR mg x c dd H' → Wx c dd σ H'
/-- what may be read: what stays, or a list of ours as it stands -/
def Ct (p : Option Addr) (γ H : Hp) (v : V) (d : D) : Prop := Rep K γ v d ∨ ∃ a vs xs, v = .ref a ∧ d = .list xs ∧ H a = some (.lst vs) ∧ p ≠ some a ∧ RepAll K γ vs xs
def PostC (p : Option Addr) (γ H : Hp) (Q : VK) : D → Prop := fun d => ∀ γ' H' v, Ext K p γ H γ' H' → Ct K p γ' H' v d → Q v H'

def RdE (m : List Sl → W Exc D) : TE := fun σ H Q => ∃ p H0 γ ρ, Stt K p γ H ∧ EnvR K p H0 γ H σ ρ ∧ (m ρ).run (Post K p γ H Q) (ExW K mg Wx p γ H σ)
def RdO (m : List Sl → W Exc D) : TE := fun σ H Q => ∃ p H0 γ ρ, Stt K p γ H ∧ EnvR K p H0 γ H σ ρ ∧ (m ρ).run (PostC K p γ H Q) (ExW K mg Wx p γ H σ)
def RdF (m : List Sl → W Exc (List D)) : TE := fun σ H Q => ∃ p H0 γ ρ, Stt K p γ H ∧ EnvR K p H0 γ H σ ρ ∧ (m ρ).run (PostF K p γ H Q) (ExW K mg Wx p γ H σ)
def RdT (m : List Sl → W Exc Bool) : TT := fun σ H Q => ∃ p H0 γ ρ, Stt K p γ H ∧ EnvR K p H0 γ H σ ρ ∧ (m ρ).run (PostB K p γ H Q) (ExW K mg Wx p γ H σ)
end
theorem Ct.mono {K : PySem.W.Frag} {p : Option Addr} {γ H γ' H' : Hp} {v : V} {d : D} (c : Ct K p γ H v d) (e : Ext K p γ H γ' H') : Ct K p γ' H' v d := by
  rcases c with c | ⟨a, vs, xs, e1, e2, e3, e4, e5⟩
  · exact .inl (c.mono e.gg)
  · exact .inr ⟨a, vs, xs, e1, e2, e.same _ _ e4 e3, e4, e5.mono e.gg⟩
theorem Ct.dp {K : PySem.W.Frag} {p : Option Addr} {γ H : Hp} {v : V} {d : D} (c : Ct K p γ H v d) (s : Stt K p γ H) : Rep K H v d := by
  rcases c with c | ⟨a, vs, xs, rfl, rfl, e3, e4, e5⟩
  · exact c.mono s.sub
  · exact .lst e3 (e5.mono s.sub)
end Ev

/-! Ev2: rules over data. -/
namespace Ev
open PySem PySem.Spec PyProof.Rows L2

/-! ### a reading is weakened -/
section
variable {X : Cx} {e : Expr} {es : List Expr} {st : Stmt} {sts : List Stmt}
theorem pe_of {t t' : TE} (h : PE X e t) (k : ∀ σ H Q, t' σ H Q → t σ H Q) : PE X e t' := ⟨fun pins s σ H Q I q => h.run pins s σ H Q I (k _ _ _ q)⟩
/-- an object of ours locked behind a value -/
theorem pe_lockZ {t : TE} (h : PE X e t) : PE X e (fun σ H Q => t σ H fun v H' => ∃ d u, H' d = some u ∧ Mut (some u) ∧ ∀ od, Q v (upd H' d (.frz od u))) := ⟨fun pins s σ H Q I q => thn (h.run pins s σ H _ I q) fun v s1 ⟨x, H1, I1, rx, d, u, hd, mu, q1⟩ => by
  obtain ⟨od, I2⟩ := I1.lock hd mu
  exact ⟨x, _, I2, rx, q1 od⟩⟩
/-- .. ahead of a statement, or none -/
theorem ps_lockZ {t : TS} (h : PS X st t) : PS X st (fun D σ H => t D σ H ∨ ∃ d u, H d = some u ∧ Mut (some u) ∧ ∀ od, t D σ (upd H d (.frz od u))) := ⟨fun pins s σ H D I q => by
  rcases q with q | ⟨d, u, hd, mu, q⟩
  · exact h.run pins s σ H D I q
  · obtain ⟨od, I2⟩ := I.lock hd mu
    exact h.run pins s σ _ D I2 (q od)⟩
theorem pt_of {t t' : TT} (h : PT X e t) (k : ∀ σ H Q, t' σ H Q → t σ H Q) : PT X e t' := ⟨fun pins s σ H Q I q => h.run pins s σ H Q I (k _ _ _ q)⟩
theorem pw_of {t t' : TT} (h : PW X e t) (k : ∀ σ H Q, t' σ H Q → t σ H Q) : PW X e t' := ⟨fun wh pins s σ H Q I q => h.run wh pins s σ H Q I (k _ _ _ q)⟩
theorem pa_of {t t' : TA} (h : PA X es t) (k : ∀ σ H Q, t' σ H Q → t σ H Q) : PA X es t' := ⟨fun pos pins s σ H Q I q => h.run pos pins s σ H Q I (k _ _ _ q)⟩
theorem ps_of {t t' : TS} (h : PS X st t) (k : ∀ D σ H, t' D σ H → t D σ H) : PS X st t' := ⟨fun pins s σ H D I q => h.run pins s σ H D I (k _ _ _ q)⟩
theorem pss_of {t t' : TS} (h : PSs X sts t) (k : ∀ D σ H, t' D σ H → t D σ H) : PSs X sts t' := ⟨fun pins s σ H D I q => h.run pins s σ H D I (k _ _ _ q)⟩
end

/-! ### posts move along -/
section
variable {K : PySem.W.Frag} {mg : Str → Option Value} {Wx : WX} {p : Option Addr} {γ γ' γ1 H H' H1 : Hp} {σ : St}
theorem Post.ext {Q : VK} {d : D} (h : Post K p γ H Q d) (st : Stt K p γ H) (e : Ext K p γ H γ1 H1) : Post K p γ1 H1 Q d := fun γ' H' v e' r => h γ' H' v (Ext.trans st e e') r
theorem PostB.ext {Q : Bool → Hp → Prop} {d : Bool} (h : PostB K p γ H Q d) (st : Stt K p γ H) (e : Ext K p γ H γ1 H1) : PostB K p γ1 H1 Q d := fun γ' H' e' => h γ' H' (Ext.trans st e e')
theorem PostC.ext {Q : VK} {d : D} (h : PostC K p γ H Q d) (st : Stt K p γ H) (e : Ext K p γ H γ1 H1) : PostC K p γ1 H1 Q d := fun γ' H' v e' r => h γ' H' v (Ext.trans st e e') r
theorem PostF.ext {Q : VK} {d : List D} (h : PostF K p γ H Q d) (st : Stt K p γ H) (e : Ext K p γ H γ1 H1) : PostF K p γ1 H1 Q d := fun γ' H' a vs e' n n' q r =>
  h γ' H' a vs (Ext.trans st e e') (by
    cases z : H a with
    | none => rfl
    | some o =>
      obtain ⟨o', z'⟩ := e.there st z
      rw [n] at z'; cases z') n' q r
theorem ExW.ext {x : Exc} (h : ExW K mg Wx p γ H σ x) (st : Stt K p γ H) (e : Ext K p γ H γ1 H1) : ExW K mg Wx p γ1 H1 σ x := fun γ' H' c dd e' r => h γ' H' c dd (Ext.trans st e e') r
/-- what comes of scalars -/
theorem Post.int {Q : VK} {i : Int} (h : Post K p γ H Q (.int i)) (st : Stt K p γ H) : Q (.int i) H := h γ H _ (.refl st) .int
theorem Post.bool {Q : VK} {i : Bool} (h : Post K p γ H Q (.bool i)) (st : Stt K p γ H) : Q (.bl i) H := h γ H _ (.refl st) .bl
theorem Post.str {Q : VK} {i : Str} (h : Post K p γ H Q (.str i)) (st : Stt K p γ H) (ok : PyData.strOk i = true) : Q (.str i) H := h γ H _ (.refl st) (.str ok)
theorem Post.non {Q : VK} (h : Post K p γ H Q .none) (st : Stt K p γ H) : Q .non H := h γ H _ (.refl st) .non
theorem Post.here {Q : VK} {d : D} {v : V} (h : Post K p γ H Q d) (st : Stt K p γ H) (r : Rep K γ v d) : Q v H := h γ H v (.refl st) r
/-- a new tuple -/
theorem Post.tup {Q : VK} {ds : List D} {vs : List V} (h : Post K p γ H Q (.tuple ds)) (st : Stt K p γ H) (r : RepAll K γ vs ds) : ∀ (a : Addr) (o : Obj), o.dict = none → H a = none → Q (.ref a) (upd H a (.frz o (.tup vs))) := fun a o od n => by
  have e : Ext K p γ H (upd γ a (.frz o (.tup vs))) (upd H a (.frz o (.tup vs))) := .upd st n
  exact h _ _ _ e (Rep.tup (.inl ⟨o, upd_same, od⟩) (r.mono e.gg))
/-- a new list -/
theorem Post.lst {Q : VK} {ds : List D} {vs : List V} (h : Post K p γ H Q (.list ds)) (st : Stt K p γ H) (r : RepAll K γ vs ds) : ∀ (a : Addr), H a = none → Q (.ref a) (upd H a (.lst vs)) := fun a n => by
  have e : Ext K p γ H (upd γ a (.lst vs)) (upd H a (.lst vs)) := .upd st n
  exact h _ _ _ e (Rep.lst upd_same (r.mono e.gg))
/-- .. ours -/
theorem PostF.lst {Q : VK} {ds : List D} {vs : List V} (h : PostF K p γ H Q ds) (st : Stt K p γ H) (r : RepAll K γ vs ds) : ∀ (a : Addr), H a = none → Q (.ref a) (upd H a (.lst vs)) := fun a n => by
  have ng : γ a = none := by
    cases z : γ a with
    | none => rfl
    | some o => have := st.sub a o z; rw [n] at this; cases this
  exact h γ _ a vs (.own st n) n ng upd_same r
end

/-! ### contexts: from one reading to the other -/
section
variable {X : Cx} {Wx : WX} {e : Expr}
abbrev TEe (X : Cx) (Wx : WX) (m : List Sl → W Exc D) : TE := RdE X.K X.mg Wx m
abbrev TEo (X : Cx) (Wx : WX) (m : List Sl → W Exc D) : TE := RdO X.K X.mg Wx m
abbrev TEf (X : Cx) (Wx : WX) (m : List Sl → W Exc (List D)) : TE := RdF X.K X.mg Wx m
abbrev TTt (X : Cx) (Wx : WX) (m : List Sl → W Exc Bool) : TT := RdT X.K X.mg Wx m
/-- what is clean may be read -/
theorem pe_EO {m : List Sl → W Exc D} (h : PE X e (TEe X Wx m)) : PE X e (TEo X Wx m) := pe_of h fun σ H Q ⟨p, H0, γ, ρ, st, er, hm⟩ =>
  ⟨p, H0, γ, ρ, st, er, (m ρ).mono (fun d q γ' H' v x r => q γ' H' v x (.inl r)) (fun _ q => q) hm⟩
/-- a fresh list joins what stays -/
theorem pe_FE {m : List Sl → W Exc (List D)} (h : PE X e (TEf X Wx m)) : PE X e (TEe X Wx fun ρ => (m ρ).bind fun xs => .ret (.list xs)) := pe_of h fun σ H Q ⟨p, H0, γ, ρ, st, er, hm⟩ =>
  ⟨p, H0, γ, ρ, st, er, (m ρ).mono (fun xs q γ' H' a vs x n n' hq r =>
    q _ _ _ (Ext.freeze st x n hq) (Rep.lst upd_same (r.mono (fun b o z => by
      have hb : b ≠ a := fun w => by rw [w, n'] at z; cases z
      rw [upd_ne hb]; exact z)))) (fun _ q => q) hm⟩
end

/-! ### operations of two -/
/-- op is what r is, over data -/
def Br2 (K : PySem.W.Frag) (op : D → D → W Exc D) (r : R2) : Prop :=
  ∀ (p : Option Addr) (γ H : Hp) (x y : V) (d e : D) (Q : VK) (XX : Exc → Prop), Stt K p γ H → Ct K p γ H x d → Ct K p γ H y e → (op d e).run (Post K p γ H Q) XX → r x y H Q
def Br2F (K : PySem.W.Frag) (op : D → D → W Exc (List D)) (r : R2) : Prop :=
  ∀ (p : Option Addr) (γ H : Hp) (x y : V) (d e : D) (Q : VK) (XX : Exc → Prop), Stt K p γ H → Ct K p γ H x d → Ct K p γ H y e → (op d e).run (PostF K p γ H Q) XX → r x y H Q
/-- a comparison -/
def BrC (K : PySem.W.Frag) (op : D → D → W Exc Bool) (r : R2) : Prop :=
  ∀ (p : Option Addr) (γ H : Hp) (x y : V) (d e : D) (Q : VK) (XX : Exc → Prop), Stt K p γ H → Ct K p γ H x d → Ct K p γ H y e → (op d e).run (fun b => Q (.bl b) H) XX → r x y H Q
section
variable {X : Cx} {Wx : WX} {a b c : Expr} {pos : Pos} {ma mb mc : List Sl → W Exc D}
abbrev m2 {α : Type} (op : D → D → W Exc α) (ma mb : List Sl → W Exc D) : List Sl → W Exc α := fun ρ => (ma ρ).bind fun d => (mb ρ).bind fun e => op d e
theorem rd2 {op : D → D → W Exc D} {r : R2} (hr : Br2 X.K op r) (σ : St) (H : Hp) (Q : VK) (h : TEe X Wx (m2 op ma mb) σ H Q) : tOp r (TEo X Wx ma) (TEo X Wx mb) σ H Q := by
  obtain ⟨p, H0, γ, ρ, st, er, hm⟩ := h
  refine ⟨p, H0, γ, ρ, st, er, (ma ρ).mono (fun d h1 γ1 H1 x e1 c1 => ?_) (fun _ q => q) hm⟩
  refine ⟨p, H0, γ1, ρ, e1.st, er.ext e1, (mb ρ).mono (fun e h2 γ2 H2 y e2 c2 => ?_) (fun _ q => q.ext st e1) h1⟩
  exact hr p γ2 H2 x y d e Q (fun _ => True) e2.st (c1.mono e2) c2 ((op d e).mono (fun z q => q.ext st (Ext.trans st e1 e2)) (fun _ _ => trivial) h2)
theorem rd2F {op : D → D → W Exc (List D)} {r : R2} (hr : Br2F X.K op r) (σ : St) (H : Hp) (Q : VK) (h : TEf X Wx (m2 op ma mb) σ H Q) : tOp r (TEo X Wx ma) (TEo X Wx mb) σ H Q := by
  obtain ⟨p, H0, γ, ρ, st, er, hm⟩ := h
  refine ⟨p, H0, γ, ρ, st, er, (ma ρ).mono (fun d h1 γ1 H1 x e1 c1 => ?_) (fun _ q => q) hm⟩
  refine ⟨p, H0, γ1, ρ, e1.st, er.ext e1, (mb ρ).mono (fun e h2 γ2 H2 y e2 c2 => ?_) (fun _ q => q.ext st e1) h1⟩
  exact hr p γ2 H2 x y d e Q (fun _ => True) e2.st (c1.mono e2) c2 ((op d e).mono (fun z q => q.ext st (Ext.trans st e1 e2)) (fun _ _ => trivial) h2)
theorem rdC {op : D → D → W Exc Bool} {r : R2} (hr : BrC X.K op r) (σ : St) (H : Hp) (Q : Bool → Hp → Prop) (h : TTt X Wx (m2 op ma mb) σ H Q) : tTest (tOp r (TEo X Wx ma) (TEo X Wx mb)) σ H Q := by
  obtain ⟨p, H0, γ, ρ, st, er, hm⟩ := h
  refine ⟨p, H0, γ, ρ, st, er, (ma ρ).mono (fun d h1 γ1 H1 x e1 c1 => ?_) (fun _ q => q) hm⟩
  refine ⟨p, H0, γ1, ρ, e1.st, er.ext e1, (mb ρ).mono (fun e h2 γ2 H2 y e2 c2 => ?_) (fun _ q => q.ext st e1) h1⟩
  exact hr p γ2 H2 x y d e _ (fun _ => True) e2.st (c1.mono e2) c2 ((op d e).mono (fun z q => ⟨z, rfl, q _ _ (Ext.trans st e1 e2)⟩) (fun _ _ => trivial) h2)
theorem rdCV {op : D → D → W Exc Bool} {r : R2} (hr : BrC X.K op r) (σ : St) (H : Hp) (Q : VK) (h : TEe X Wx (m2 (fun d e => (op d e).bind fun b => .ret (.bool b)) ma mb) σ H Q) : tOp r (TEo X Wx ma) (TEo X Wx mb) σ H Q := by
  obtain ⟨p, H0, γ, ρ, st, er, hm⟩ := h
  refine ⟨p, H0, γ, ρ, st, er, (ma ρ).mono (fun d h1 γ1 H1 x e1 c1 => ?_) (fun _ q => q) hm⟩
  refine ⟨p, H0, γ1, ρ, e1.st, er.ext e1, (mb ρ).mono (fun e h2 γ2 H2 y e2 c2 => ?_) (fun _ q => q.ext st e1) h1⟩
  refine hr p γ2 H2 x y d e _ (fun _ => True) e2.st (c1.mono e2) c2 ((op d e).mono (fun z q => ?_) (fun _ _ => trivial) h2)
  exact Post.bool (Post.ext q st (Ext.trans st e1 e2)) e2.st
theorem pE_bin {o : Operator} {op : D → D → W Exc D} {r : R2} (ho : OpR X (binaryOp o) r) (hr : Br2 X.K op r) (ha : PE X a (TEo X Wx ma)) (hb : PE X b (TEo X Wx mb)) :
    PE X (.BinOp a o b pos) (TEe X Wx (m2 op ma mb)) := pe_of (pe_op ho ha hb) (rd2 hr)
theorem pF_bin {o : Operator} {op : D → D → W Exc (List D)} {r : R2} (ho : OpR X (binaryOp o) r) (hr : Br2F X.K op r) (ha : PE X a (TEo X Wx ma)) (hb : PE X b (TEo X Wx mb)) :
    PE X (.BinOp a o b pos) (TEf X Wx (m2 op ma mb)) := pe_of (pe_op ho ha hb) (rd2F hr)
theorem pE_cmp {o : CmpOp} {op : D → D → W Exc Bool} {r : R2} (ho : OpR X (compareOp o) r) (hr : BrC X.K op r) (hm : behindInMarks o b = false) (ha : PE X a (TEo X Wx ma)) (hb : PE X b (TEo X Wx mb)) :
    PE X (.Compare a [o] [b] pos) (TEe X Wx (m2 (fun d e => (op d e).bind fun b => .ret (.bool b)) ma mb)) := pe_of (pe_cmpR ho ha hb hm) (rdCV hr)
theorem pT_cmp {o : CmpOp} {op : D → D → W Exc Bool} {r : R2} (ho : OpR X (compareOp o) r) (hr : BrC X.K op r) (hm : behindInMarks o b = false) (ha : PE X a (TEo X Wx ma)) (hb : PE X b (TEo X Wx mb)) :
    PT X (.Compare a [o] [b] pos) (TTt X Wx (m2 op ma mb)) := pt_of (pt_cmpR ho ha hb hm) (rdC hr)
end

/-! ### what the operations are -/
def addD : D → D → W Exc D
  | .int i, .int j => .ret (.int (i + j))
  | .tuple xs, .tuple ys => (W.ask (xs.length + ys.length ≤ sizeLine)).bind fun _ => .ret (.tuple (xs ++ ys))
  | .list xs, .list ys => (W.ask (xs.length + ys.length ≤ sizeLine)).bind fun _ => .ret (.list (xs ++ ys))
  | .str x, .str y => (W.ask (x.length + y.length ≤ sizeLine)).bind fun _ => .ret (.str (x ++ y))
  | _, _ => .stuck
def catF : D → D → W Exc (List D)
  | .list xs, .list ys => (W.ask (xs.length + ys.length ≤ sizeLine)).bind fun _ => .ret (xs ++ ys)
  | _, _ => .stuck
def repF : D → D → W Exc (List D)
  | .list xs, .int k => (W.ask ((-(2 ^ 63) ≤ k ∧ k < 2 ^ 63) ∧ xs.length * k.toNat ≤ sizeLine)).bind fun _ => .ret (List.replicate k.toNat xs).flatten
  | _, _ => .stuck
def subD : D → D → W Exc D
  | .int i, .int j => .ret (.int (i - j))
  | _, _ => .stuck
def mulD : D → D → W Exc D
  | .int i, .int j => (W.ask (CMul i j)).bind fun _ => .ret (.int (i * j))
  | _, _ => .stuck
def modD : D → D → W Exc D
  | .int i, .int j => (W.ask (0 < j)).bind fun _ => .ret (.int (i % j))
  | _, _ => .stuck
def divD : D → D → W Exc D
  | .int i, .int j => (W.ask (CDiv i j)).bind fun _ => .ret (.int (i / j))
  | _, _ => .stuck
/-- not too deep to be compared -/
def sh : D → Bool
  | .list xs => decide (PyData.depth (.list xs) ≤ 64) && ndAll xs
  | .tuple xs => decide (PyData.depth (.tuple xs) ≤ 64) && ndAll xs
  | .dict _ => false
  | _ => true
theorem sh_nd {d : D} (h : sh d = true) : nd d = true := by
  cases d <;> simp [sh, nd] at h ⊢
  · exact h.2
  · exact h.2
theorem sh_depth {d : D} (h : sh d = true) : d.depth ≤ 64 := by
  cases d with
  | list xs => simp [sh] at h; exact h.1
  | tuple xs => simp [sh] at h; exact h.1
  | dict kvs => simp [sh] at h
  | _ => simp [PyData.depth]
theorem sh_shaped {d : D} (h : sh d = true) (l : d.canLay0 = true) : SeqAt.shaped d = true := by
  show (d.canLay0 && decide (d.depth ≤ 64)) = true
  rw [l, Bool.true_and]
  exact decide_eq_true (sh_depth h)
def isNon : D → Bool
  | .none => true
  | _ => false
def eqD (neg : Bool) (d e : D) : W Exc Bool := (W.ask (sh d = true ∧ sh e = true)).bind fun _ => .ret (if neg then !PyData.eqv d e else PyData.eqv d e)
def ltD (f : Int → Int → Bool) : D → D → W Exc Bool
  | .int i, .int j => .ret (f i j)
  | _, _ => .stuck
def isD (neg : Bool) : D → D → W Exc Bool
  | d, .none => .ret (if neg then !isNon d else isNon d)
  | _, _ => .stuck
section
variable {X : Cx}
theorem ct_dp {K : PySem.W.Frag} {p : Option Addr} {γ H : Hp} {x : V} {d : D} (c : Ct K p γ H x d) (st : Stt K p γ H) (n : nd d = true) : Dp K H x d := (dq_dp _ _ n (c.dp st).1).1
theorem ct_lay {K : PySem.W.Frag} {p : Option Addr} {γ H : Hp} {x : V} {d : D} (c : Ct K p γ H x d) (st : Stt K p γ H) (n : nd d = true) : d.canLay0 = true := (dq_dp _ _ n (c.dp st).1).2
theorem ct_int {K : PySem.W.Frag} {p : Option Addr} {γ H : Hp} {x : V} {i : Int} (c : Ct K p γ H x (.int i)) : x = .int i := by
  rcases c with c | ⟨_, _, _, _, e, _⟩
  · exact c.ofInt
  · cases e
theorem ct_str {K : PySem.W.Frag} {p : Option Addr} {γ H : Hp} {x : V} {i : Str} (c : Ct K p γ H x (.str i)) : x = .str i ∧ PyData.strOk i = true := by
  rcases c with c | ⟨_, _, _, _, e, _⟩
  · exact ⟨c.ofStr, c.strOk⟩
  · cases e
theorem ct_bool {K : PySem.W.Frag} {p : Option Addr} {γ H : Hp} {x : V} {i : Bool} (c : Ct K p γ H x (.bool i)) : x = .bl i := by
  rcases c with c | ⟨_, _, _, _, e, _⟩
  · exact c.ofBool
  · cases e
theorem ct_non {K : PySem.W.Frag} {p : Option Addr} {γ H : Hp} {x : V} (c : Ct K p γ H x .none) : x = .non := by
  rcases c with c | ⟨_, _, _, _, e, _⟩
  · exact c.ofNone
  · cases e
theorem ct_tup {K : PySem.W.Frag} {p : Option Addr} {γ H : Hp} {x : V} {ds : List D} (c : Ct K p γ H x (.tuple ds)) : ∃ a vs, x = .ref a ∧ TupAt K γ a vs ∧ RepAll K γ vs ds := by
  rcases c with c | ⟨_, _, _, _, e, _⟩
  · exact c.ofTup
  · cases e
theorem ct_lst {K : PySem.W.Frag} {p : Option Addr} {γ H : Hp} {x : V} {ds : List D} (c : Ct K p γ H x (.list ds)) (st : Stt K p γ H) : ∃ a vs, x = .ref a ∧ H a = some (.lst vs) ∧ RepAll K γ vs ds := by
  rcases c with c | ⟨a, vs, xs, e, e2, e3, _, e4⟩
  · obtain ⟨a, vs, e1, e2, e3⟩ := c.ofLst
    exact ⟨a, vs, e1, st.sub _ _ e2, e3⟩
  · cases e2; exact ⟨a, vs, e, e3, e4⟩
theorem ct_dct {K : PySem.W.Frag} {p : Option Addr} {γ H : Hp} {x : V} {kvs : List (D × D)} (c : Ct K p γ H x (.dict kvs)) : ∃ a ks xs ds, x = .ref a ∧ DkAt γ a (mergeK [] (kvOf ks xs)) ∧ RepAll K γ xs ds ∧ KsOk ks ds ∧ kvs = dkv ks ds := by
  rcases c with c | ⟨_, _, _, _, e, _⟩
  · exact c.ofDct
  · cases e
theorem strOk_app {x y : Str} (hx : PyData.strOk x = true) (hy : PyData.strOk y = true) : PyData.strOk (x ++ y) = true := by
  have e : (x ++ y).cps = x.cps ++ y.cps := rfl
  unfold PyData.strOk at *
  rw [e, Array.all_append, hx, hy]; rfl

abbrev rInt (f : Int → Int → Int) : R2 := rI0 fun i j => .int (f i j)
/-- t + u, the new tuple known to bear no dict -/
def rCatN (K : PySem.W.Frag) : R2 := fun x y H Q => ∃ a b xs ys, x = .ref a ∧ y = .ref b ∧ SqT K H a xs ∧ SqT K H b ys ∧ xs.length + ys.length ≤ sizeLine ∧
  (xs = [] → Q (.ref b) H) ∧ (ys = [] → Q (.ref a) H) ∧ ∀ (l : Addr) (o : Obj), o.dict = none → H l = none → Q (.ref l) (upd H l (.frz o (.tup (xs ++ ys))))
theorem laidT {pins : List (Addr × Obj)} {σ : St} {H : Hp} {s : Shared} {xs : List V} {us : List Value} (I : Inv X pins σ H s) (r : Vals xs us) (z : xs.length ≤ sizeLine) :
    Inv X pins σ (upd H s.heap.objs.size (.frz { cls := .type "tuple", data := .seq us.toArray } (.tup xs))) { s with heap := s.heap.push { cls := .type "tuple", data := .seq us.toArray } } :=
  I.laid (t' := s.toks) (fun _ _ q => Heap.get?_push_of_some _ q) (Nat.le_refl _) ⟨Heap.get?_push_size _ rfl, z, us, r, IsTup.new _ _⟩
theorem op_catN : OpR X (binaryOp .Add) (rCatN X.K) := by
  intro pins s σ H x y v u Q I rx ry h
  obtain ⟨a, b, xs, ys, rfl, rfl, ha, hb, hz, q0, q1, q2⟩ := h
  by_cases hx : xs = []
  · exact op_catA pins s σ H _ _ v u Q I rx ry ⟨a, b, xs, ys, rfl, rfl, ha, hb, hz, q0, fun _ => q1, fun z => absurd hx z⟩
  · cases rx
    cases ry
    obtain ⟨its, r1, p1, _⟩ := I.tuple ha
    obtain ⟨its2, r2, p2, _⟩ := I.tuple hb
    refine HT.cat_tup p1 p2 (fun z => hx (r1.nil_iff.mp z)) (fun z => ⟨.ref a, H, I, rfl, q1 (r2.nil_iff.mp z)⟩) (fun _ => ?_) (by rw [← r1.length, ← r2.length]; exact hz)
    exact ⟨.ref s.heap.objs.size, _, laidT I (r1.append r2) (by rw [List.length_append]; exact hz), rfl, q2 _ _ rfl (I.hok.fresh (Nat.le_refl _))⟩
theorem op_addD : OpR X (binaryOp .Add) (fun x y H Q => ((rInt (· + ·) x y H Q ∨ rCatN X.K x y H Q) ∨ (rCat x y H Q ∨ ∃ i j, x = .str i ∧ y = .str j ∧ i.length + j.length ≤ sizeLine ∧ Q (.str (i ++ j)) H))) :=
  (op_add.or op_catN).or (op_cat.or op_add_str)
theorem br_add : Br2 X.K addD (fun x y H Q => ((rInt (· + ·) x y H Q ∨ rCatN X.K x y H Q) ∨ (rCat x y H Q ∨ ∃ i j, x = .str i ∧ y = .str j ∧ i.length + j.length ≤ sizeLine ∧ Q (.str (i ++ j)) H))) := by
  intro p γ H x y d e Q XX st cx cy h
  cases d <;> cases e <;> first
    | exact False.elim h
    | skip
  · rw [ct_int cx, ct_int cy]
    exact .inl (.inl ⟨_, _, rfl, rfl, Post.int h st⟩)
  · rename_i i j
    obtain ⟨e1, k1⟩ := ct_str cx
    obtain ⟨e2, k2⟩ := ct_str cy
    exact .inr (.inr ⟨_, _, e1, e2, h.1, Post.str h.2 st (strOk_app k1 k2)⟩)
  · rename_i xs ys
    obtain ⟨a, vs, rfl, ha, ra⟩ := ct_lst cx st
    obtain ⟨b, ws, rfl, hb, rb⟩ := ct_lst cy st
    exact .inr (.inl ⟨a, b, vs, ws, rfl, rfl, ha, hb, by rw [ra.length, rb.length]; exact h.1, fun l n => Post.lst h.2 st (ra.append rb) l n⟩)
  · rename_i xs ys
    obtain ⟨a, vs, rfl, ha, ra⟩ := ct_tup cx
    obtain ⟨b, ws, rfl, hb, rb⟩ := ct_tup cy
    refine .inl (.inr ⟨a, b, vs, ws, rfl, rfl, (ha.mono st.sub).sq, (hb.mono st.sub).sq, by rw [ra.length, rb.length]; exact h.1, fun z => ?_, fun z => ?_, fun l o od n => Post.tup h.2 st (ra.append rb) l o od n⟩)
    · subst z
      have : xs = [] := List.length_eq_zero_iff.mp (by rw [← ra.length]; rfl)
      subst this
      exact Post.here h.2 st (Rep.tup hb rb)
    · subst z
      have : ys = [] := List.length_eq_zero_iff.mp (by rw [← rb.length]; rfl)
      subst this
      have q : Post X.K p γ H Q (.tuple xs) := by have := h.2; rw [List.append_nil] at this; exact this
      exact Post.here q st (Rep.tup ha ra)
theorem br_catF : Br2F X.K catF rCat := by
  intro p γ H x y d e Q XX st cx cy h
  cases d <;> cases e <;> first
    | exact False.elim h
    | skip
  obtain ⟨a, vs, rfl, ha, ra⟩ := ct_lst cx st
  obtain ⟨b, ws, rfl, hb, rb⟩ := ct_lst cy st
  exact ⟨a, b, vs, ws, rfl, rfl, ha, hb, by rw [ra.length, rb.length]; exact h.1, fun l n => PostF.lst h.2 st (ra.append rb) l n⟩
theorem repAll_rep {K : PySem.W.Frag} {γ : Hp} {vs : List V} {ds : List D} (h : RepAll K γ vs ds) : ∀ n : Nat, RepAll K γ (List.replicate n vs).flatten (List.replicate n ds).flatten
  | 0 => .nil
  | n + 1 => by
    rw [List.replicate_succ, List.replicate_succ, List.flatten_cons, List.flatten_cons]
    exact h.append (repAll_rep h n)
theorem br_repF : Br2F X.K repF rRep := by
  intro p γ H x y d e Q XX st cx cy h
  cases d <;> cases e <;> first
    | exact False.elim h
    | skip
  obtain ⟨a, vs, rfl, ha, ra⟩ := ct_lst cx st
  have hi := ct_int cy
  refine ⟨a, _, vs, rfl, hi, ha, h.1.1.1, h.1.1.2, by rw [ra.length]; exact h.1.2, fun l n => PostF.lst h.2 st (repAll_rep ra _) l n⟩
theorem br_sub : Br2 X.K subD (rInt (· - ·)) := by
  intro p γ H x y d e Q XX st cx cy h
  cases d <;> cases e <;> first
    | exact False.elim h
    | exact ⟨_, _, ct_int cx, ct_int cy, Post.int h st⟩
theorem br_mul : Br2 X.K mulD (rI CMul fun i j => .int (i * j)) := by
  intro p γ H x y d e Q XX st cx cy h
  cases d <;> cases e <;> first
    | exact False.elim h
    | exact ⟨_, _, ct_int cx, ct_int cy, h.1, Post.int h.2 st⟩
theorem br_mod : Br2 X.K modD (rI (fun _ j => 0 < j) fun i j => .int (i % j)) := by
  intro p γ H x y d e Q XX st cx cy h
  cases d <;> cases e <;> first
    | exact False.elim h
    | exact ⟨_, _, ct_int cx, ct_int cy, h.1, Post.int h.2 st⟩
theorem br_div : Br2 X.K divD (rI CDiv fun i j => .int (i / j)) := by
  intro p γ H x y d e Q XX st cx cy h
  cases d <;> cases e <;> first
    | exact False.elim h
    | exact ⟨_, _, ct_int cx, ct_int cy, h.1, Post.int h.2 st⟩
theorem br_eq : BrC X.K (eqD false) (rEqD X.K) := by
  intro p γ H x y d e Q XX st cx cy h
  exact ⟨d, e, ct_dp cx st (sh_nd h.1.1), ct_dp cy st (sh_nd h.1.2), sh_shaped h.1.1 (ct_lay cx st (sh_nd h.1.1)), sh_shaped h.1.2 (ct_lay cy st (sh_nd h.1.2)), h.2⟩
theorem br_ne : BrC X.K (eqD true) (rNeD X.K) := by
  intro p γ H x y d e Q XX st cx cy h
  exact ⟨d, e, ct_dp cx st (sh_nd h.1.1), ct_dp cy st (sh_nd h.1.2), sh_shaped h.1.1 (ct_lay cx st (sh_nd h.1.1)), sh_shaped h.1.2 (ct_lay cy st (sh_nd h.1.2)), h.2⟩
theorem br_lt {f : Int → Int → Bool} : BrC X.K (ltD f) (rI0 fun i j => .bl (f i j)) := by
  intro p γ H x y d e Q XX st cx cy h
  cases d <;> cases e <;> first
    | exact False.elim h
    | exact ⟨_, _, ct_int cx, ct_int cy, h⟩
theorem ct_non_iff {K : PySem.W.Frag} {p : Option Addr} {γ H : Hp} {x : V} {d : D} (c : Ct K p γ H x d) (st : Stt K p γ H) : decide (x = .non) = isNon d := by
  cases d with
  | none => rw [ct_non c]; rfl
  | bool b => rw [ct_bool c]; rfl
  | int b => rw [ct_int c]; rfl
  | str b => rw [(ct_str c).1]; rfl
  | list b => obtain ⟨a, vs, rfl, _⟩ := ct_lst c st; rfl
  | tuple b => obtain ⟨a, vs, rfl, _⟩ := ct_tup c; rfl
  | dict b => obtain ⟨a, ks, xs, ds, rfl, _⟩ := ct_dct c; rfl
theorem br_is : BrC X.K (isD false) (fun x y H Q => y = .non ∧ Q (.bl (decide (x = .non))) H) := by
  intro p γ H x y d e Q XX st cx cy h
  cases e <;> first
    | exact False.elim h
    | skip
  refine ⟨ct_non cy, ?_⟩
  rw [ct_non_iff cx st]
  exact h
theorem br_isnot : BrC X.K (isD true) (fun x y H Q => y = .non ∧ Q (.bl (!decide (x = .non))) H) := by
  intro p γ H x y d e Q XX st cx cy h
  cases e <;> first
    | exact False.elim h
    | skip
  refine ⟨ct_non cy, ?_⟩
  rw [ct_non_iff cx st]
  exact h
end
end Ev

/-! Ev3: names, displays, subscripts, tests, built-ins. -/
namespace Ev
open PySem PySem.Spec PyProof.Rows L2
section
variable {X : Cx} {Wx : WX} {a b c e : Expr} {es rest : List Expr} {pos : Pos} {ma mb mc m : List Sl → W Exc D}

/-! ### names, constants -/
def getV (ρ : List Sl) (i : Nat) : W Exc D := match ρ[i]? with
  | some (.val d) => .ret d
  | _ => .stuck
def getO (ρ : List Sl) (i : Nat) : W Exc D := match ρ[i]? with
  | some (.val d) => .ret d
  | some (.own xs) => .ret (.list xs)
  | _ => .stuck
theorem pE_var {i : Nat} {x : Str} (hN : X.N[i]? = some x) (hv : Vis X.env.scope x) (hd : (x == ("__debug__" : Str)) = false) (hcd : (x == ("__classdict__" : Str)) = false) : PE X (.Name x pos) (TEe X Wx fun ρ => getV ρ i) := by
  refine pe_of (pe_var hN hv hd hcd) fun σ H Q ⟨p, H0, γ, ρ, st, er, hm⟩ => ?_
  have h : (getV ρ i).run (Post X.K p γ H Q) (ExW X.K X.mg Wx p γ H σ) := hm
  unfold getV at h
  split at h
  · rename_i d e
    obtain ⟨v, e1, r⟩ := er.val e
    exact ⟨v, e1, Post.here h st r⟩
  · exact h.elim
theorem pO_var {i : Nat} {x : Str} (hN : X.N[i]? = some x) (hv : Vis X.env.scope x) (hd : (x == ("__debug__" : Str)) = false) (hcd : (x == ("__classdict__" : Str)) = false) : PE X (.Name x pos) (TEo X Wx fun ρ => getO ρ i) := by
  refine pe_of (pe_var hN hv hd hcd) fun σ H Q ⟨p, H0, γ, ρ, st, er, hm⟩ => ?_
  have h : (getO ρ i).run (PostC X.K p γ H Q) (ExW X.K X.mg Wx p γ H σ) := hm
  unfold getO at h
  split at h
  · rename_i d e
    obtain ⟨v, e1, r⟩ := er.val e
    exact ⟨v, e1, h γ H v (.refl st) (.inl r)⟩
  · rename_i xs e
    obtain ⟨ov, e0, al, vs, e1, e2, e3, e4, e5, r⟩ := er.sl i _ e
    subst e1
    exact ⟨.ref al, e0, h γ H _ (.refl st) (.inr ⟨al, vs, xs, rfl, rfl, e2, e4, r⟩)⟩
  · exact h.elim
theorem pE_of_C {v : V} {d : D} (h : PE X e (tC v)) (r : ∀ γ, Rep X.K γ v d) : PE X e (TEe X Wx fun _ => .ret d) := pe_of h fun σ H Q ⟨p, H0, γ, ρ, st, er, hm⟩ => Post.here hm st (r γ)
def cstD : Const → Option D
  | .none => some .none
  | .bool b => some (.bool b)
  | .int i => some (.int i)
  | .str s => if PyData.strOk s then some (.str s) else none
  | _ => none
theorem pE_cst {k : Const} {d : D} {j : Nat} (h : cstD k = some d) : PE X (.Constant k j pos) (TEe X Wx fun _ => .ret d) := by
  cases k <;> simp only [cstD] at h
  · cases h; exact pE_of_C pe_non fun _ => .non
  · cases h; exact pE_of_C pe_bl fun _ => .bl
  · cases h; exact pE_of_C pe_int fun _ => .int
  · cases h
  · cases h
  · split at h
    · rename_i hs
      cases h; exact pE_of_C pe_str fun _ => .str hs
    · cases h
  · cases h
  · cases h
/-- a constant of the module -/
theorem pE_glob {x : Str} {v : V} {u : Value} {d : D} (hg : Gl X x) (hm : X.mg x = some u) (r : RelV v u) (hr : ∀ γ, Rep X.K γ v d) (hd : (x == ("__debug__" : Str)) = false) : PE X (.Name x pos) (TEe X Wx fun _ => .ret d) :=
  pE_of_C (pe_glob hg hm r hd) hr

/-! ### displays -/
def PostL (K : PySem.W.Frag) (p : Option Addr) (γ H : Hp) (Q : List V → Hp → Prop) : List D → Prop := fun ds => ∀ γ' H' vs, Ext K p γ H γ' H' → RepAll K γ' vs ds → Q vs H'
abbrev TAl (X : Cx) (Wx : WX) (m : List Sl → W Exc (List D)) : TA := fun σ H Q => ∃ p H0 γ ρ, Stt X.K p γ H ∧ EnvR X.K p H0 γ H σ ρ ∧ (m ρ).run (PostL X.K p γ H Q) (ExW X.K X.mg Wx p γ H σ)
theorem star1 (h : ∀ e' p, e ≠ .Starred e' p) (env : Env) : starEach (e :: es) env = (false, eval e env) :: starEach es env := by
  cases e <;> first
    | rfl
    | exact absurd rfl (h _ _)
theorem pL_nil : PA X [] (TAl X Wx fun _ => .ret []) := pa_of pa_nil fun σ H Q ⟨p, H0, γ, ρ, st, er, hm⟩ => hm γ H [] (.refl st) .nil
theorem pL_cons {mr : List Sl → W Exc (List D)} (hs : ∀ e' p, e ≠ .Starred e' p) (ha : PE X e (TEe X Wx ma)) (hr : PA X es (TAl X Wx mr)) : PA X (e :: es) (TAl X Wx fun ρ => (ma ρ).bind fun d => (mr ρ).bind fun ds => .ret (d :: ds)) := by
  refine pa_of (pa_cons ha hr (star1 hs X.env)) fun σ H Q ⟨p, H0, γ, ρ, st, er, hm⟩ => ?_
  refine ⟨p, H0, γ, ρ, st, er, (ma ρ).mono (fun d h1 γ1 H1 x e1 c1 => ?_) (fun _ q => q) hm⟩
  refine ⟨p, H0, γ1, ρ, e1.st, er.ext e1, (mr ρ).mono (fun ds h2 γ2 H2 vs e2 c2 => ?_) (fun _ q => q.ext st e1) h1⟩
  exact h2 γ2 H2 _ (Ext.trans st e1 e2) (.cons (c1.mono e2.gg) c2)
def tTupN (t : TA) : TE := fun σ H Q => t σ H fun xs H1 => xs.length ≤ sizeLine ∧ ∀ (l : Addr) (o : Obj), o.dict = none → H1 l = none → Q (.ref l) (upd H1 l (.frz o (.tup xs)))
theorem pe_tupN {k : Nat} {t : TA} (h : PA X es t) : PE X (.Tuple es k pos) (tTupN t) := by
  refine ⟨fun pins s σ H Q I hq => wpAny_Tuple_spliced (thn (h.run pos pins s σ H _ I hq) fun us s1 hh => ?_)⟩
  obtain ⟨xs, H1, I1, r, z, q⟩ := hh
  exact ⟨by rw [← r.length]; exact z, .ref s1.heap.objs.size, _, laidT I1 r z, rfl, q _ _ rfl (I1.hok.fresh (Nat.le_refl _))⟩
theorem small_of {n : Nat} (h : n ≤ 1000) : n ≤ sizeLine := Nat.le_trans h (by decide)
theorem pE_tup {k : Nat} {mr : List Sl → W Exc (List D)} (h : PA X es (TAl X Wx mr)) : PE X (.Tuple es k pos) (TEe X Wx fun ρ => (mr ρ).bind fun ds => (W.ask (ds.length ≤ sizeLine)).bind fun _ => .ret (.tuple ds)) := by
  refine pe_of (pe_tupN h) fun σ H Q ⟨p, H0, γ, ρ, st, er, hm⟩ => ?_
  refine ⟨p, H0, γ, ρ, st, er, (mr ρ).mono (fun ds h1 γ1 H1 vs e1 r1 => ?_) (fun _ q => q) hm⟩
  exact ⟨by rw [r1.length]; exact h1.1, fun l o od n => Post.tup (Post.ext h1.2 st e1) e1.st r1 l o od n⟩
theorem pF_lst {mr : List Sl → W Exc (List D)} (h : PA X es (TAl X Wx mr)) : PE X (.List es pos) (TEf X Wx fun ρ => (mr ρ).bind fun ds => (W.ask (ds.length ≤ sizeLine)).bind fun _ => .ret ds) := by
  refine pe_of (pe_lst h) fun σ H Q ⟨p, H0, γ, ρ, st, er, hm⟩ => ?_
  refine ⟨p, H0, γ, ρ, st, er, (mr ρ).mono (fun ds h1 γ1 H1 vs e1 r1 => ?_) (fun _ q => q) hm⟩
  exact ⟨by rw [r1.length]; exact h1.1, fun l n => PostF.lst (PostF.ext h1.2 st e1) e1.st r1 l n⟩

/-! ### subscripts -/
def ixD : D → D → W Exc D
  | .list xs, .int i => match atI xs i with
    | some d => .ret d
    | none => .stuck
  | .tuple xs, .int i => match atI xs i with
    | some d => .ret d
    | none => .stuck
  | .str z, .int i => (W.ask (z.length ≤ sizeLine)).bind fun _ => match atI z.cps.toList i with
    | some c => .ret (.str ⟨#[c]⟩)
    | none => .stuck
  | .dict kvs, .str z => match dlk kvs z with
    | some d => .ret d
    | none => .stuck
  | _, _ => .stuck
def rIxDk : R2 := fun x y H Q => ∃ a v, x = .ref a ∧ DGet H a y (some v) ∧ Q v H
theorem ix_dk (hu : X.A.units + 1 < cLine) : IxR X rIxDk := by
  intro value slice pins s σ H x y v u Q I rx ry h hs
  obtain ⟨a, w, rfl, g, q⟩ := h
  cases rx
  exact tail_any (dict_typeIs I g) PySem.F.slot_dict_getitem.lookup (d_getItem hu I g ry fun w' s3 I3 rw' => ⟨w, H, I3, rw', q⟩) hs
theorem atI_rep {K : PySem.W.Frag} {γ : Hp} {vs : List V} {ds : List D} {i : Int} {d : D} (r : RepAll K γ vs ds) (h : atI ds i = some d) : ∃ v, atI vs i = some v ∧ Rep K γ v d := by
  unfold atI at h ⊢
  rw [r.length]
  cases e : ixN ds.length i with
  | none => rw [e] at h; cases h
  | some j =>
    rw [e] at h
    exact r.get (show ds[j]? = some d from h)
theorem br_ix : Br2 X.K ixD (fun x y H Q => rIx X.K x y H Q ∨ rIxDk x y H Q) := by
  intro p γ H x y d e Q XX st cx cy h
  cases d <;> cases e <;> first
    | exact False.elim h
    | skip
  · rename_i z i
    obtain ⟨e1, k1⟩ := ct_str cx
    obtain ⟨hz, h⟩ := h
    cases q : atI z.cps.toList i with
    | none => rw [q] at h; exact h.elim
    | some cc =>
      rw [q] at h
      refine .inl (.inr (.inr ⟨z, i, cc, e1, ct_int cy, hz, q, Post.str h st ?_⟩))
      obtain ⟨j, _, e3, _⟩ := atI_get q
      have hm := List.mem_of_getElem? e3
      have hh := Array.all_eq_true_iff_forall_mem.mp k1 cc (by simpa using hm)
      simp [PyData.strOk]; simpa using hh
  · rename_i xs i
    obtain ⟨al, vs, rfl, ha, ra⟩ := ct_lst cx st
    have h' : (match atI xs i with | some d => W.ret d | none => W.stuck : W Exc D).run (Post X.K p γ H Q) XX := h
    cases q : atI xs i with
    | none => rw [q] at h'; exact h'.elim
    | some dd =>
      rw [q] at h'
      obtain ⟨v, e1, r1⟩ := atI_rep ra q
      exact .inl (.inl ⟨al, vs, i, v, rfl, ct_int cy, .of ha, e1, Post.here h' st r1⟩)
  · rename_i xs i
    obtain ⟨al, vs, rfl, ha, ra⟩ := ct_tup cx
    have h' : (match atI xs i with | some d => W.ret d | none => W.stuck : W Exc D).run (Post X.K p γ H Q) XX := h
    cases q : atI xs i with
    | none => rw [q] at h'; exact h'.elim
    | some dd =>
      rw [q] at h'
      obtain ⟨v, e1, r1⟩ := atI_rep ra q
      exact .inl (.inr (.inl ⟨al, vs, i, v, rfl, ct_int cy, (ha.mono st.sub).sq, e1, Post.here h' st r1⟩))
  · rename_i kvs z
    obtain ⟨a, ks, xs, ds, rfl, ha, ra, e, rfl⟩ := ct_dct cx
    have h' : (match dlk (dkv ks ds) z with | some d => W.ret d | none => W.stuck : W Exc D).run (Post X.K p γ H Q) XX := h
    rcases dct_get st.sub ha ra e.1 z with ⟨d, v, q1, q2, q3⟩ | ⟨q1, q2⟩
    · rw [q1] at h'
      exact .inr ⟨a, v, rfl, by rw [(ct_str cy).1]; exact q3, Post.here h' st q2⟩
    · rw [q1] at h'
      exact h'.elim
theorem pE_ix (hu : X.A.units + 1 < cLine) (ha : PE X a (TEo X Wx ma)) (hb : PE X b (TEo X Wx mb)) (hs : PlainIx b) : PE X (.Subscript a b pos) (TEe X Wx (m2 ixD ma mb)) := pe_of (pe_ix (ix_seq.or (ix_dk hu)) ha hb hs) (rd2 br_ix)
theorem plainIx_of (h : ∀ l u s p, b ≠ .Slice l u s p) : PlainIx b := by
  intro o i
  cases b <;> first
    | rfl
    | exact absurd rfl (h _ _ _ _)

/-! ### slices -/
def cutD (xs : List D) (lo hi : Option Int) : List D := (xs.drop (HT.sIx xs.length 0 lo)).take (HT.sIx xs.length xs.length hi - HT.sIx xs.length 0 lo)
def slD : D → Option Int → Option Int → W Exc D
  | .list xs, lo, hi => .ret (.list (cutD xs lo hi))
  | .tuple xs, lo, hi => .ret (.tuple (cutD xs lo hi))
  | .str z, lo, hi => (W.ask (z.length ≤ sizeLine)).bind fun _ => .ret (.str (cutS z lo hi))
  | _, _, _ => .stuck
/-- t[lo:hi], the new tuple known to bear no dict -/
def rSlN (K : PySem.W.Frag) : V → Option Int → Option Int → Hp → VK → Prop := fun x lo hi H Q => ∃ a xs, x = .ref a ∧ SqT K H a xs ∧
  (cutV xs lo hi = xs → Q (.ref a) H) ∧ ∀ (l : Addr) (o : Obj), o.dict = none → H l = none → Q (.ref l) (upd H l (.frz o (.tup (cutV xs lo hi))))
theorem sl_tupN : SlR X (rSlN X.K) := by
  intro pins s σ H x v vl vu lo hi sl Q I rx hs pl pu h
  obtain ⟨al, xs, rfl, hx, q0, q1⟩ := h
  by_cases hw : HT.sIx xs.length 0 lo = 0 ∧ HT.sIx xs.length xs.length hi = xs.length
  · refine sl_tupA pins s σ H _ v vl vu lo hi sl Q I rx hs pl pu ⟨al, xs, rfl, hx, fun _ => q0 ?_, fun z => absurd hw z⟩
    unfold cutV
    rw [hw.1, hw.2]
    simp
  · cases rx
    obtain ⟨its, r, ht, hz⟩ := I.tuple hx
    have hl : its.toArray.size = xs.length := by rw [List.size_toArray]; exact r.length.symm
    refine ⟨"tuple", _, PyProof.Rows.slot_tuple_getitem.lookup, ht.typeIs, HT.getItem_tuple_cut ht hs pl pu (by rw [hl]; exact hw) ?_ (by rw [hl]; exact hz)⟩
    rw [hl]
    exact ⟨.ref s.heap.objs.size, _, laidT I ((r.drop (HT.sIx xs.length 0 lo)).take (HT.sIx xs.length xs.length hi - HT.sIx xs.length 0 lo)) (Nat.le_trans (cutV_length xs lo hi) hz), rfl, q1 _ _ rfl (I.hok.fresh (Nat.le_refl _))⟩
def PostP (K : PySem.W.Frag) (p : Option Addr) (γ H : Hp) (Q : Option Int → Hp → Prop) : Option Int → Prop := fun o => ∀ γ' H', Ext K p γ H γ' H' → Q o H'
abbrev TOp (X : Cx) (Wx : WX) (m : List Sl → W Exc (Option Int)) : TO := fun σ H Q => ∃ p H0 γ ρ, Stt X.K p γ H ∧ EnvR X.K p H0 γ H σ ρ ∧ (m ρ).run (PostP X.K p γ H Q) (ExW X.K X.mg Wx p γ H σ)
def intW : D → W Exc (Option Int)
  | .int i => .ret (some i)
  | _ => .stuck
theorem po_of {lo : Option Expr} {t t' : TO} (h : PO X lo t) (k : ∀ σ H Q, t' σ H Q → t σ H Q) : PO X lo t' := ⟨fun pins s σ H Q I q => h.run pins s σ H Q I (k _ _ _ q)⟩
theorem pP_none : PO X none (TOp X Wx fun _ => .ret none) := po_of po_none fun σ H Q ⟨p, H0, γ, ρ, st, er, hm⟩ => hm γ H (.refl st)
theorem pP_some (h : PE X e (TEe X Wx ma)) : PO X (some e) (TOp X Wx fun ρ => (ma ρ).bind intW) := po_of (po_some h) fun σ H Q ⟨p, H0, γ, ρ, st, er, hm⟩ =>
  ⟨p, H0, γ, ρ, st, er, (ma ρ).mono (fun d h1 γ1 H1 x e1 c1 => by
    cases d with
    | int i => exact ⟨i, c1.ofInt, h1 γ1 H1 e1⟩
    | _ => exact False.elim h1) (fun _ q => q) hm⟩
theorem pE_sl {lo hi : Option Expr} {p2 : Pos} {ml mh : List Sl → W Exc (Option Int)} (he : PE X e (TEo X Wx ma)) (hl : PO X lo (TOp X Wx ml)) (hu : PO X hi (TOp X Wx mh)) :
    PE X (.Subscript e (.Slice lo hi none p2) pos) (TEe X Wx fun ρ => (ma ρ).bind fun d => (ml ρ).bind fun l => (mh ρ).bind fun h => slD d l h) := by
  refine pe_of (pe_slice (sl_list.or (sl_tupN.or sl_str)) he hl hu) fun σ H Q ⟨p, H0, γ, ρ, st, er, hm⟩ => ?_
  refine ⟨p, H0, γ, ρ, st, er, (ma ρ).mono (fun d h1 γ1 H1 x e1 c1 => ?_) (fun _ q => q) hm⟩
  refine ⟨p, H0, γ1, ρ, e1.st, er.ext e1, (ml ρ).mono (fun l h2 γ2 H2 e2 => ?_) (fun _ q => q.ext st e1) h1⟩
  have e12 := Ext.trans st e1 e2
  refine ⟨p, H0, γ2, ρ, e2.st, (er.ext e1).ext e2, (mh ρ).mono (fun u h3 γ3 H3 e3 => ?_) (fun _ q => q.ext st e12) h2⟩
  have e13 := Ext.trans st e12 e3
  have c3 : Ct X.K p γ3 H3 x d := (c1.mono e2).mono e3
  cases d with
  | list xs =>
    obtain ⟨al, vs, rfl, ha, ra⟩ := ct_lst c3 e3.st
    refine .inl ⟨al, vs, rfl, .of ha, fun l' n => Post.lst (Post.ext h3 st e13) e3.st ?_ l' n⟩
    unfold cutV cutD
    rw [ra.length]
    exact (ra.drop _).take _
  | tuple xs =>
    obtain ⟨al, vs, rfl, ha, ra⟩ := ct_tup c3
    have rc : RepAll X.K γ3 (cutV vs l u) (cutD xs l u) := by
      unfold cutV cutD
      rw [ra.length]
      exact (ra.drop _).take _
    refine .inr (.inl ⟨al, vs, rfl, (ha.mono e3.st.sub).sq, fun ew => ?_, fun l' o od n => Post.tup (Post.ext h3 st e13) e3.st rc l' o od n⟩)
    rw [ew] at rc
    exact Post.here (Post.ext h3 st e13) e3.st (Rep.tup ha rc)
  | str z =>
    obtain ⟨ez, kz⟩ := ct_str c3
    refine .inr (.inr ⟨z, ez, h3.1, Post.str (Post.ext h3.2 st e13) e3.st ?_⟩)
    unfold PyData.strOk at *
    rw [Array.all_eq_true_iff_forall_mem] at kz ⊢
    intro cc hc
    refine kz cc ?_
    have hc' : cc ∈ (cutS z l u).cps.toList := by simpa using hc
    have : cc ∈ z.cps.toList := by
      unfold cutS at hc'
      first
        | exact List.mem_of_mem_drop (List.mem_of_mem_take (by simpa using hc'))
        | simpa using hc'
    simpa using this
  | _ => exact False.elim h3
end
end Ev

/-! Ev4: truth, and, or, not; built-ins. -/
namespace Ev
open PySem PySem.Spec PyProof.Rows L2
section
variable {X : Cx} {Wx : WX} {a b c e : Expr} {es rest : List Expr} {pos : Pos} {ma mb mc m : List Sl → W Exc D} {ta tb tc : List Sl → W Exc Bool}

/-! ### truth -/
def truthD : D → W Exc Bool
  | .none => .ret false
  | .bool b => .ret b
  | .int i => .ret (i != 0)
  | .str z => (W.ask (z.length ≤ sizeLine)).bind fun _ => .ret ((z.length : Int) != 0)
  | .list xs => .ret (!xs.isEmpty)
  | .tuple xs => .ret (!xs.isEmpty)
  | .dict _ => .stuck
theorem RepAll.isEmpty {K : PySem.W.Frag} {γ : Hp} {vs : List V} {ds : List D} (r : RepAll K γ vs ds) : vs.isEmpty = ds.isEmpty := by
  cases vs with
  | nil => cases ds with
    | nil => rfl
    | cons _ _ => cases r.1
  | cons _ _ => cases ds with
    | nil => cases r.1
    | cons _ _ => rfl
theorem tru_of {K : PySem.W.Frag} {p : Option Addr} {γ H : Hp} {x : V} {d : D} {R : Bool → Prop} {XX : Exc → Prop} (cx : Ct K p γ H x d) (st : Stt K p γ H) (h : (truthD d).run R XX) : ∃ k, TruV K x H k ∧ R k := by
  cases d with
  | none => rw [ct_non cx]; exact ⟨false, rfl, h⟩
  | bool b => rw [ct_bool cx]; exact ⟨b, rfl, h⟩
  | int i => rw [ct_int cx]; exact ⟨_, rfl, h⟩
  | str z => rw [(ct_str cx).1]; exact ⟨_, ⟨h.1, rfl⟩, h.2⟩
  | list xs => obtain ⟨al, vs, rfl, ha, ra⟩ := ct_lst cx st; exact ⟨_, .inl ⟨vs, .of ha, by rw [ra.isEmpty]⟩, h⟩
  | tuple xs => obtain ⟨al, vs, rfl, ha, ra⟩ := ct_tup cx; exact ⟨_, .inr (.inl ⟨vs, (ha.mono st.sub).sq, by rw [ra.isEmpty]⟩), h⟩
  | dict _ => exact False.elim h
theorem pT_tru (ha : PE X a (TEo X Wx ma)) (he : ∀ whole, isTrue a X.env whole = (do let v ← whole; standAt a.pos; holding [v] (truthy v))) : PT X a (TTt X Wx fun ρ => (ma ρ).bind truthD) := by
  refine pt_of (pt_truth ha he) fun σ H Q ⟨p, H0, γ, ρ, st, er, hm⟩ => ?_
  refine ⟨p, H0, γ, ρ, st, er, (ma ρ).mono (fun d h1 γ1 H1 x e1 c1 => ?_) (fun _ q => q) hm⟩
  exact tru_of c1 e1.st ((truthD d).mono (fun k q => q γ1 H1 e1) (fun _ q => q) h1)
theorem plainT (h1 : ∀ x p, a ≠ .UnaryOp .Not x p) (h2 : ∀ o x p, a ≠ .BoolOp o x p) (h3 : ∀ x y z p, a ≠ .IfExp x y z p) (h4 : ∀ x y z p, a ≠ .Compare x y z p) (env : Env) (whole : Sem Value) :
    isTrue a env whole = (do let v ← whole; standAt a.pos; holding [v] (truthy v)) := by
  cases a <;> first
    | rfl
    | exact absurd rfl (h2 _ _ _)
    | exact absurd rfl (h3 _ _ _ _)
    | exact absurd rfl (h4 _ _ _ _)
    | skip
  rename_i o _ _
  cases o <;> first
    | rfl
    | exact absurd rfl (h1 _ _)

/-! ### and, or, not, if -/
theorem rdT_after {σ : St} {H : Hp} {Q : Bool → Hp → Prop} {p : Option Addr} {H0 γ γ1 H1 : Hp} {ρ : List Sl} (st : Stt X.K p γ H) (er : EnvR X.K p H0 γ H σ ρ) (e1 : Ext X.K p γ H γ1 H1) {w : W Exc Bool}
    (h : w.run (PostB X.K p γ H Q) (ExW X.K X.mg Wx p γ H σ)) (hw : w = tb ρ) : TTt X Wx tb σ H1 Q := by
  subst hw
  exact ⟨p, H0, γ1, ρ, e1.st, er.ext e1, (tb ρ).mono (fun _ q => q.ext st e1) (fun _ q => q.ext st e1) h⟩
theorem rdE_after {σ : St} {H : Hp} {Q : VK} {p : Option Addr} {H0 γ γ1 H1 : Hp} {ρ : List Sl} (st : Stt X.K p γ H) (er : EnvR X.K p H0 γ H σ ρ) (e1 : Ext X.K p γ H γ1 H1) {w : W Exc D}
    (h : w.run (Post X.K p γ H Q) (ExW X.K X.mg Wx p γ H σ)) (hw : w = mb ρ) : TEe X Wx mb σ H1 Q := by
  subst hw
  exact ⟨p, H0, γ1, ρ, e1.st, er.ext e1, (mb ρ).mono (fun _ q => q.ext st e1) (fun _ q => q.ext st e1) h⟩
theorem pW_and1 (ha : PT X a (TTt X Wx ta)) : PW X (.BoolOp .And [a] pos) (TTt X Wx ta) := pw_and1 ha
theorem pW_or1 (ha : PT X a (TTt X Wx ta)) : PW X (.BoolOp .Or [a] pos) (TTt X Wx ta) := pw_or1 ha
theorem pW_and (ha : PT X a (TTt X Wx ta)) (hb : PW X (.BoolOp .And (b :: rest) pos) (TTt X Wx tb)) : PW X (.BoolOp .And (a :: b :: rest) pos) (TTt X Wx fun ρ => (ta ρ).bind fun k => if k then tb ρ else .ret false) := by
  refine pw_of (pw_and ha hb) fun σ H Q ⟨p, H0, γ, ρ, st, er, hm⟩ => ?_
  refine ⟨p, H0, γ, ρ, st, er, (ta ρ).mono (fun k h1 γ1 H1 e1 => ?_) (fun _ q => q) hm⟩
  cases k with
  | true => exact rdT_after st er e1 h1 rfl
  | false => exact h1 γ1 H1 e1
theorem pW_or (ha : PT X a (TTt X Wx ta)) (hb : PW X (.BoolOp .Or (b :: rest) pos) (TTt X Wx tb)) : PW X (.BoolOp .Or (a :: b :: rest) pos) (TTt X Wx fun ρ => (ta ρ).bind fun k => if k then .ret true else tb ρ) := by
  refine pw_of (pw_or ha hb) fun σ H Q ⟨p, H0, γ, ρ, st, er, hm⟩ => ?_
  refine ⟨p, H0, γ, ρ, st, er, (ta ρ).mono (fun k h1 γ1 H1 e1 => ?_) (fun _ q => q) hm⟩
  cases k with
  | false => exact rdT_after st er e1 h1 rfl
  | true => exact h1 γ1 H1 e1
theorem pT_not (ha : PT X a (TTt X Wx ta)) : PT X (.UnaryOp .Not a pos) (TTt X Wx fun ρ => (ta ρ).bind fun k => .ret (!k)) := by
  refine pt_of (pt_not ha) fun σ H Q ⟨p, H0, γ, ρ, st, er, hm⟩ => ?_
  exact ⟨p, H0, γ, ρ, st, er, (ta ρ).mono (fun k h1 γ1 H1 e1 => h1 γ1 H1 e1) (fun _ q => q) hm⟩
theorem pE_not (ha : PE X a (TEo X Wx ma)) : PE X (.UnaryOp .Not a pos) (TEe X Wx fun ρ => (ma ρ).bind fun d => (truthD d).bind fun k => .ret (.bool (!k))) := by
  refine pe_of (pe_notT ha) fun σ H Q ⟨p, H0, γ, ρ, st, er, hm⟩ => ?_
  refine ⟨p, H0, γ, ρ, st, er, (ma ρ).mono (fun d h1 γ1 H1 x e1 c1 => ?_) (fun _ q => q) hm⟩
  exact tru_of c1 e1.st ((truthD d).mono (fun k q => Post.bool (Post.ext q st e1) e1.st) (fun _ q => q) h1)
theorem pE_one {o : BoolOp} (ha : PE X a (TEe X Wx ma)) : PE X (.BoolOp o [a] pos) (TEe X Wx ma) := pe_one ha
theorem pE_and (ha : PE X a (TEe X Wx ma)) (hb : PE X (.BoolOp .And (b :: rest) pos) (TEe X Wx mb)) : PE X (.BoolOp .And (a :: b :: rest) pos) (TEe X Wx fun ρ => (ma ρ).bind fun d => (truthD d).bind fun k => if k then mb ρ else .ret d) := by
  refine pe_of (pe_andT ha hb) fun σ H Q ⟨p, H0, γ, ρ, st, er, hm⟩ => ?_
  refine ⟨p, H0, γ, ρ, st, er, (ma ρ).mono (fun d h1 γ1 H1 x e1 c1 => ?_) (fun _ q => q) hm⟩
  obtain ⟨k, tv, q⟩ := tru_of (.inl c1) e1.st h1
  refine ⟨k, tv, ?_⟩
  cases k with
  | true => exact rdE_after st er e1 q rfl
  | false => exact Post.here (Post.ext q st e1) e1.st c1
theorem pE_or (ha : PE X a (TEe X Wx ma)) (hb : PE X (.BoolOp .Or (b :: rest) pos) (TEe X Wx mb)) : PE X (.BoolOp .Or (a :: b :: rest) pos) (TEe X Wx fun ρ => (ma ρ).bind fun d => (truthD d).bind fun k => if k then .ret d else mb ρ) := by
  refine pe_of (pe_orT ha hb) fun σ H Q ⟨p, H0, γ, ρ, st, er, hm⟩ => ?_
  refine ⟨p, H0, γ, ρ, st, er, (ma ρ).mono (fun d h1 γ1 H1 x e1 c1 => ?_) (fun _ q => q) hm⟩
  obtain ⟨k, tv, q⟩ := tru_of (.inl c1) e1.st h1
  refine ⟨k, tv, ?_⟩
  cases k with
  | false => exact rdE_after st er e1 q rfl
  | true => exact Post.here (Post.ext q st e1) e1.st c1
theorem pE_ife (hc : PT X c (TTt X Wx tc)) (ha : PE X a (TEe X Wx ma)) (hb : PE X b (TEe X Wx mb)) : PE X (.IfExp c a b pos) (TEe X Wx fun ρ => (tc ρ).bind fun k => if k then ma ρ else mb ρ) := by
  refine pe_of (pe_ifExp hc ha hb) fun σ H Q ⟨p, H0, γ, ρ, st, er, hm⟩ => ?_
  refine ⟨p, H0, γ, ρ, st, er, (tc ρ).mono (fun k h1 γ1 H1 e1 => ?_) (fun _ q => q) hm⟩
  cases k with
  | true => exact rdE_after (mb := ma) st er e1 h1 rfl
  | false => exact rdE_after st er e1 h1 rfl
def negD : D → W Exc D
  | .int i => .ret (.int (-i))
  | _ => .stuck
theorem pE_neg (ha : PE X a (TEe X Wx ma)) : PE X (.UnaryOp .USub a pos) (TEe X Wx fun ρ => (ma ρ).bind negD) := by
  refine pe_of (pe_un un_neg ha) fun σ H Q ⟨p, H0, γ, ρ, st, er, hm⟩ => ?_
  refine ⟨p, H0, γ, ρ, st, er, (ma ρ).mono (fun d h1 γ1 H1 x e1 c1 => ?_) (fun _ q => q) hm⟩
  cases d <;> first
    | exact False.elim h1
    | exact ⟨_, c1.ofInt, Post.int (Post.ext h1 st e1) e1.st⟩
/-- a < b < c of ints -/
abbrev chW (o o' : D → D → W Exc Bool) (ma mb mc : List Sl → W Exc D) : List Sl → W Exc Bool := fun ρ => (ma ρ).bind fun x => (mb ρ).bind fun y => (o x y).bind fun k => if k then (mc ρ).bind fun z => o' y z else .ret false
theorem rdCh {o o' : D → D → W Exc Bool} {r r' : R2} (hr : BrC X.K o r) (hr' : BrC X.K o' r') (σ : St) (H : Hp) (Q : VK) (R : Bool → Prop) (h : RdT X.K X.mg Wx (chW o o' ma mb mc) σ H fun k H' => Q (.bl k) H') : tChain r r' (TEo X Wx ma) (TEo X Wx mb) (TEo X Wx mc) σ H Q := by
  obtain ⟨p, H0, γ, ρ, st, er, hm⟩ := h
  refine ⟨p, H0, γ, ρ, st, er, (ma ρ).mono (fun d h1 γ1 H1 x e1 c1 => ?_) (fun _ q => q) hm⟩
  refine ⟨p, H0, γ1, ρ, e1.st, er.ext e1, (mb ρ).mono (fun e h2 γ2 H2 y e2 c2 => ?_) (fun _ q => q.ext st e1) h1⟩
  have e12 := Ext.trans st e1 e2
  refine hr p γ2 H2 x y d e _ _ e2.st (c1.mono e2) c2 ((o d e).mono (fun k q => ?_) (fun _ q => q) h2)
  refine ⟨k, rfl, ?_⟩
  cases k with
  | false => exact q γ2 H2 e12
  | true =>
    refine ⟨p, H0, γ2, ρ, e2.st, (er.ext e1).ext e2, (mc ρ).mono (fun f h3 γ3 H3 z e3 c3 => ?_) (fun _ q => q.ext st e12) q⟩
    have e13 := Ext.trans st e12 e3
    exact hr' p γ3 H3 y z e f _ _ e3.st (c2.mono e3) c3 ((o' e f).mono (fun k q => q γ3 H3 e13) (fun _ q => q) h3)
end
end Ev

/-! Ev5: chains, built-ins by name. -/
namespace Ev
open PySem PySem.Spec PyProof.Rows L2
section
variable {X : Cx} {Wx : WX} {a b c e : Expr} {es rest : List Expr} {pos pp : Pos} {ma mb mc m : List Sl → W Exc D} {ta tb tc : List Sl → W Exc Bool}
theorem pE_chn {op op' : CmpOp} {o o' : D → D → W Exc Bool} {r r' : R2} (ho : OpR X (compareOp op) r) (ho' : OpR X (compareOp op') r') (hr : BrC X.K o r) (hr' : BrC X.K o' r') (hm : lastMarks [op, op'] [b, c] = false)
    (ha : PE X a (TEo X Wx ma)) (hb : PE X b (TEo X Wx mb)) (hc : PE X c (TEo X Wx mc)) : PE X (.Compare a [op, op'] [b, c] pos) (TEe X Wx fun ρ => (chW o o' ma mb mc ρ).bind fun k => .ret (.bool k)) :=
  pe_of (pe_chain ho ho' ha hb hc hm) fun σ H Q ⟨p, H0, γ, ρ, st, er, hm⟩ => rdCh hr hr' σ H Q (fun _ => True)
    ⟨p, H0, γ, ρ, st, er, (chW o o' ma mb mc ρ).mono (fun k q γ' H' e => q γ' H' _ e .bl) (fun _ q => q) hm⟩
theorem pT_chn {op op' : CmpOp} {o o' : D → D → W Exc Bool} {r r' : R2} (ho : OpR X (compareOp op) r) (ho' : OpR X (compareOp op') r') (hr : BrC X.K o r) (hr' : BrC X.K o' r') (hm : lastMarks [op, op'] [b, c] = false)
    (ha : PE X a (TEo X Wx ma)) (hb : PE X b (TEo X Wx mb)) (hc : PE X c (TEo X Wx mc)) : PT X (.Compare a [op, op'] [b, c] pos) (TTt X Wx (chW o o' ma mb mc)) :=
  pt_of (pt_chain ho ho' ha hb hc hm) fun σ H Q ⟨p, H0, γ, ρ, st, er, hm⟩ => rdCh hr hr' σ H _ (fun _ => True)
    ⟨p, H0, γ, ρ, st, er, (chW o o' ma mb mc ρ).mono (fun k q γ' H' e => ⟨k, rfl, q γ' H' e⟩) (fun _ q => q) hm⟩

/-! ### calls of built-ins -/
def BrK1 (K : PySem.W.Frag) (op : D → W Exc D) (r : List V → Hp → VK → Prop) : Prop :=
  ∀ (p : Option Addr) (γ H : Hp) (x : V) (d : D) (Q : VK) (XX : Exc → Prop), Stt K p γ H → Ct K p γ H x d → (op d).run (Post K p γ H Q) XX → r [x] H Q
def BrK1F (K : PySem.W.Frag) (op : D → W Exc (List D)) (r : List V → Hp → VK → Prop) : Prop :=
  ∀ (p : Option Addr) (γ H : Hp) (x : V) (d : D) (Q : VK) (XX : Exc → Prop), Stt K p γ H → Ct K p γ H x d → (op d).run (PostF K p γ H Q) XX → r [x] H Q
def BrK2 (K : PySem.W.Frag) (op : D → D → W Exc D) (r : List V → Hp → VK → Prop) : Prop :=
  ∀ (p : Option Addr) (γ H : Hp) (x y : V) (d e : D) (Q : VK) (XX : Exc → Prop), Stt K p γ H → Ct K p γ H x d → Ct K p γ H y e → (op d e).run (Post K p γ H Q) XX → r [x, y] H Q
theorem rdK1 {op : D → W Exc D} {r : List V → Hp → VK → Prop} (hr : BrK1 X.K op r) (σ : St) (H : Hp) (Q : VK) (h : TEe X Wx (fun ρ => (ma ρ).bind op) σ H Q) : tCB r (tCons (TEo X Wx ma) tNil) σ H Q := by
  obtain ⟨p, H0, γ, ρ, st, er, hm⟩ := h
  refine ⟨p, H0, γ, ρ, st, er, (ma ρ).mono (fun d h1 γ1 H1 x e1 c1 => ?_) (fun _ q => q) hm⟩
  exact hr p γ1 H1 x d Q _ e1.st c1 ((op d).mono (fun z q => q.ext st e1) (fun _ q => q) h1)
theorem rdK1F {op : D → W Exc (List D)} {r : List V → Hp → VK → Prop} (hr : BrK1F X.K op r) (σ : St) (H : Hp) (Q : VK) (h : TEf X Wx (fun ρ => (ma ρ).bind op) σ H Q) : tCB r (tCons (TEo X Wx ma) tNil) σ H Q := by
  obtain ⟨p, H0, γ, ρ, st, er, hm⟩ := h
  refine ⟨p, H0, γ, ρ, st, er, (ma ρ).mono (fun d h1 γ1 H1 x e1 c1 => ?_) (fun _ q => q) hm⟩
  exact hr p γ1 H1 x d Q _ e1.st c1 ((op d).mono (fun z q => q.ext st e1) (fun _ q => q) h1)
theorem rdK2 {op : D → D → W Exc D} {r : List V → Hp → VK → Prop} (hr : BrK2 X.K op r) (σ : St) (H : Hp) (Q : VK) (h : TEe X Wx (m2 op ma mb) σ H Q) : tCB r (tCons (TEo X Wx ma) (tCons (TEo X Wx mb) tNil)) σ H Q := by
  obtain ⟨p, H0, γ, ρ, st, er, hm⟩ := h
  refine ⟨p, H0, γ, ρ, st, er, (ma ρ).mono (fun d h1 γ1 H1 x e1 c1 => ?_) (fun _ q => q) hm⟩
  refine ⟨p, H0, γ1, ρ, e1.st, er.ext e1, (mb ρ).mono (fun e h2 γ2 H2 y e2 c2 => ?_) (fun _ q => q.ext st e1) h1⟩
  exact hr p γ2 H2 x y d e Q (fun _ => True) e2.st (c1.mono e2) c2 ((op d e).mono (fun z q => q.ext st (Ext.trans st e1 e2)) (fun _ _ => trivial) h2)
theorem back0 (p : Pos) (env : Env) : (backTo p (starEach [] env)).any (·.1) = false := rfl
theorem back1 (h : ∀ e' p, e ≠ .Starred e' p) (p : Pos) (env : Env) : (backTo p (starEach [e] env)).any (·.1) = false := by
  rw [star1 h]; rfl
section
variable {x id T : _root_.String} {nm : Str} {op : D → W Exc D} {opF : D → W Exc (List D)} {op2 : D → D → W Exc D} {r : List V → Hp → VK → Prop}
theorem pE_blt1 (hc : CallR X (.builtin id) r) (hr : BrK1 X.K op r) (hg : Gl X nm) (hm : X.mg nm = none) (hv : bootBuiltins nm = some (.builtin id)) (hn : nm ≠ "__name__") (hdb : (nm == ("__debug__" : Str)) = false)
    (hs : ∀ e' p, e ≠ .Starred e' p) (ha : PE X e (TEo X Wx ma)) : PE X (.Call (.Name nm pp) [e] [] pos) (TEe X Wx fun ρ => (ma ρ).bind op) :=
  pe_of (pe_callB hc hg hm hv (pa_cons ha pa_nil (star1 hs X.env)) hn hdb (star1 hs X.env) (back0 _ _)) (rdK1 hr)
theorem pF_blt1 (hc : CallR X (.builtin id) r) (hr : BrK1F X.K opF r) (hg : Gl X nm) (hm : X.mg nm = none) (hv : bootBuiltins nm = some (.builtin id)) (hn : nm ≠ "__name__") (hdb : (nm == ("__debug__" : Str)) = false)
    (hs : ∀ e' p, e ≠ .Starred e' p) (ha : PE X e (TEo X Wx ma)) : PE X (.Call (.Name nm pp) [e] [] pos) (TEf X Wx fun ρ => (ma ρ).bind opF) :=
  pe_of (pe_callB hc hg hm hv (pa_cons ha pa_nil (star1 hs X.env)) hn hdb (star1 hs X.env) (back0 _ _)) (rdK1F hr)
theorem pE_ty1 (hc : CallR X (.type T) r) (hr : BrK1 X.K op r) (hg : Gl X nm) (hm : X.mg nm = none) (hv : bootBuiltins nm = some (.type T)) (hn : nm ≠ "__name__") (hdb : (nm == ("__debug__" : Str)) = false)
    (hs : ∀ e' p, e ≠ .Starred e' p) (ha : PE X e (TEo X Wx ma)) : PE X (.Call (.Name nm pp) [e] [] pos) (TEe X Wx fun ρ => (ma ρ).bind op) :=
  pe_of (pe_callTy hc hg hm hv (pa_cons ha pa_nil (star1 hs X.env)) hn hdb (star1 hs X.env) (back0 _ _)) (rdK1 hr)
theorem pF_ty1 (hc : CallR X (.type T) r) (hr : BrK1F X.K opF r) (hg : Gl X nm) (hm : X.mg nm = none) (hv : bootBuiltins nm = some (.type T)) (hn : nm ≠ "__name__") (hdb : (nm == ("__debug__" : Str)) = false)
    (hs : ∀ e' p, e ≠ .Starred e' p) (ha : PE X e (TEo X Wx ma)) : PE X (.Call (.Name nm pp) [e] [] pos) (TEf X Wx fun ρ => (ma ρ).bind opF) :=
  pe_of (pe_callTy hc hg hm hv (pa_cons ha pa_nil (star1 hs X.env)) hn hdb (star1 hs X.env) (back0 _ _)) (rdK1F hr)
theorem pE_blt2 (hc : CallR X (.builtin id) r) (hr : BrK2 X.K op2 r) (hg : Gl X nm) (hm : X.mg nm = none) (hv : bootBuiltins nm = some (.builtin id)) (hn : nm ≠ "__name__") (hdb : (nm == ("__debug__" : Str)) = false)
    (hs : ∀ e' p, e ≠ .Starred e' p) (hs2 : ∀ e' p, c ≠ .Starred e' p) (ha : PE X e (TEo X Wx ma)) (hb : PE X c (TEo X Wx mb)) : PE X (.Call (.Name nm pp) [e, c] [] pos) (TEe X Wx (m2 op2 ma mb)) :=
  pe_of (pe_callB hc hg hm hv (pa_cons ha (pa_cons hb pa_nil (star1 hs2 X.env)) (star1 hs X.env)) hn hdb (star1 hs X.env) (back1 hs2 _ _)) (rdK2 hr)
end

/-! ### what they are -/
def lenD : D → W Exc D
  | .list xs => (W.given (xs.length ≤ sizeLine)).bind fun _ => .ret (.int xs.length)
  | .tuple xs => (W.given (xs.length ≤ sizeLine)).bind fun _ => .ret (.int xs.length)
  | .str z => (W.ask (z.length ≤ sizeLine)).bind fun _ => .ret (.int z.length)
  | _ => .stuck
def rLenG (K : PySem.W.Frag) : List V → Hp → VK → Prop := fun xs H Q => (∃ p ys, xs = [.ref p] ∧ (SqL K H p ys ∨ SqT K H p ys) ∧ (ys.length ≤ sizeLine → Q (.int ys.length) H)) ∨ ∃ z, xs = [.str z] ∧ z.length ≤ sizeLine ∧ Q (.int z.length) H
theorem call_lenG : CallR X (.builtin "len") (rLenG X.K) := by
  intro pins s σ H xs us Q I rx h
  rcases h with ⟨p, ys, rfl, hq, q⟩ | ⟨z, rfl, hz, q⟩
  · have hl : ys.length ≤ sizeLine := by
      rcases hq with hq | hq
      · obtain ⟨_, _, _, z⟩ := I.list hq; exact z
      · obtain ⟨_, _, _, z⟩ := I.tuple hq; exact z
    exact call_len_seq pins s σ H _ us Q I rx ⟨p, ys, rfl, hq, q hl⟩
  · exact call_len_str pins s σ H _ us Q I rx ⟨z, rfl, hz, q⟩
theorem br_len : BrK1 X.K lenD (rLenG X.K) := by
  intro p γ H x d Q XX st cx h
  cases d <;> first
    | exact False.elim h
    | skip
  · obtain ⟨e1, _⟩ := ct_str cx
    exact .inr ⟨_, by rw [e1], h.1, Post.int h.2 st⟩
  · obtain ⟨al, vs, rfl, ha, ra⟩ := ct_lst cx st
    exact .inl ⟨al, vs, rfl, .inl (.of ha), fun z => by rw [ra.length] at z ⊢; exact Post.int (h z) st⟩
  · obtain ⟨al, vs, rfl, ha, ra⟩ := ct_tup cx
    exact .inl ⟨al, vs, rfl, .inr (ha.mono st.sub).sq, fun z => by rw [ra.length] at z ⊢; exact Post.int (h z) st⟩
def intD : D → W Exc D
  | .int i => .ret (.int i)
  | .bool b => .ret (.int (if b then 1 else 0))
  | _ => .stuck
theorem br_int : BrK1 X.K intD (fun xs H Q => (∃ i, xs = [.int i] ∧ Q (.int i) H) ∨ ∃ k, xs = [.bl k] ∧ Q (.int (if k then 1 else 0)) H) := by
  intro p γ H x d Q XX st cx h
  cases d <;> first
    | exact False.elim h
    | exact .inr ⟨_, by rw [ct_bool cx], Post.int h st⟩
    | exact .inl ⟨_, by rw [ct_int cx], Post.int h st⟩
/-- tuple(x) -/
def tupleD : D → W Exc D
  | .list xs => .ret (.tuple xs)
  | .tuple xs => .ret (.tuple xs)
  | _ => .stuck
def rTupleN (K : PySem.W.Frag) : List V → Hp → VK → Prop := fun xs H Q => ∃ p ys, xs = [.ref p] ∧ ((SqL K H p ys ∧ ∀ (l : Addr) (o : Obj), o.dict = none → H l = none → Q (.ref l) (upd H l (.frz o (.tup ys)))) ∨ (SqT K H p ys ∧ Q (.ref p) H))
theorem call_tupleN : CallR X (.type "tuple") (rTupleN X.K) := by
  intro pins s σ H xs us Q I rx h
  obtain ⟨p, ys, rfl, h⟩ := h
  rcases h with ⟨hq, q⟩ | ⟨hq, q⟩
  · obtain ⟨u, rfl, rv⟩ := vals1 rx
    cases rv
    obtain ⟨its, r', pl, hz⟩ := I.list hq
    have hl := r'.length
    refine call_tuple_list pl.isList (fun h' kp => ?_) (by simp only [List.size_toArray] <;> omega)
    have I1 : Inv X pins σ H { s with heap := h' } := I.kept (t' := s.toks) kp
    exact ⟨.ref h'.objs.size, _, laidT I1 r' hz, rfl, q _ _ rfl (I1.hok.fresh (Nat.le_refl _))⟩
  · exact call_tuple_of pins s σ H _ us Q I rx ⟨p, ys, rfl, .inr ⟨hq, q⟩⟩
theorem br_tuple : BrK1 X.K tupleD (rTupleN X.K) := by
  intro p γ H x d Q XX st cx h
  cases d <;> first
    | exact False.elim h
    | skip
  · obtain ⟨al, vs, rfl, ha, ra⟩ := ct_lst cx st
    exact ⟨al, vs, rfl, .inl ⟨.of ha, fun l o od n => Post.tup h st ra l o od n⟩⟩
  · obtain ⟨al, vs, rfl, ha, ra⟩ := ct_tup cx
    exact ⟨al, vs, rfl, .inr ⟨(ha.mono st.sub).sq, Post.here h st (Rep.tup ha ra)⟩⟩
/-- list(x) -/
def listF : D → W Exc (List D)
  | .list xs => .ret xs
  | .tuple xs => .ret xs
  | _ => .stuck
theorem br_list : BrK1F X.K listF (fun xs H Q => ∃ p ys, xs = [.ref p] ∧ (SqL X.K H p ys ∨ SqT X.K H p ys) ∧ ∀ l, H l = none → Q (.ref l) (upd H l (.lst ys))) := by
  intro p γ H x d Q XX st cx h
  cases d <;> first
    | exact False.elim h
    | skip
  · obtain ⟨al, vs, rfl, ha, ra⟩ := ct_lst cx st
    exact ⟨al, vs, rfl, .inl (.of ha), fun l n => PostF.lst h st ra l n⟩
  · obtain ⟨al, vs, rfl, ha, ra⟩ := ct_tup cx
    exact ⟨al, vs, rfl, .inr (ha.mono st.sub).sq, fun l n => PostF.lst h st ra l n⟩
/-- bools, ints of a list -/
def boolsOf : List D → Option (List Bool)
  | [] => some []
  | .bool b :: r => (boolsOf r).map (b :: ·)
  | _ => none
def intsOf : List D → Option (List Int)
  | [] => some []
  | .int b :: r => (intsOf r).map (b :: ·)
  | _ => none
theorem boolsOf_eq : ∀ {ds : List D} {bs : List Bool}, boolsOf ds = some bs → ds = bs.map .bool
  | [], bs, h => by cases h; rfl
  | d :: ds, bs, h => by
    cases d <;> simp only [boolsOf] at h <;> first
      | cases h
      | skip
    cases e : boolsOf ds with
    | none => rw [e] at h; cases h
    | some cs => rw [e] at h; cases h; rw [boolsOf_eq e]; rfl
theorem intsOf_eq : ∀ {ds : List D} {bs : List Int}, intsOf ds = some bs → ds = bs.map .int
  | [], bs, h => by cases h; rfl
  | d :: ds, bs, h => by
    cases d <;> simp only [intsOf] at h <;> first
      | cases h
      | skip
    cases e : intsOf ds with
    | none => rw [e] at h; cases h
    | some cs => rw [e] at h; cases h; rw [intsOf_eq e]; rfl
theorem intsOf_map : ∀ bs : List Int, intsOf (bs.map .int) = some bs
  | [] => rfl
  | b :: bs => by simp [intsOf, intsOf_map bs]
theorem boolsOf_map : ∀ bs : List Bool, boolsOf (bs.map .bool) = some bs
  | [] => rfl
  | b :: bs => by simp [boolsOf, boolsOf_map bs]
theorem rep_ints {K : PySem.W.Frag} {γ : Hp} : ∀ {vs : List V} {is : List Int}, RepAll K γ vs (is.map .int) → vs = is.map V.int
  | [], [], _ => rfl
  | [], _ :: _, r => by cases r.1
  | _ :: _, [], r => by cases r.1
  | v :: vs, i :: is, r => by rw [List.map_cons, rep_ints r.tail, r.head.ofInt]
theorem rep_bools {K : PySem.W.Frag} {γ : Hp} : ∀ {vs : List V} {is : List Bool}, RepAll K γ vs (is.map .bool) → vs = is.map V.bl
  | [], [], _ => rfl
  | [], _ :: _, r => by cases r.1
  | _ :: _, [], r => by cases r.1
  | v :: vs, i :: is, r => by rw [List.map_cons, rep_bools r.tail, r.head.ofBool]
theorem ints_rep {K : PySem.W.Frag} {γ : Hp} : ∀ (is : List Int), RepAll K γ (is.map V.int) (is.map .int)
  | [] => .nil
  | i :: is => .cons .int (ints_rep is)
def optW {α β : Type} (o : Option α) (f : α → W Exc β) : W Exc β := match o with
  | some a => f a
  | none => .stuck
def allD : D → W Exc D
  | .list xs => optW (boolsOf xs) fun bs => .ret (.bool (bs.all id))
  | _ => .stuck
def anyD : D → W Exc D
  | .list xs => optW (boolsOf xs) fun bs => .ret (.bool (bs.any id))
  | _ => .stuck
def sumD : D → W Exc D
  | .list xs => optW (intsOf xs) fun bs => .ret (.int bs.sum)
  | _ => .stuck
def leastI : List Int → Int
  | [] => 0
  | i :: is => is.foldl min i
def mostI : List Int → Int
  | [] => 0
  | i :: is => is.foldl max i
def minD : D → W Exc D
  | .list xs => optW (intsOf xs) fun bs => (W.ask (0 < bs.length)).bind fun _ => .ret (.int (leastI bs))
  | _ => .stuck
def maxD : D → W Exc D
  | .list xs => optW (intsOf xs) fun bs => (W.ask (0 < bs.length)).bind fun _ => .ret (.int (mostI bs))
  | _ => .stuck
theorem optW_run {α β : Type} {o : Option α} {f : α → W Exc β} {Q : β → Prop} {XX : Exc → Prop} (h : (optW o f).run Q XX) : ∃ a, o = some a ∧ (f a).run Q XX := by
  cases o with
  | none => exact False.elim h
  | some a => exact ⟨a, rfl, h⟩
theorem br_all : BrK1 X.K allD (rAll X.K) := by
  intro p γ H x d Q XX st cx h
  cases d <;> first
    | exact False.elim h
    | skip
  obtain ⟨al, vs, rfl, ha, ra⟩ := ct_lst cx st
  obtain ⟨bs, e, h⟩ := optW_run h
  rw [boolsOf_eq e] at ra
  exact ⟨al, bs, rfl, by rw [← rep_bools ra]; exact .of ha, Post.bool h st⟩
theorem br_any : BrK1 X.K anyD (rAny X.K) := by
  intro p γ H x d Q XX st cx h
  cases d <;> first
    | exact False.elim h
    | skip
  obtain ⟨al, vs, rfl, ha, ra⟩ := ct_lst cx st
  obtain ⟨bs, e, h⟩ := optW_run h
  rw [boolsOf_eq e] at ra
  exact ⟨al, bs, rfl, by rw [← rep_bools ra]; exact .of ha, Post.bool h st⟩
theorem br_sum : BrK1 X.K sumD (rSum X.K) := by
  intro p γ H x d Q XX st cx h
  cases d <;> first
    | exact False.elim h
    | skip
  obtain ⟨al, vs, rfl, ha, ra⟩ := ct_lst cx st
  obtain ⟨bs, e, h⟩ := optW_run h
  rw [intsOf_eq e] at ra
  exact ⟨al, bs, rfl, by rw [← rep_ints ra]; exact .of ha, Post.int h st⟩
theorem foldl_min_le : ∀ (is : List Int) (i : Int), is.foldl min i ≤ i ∧ ∀ y ∈ is, is.foldl min i ≤ y
  | [], i => ⟨Int.le_refl _, fun _ h => nomatch h⟩
  | j :: is, i => by
    obtain ⟨h1, h2⟩ := foldl_min_le is (min i j)
    have a1 : min i j ≤ i := Int.min_le_left _ _
    have a2 : min i j ≤ j := Int.min_le_right _ _
    refine ⟨Int.le_trans h1 a1, fun y hy => ?_⟩
    rcases List.mem_cons.mp hy with rfl | hy
    · exact Int.le_trans h1 a2
    · exact h2 y hy
theorem foldl_max_ge : ∀ (is : List Int) (i : Int), i ≤ is.foldl max i ∧ ∀ y ∈ is, y ≤ is.foldl max i
  | [], i => ⟨Int.le_refl _, fun _ h => nomatch h⟩
  | j :: is, i => by
    obtain ⟨h1, h2⟩ := foldl_max_ge is (max i j)
    have a1 : i ≤ max i j := Int.le_max_left _ _
    have a2 : j ≤ max i j := Int.le_max_right _ _
    refine ⟨Int.le_trans a1 h1, fun y hy => ?_⟩
    rcases List.mem_cons.mp hy with rfl | hy
    · exact Int.le_trans a2 h1
    · exact h2 y hy
theorem foldl_min_mem : ∀ (is : List Int) (i : Int), is.foldl min i = i ∨ is.foldl min i ∈ is
  | [], i => .inl rfl
  | j :: is, i => by
    rcases foldl_min_mem is (min i j) with h | h
    · rcases (show min i j = i ∨ min i j = j by omega) with e | e
      · exact .inl (by rw [List.foldl_cons, h, e])
      · exact .inr (by rw [List.foldl_cons, h, e]; exact List.mem_cons_self)
    · exact .inr (List.mem_cons_of_mem _ h)
theorem foldl_max_mem : ∀ (is : List Int) (i : Int), is.foldl max i = i ∨ is.foldl max i ∈ is
  | [], i => .inl rfl
  | j :: is, i => by
    rcases foldl_max_mem is (max i j) with h | h
    · rcases (show max i j = i ∨ max i j = j by omega) with e | e
      · exact .inl (by rw [List.foldl_cons, h, e])
      · exact .inr (by rw [List.foldl_cons, h, e]; exact List.mem_cons_self)
    · exact .inr (List.mem_cons_of_mem _ h)
theorem leastI_le {is : List Int} {y : Int} (h : y ∈ is) : leastI is ≤ y := by
  cases is with
  | nil => cases h
  | cons i is =>
    rcases List.mem_cons.mp h with rfl | h
    · exact (foldl_min_le is y).1
    · exact (foldl_min_le is i).2 y h
theorem leastI_mem {is : List Int} (h : 0 < is.length) : leastI is ∈ is := by
  cases is with
  | nil => cases h
  | cons i is =>
    rcases foldl_min_mem is i with e | e
    · show is.foldl min i ∈ _; rw [e]; exact List.mem_cons_self
    · exact List.mem_cons_of_mem _ e
theorem mostI_ge {is : List Int} {y : Int} (h : y ∈ is) : y ≤ mostI is := by
  cases is with
  | nil => cases h
  | cons i is =>
    rcases List.mem_cons.mp h with rfl | h
    · exact (foldl_max_ge is y).1
    · exact (foldl_max_ge is i).2 y h
theorem mostI_mem {is : List Int} (h : 0 < is.length) : mostI is ∈ is := by
  cases is with
  | nil => cases h
  | cons i is =>
    rcases foldl_max_mem is i with e | e
    · show is.foldl max i ∈ _; rw [e]; exact List.mem_cons_self
    · exact List.mem_cons_of_mem _ e
theorem br_min : BrK1 X.K minD (rMin X.K) := by
  intro p γ H x d Q XX st cx h
  cases d <;> first
    | exact False.elim h
    | skip
  obtain ⟨al, vs, rfl, ha, ra⟩ := ct_lst cx st
  obtain ⟨bs, e, h1, h⟩ := optW_run h
  rw [intsOf_eq e] at ra
  refine ⟨al, bs, rfl, by rw [← rep_ints ra]; exact .of ha, h1, fun m hm hle => ?_⟩
  have : m = leastI bs := Int.le_antisymm (hle _ (leastI_mem h1)) (leastI_le hm)
  rw [this]; exact Post.int h st
theorem br_max : BrK1 X.K maxD (rMax X.K) := by
  intro p γ H x d Q XX st cx h
  cases d <;> first
    | exact False.elim h
    | skip
  obtain ⟨al, vs, rfl, ha, ra⟩ := ct_lst cx st
  obtain ⟨bs, e, h1, h⟩ := optW_run h
  rw [intsOf_eq e] at ra
  refine ⟨al, bs, rfl, by rw [← rep_ints ra]; exact .of ha, h1, fun m hm hle => ?_⟩
  have : m = mostI bs := Int.le_antisymm (mostI_ge hm) (hle _ (mostI_mem h1))
  rw [this]; exact Post.int h st
def min2D : D → D → W Exc D
  | .int i, .int j => .ret (.int (if j < i then j else i))
  | _, _ => .stuck
def max2D : D → D → W Exc D
  | .int i, .int j => .ret (.int (if j > i then j else i))
  | _, _ => .stuck
theorem br_min2 : BrK2 X.K min2D (fun xs H Q => ∃ i j, xs = [.int i, .int j] ∧ Q (.int (if j < i then j else i)) H) := by
  intro p γ H x y d e Q XX st cx cy h
  cases d <;> cases e <;> first
    | exact False.elim h
    | exact ⟨_, _, by rw [ct_int cx, ct_int cy], Post.int h st⟩
theorem br_max2 : BrK2 X.K max2D (fun xs H Q => ∃ i j, xs = [.int i, .int j] ∧ Q (.int (if j > i then j else i)) H) := by
  intro p γ H x y d e Q XX st cx cy h
  cases d <;> cases e <;> first
    | exact False.elim h
    | exact ⟨_, _, by rw [ct_int cx, ct_int cy], Post.int h st⟩
def absD : D → W Exc D
  | .int i => .ret (.int (if i < 0 then -i else i))
  | _ => .stuck
theorem br_abs : BrK1 X.K absD (fun xs H Q => ∃ i, xs = [.int i] ∧ Q (.int (if i < 0 then -i else i)) H) := by
  intro p γ H x d Q XX st cx h
  cases d <;> first
    | exact False.elim h
    | exact ⟨_, by rw [ct_int cx], Post.int h st⟩

/-! ### isinstance -/
def tyName : D → _root_.String
  | .none => "NoneType"
  | .bool _ => "bool"
  | .int _ => "int"
  | .str _ => "str"
  | .list _ => "list"
  | .tuple _ => "tuple"
  | .dict _ => "dict"
def isiB (a b : _root_.String) : Bool := a == b || (a == "bool" && b == "int")
theorem kit_all : ∀ a ∈ ["NoneType", "bool", "int", "str", "list", "tuple", "dict"], ∀ b ∈ ["bool", "int", "str", "list", "tuple"], kitB a b = some (isiB a b) := by decide +kernel
theorem ty_mem (d : D) : tyName d ∈ ["NoneType", "bool", "int", "str", "list", "tuple", "dict"] := by
  cases d <;> simp [tyName]
theorem ct_ty {K : PySem.W.Frag} {p : Option Addr} {γ H : Hp} {x : V} {d : D} (c : Ct K p γ H x d) (st : Stt K p γ H) : TyX K H x (.type (tyName d)) := by
  cases d with
  | none => rw [ct_non c]; exact .base .non
  | bool b => rw [ct_bool c]; exact .base (.bl b)
  | int b => rw [ct_int c]; exact .base (.int b)
  | str b => rw [(ct_str c).1]; exact .base (.str b)
  | list b => obtain ⟨a, vs, rfl, ha, _⟩ := ct_lst c st; exact .base (.lst ha)
  | tuple b =>
    obtain ⟨a, vs, rfl, ha, _⟩ := ct_tup c
    rcases ha with ⟨o, ha, _⟩ | ⟨o, its, n, hk, hc, _⟩
    · exact .fTuple (st.sub _ _ ha)
    · exact .kTuple hk hc
  | dict b =>
    obtain ⟨a, ks, xs, ds, rfl, ⟨o, ha⟩, _⟩ := ct_dct c
    exact .fDict (st.sub _ _ ha)
def isiD (T : _root_.String) (d : D) : W Exc Bool := .ret (isiB (tyName d) T)
theorem pE_isi {T : _root_.String} {nT : Str} {p2 : Pos} (hT : T ∈ ["bool", "int", "str", "list", "tuple"]) (hg : Gl X "isinstance") (hm : X.mg "isinstance" = none) (hgT : Gl X nT) (hmT : X.mg nT = none) (hvT : bootBuiltins nT = some (.type T)) (hnT : nT ≠ "__name__") (hdT : (nT == ("__debug__" : Str)) = false)
    (hs : ∀ e' p, e ≠ .Starred e' p) (ha : PE X e (TEo X Wx ma)) : PE X (.Call (.Name "isinstance" pp) [e, .Name nT p2] [] pos) (TEe X Wx fun ρ => (ma ρ).bind fun d => .ret (.bool (isiB (tyName d) T))) := by
  refine pe_of (pe_callB (call_isi (X := X)) hg hm (by decide +kernel) (pa_cons ha (pa_cons (pe_bltn (v := .ty T) hgT hmT hvT rfl hnT hdT) pa_nil rfl) (star1 hs X.env)) (by decide) (by decide) (star1 hs X.env) rfl) fun σ H Q ⟨p, H0, γ, ρ, st, er, hm⟩ => ?_
  refine ⟨p, H0, γ, ρ, st, er, (ma ρ).mono (fun d h1 γ1 H1 x e1 c1 => ?_) (fun _ q => q) hm⟩
  exact ⟨x, .ty T, _, _, _, rfl, .ty T, ct_ty c1 e1.st, kit_ty (kit_all _ (ty_mem d) _ hT), Post.bool (Post.ext h1 st e1) e1.st⟩
end
end Ev

/-! Ev5s: set(xs), xs a list of ints; lists in strict order. -/
namespace Ev
open PySem PySem.Spec PyProof.Rows L2
abbrev set0 (w : World) : Obj := { cls := .type "set", dict := none, data := .set #[] 0 (.fresh 0 0 (!w.params.followText "set-order")) }
section
variable {P : Program} {w : World} {A : Around} {E : Value → Shared → Prop} {s : Shared}
theorem set_of_ints {l : Addr} {its : Array Value} (ns : List Int) {Q : Value → Shared → Prop} (hh : A.handled = none) (hl : s.heap.IsList l its) (hit : IntsAre its.toList ns) (hb : ns.length + 1 < scanBound)
    (k : ∀ (g : Heap) (tk c : Nat), SetR w g s.heap.objs.size (fun j => decide (j ∈ ns)) c → c ≤ ns.length → (∀ b o, s.heap.get? b = some o → g.get? b = some o) → Q (.ref s.heap.objs.size) { s with heap := g, toks := tk }) :
    wpAny (model P w) A (call (.type "set") [.ref l]) Q E s := by
  have hsz : its.size = ns.length := by
    have q := IntsAre.length hit
    rwa [Array.length_toList] at q
  obtain ⟨c, tl, hmro⟩ := PySem.F.called_set.mro
  have f1 := PySem.F.called_set.made
  have f2 := PySem.F.called_set.sub
  refine wpAny_call (codeAny_of_tree ?_)
  show wpAny _ _ (callAny (.type "set") _) _ _ _
  refine wpAny_pure ⟨Code.quiet_builtin _ (by decide +kernel), codeAny_builtin PySem.F.entry_type_call ?_⟩
  rw [Around.under_plain (weight_type_call_type "set" [.ref l] []) rfl]
  have f3 := PySem.F.called_set.notType
  have f4 := PySem.F.called_set.canCreate
  have f5 := PySem.F.typeCall_set_1 (.ref l)
  repeat (any_goals (first | assumption | wp_step))
  refine codeAny_mono (code_set_led1 (.ref l) (E := E) (Q₁ := fun ob sa => ob = .ref s.heap.objs.size ∧ sa = { s with heap := s.heap.push (set0 w) }) ⟨rfl, rfl⟩) fun r sa hr => ?_
  cases r with
  | error e => exact hr
  | ok fl =>
    cases fl with
    | ret ob =>
      obtain ⟨rfl, rfl⟩ := hr
      have eS : (s.heap.push (set0 w)).get? s.heap.objs.size = some (set0 w) := Heap.get?_push_size _ rfl
      have eT : Shared.TypeIs { s with heap := s.heap.push (set0 w) } (.ref s.heap.objs.size) "set" := ⟨_, eS, rfl⟩
      have e1 := PySem.F.called_set.init.lookup
      have e2 := PySem.F.called_set.init.bind (.ref s.heap.objs.size)
      repeat (any_goals (first | assumption | wp_step))
      refine codeAny_mono (codeAny_call_builtin (R := wants (fun r sb => r = .none ∧ ∃ g tk c, sb = { s with heap := g, toks := tk } ∧ SetR w g s.heap.objs.size (fun j => decide (j ∈ ns)) c ∧ c ≤ ns.length ∧
          (∀ b o, s.heap.get? b = some o → g.get? b = some o)) E) PySem.F.called_set.init.plain PySem.F.entry_set_init (check_set_init_1 eT ?_)) fun r2 sb hr2 => ?_
      · obtain ⟨ol, hol, hcl, nl, hdl⟩ := hl
        obtain ⟨oc, od, odata, oslots⟩ := ol
        simp only at hcl hdl
        subst hcl hdl
        have hol' : (s.heap.push (set0 w)).get? l = some { cls := .type "list", dict := od, data := .seq its nl, slots := oslots } := Heap.get?_push_of_some _ hol
        have q1 := PySem.F.sub_list_set
        have q2 := PySem.F.sub_list_frozenset
        have q3 : (Value.type "list" == Value.type "dict") = false := by decide
        have hl1 : (s.heap.push (set0 w)).IsList l its := ⟨_, hol', rfl, nl, rfl⟩
        unfold Builtin.«set.__init__» noKeywords Builtin.Frozenset.updateFrom
        generalize hPI : pyIter = PI
        wp_walk
        subst hPI
        refine wpAny_pyIter_list hl1 ?_
        refine wpAny_bind (wpAny_runValue ?_)
        have lS : l < s.heap.objs.size := Heap.lt_size hol
        have h3 : A.in1.in1.in1.handled = none := by simp [hh]
        have sz : (s.heap.push (set0 w)).objs.size = s.heap.objs.size + 1 := Heap.size_push ..
        have nI : l ≠ (s.heap.push (set0 w)).objs.size := by
          rw [sz]; exact Nat.ne_of_lt (Nat.lt_succ_of_lt lS)
        have nS : s.heap.objs.size ∉ [(s.heap.push (set0 w)).objs.size, l] := by
          rw [sz]
          intro z
          rcases List.mem_cons.mp z with z | z
          · exact Nat.ne_of_lt (Nat.lt_succ_self _) z
          · rcases List.mem_cons.mp z with z | z
            · exact Nat.ne_of_gt lS z
            · cases z
        have hval : ∀ (i : Nat) (v : Value), its[i]? = some v → ∃ k t, ns[i]? = some k ∧ v = .int k t := fun i v hv => by
          have hi : i < ns.length := by rw [← hsz]; exact (Array.getElem?_eq_some_iff.mp hv).1
          obtain ⟨t, e⟩ := PyProof.Rows.IntsAre.int_at hit i v (by rw [Array.getElem?_toList]; exact hv)
          exact ⟨ns[i], t, List.getElem?_eq_getElem hi, by rw [e, List.getD_eq_getElem?_getD, List.getElem?_eq_getElem hi]; rfl⟩
        refine set_update_ints ((Walks.list h3 _ l nI its).toS) s.heap.objs.size nS ns hsz hb hval (its.size - 0) 0 _ (by omega) (Nat.zero_le _) ⟨⟨_, Heap.get?_push_size _ rfl, rfl, rfl⟩, (hl1.push _)⟩ ?h0 ?hR
        case h0 => exact ⟨0, Nat.le_refl 0, setR_new_at (Heap.get?_push_of_some _ eS)⟩
        case hR =>
          intro sc cc hm hc' hS'
          obtain ⟨g, g2, d', tk', os'⟩ := sc
          have eg : g2 = s.gens := hm.gens
          have ed : d' = s.drawn := hm.drawn
          have eo : os' = s.os := hm.os
          subst eg ed eo
          show wpAny _ _ _ _ _ _
          refine wpAny_pure ?_
          show wpAny _ _ (ret Value.none) _ _ _
          rw [hsz] at hc'
          refine wpAny_pure ⟨rfl, g, tk', cc, rfl, hS', hc', fun b o e => ?_⟩
          have hb0 : b < s.heap.objs.size := Heap.lt_size e
          refine hm.heap b o ?_ (Heap.get?_push_of_some _ (Heap.get?_push_of_some _ e))
          intro z
          rcases List.mem_cons.mp z with z | z
          · exact Nat.ne_of_lt hb0 z
          · rcases List.mem_cons.mp z with z | z
            · rw [sz] at z; exact Nat.ne_of_lt (Nat.lt_succ_of_lt hb0) z
            · cases z
      · cases r2 with
        | error e => exact hr2
        | ok fl2 =>
          cases fl2 with
          | ret r =>
            obtain ⟨rfl, g, tk, cc, rfl, z1, z2, z3⟩ := hr2
            repeat (any_goals (first | assumption | wp_step))
            exact k _ _ _ z1 z2 z3
          | _ => exact hr2.elim
    | _ => exact hr.elim
end
theorem nodup_len {α : Type} [DecidableEq α] : ∀ {l m : List α}, l.Nodup → (∀ x ∈ l, x ∈ m) → l.length ≤ m.length
  | [], _, _, _ => Nat.zero_le _
  | x :: l, m, h, k => by
    have hx := k x List.mem_cons_self
    have e := List.length_erase_of_mem hx
    have hp : 0 < m.length := List.length_pos_of_mem hx
    have ih := nodup_len (l := l) (m := m.erase x) (List.nodup_cons.mp h).2 fun y hy => by
      have ne : y ≠ x := fun z => (List.nodup_cons.mp h).1 (by rw [← z]; exact hy)
      exact (List.mem_erase_of_ne ne).mpr (k y (List.mem_cons_of_mem _ hy))
    rw [e] at ih
    simp
    omega
/-! ### each once, in order -/
section
variable {α : Type} (lt : α → α → Bool)
def insU (x : α) : List α → List α
  | [] => [x]
  | y :: ys => if lt x y then x :: y :: ys else if lt y x then y :: insU x ys else y :: ys
def uniq (xs : List α) : List α := xs.foldr (insU lt) []
variable {lt}
/-- a strict order, any two comparable -/
structure Lin (lt : α → α → Bool) : Prop where
  irr : ∀ x, lt x x = false
  tr : ∀ x y z, lt x y = true → lt y z = true → lt x z = true
  tot : ∀ x y, lt x y = false → lt y x = false → x = y
theorem insU_mem (L : Lin lt) (x : α) : ∀ (ys : List α) (z : α), z ∈ insU lt x ys ↔ z = x ∨ z ∈ ys
  | [], z => by simp [insU]
  | y :: ys, z => by
    unfold insU
    split
    · simp
    · split
      · simp [insU_mem L x ys z]
        constructor
        · rintro (h | h | h)
          · exact .inr (.inl h)
          · exact .inl h
          · exact .inr (.inr h)
        · rintro (h | h | h)
          · exact .inr (.inl h)
          · exact .inl h
          · exact .inr (.inr h)
      · rename_i h1 h2
        have e : x = y := L.tot x y (by simpa using h1) (by simpa using h2)
        subst e
        simp
theorem insU_sorted (L : Lin lt) (x : α) : ∀ (ys : List α), ys.Pairwise (fun a b => lt a b = true) → (insU lt x ys).Pairwise fun a b => lt a b = true
  | [], _ => by simp [insU]
  | y :: ys, h => by
    obtain ⟨h1, h2⟩ := List.pairwise_cons.mp h
    unfold insU
    split
    · rename_i q
      exact List.pairwise_cons.mpr ⟨fun z hz => by
        rcases List.mem_cons.mp hz with e | e
        · rw [e]; exact q
        · exact L.tr _ _ _ q (h1 z e), h⟩
    · split
      · rename_i q
        refine List.pairwise_cons.mpr ⟨fun z hz => ?_, insU_sorted L x ys h2⟩
        rcases (insU_mem L x ys z).mp hz with e | e
        · rw [e]; exact q
        · exact h1 z e
      · exact h
theorem uniq_mem (L : Lin lt) : ∀ (xs : List α) (z : α), z ∈ uniq lt xs ↔ z ∈ xs
  | [], z => by simp [uniq]
  | x :: xs, z => by
    show z ∈ insU lt x (uniq lt xs) ↔ _
    rw [insU_mem L, uniq_mem L xs z, List.mem_cons]
theorem uniq_sorted (L : Lin lt) : ∀ (xs : List α), (uniq lt xs).Pairwise fun a b => lt a b = true
  | [] => .nil
  | x :: xs => insU_sorted L x _ (uniq_sorted L xs)
theorem sorted_nodup (L : Lin lt) {xs : List α} (h : xs.Pairwise fun a b => lt a b = true) : xs.Nodup := h.imp fun {a b} q z => by subst z; rw [L.irr] at q; cases q
/-- two lists in strict order with the same members are one -/
theorem sorted_unique (L : Lin lt) : ∀ {xs ys : List α}, xs.Pairwise (fun a b => lt a b = true) → ys.Pairwise (fun a b => lt a b = true) → (∀ z, z ∈ xs ↔ z ∈ ys) → xs = ys
  | [], [], _, _, _ => rfl
  | [], y :: ys, _, _, h => by have := (h y).mpr List.mem_cons_self; cases this
  | x :: xs, [], _, _, h => by have := (h x).mp List.mem_cons_self; cases this
  | x :: xs, y :: ys, h1, h2, h => by
    obtain ⟨a1, a2⟩ := List.pairwise_cons.mp h1
    obtain ⟨b1, b2⟩ := List.pairwise_cons.mp h2
    have e : x = y := by
      rcases List.mem_cons.mp ((h x).mp List.mem_cons_self) with e | e
      · exact e
      · rcases List.mem_cons.mp ((h y).mpr List.mem_cons_self) with e' | e'
        · exact e'.symm
        · have q := L.tr _ _ _ (a1 y e') (b1 x e)
          rw [L.irr] at q; cases q
    subst e
    have nx : x ∉ xs := fun z => by have := a1 x z; rw [L.irr] at this; cases this
    have ny : x ∉ ys := fun z => by have := b1 x z; rw [L.irr] at this; cases this
    congr 1
    refine sorted_unique L a2 b2 fun z => ⟨fun hz => ?_, fun hz => ?_⟩
    · rcases List.mem_cons.mp ((h z).mp (List.mem_cons_of_mem _ hz)) with e | e
      · exact absurd (e ▸ hz) nx
      · exact e
    · rcases List.mem_cons.mp ((h z).mpr (List.mem_cons_of_mem _ hz)) with e | e
      · exact absurd (e ▸ hz) ny
      · exact e
end
def ltI (a b : Int) : Bool := decide (a < b)
theorem linI : Lin ltI := ⟨fun x => by simp [ltI], fun x y z h1 h2 => by simp [ltI] at *; omega, fun x y h1 h2 => by simp [ltI] at *; omega⟩
abbrev uniqI (xs : List Int) : List Int := uniq ltI xs
section
variable {X : Cx}
/-- set(xs), xs a list of ints -/
def rSetLI (K : PySem.W.Frag) (w : World) : List V → Hp → VK → Prop := fun xs H Q => ∃ (l : Addr) (ns : List Int), xs = [.ref l] ∧ SqL K H l (ns.map V.int) ∧ ns.length + 1 < scanBound ∧
  ∀ (a : Addr) (c : Nat), H a = none → c ≤ (uniqI ns).length → Q (.ref a) (upd H a (SetO w a (fun j => decide (j ∈ ns)) c))
theorem cr_setLI (hc : X.calm = true) : CallR X (.type "set") (rSetLI X.K X.w) := by
  intro pins s σ H xs us Q I r h
  obtain ⟨l, ns, rfl, hl, hb, q⟩ := h
  rw [Vals.ref1 r]
  obtain ⟨its, rv, pl, hz⟩ := I.list hl
  have hn : H s.heap.objs.size = none := I.hok.fresh (Nat.le_refl _)
  refine set_of_ints ns (I.ok.hd hc) pl.isList (by simpa using ints_of_vals rv) hb fun g tk c R hcn k => ?_
  refine ⟨.ref s.heap.objs.size, upd H s.heap.objs.size (SetO X.w s.heap.objs.size (fun j => decide (j ∈ ns)) c), I.laid (t' := tk) k (Nat.le_refl _) (setO_new R), rfl, q _ c hn ?_⟩
  obtain ⟨o, es, ep, t, _, _, _, _, nd, hm, _, _, hn2, _⟩ := R
  have e : c = (es.toList.map keyOf).length := by rw [← hn2]; simp
  rw [e]
  refine nodup_len nd fun x hx => (uniq_mem linI ns x).mpr ?_
  have := (hm x).mpr hx
  simpa using this
theorem crOr {f : Value} {r1 r2 : List V → Hp → VK → Prop} (h1 : CallR X f r1) (h2 : CallR X f r2) : CallR X f (fun xs H Q => r1 xs H Q ∨ r2 xs H Q) := by
  intro pins s σ H xs us Q I r h
  rcases h with h | h
  · exact h1 pins s σ H xs us Q I r h
  · exact h2 pins s σ H xs us Q I r h
end
end Ev

/-! Ev6: calls of our defs, what is walked, targets. -/
namespace Ev
open PySem PySem.Spec PyProof.Rows L2
section
variable {X : Cx} {Wx : WX} {a b c e : Expr} {es rest : List Expr} {pos pp : Pos} {ma mb mc m : List Sl → W Exc D} {ta tb tc : List Sl → W Exc Bool}

/-! ### arguments -/
inductive Ar where
  | d (x : D) | pool
def ArR (K : PySem.W.Frag) (p : Option Addr) (γ : Hp) (v : V) : Ar → Prop
  | .d x => Rep K γ v x
  | .pool => ∃ a, v = .ref a ∧ p = some a
abbrev ArAll (K : PySem.W.Frag) (p : Option Addr) (γ : Hp) : List V → List Ar → Prop := Paired (ArR K p γ)
theorem ArR.mono {K : PySem.W.Frag} {p : Option Addr} {γ γ' : Hp} {v : V} {r : Ar} (h : ArR K p γ v r) (s : Same γ γ') : ArR K p γ' v r := by
  cases r with
  | d x => exact Rep.mono h s
  | pool => exact h
def PostA (K : PySem.W.Frag) (p : Option Addr) (γ H : Hp) (Q : List V → Hp → Prop) : List Ar → Prop := fun as => ∀ γ' H' vs, Ext K p γ H γ' H' → ArAll K p γ' vs as → Q vs H'
abbrev TAa (X : Cx) (Wx : WX) (m : List Sl → W Exc (List Ar)) : TA := fun σ H Q => ∃ p H0 γ ρ, Stt X.K p γ H ∧ EnvR X.K p H0 γ H σ ρ ∧ (m ρ).run (PostA X.K p γ H Q) (ExW X.K X.mg Wx p γ H σ)
theorem pA_nil : PA X [] (TAa X Wx fun _ => .ret []) := pa_of pa_nil fun σ H Q ⟨p, H0, γ, ρ, st, er, hm⟩ => hm γ H [] (.refl st) .nil
theorem pA_cons {mr : List Sl → W Exc (List Ar)} (hs : ∀ e' p, e ≠ .Starred e' p) (ha : PE X e (TEe X Wx ma)) (hr : PA X es (TAa X Wx mr)) : PA X (e :: es) (TAa X Wx fun ρ => (ma ρ).bind fun d => (mr ρ).bind fun ds => .ret (.d d :: ds)) := by
  refine pa_of (pa_cons ha hr (star1 hs X.env)) fun σ H Q ⟨p, H0, γ, ρ, st, er, hm⟩ => ?_
  refine ⟨p, H0, γ, ρ, st, er, (ma ρ).mono (fun d h1 γ1 H1 x e1 c1 => ?_) (fun _ q => q) hm⟩
  refine ⟨p, H0, γ1, ρ, e1.st, er.ext e1, (mr ρ).mono (fun ds h2 γ2 H2 vs e2 c2 => ?_) (fun _ q => q.ext st e1) h1⟩
  exact h2 γ2 H2 _ (Ext.trans st e1 e2) (.cons (c1.mono e2.gg) c2)
def getP (ρ : List Sl) (i : Nat) : W Exc Unit := match ρ[i]? with
  | some .pool => .ret ()
  | _ => .stuck
theorem pA_pool {i : Nat} {x : Str} {mr : List Sl → W Exc (List Ar)} (hN : X.N[i]? = some x) (hv : Vis X.env.scope x) (hd : (x == ("__debug__" : Str)) = false) (hcd : (x == ("__classdict__" : Str)) = false) (hr : PA X es (TAa X Wx mr)) :
    PA X (.Name x pos :: es) (TAa X Wx fun ρ => (getP ρ i).bind fun _ => (mr ρ).bind fun ds => .ret (.pool :: ds)) := by
  refine pa_of (pa_cons (pe_var hN hv hd hcd) hr rfl) fun σ H Q ⟨p, H0, γ, ρ, st, er, hm⟩ => ?_
  have h : (getP ρ i).run (fun _ => ((mr ρ).bind fun ds => .ret (.pool :: ds)).run (PostA X.K p γ H Q) (ExW X.K X.mg Wx p γ H σ)) (ExW X.K X.mg Wx p γ H σ) := hm
  unfold getP at h
  split at h
  · rename_i e
    obtain ⟨ov, e0, al, e1, e2⟩ := er.sl i _ e
    subst e1
    refine ⟨.ref al, e0, p, H0, γ, ρ, st, er, (mr ρ).mono (fun ds h2 γ2 H2 vs e2' c2 => ?_) (fun _ q => q) h⟩
    exact h2 γ2 H2 _ e2' (.cons ⟨al, rfl, e2⟩ c2)
  · exact h.elim

/-! ### a def of ours: its promise by data -/
def spD (K : PySem.W.Frag) (mg : Str → Option Value) (n : Nat) (F : List Ar → W Exc D) : Sp := fun vs H Q E => vs.length = n ∧ ∃ p γ as, Stt K p γ H ∧ ArAll K p γ vs as ∧
  (F as).run (Post K p γ H Q) (fun x => ∀ γ' H' c dd, Ext K p γ H γ' H' → ExcR mg x c dd H' → E c dd H')
theorem spD_len {K : PySem.W.Frag} {mg : Str → Option Value} {n : Nat} {F : List Ar → W Exc D} (vs : List V) (H : Hp) (Q : VK) (E : XK) (h : spD K mg n F vs H Q E) : vs.length = n := h.1
section
variable {k : Nat} {f : Addr} {fd : FuncData} {ps : List Str} {F : List Ar → W Exc D} {x : Str}
abbrev FnD (X : Cx) (k : Nat) (f : Addr) (fd : FuncData) (ps : List Str) (F : List Ar → W Exc D) : Prop := FnOk X.prog X.w X.K X.mg X.base (L2.CX X.prog X.w) k f fd ps (spD X.K X.mg ps.length F)
theorem rdCall {mas : List Sl → W Exc (List Ar)} (hF : ∀ as Q XX, (F as).run Q XX → as.length = ps.length) (σ : St) (H : Hp) (Q : VK) (h : TEe X Wx (fun ρ => (mas ρ).bind F) σ H Q) : tCallS (spD X.K X.mg ps.length F) (WE Wx) (TAa X Wx mas) σ H Q := by
  obtain ⟨p, H0, γ, ρ, st, er, hm⟩ := h
  refine ⟨p, H0, γ, ρ, st, er, (mas ρ).mono (fun as h1 γ1 H1 vs e1 c1 => ?_) (fun _ q => q) hm⟩
  have hl : vs.length = ps.length := (Paired.length c1).trans (hF as _ _ h1)
  exact ⟨hl, p, γ1, as, e1.st, c1, (F as).mono (fun d q => q.ext st e1) (fun x' q γ' H' cc dd e' r => (q.ext st e1) γ' H' cc dd e' r) h1⟩
theorem pE_call {mas : List Sl → W Exc (List Ar)} (tk : Takes X Wx) (hr : Room k X.A) (hF : ∀ as Q XX, (F as).run Q XX → as.length = ps.length) (G : FnD X k f fd ps F) (hg : Gl X x) (hm : X.mg x = some (.ref f)) (hk : PySem.W.keepIn X.K (.ref f) = true) (hb : Binds X.K fd ps [])
    (ha : PA X (e :: es) (TAa X Wx mas)) (hdb : (x == ("__debug__" : Str)) = false) (he : starEach (e :: es) X.env = (false, eval e X.env) :: starEach es X.env) (hpl : (backTo pos (starEach es X.env)).any (·.1) = false) :
    PE X (.Call (.Name x pp) (e :: es) [] pos) (TEe X Wx fun ρ => (mas ρ).bind F) :=
  pe_of (pe_callS (CX := L2.CX X.prog X.w) G hr hg hm hk hb (fun σ => passAt tk σ) ha hdb he hpl) (rdCall hF)
theorem pe_callS0 {CX : CXT} {sp : Sp} {E : St → XK} (G : FnOk X.prog X.w X.K X.mg X.base CX k f fd ps sp) (hr : Room k X.A) (hg : Gl X x) (hm : X.mg x = some (.ref f)) (hk : PySem.W.keepIn X.K (.ref f) = true) (hb : Binds X.K fd ps []) (hx : ∀ σ, PassesAt CX X σ (E σ))
    (hdb : (x == ("__debug__" : Str)) = false) : PE X (.Call (.Name x pp) [] [] pos) (tCallS sp E tNil) :=
  ⟨fun pins s σ H Q I h => wpAny_Call_Name_kw (ld_glob I hg hm (PySem.W.callWith_K0 I.kIn hk (run_fnS (us := []) G hr hb (hx σ) I .nil h)) hdb)⟩
theorem pE_call0 (tk : Takes X Wx) (hr : Room k X.A) (hF : ∀ as Q XX, (F as).run Q XX → as.length = ps.length) (G : FnD X k f fd ps F) (hg : Gl X x) (hm : X.mg x = some (.ref f)) (hk : PySem.W.keepIn X.K (.ref f) = true) (hb : Binds X.K fd ps [])
    (hdb : (x == ("__debug__" : Str)) = false) : PE X (.Call (.Name x pp) [] [] pos) (TEe X Wx fun _ => F []) := by
  refine pe_of (pe_callS0 (CX := L2.CX X.prog X.w) G hr hg hm hk hb (fun σ => passAt tk σ) hdb) fun σ H Q ⟨p, H0, γ, ρ, st, er, hq⟩ => ?_
  exact ⟨hF [] _ _ hq, p, γ, [], st, .nil, (F []).mono (fun d q => q) (fun x' q γ' H' cc dd e' r => q γ' H' cc dd e' r) hq⟩
end

/-! ### what is walked -/
/-- an item that comes (a pair of zip's may be told no more of than its items) -/
def IRep (K : PySem.W.Frag) (γ H : Hp) (x : V) (d : D) : Prop := Rep K γ x d ∨ ∃ a vs ds, x = .ref a ∧ d = .tuple ds ∧ SqT K H a vs ∧ RepAll K γ vs ds
structure ItD (K : PySem.W.Frag) (p : Option Addr) (γ : Hp) (J : It) (ds : List D) (pl : Bool := true) : Prop where
  go : ∀ (γ' H' : Hp) (i : Nat), Same γ γ' → Stt K p γ' H' → i < ds.length → J.go i H'
  stop : ∀ (γ' H' : Hp) (i : Nat), Same γ γ' → Stt K p γ' H' → ds.length ≤ i → J.stop i H'
  yld : ∀ (γ' H' : Hp) (i : Nat) (x : V) (H'' : Hp), Same γ γ' → Stt K p γ' H' → i < ds.length → J.yld i H' x H'' → ∃ d, ds[i]? = some d ∧ IRep K γ' H'' x d ∧ (pl = true → Rep K γ' x d) ∧ Ext K p γ' H' γ' H''
theorem ItD.mono {K : PySem.W.Frag} {p : Option Addr} {γ γ1 : Hp} {J : It} {ds : List D} {pl : Bool} (h : ItD K p γ J ds pl) (s : Same γ γ1) : ItD K p γ1 J ds pl :=
  ⟨fun γ' H' i s' => h.go γ' H' i (s.trans s'), fun γ' H' i s' => h.stop γ' H' i (s.trans s'), fun γ' H' i x H'' s' => h.yld γ' H' i x H'' (s.trans s')⟩
def PostI (K : PySem.W.Frag) (p : Option Addr) (γ H : Hp) (pl : Bool) (R : It → Hp → Prop) : List D → Prop := fun ds => ∀ γ' H' J, Ext K p γ H γ' H' → ItD K p γ' J ds pl → R J H'
abbrev TIi (X : Cx) (Wx : WX) (m : List Sl → W Exc (List D)) (pl : Bool := true) : TI := fun σ H R => ∃ p H0 γ ρ, Stt X.K p γ H ∧ EnvR X.K p H0 γ H σ ρ ∧ (m ρ).run (PostI X.K p γ H pl R) (ExW X.K X.mg Wx p γ H σ)
theorem itd_list {K : PySem.W.Frag} {p : Option Addr} {γ : Hp} {al : Addr} {vs : List V} {ds : List D} (ha : γ al = some (.lst vs)) (ra : RepAll K γ vs ds) : ItD K p γ (Itl K al) ds where
  go := fun γ' H' i s st hi => ⟨vs, vs[i]'(by rw [ra.length]; exact hi), .of (st.sub _ _ (s _ _ ha)), by simp⟩
  stop := fun γ' H' i s st hi => ⟨vs, .of (st.sub _ _ (s _ _ ha)), by rw [ra.length]; exact hi⟩
  yld := fun γ' H' i x H'' s st hi ⟨e, h⟩ => by
    obtain ⟨d, hd, r⟩ := ra.getV (h vs (.of (st.sub _ _ (s _ _ ha))))
    subst e
    exact ⟨d, hd, .inl (r.mono s), fun _ => r.mono s, .refl st⟩
theorem itd_tup {K : PySem.W.Frag} {p : Option Addr} {γ : Hp} {al : Addr} {vs : List V} {ds : List D} (ha : TupAt K γ al vs) (ra : RepAll K γ vs ds) : ItD K p γ (Itt K al) ds where
  go := fun γ' H' i s st hi => ⟨vs, vs[i]'(by rw [ra.length]; exact hi), (ha.mono (s.trans st.sub)).sq, by simp⟩
  stop := fun γ' H' i s st hi => ⟨vs, (ha.mono (s.trans st.sub)).sq, by rw [ra.length]; exact hi⟩
  yld := fun γ' H' i x H'' s st hi ⟨e, h⟩ => by
    obtain ⟨d, hd, r⟩ := ra.getV (h vs (ha.mono (s.trans st.sub)).sq)
    subst e
    exact ⟨d, hd, .inl (r.mono s), fun _ => r.mono s, .refl st⟩
def signsD (z : Str) : List D := z.cps.toList.map fun c => .str ⟨#[c]⟩
theorem strOk_sign {z : Str} (h : PyData.strOk z = true) {c : Nat} (hc : c ∈ z.cps.toList) : PyData.strOk ⟨#[c]⟩ = true := by
  have hh := Array.all_eq_true_iff_forall_mem.mp h c (by simpa using hc)
  simp [PyData.strOk]; simpa using hh
theorem itd_str {K : PySem.W.Frag} {p : Option Addr} {γ : Hp} {z : Str} (h : PyData.strOk z = true) : ItD K p γ (Its z) (signsD z) where
  go := fun γ' H' i s st hi => by
    show i < z.cps.size
    simpa [signsD] using hi
  stop := fun γ' H' i s st hi => by
    show z.cps.size ≤ i
    simpa [signsD] using hi
  yld := fun γ' H' i x H'' s st hi ⟨e, c, hc, ex⟩ => by
    subst e ex
    have hm : c ∈ z.cps.toList := by
      have := Array.mem_of_getElem? hc
      simpa using this
    have hl : z.cps.toList[i]? = some c := by simpa using hc
    exact ⟨.str ⟨#[c]⟩, by simp [signsD, hl], .inl (.str (strOk_sign h hm)), fun _ => .str (strOk_sign h hm), .refl st⟩
theorem dkv_keys {ks : List Str} {ds : List D} (h : ks.length = ds.length) : (dkv ks ds).map (·.1) = ks.map PyData.str := by
  unfold dkv
  rw [List.map_map]
  have e : ((fun q : D × D => q.1) ∘ fun q : Str × D => (PyData.str q.1, q.2)) = PyData.str ∘ fun q : Str × D => q.1 := rfl
  rw [e, ← List.map_map, List.map_fst_zip (by omega)]
theorem kvOf_keys {ks : List Str} {xs : List V} (h : ks.length = xs.length) : (kvOf ks xs).map (·.1) = ks.map (Sum.inr : Str → Key) := by
  unfold kvOf
  rw [List.map_map]
  have e : ((fun q : Key × V => q.1) ∘ fun q : Str × V => ((Sum.inr q.1 : Key), q.2)) = (Sum.inr : Str → Key) ∘ fun q : Str × V => q.1 := rfl
  rw [e, ← List.map_map, List.map_fst_zip (by omega)]
theorem itd_keys {K : PySem.W.Frag} {p : Option Addr} {γ : Hp} {al : Addr} {o : Obj} {ks : List Str} {xs : List V} {ds : List D} (ha : γ al = some (.frz o (.dK (mergeK [] (kvOf ks xs))))) (ra : RepAll K γ xs ds) (e : KsOk ks ds) : ItD K p γ (Itk al o (mergeK [] (kvOf ks xs))) ((dkv ks ds).map (·.1)) := by
  have hl : ks.length = xs.length := e.1.2.trans ra.length.symm
  have hk := kvOf_keys hl
  have hnd : (ks.map (Sum.inr : Str → Key)).Nodup := List.Pairwise.map _ (fun a b hab z => hab (by cases z; rfl)) e.1.1
  have hm : mergeK [] (kvOf ks xs) = kvOf ks xs := by
    rw [merge_nd _ [] (by rw [List.nil_append, hk]; exact hnd), List.nil_append]
  rw [hm] at ha ⊢
  have hlen : (kvOf ks xs).length = ks.length := by have := congrArg List.length hk; simpa using this
  have hlk : ((dkv ks ds).map (·.1)).length = ks.length := by rw [dkv_keys e.1.2, List.length_map]
  refine ⟨fun γ' H' i s st hi => ⟨st.sub _ _ (s _ _ ha), by omega⟩, fun γ' H' i s st hi => ⟨st.sub _ _ (s _ _ ha), by omega⟩, fun γ' H' i x H'' s st hi ⟨e1, k, v, e2, e3⟩ => ?_⟩
  subst e1
  have h1 : (ks.map (Sum.inr : Str → Key))[i]? = some k := by rw [← hk, List.getElem?_map, e2]; rfl
  rw [List.getElem?_map] at h1
  cases h2 : ks[i]? with
  | none => rw [h2] at h1; cases h1
  | some z =>
    rw [h2] at h1
    cases h1
    have hz := e.2 z (List.mem_of_getElem? h2)
    refine ⟨.str z, by rw [dkv_keys e.1.2, List.getElem?_map, h2]; rfl, .inl ?_, fun _ => ?_, .refl st⟩
    · rw [e3]; exact .str hz
    · rw [e3]; exact .str hz
def iterD : D → W Exc (List D)
  | .list xs => (W.given (xs.length ≤ sizeLine)).bind fun _ => .ret xs
  | .tuple xs => (W.given (xs.length ≤ sizeLine)).bind fun _ => .ret xs
  | .str z => .ret (signsD z)
  | .dict kvs => .ret (kvs.map (·.1))
  | _ => .stuck
theorem pI_seq {tg : Expr} (he : PE X e (TEe X Wx ma)) : PI X tg e (TIi X Wx fun ρ => (ma ρ).bind iterD) := by
  refine ⟨fun pins s σ H R I ⟨p, H0, γ, ρ, st, er, hm⟩ => ?_⟩
  have hq : TEe X Wx ma σ H fun x H1 => ∃ γ1 d, Ext X.K p γ H γ1 H1 ∧ Rep X.K γ1 x d ∧ (iterD d).run (PostI X.K p γ H true R) (ExW X.K X.mg Wx p γ H σ) :=
    ⟨p, H0, γ, ρ, st, er, (ma ρ).mono (fun d h1 γ1 H1 x e1 c1 => ⟨γ1, d, e1, c1, h1⟩) (fun _ q => q) hm⟩
  refine thn (he.run pins s σ H _ I hq) fun v s1 hh => ?_
  obtain ⟨x, H1, I1, r1, γ1, d, e1, c1, h1⟩ := hh
  cases d with
  | list xs =>
    obtain ⟨al, vs, rfl, ha, ra⟩ := c1.ofLst
    obtain rfl : v = Value.ref al := r1
    have sq : SqL X.K H1 al vs := .of (e1.st.sub _ _ ha)
    obtain ⟨its, rv, pl, hz⟩ := I1.list sq
    exact wpAny_pyIter_list pl.isList (pi_one (tk := s1.toks) I1 _ (turn_list al _) ⟨_, Heap.get?_push_size _ rfl, rfl, rfl⟩ (h1 (by rw [← ra.length]; exact hz) γ1 H1 _ e1 (itd_list ha ra)))
  | tuple xs =>
    obtain ⟨al, vs, rfl, ha, ra⟩ := c1.ofTup
    obtain rfl : v = Value.ref al := r1
    have sq : SqT X.K H1 al vs := (ha.mono e1.st.sub).sq
    obtain ⟨its, rv, pl, hz⟩ := I1.tuple sq
    exact wpAny_pyIter_tuple (show s1.heap.IsTuple al its.toArray from pl) (pi_one (tk := s1.toks) I1 _ (turn_tuple al _) ⟨_, Heap.get?_push_size _ rfl, rfl, rfl⟩ (h1 (by rw [← ra.length]; exact hz) γ1 H1 _ e1 (itd_tup ha ra)))
  | str z =>
    rw [c1.ofStr] at r1
    obtain ⟨t, rfl⟩ := r1
    have q := h1 γ1 H1 _ e1 (itd_str c1.strOk)
    cases hb : z.cps.all (· < 128)
    · exact wpAny_pyIter_wide hb (pi_one (tk := s1.toks) I1 _ (turn_str _ z t "str_iterator" (.inr rfl)) ⟨_, Heap.get?_push_size _ rfl, rfl, rfl⟩ q)
    · exact wpAny_pyIter_ascii hb (pi_one (tk := s1.toks) I1 _ (turn_str _ z t "str_ascii_iterator" (.inl rfl)) ⟨_, Heap.get?_push_size _ rfl, rfl, rfl⟩ q)
  | dict kvs =>
    obtain ⟨al, ks, xs, ds, rfl, ⟨o, ha⟩, ra, ek, rfl⟩ := c1.ofDct
    obtain rfl : v = Value.ref al := r1
    have q := h1 γ1 H1 _ e1 (itd_keys ha ra ek)
    obtain ⟨hs, hgd, hx, es, ep, vs, hdt, hsz, kv, hm⟩ := I1.frzK (e1.st.sub _ _ ha)
    refine iter_keys hs hgd hx hdt (pi_one (tk := s1.toks) I1 _ (turn_keys _ hdt) ⟨_, Heap.get?_push_size _ rfl, rfl, ?_⟩ q)
    rw [hsz] <;> rfl
  | _ => exact False.elim h1
def upto (lo : Int) (n : Nat) : List D := (List.range n).map fun i => .int (lo + (i : Nat))
theorem itd_rng {K : PySem.W.Frag} {p : Option Addr} {γ : Hp} {lo : Int} {n : Nat} : ItD K p γ (Itr lo n) (upto lo n) where
  go := fun γ' H' i s st hi => by
    show i < n
    simpa [upto] using hi
  stop := fun γ' H' i s st hi => by
    show n ≤ i
    simpa [upto] using hi
  yld := fun γ' H' i x H'' s st hi ⟨e, ex⟩ => by
    subst e ex
    have hi' : i < n := by simpa [upto] using hi
    exact ⟨_, by simp [upto, hi'], .inl .int, fun _ => .int, .refl st⟩
def rng1D : D → W Exc (List D)
  | .int j => (W.ask (-(2 ^ 62) ≤ j ∧ j < 2 ^ 62)).bind fun _ => .ret (upto 0 j.toNat)
  | _ => .stuck
def rng2D : D → D → W Exc (List D)
  | .int i, .int j => (W.ask (-(2 ^ 62) ≤ i ∧ i < 2 ^ 62 ∧ -(2 ^ 62) ≤ j ∧ j < 2 ^ 62)).bind fun _ => .ret (upto i (j - i).toNat)
  | _, _ => .stuck
theorem pi_of {tg iter : Expr} {t t' : TI} (h : PI X tg iter t) (k : ∀ σ H R, t' σ H R → t σ H R) : PI X tg iter t' := ⟨fun pins s σ H R I q => h.run pins s σ H R I (k _ _ _ q)⟩
theorem pI_rng1 {tg : Expr} (hg : Gl X "range") (hm : X.mg "range" = none) (hs : ∀ e' p, e ≠ .Starred e' p) (he : PE X e (TEe X Wx ma)) : PI X tg (.Call (.Name "range" pp) [e] [] pos) (TIi X Wx fun ρ => (ma ρ).bind rng1D) := by
  refine pi_of (pi_range1 hg hm (pa_cons he pa_nil (star1 hs X.env)) (star1 hs X.env)) fun σ H R ⟨p, H0, γ, ρ, st, er, hq⟩ => ?_
  refine ⟨p, H0, γ, ρ, st, er, (ma ρ).mono (fun d h1 γ1 H1 x e1 c1 => ?_) (fun _ q => q) hq⟩
  cases d <;> first
    | exact False.elim h1
    | skip
  exact ⟨_, by rw [c1.ofInt], h1.1.1, h1.1.2, h1.2 γ1 H1 _ e1 itd_rng⟩
theorem pI_rng2 {tg : Expr} (hg : Gl X "range") (hm : X.mg "range" = none) (hs : ∀ e' p, e ≠ .Starred e' p) (hs2 : ∀ e' p, c ≠ .Starred e' p) (he : PE X e (TEe X Wx ma)) (hc : PE X c (TEe X Wx mb)) :
    PI X tg (.Call (.Name "range" pp) [e, c] [] pos) (TIi X Wx fun ρ => (ma ρ).bind fun d => (mb ρ).bind fun f => rng2D d f) := by
  refine pi_of (pi_range2 hg hm (pa_cons he (pa_cons hc pa_nil (star1 hs2 X.env)) (star1 hs X.env)) (by rw [star1 hs, star1 hs2]; rfl) (star1 hs2 X.env)) fun σ H R ⟨p, H0, γ, ρ, st, er, hq⟩ => ?_
  refine ⟨p, H0, γ, ρ, st, er, (ma ρ).mono (fun d h1 γ1 H1 x e1 c1 => ?_) (fun _ q => q) hq⟩
  refine ⟨p, H0, γ1, ρ, e1.st, er.ext e1, (mb ρ).mono (fun f h2 γ2 H2 y e2 c2 => ?_) (fun _ q => q.ext st e1) h1⟩
  cases d <;> cases f <;> first
    | exact False.elim h2
    | skip
  exact ⟨_, _, by rw [c1.ofInt, c2.ofInt], h2.1, h2.2 γ2 H2 _ (Ext.trans st e1 e2) itd_rng⟩
/-- reversed(x) -/
theorem itd_rev {K : PySem.W.Frag} {p : Option Addr} {γ : Hp} {al : Addr} {vs : List V} {ds : List D} (ha : γ al = some (.lst vs)) (ra : RepAll K γ vs ds) : ItD K p γ (Itv K al vs.length) ds.reverse where
  go := fun γ' H' i s st hi => by
    have hi' : i < vs.length := by rw [ra.length]; simpa using hi
    exact ⟨hi', vs, vs[vs.length - 1 - i]'(by omega), .of (st.sub _ _ (s _ _ ha)), by simp⟩
  stop := fun γ' H' i s st hi => by
    show vs.length ≤ i
    rw [ra.length]; simpa using hi
  yld := fun γ' H' i x H'' s st hi ⟨e, h⟩ => by
    have hi' : i < ds.length := by simpa using hi
    obtain ⟨d, hd, r⟩ := ra.getV (h vs (.of (st.sub _ _ (s _ _ ha))))
    subst e
    exact ⟨d, by rw [List.getElem?_reverse hi', ← ra.length]; exact hd, .inl (r.mono s), fun _ => r.mono s, .refl st⟩
theorem itd_revT {K : PySem.W.Frag} {p : Option Addr} {γ : Hp} {al : Addr} {vs : List V} {ds : List D} (ha : TupAt K γ al vs) (ra : RepAll K γ vs ds) : ItD K p γ (RT.ItvT K al vs.length) ds.reverse where
  go := fun γ' H' i s st hi => by
    have hi' : i < vs.length := by rw [ra.length]; simpa using hi
    exact ⟨hi', vs, vs[vs.length - 1 - i]'(by omega), (ha.mono (s.trans st.sub)).sq, by simp⟩
  stop := fun γ' H' i s st hi => by
    show vs.length ≤ i
    rw [ra.length]; simpa using hi
  yld := fun γ' H' i x H'' s st hi ⟨e, h⟩ => by
    have hi' : i < ds.length := by simpa using hi
    obtain ⟨d, hd, r⟩ := ra.getV (h vs (ha.mono (s.trans st.sub)).sq)
    subst e
    exact ⟨d, by rw [List.getElem?_reverse hi', ← ra.length]; exact hd, .inl (r.mono s), fun _ => r.mono s, .refl st⟩
def revD : D → W Exc (List D)
  | .list xs => .ret xs.reverse
  | .tuple xs => .ret xs.reverse
  | _ => .stuck
theorem pI_rev {tg : Expr} (hg : Gl X "reversed") (hm : X.mg "reversed" = none) (hs : ∀ e' p, e ≠ .Starred e' p) (he : PE X e (TEe X Wx ma)) : PI X tg (.Call (.Name "reversed" pp) [e] [] pos) (TIi X Wx fun ρ => (ma ρ).bind revD) := by
  refine pi_of (RT.pi_revA hg hm he (star1 hs X.env)) fun σ H R ⟨p, H0, γ, ρ, st, er, hq⟩ => ?_
  refine ⟨p, H0, γ, ρ, st, er, (ma ρ).mono (fun d h1 γ1 H1 x e1 c1 => ?_) (fun _ q => q) hq⟩
  cases d <;> first
    | exact False.elim h1
    | skip
  · obtain ⟨al, vs, rfl, ha, ra⟩ := c1.ofLst
    exact ⟨al, vs, rfl, .inl ⟨.of (e1.st.sub _ _ ha), h1 γ1 H1 _ e1 (itd_rev ha ra)⟩⟩
  · obtain ⟨al, vs, rfl, ha, ra⟩ := c1.ofTup
    exact ⟨al, vs, rfl, .inr ⟨(ha.mono e1.st.sub).sq, h1 γ1 H1 _ e1 (itd_revT ha ra)⟩⟩
/-- zip(x, y): the items are pairs -/
def pairsD (xs ys : List D) : List D := (xs.zip ys).map fun q => .tuple [q.1, q.2]
theorem pairsD_get {xs ys : List D} {i : Nat} {x y : D} (hx : xs[i]? = some x) (hy : ys[i]? = some y) : (pairsD xs ys)[i]? = some (.tuple [x, y]) := by
  unfold pairsD
  rw [List.getElem?_map, show (xs.zip ys)[i]? = some (x, y) from List.getElem?_zip_eq_some.mpr ⟨hx, hy⟩]
  rfl
theorem pairsD_len (xs ys : List D) : (pairsD xs ys).length = min xs.length ys.length := by simp [pairsD]
theorem itd_zip {K : PySem.W.Frag} {p : Option Addr} {γ : Hp} {al bl : Addr} {vs ws : List V} {ds es : List D} (ha : γ al = some (.lst vs)) (ra : RepAll K γ vs ds) (hb : γ bl = some (.lst ws)) (rb : RepAll K γ ws es) : ItD K p γ (Itz K al bl) (pairsD ds es) false where
  go := fun γ' H' i s st hi => by
    rw [pairsD_len, ← ra.length, ← rb.length] at hi
    exact ⟨vs, ws, vs[i]'(by omega), ws[i]'(by omega), .of (st.sub _ _ (s _ _ ha)), .of (st.sub _ _ (s _ _ hb)), by simp, by simp⟩
  stop := fun γ' H' i s st hi => by
    rw [pairsD_len, ← ra.length, ← rb.length] at hi
    exact ⟨vs, ws, .of (st.sub _ _ (s _ _ ha)), .of (st.sub _ _ (s _ _ hb)), by omega⟩
  yld := fun γ' H' i x H'' s st hi ⟨T, x1, y1, ex, hT, eH, h1, h2⟩ => by
    obtain ⟨d, hd, rd⟩ := ra.getV (h1 vs (.of (st.sub _ _ (s _ _ ha))))
    obtain ⟨f, hf, rf⟩ := rb.getV (h2 ws (.of (st.sub _ _ (s _ _ hb))))
    subst ex eH
    exact ⟨_, pairsD_get hd hf, .inr ⟨T, [x1, y1], [d, f], rfl, rfl, .of upd_same, .cons (rd.mono s) (.cons (rf.mono s) .nil)⟩, fun z => (nomatch z), .own st hT⟩
theorem itd_zipT {K : PySem.W.Frag} {p : Option Addr} {γ : Hp} {al bl : Addr} {vs ws : List V} {ds es : List D} (ha : TupAt K γ al vs) (ra : RepAll K γ vs ds) (hb : TupAt K γ bl ws) (rb : RepAll K γ ws es) : ItD K p γ (RZ.ItzT K al bl) (pairsD ds es) false where
  go := fun γ' H' i s st hi => by
    rw [pairsD_len, ← ra.length, ← rb.length] at hi
    exact ⟨vs, ws, vs[i]'(by omega), ws[i]'(by omega), (ha.mono (s.trans st.sub)).sq, (hb.mono (s.trans st.sub)).sq, by simp, by simp⟩
  stop := fun γ' H' i s st hi => by
    rw [pairsD_len, ← ra.length, ← rb.length] at hi
    exact ⟨vs, ws, (ha.mono (s.trans st.sub)).sq, (hb.mono (s.trans st.sub)).sq, by omega⟩
  yld := fun γ' H' i x H'' s st hi ⟨T, x1, y1, ex, hT, eH, h1, h2⟩ => by
    obtain ⟨d, hd, rd⟩ := ra.getV (h1 vs (ha.mono (s.trans st.sub)).sq)
    obtain ⟨f, hf, rf⟩ := rb.getV (h2 ws (hb.mono (s.trans st.sub)).sq)
    subst ex eH
    exact ⟨_, pairsD_get hd hf, .inr ⟨T, [x1, y1], [d, f], rfl, rfl, .of upd_same, .cons (rd.mono s) (.cons (rf.mono s) .nil)⟩, fun z => (nomatch z), .own st hT⟩
def zipD : D → D → W Exc (List D)
  | .list xs, .list ys => .ret (pairsD xs ys)
  | .tuple xs, .tuple ys => .ret (pairsD xs ys)
  | _, _ => .stuck
theorem pI_zip {elts : List Expr} {kk : Nat} {tpos : Pos} (hg : Gl X "zip") (hm : X.mg "zip" = none) (hs : ∀ e' p, e ≠ .Starred e' p) (hs2 : ∀ e' p, c ≠ .Starred e' p) (he : PE X e (TEe X Wx ma)) (hc : PE X c (TEe X Wx mb)) :
    PI X (.Tuple elts kk tpos) (.Call (.Name "zip" pp) [e, c] [] pos) (TIi X Wx (fun ρ => (ma ρ).bind fun d => (mb ρ).bind fun f => zipD d f) false) := by
  refine pi_of (RZ.pi_zipA hg hm (pa_cons he (pa_cons hc pa_nil (star1 hs2 X.env)) (star1 hs X.env)) (star1 hs X.env) (back1 hs2 _ _)) fun σ H R ⟨p, H0, γ, ρ, st, er, hq⟩ => ?_
  refine ⟨p, H0, γ, ρ, st, er, (ma ρ).mono (fun d h1 γ1 H1 x e1 c1 => ?_) (fun _ q => q) hq⟩
  refine ⟨p, H0, γ1, ρ, e1.st, er.ext e1, (mb ρ).mono (fun f h2 γ2 H2 y e2 c2 => ?_) (fun _ q => q.ext st e1) h1⟩
  have e12 := Ext.trans st e1 e2
  cases d <;> cases f <;> first
    | exact False.elim h2
    | skip
  · obtain ⟨al, vs, rfl, ha, ra⟩ := (c1.mono e2.gg).ofLst
    obtain ⟨bl, ws, rfl, hb, rb⟩ := c2.ofLst
    exact ⟨al, bl, vs, ws, rfl, .inl ⟨.of (e2.st.sub _ _ ha), .of (e2.st.sub _ _ hb), h2 γ2 H2 _ e12 (itd_zip ha ra hb rb)⟩⟩
  · obtain ⟨al, vs, rfl, ha, ra⟩ := (c1.mono e2.gg).ofTup
    obtain ⟨bl, ws, rfl, hb, rb⟩ := c2.ofTup
    exact ⟨al, bl, vs, ws, rfl, .inr ⟨(ha.mono e2.st.sub).sq, (hb.mono e2.st.sub).sq, h2 γ2 H2 _ e12 (itd_zipT ha ra hb rb)⟩⟩

/-! ### targets -/
inductive T where
  | nm (i : Nat) | tup (is : List Nat)
def setAll : List Nat → List D → List Sl → List Sl
  | i :: is, d :: ds, ρ => setAll is ds (ρ.set i (.val d))
  | _, _, ρ => ρ
def asgT : T → D → List Sl → W Exc (List Sl)
  | .nm i, d, ρ => .ret (ρ.set i (.val d))
  | .tup is, .tuple ds, ρ => (W.ask (ds.length = is.length)).bind fun _ => .ret (setAll is ds ρ)
  | .tup is, .list ds, ρ => (W.ask (ds.length = is.length)).bind fun _ => .ret (setAll is ds ρ)
  | _, _, _ => .stuck
def gAll : List Nat → TGs
  | [] => gNil
  | i :: is => gCons (gName i) (gAll is)
def gT (K : PySem.W.Frag) : T → TG
  | .nm i => gName i
  | .tup is => fun v σ H Q => gTup K is.length (gAll is) v σ H Q ∨ gLst K is.length (gAll is) v σ H Q
/-- the slots is alone changed -/
def OnlyAt (is : List Nat) (σ σ' : St) : Prop := ∀ vs : List Nat, (∀ i ∈ is, i ∈ vs) → wipe σ' vs = wipe σ vs
theorem wipe_at (σ : St) : ∀ (vs : List Nat) (j : Nat), (wipe σ vs)[j]? = if j ∈ vs then (if j < σ.length then some none else none) else σ[j]?
  | [], j => by simp [wipe]
  | v :: vs, j => by
    unfold wipe
    rw [List.getElem?_set, wipe_length, wipe_at σ vs j]
    by_cases h : v = j
    · subst h; simp
    · have h' : ¬ j = v := fun e => h e.symm
      simp [h, h']
theorem wipe_set {σ : St} {i : Nat} {v : Option V} {vs : List Nat} (h : i ∈ vs) : wipe (σ.set i v) vs = wipe σ vs := by
  apply List.ext_getElem?
  intro j
  rw [wipe_at, wipe_at, List.length_set]
  by_cases hj : j ∈ vs
  · rw [if_pos hj, if_pos hj]
  · rw [if_neg hj, if_neg hj, List.getElem?_set_ne (fun e => hj (by rw [← e]; exact h))]
theorem wipe_wipe (σ : St) (vs : List Nat) : wipe (wipe σ vs) vs = wipe σ vs := by
  apply List.ext_getElem?
  intro j
  rw [wipe_at, wipe_at, wipe_length]
  by_cases hj : j ∈ vs
  · rw [if_pos hj, if_pos hj]
  · rw [if_neg hj, if_neg hj]
theorem OnlyAt.refl (is : List Nat) (σ : St) : OnlyAt is σ σ := fun _ _ => rfl
/-- where the old slots are right the new ones are -/
def Carry (K : PySem.W.Frag) (p : Option Addr) (H0 γ : Hp) (σ : St) (ρ : List Sl) (σ' : St) (ρ' : List Sl) : Prop := ∀ γ' H', Same γ γ' → EnvR K p H0 γ' H' σ ρ → EnvR K p H0 γ' H' σ' ρ'
def T.idx : T → List Nat
  | .nm i => [i]
  | .tup is => is
theorem gAll_ok {K : PySem.W.Frag} {p : Option Addr} {H0 γ H : Hp} : ∀ {is : List Nat} {vs : List V} {ds : List D} {σ : St} {ρ : List Sl} {Q : St → Hp → Prop}, RepAll K γ vs ds → ds.length = is.length → EnvR K p H0 γ H σ ρ →
    (∀ σ', EnvR K p H0 γ H σ' (setAll is ds ρ) → OnlyAt is σ σ' → Carry K p H0 γ σ ρ σ' (setAll is ds ρ) → Q σ' H) → gAll is vs σ H Q
  | [], [], [], σ, ρ, Q, _, _, er, h => ⟨rfl, h σ er (.refl _ _) fun _ _ _ r => r⟩
  | [], _ :: _, [], _, _, _, r, _, _, _ => by cases r.1
  | [], _, _ :: _, _, _, _, _, hl, _, _ => by cases hl
  | i :: is, [], [], _, _, _, _, hl, _, _ => by cases hl
  | i :: is, [], _ :: _, _, _, _, r, _, _, _ => by cases r.1
  | i :: is, _ :: _, [], _, _, _, r, _, _, _ => by cases r.1
  | i :: is, v :: vs, d :: ds, σ, ρ, Q, r, hl, er, h => ⟨v, vs, rfl, gAll_ok r.tail (by simpa using hl) (er.setVal r.head) fun σ' e o cy => h σ' e (fun ws hw => by
      rw [o ws (fun k hk => hw k (List.mem_cons_of_mem _ hk)), wipe_set (hw i List.mem_cons_self)]) fun γ' H' sm r' => cy γ' H' sm (r'.setVal (r.head.mono sm))⟩
theorem gT_ok {K : PySem.W.Frag} {p : Option Addr} {H0 γ H : Hp} {t : T} {v : V} {d : D} {σ : St} {ρ : List Sl} {Q : St → Hp → Prop} {R : List Sl → Prop} {XX : Exc → Prop} (st : Stt K p γ H) (r : IRep K γ H v d) (ht : ∀ i, t = .nm i → Rep K γ v d) (er : EnvR K p H0 γ H σ ρ)
    (h : (asgT t d ρ).run R XX) (k : ∀ ρ' σ', R ρ' → EnvR K p H0 γ H σ' ρ' → OnlyAt t.idx σ σ' → Carry K p H0 γ σ ρ σ' ρ' → Q σ' H) : gT K t v σ H Q := by
  cases t with
  | nm i => exact k _ _ h (er.setVal (ht i rfl)) (fun vs hv => wipe_set (hv i List.mem_cons_self)) fun γ' H' sm r' => r'.setVal ((ht i rfl).mono sm)
  | tup is =>
    cases d <;> first
      | exact False.elim h
      | skip
    · rename_i ds
      rcases r with r | ⟨_, _, _, _, e, _⟩
      · obtain ⟨al, vs, rfl, ha, ra⟩ := r.ofLst
        exact .inr ⟨al, vs, rfl, .of (st.sub _ _ ha), by rw [ra.length]; exact h.1, gAll_ok ra h.1 er fun σ' e' o cy => k _ _ h.2 e' o cy⟩
      · cases e
    · rename_i ds
      rcases r with r | ⟨al, vs, ds', rfl, e, ha, ra⟩
      · obtain ⟨al, vs, rfl, ha, ra⟩ := r.ofTup
        exact .inl ⟨al, vs, rfl, (ha.mono st.sub).sq, by rw [ra.length]; exact h.1, gAll_ok ra h.1 er fun σ' e' o cy => k _ _ h.2 e' o cy⟩
      · cases e
        exact .inl ⟨al, vs, rfl, ha, by rw [ra.length]; exact h.1, gAll_ok ra h.1 er fun σ' e' o cy => k _ _ h.2 e' o cy⟩
end
end Ev

/-! Ev7: comprehensions. -/
namespace Ev
open PySem PySem.Spec PyProof.Rows L2

/-- what must not raise -/
def noErr {α : Type} (m : W Exc α) : W Exc α := ⟨fun Q _ => m.run Q fun _ => False, fun h _ q => m.mono h (fun _ z => z) q⟩
@[simp] theorem noErr_run {α : Type} {m : W Exc α} {Q : α → Prop} {XX : Exc → Prop} : (noErr m).run Q XX = m.run Q (fun _ => False) := rfl
def lcD (body : D → W Exc (Option D)) : List D → List D → W Exc (List D)
  | [], acc => .ret acc
  | x :: xs, acc => (body x).bind fun o => match o with
    | none => lcD body xs acc
    | some y => lcD body xs (acc ++ [y])
/-- one turn -/
def turnB (t : T) (mt : List Sl → W Exc Bool) (me : List Sl → W Exc D) (ρ : List Sl) (x : D) : W Exc (Option D) :=
  (asgT t x ρ).bind fun ρ1 => noErr ((mt ρ1).bind fun b => if b then (me ρ1).bind fun y => .ret (some y) else .ret none)
def lcW (t : T) (vs : List Nat) (mi : List Sl → W Exc (List D)) (mt : List Sl → W Exc Bool) (me : List Sl → W Exc D) : List Sl → W Exc (List D) := fun ρ =>
  (mi ρ).bind fun xs => (W.ask (xs.length ≤ sizeLine)).bind fun _ => lcD (turnB t mt me (wipeR ρ vs)) xs []
abbrev W0 : WX := fun _ _ _ _ => False
theorem Ext.mut {K : PySem.W.Frag} {p : Option Addr} {γ H γ' H' : Hp} {a : Addr} {o : HO} (st : Stt K p γ H) (e : Ext K p γ H γ' H') (n : H a = none) (n' : γ' a = none) : Ext K p γ H γ' (L2.upd H' a o) := by
  refine ⟨e.gg, e.new, fun b o' hp q => ?_, ⟨fun b o' q => ?_, fun b hb => ?_⟩⟩
  · rw [upd_ne (fun z => by rw [z, n] at q; cases q)]; exact e.same b o' hp q
  · rw [upd_ne (fun z => by rw [z, n'] at q; cases q)]; exact e.st.sub b o' q
  · obtain ⟨g, c, ns, i, j, k, l, e1, e2, e3⟩ := e.st.pool b hb
    obtain ⟨_, _, _, _, _, _, _, f1, _⟩ := st.pool b hb
    exact ⟨g, c, ns, i, j, k, l, by rw [upd_ne (fun z => by rw [z, n] at f1; cases f1)]; exact e1, e2, e3⟩
theorem Ext.fre {K : PySem.W.Frag} {p : Option Addr} {γ H γ' H' : Hp} {a : Addr} (e : Ext K p γ H γ' H') (st : Stt K p γ H) (n : H' a = none) : H a = none := by
  cases z : H a with
  | none => rfl
  | some o => obtain ⟨_, w⟩ := e.there st z; rw [n] at w; cases w
theorem Ext.gnone {K : PySem.W.Frag} {p : Option Addr} {γ H γ' H' : Hp} {a : Addr} {o : HO} (e : Ext K p γ H γ' H') (n : γ a = none) (h : H a = some o) : γ' a = none := by
  cases z : γ' a with
  | none => rfl
  | some o' =>
    rcases e.new a o' z with w | w
    · rw [n] at w; cases w
    · rw [h] at w; cases w
section
variable {X : Cx} {Wx : WX} {e : Expr} {pos : Pos}
theorem rdLc {t : T} {vs : List Nat} {mi : List Sl → W Exc (List D)} {mt : List Sl → W Exc Bool} {me : List Sl → W Exc D} (hv : ∀ i ∈ t.idx, i ∈ vs) {pl : Bool} (hpl : ∀ i, t = .nm i → pl = true) (σ : St) (H : Hp) (Q : VK) (h : TEf X Wx (lcW t vs mi mt me) σ H Q) :
    tLc (TIi X Wx mi pl) (gT X.K t) (RdT X.K X.mg W0 mt) (RdE X.K X.mg W0 me) vs σ H Q := by
  obtain ⟨p, H0, γ, ρ, st, er, hm⟩ := h
  refine ⟨p, H0, γ, ρ, st, er, (mi ρ).mono (fun xs h1 γ1 H1 J e1 it => ?_) (fun _ q => q) hm⟩
  obtain ⟨hz, h1⟩ := h1
  intro a hn
  have hpa : p ≠ some a := fun hp => by
    obtain ⟨_, _, _, _, _, _, _, f1, _⟩ := e1.st.pool a hp
    rw [hn] at f1; cases f1
  have ng1 : γ1 a = none := by
    cases z : γ1 a with
    | none => rfl
    | some o => have := e1.st.sub a o z; rw [hn] at this; cases this
  have hnH : H a = none := e1.fre st hn
  refine ⟨fun i m H' => m = xs.length - i ∧ i ≤ xs.length ∧ ∃ γ' acc vacc, Ext X.K p γ1 H1 γ' H' ∧ H' a = some (.lst vacc) ∧ RepAll X.K γ' vacc acc ∧ γ' a = none ∧ acc.length ≤ i ∧
    (lcD (turnB t mt me (wipeR ρ vs)) (xs.drop i) acc).run (PostF X.K p γ H Q) (ExW X.K X.mg Wx p γ H σ), ⟨xs.length, by simp, Nat.zero_le _, γ1, [], [], .own e1.st hn, upd_same, .nil, ng1, Nat.le_refl _, h1⟩, ?_⟩
  rintro i m H' ⟨rfl, hi, γ', acc, vacc, e2, hD, ra, ng, hl, hr⟩
  by_cases hlt : i < xs.length
  · have hdrop : xs.drop i = xs[i] :: xs.drop (i + 1) := List.drop_eq_getElem_cons hlt
    rw [hdrop] at hr
    refine .inr ⟨it.go γ' H' i e2.gg e2.st hlt, fun H'' => ∃ γ'' acc' vacc', Ext X.K p γ1 H1 γ'' H'' ∧ H'' a = some (.lst vacc') ∧ RepAll X.K γ'' vacc' acc' ∧ γ'' a = none ∧ acc'.length ≤ i + 1 ∧
      (lcD (turnB t mt me (wipeR ρ vs)) (xs.drop (i + 1)) acc').run (PostF X.K p γ H Q) (ExW X.K X.mg Wx p γ H σ), fun H'' q => ⟨xs.length - (i + 1), by omega, rfl, hlt, q⟩, fun x H'' hy => ?_⟩
    obtain ⟨d, hd, r, rp, e3⟩ := it.yld γ' H' i x H'' e2.gg e2.st hlt hy
    have hd' : xs[i] = d := by rw [List.getElem?_eq_getElem hlt] at hd; exact Option.some.inj hd
    rw [hd'] at hr
    have e13 := Ext.trans e1.st e2 e3
    have e03 := Ext.trans st e1 e13
    refine gT_ok e3.st r (fun i hi => rp (hpl i hi)) ((er.ext e03).wipe vs) hr fun ρ1 σ2 h2 er2 o2 _ => ⟨?_, ?_⟩
    · rw [o2 vs hv, wipe_wipe]
    refine ⟨p, H0, γ', ρ1, e3.st, er2, (mt ρ1).mono (fun b h3 γ3 H3 e4 => ?_) (fun _ z => z.elim) h2⟩
    have e14 := Ext.trans e1.st e13 e4
    have hD3 : H3 a = some (.lst vacc) := e4.same a _ hpa (e3.same a _ hpa hD)
    have ng3 : γ3 a = none := e4.gnone (e3.gnone ng hD) (e3.same a _ hpa hD)
    cases b with
    | false => exact ⟨γ3, acc, vacc, e14, hD3, ra.mono e4.gg, ng3, Nat.le_succ_of_le hl, h3⟩
    | true =>
      refine ⟨p, H0, γ3, ρ1, e4.st, er2.ext e4, (me ρ1).mono (fun y h5 γ4 H4 v e5 r5 => ?_) (fun _ z => z.elim) h3⟩
      have hD4 : H4 a = some (.lst vacc) := e5.same a _ hpa hD3
      have ng4 : γ4 a = none := e5.gnone ng3 hD3
      have hla : vacc.length = acc.length := ra.length
      refine ⟨vacc, hD4, by omega, γ4, acc ++ [y], vacc ++ [v], Ext.mut e1.st (Ext.trans e1.st e14 e5) hn ng4, upd_same, ((ra.mono e4.gg).mono e5.gg).append (.cons r5 .nil), ng4, by simp; omega, h5⟩
  · have ei : i = xs.length := by omega
    subst ei
    rw [List.drop_length] at hr
    exact .inl ⟨it.stop γ' H' _ e2.gg e2.st (Nat.le_refl _), hr γ' H' a vacc (Ext.trans st e1 e2) hnH ng hD ra⟩

/-! ### two clauses -/
def foldA (f : D → List D → W Exc (List D)) : List D → List D → W Exc (List D)
  | [], acc => .ret acc
  | x :: xs, acc => (f x acc).bind fun acc' => foldA f xs acc'
def lc2In (t1 : T) (vs1 : List Nat) (mt1 : List Sl → W Exc Bool) (me : List Sl → W Exc D) (ρ1 : List Sl) (y : D) (acc : List D) : W Exc (List D) :=
  (asgT t1 y (wipeR ρ1 vs1)).bind fun ρ2 => (mt1 ρ2).bind fun b => if b then (me ρ2).bind fun z => (W.ask (acc.length < sizeLine)).bind fun _ => .ret (acc ++ [z]) else .ret acc
def lc2Out (t t1 : T) (vs1 : List Nat) (mt : List Sl → W Exc Bool) (mi1 : List Sl → W Exc (List D)) (mt1 : List Sl → W Exc Bool) (me : List Sl → W Exc D) (ρ : List Sl) (x : D) (acc : List D) : W Exc (List D) :=
  (asgT t x ρ).bind fun ρ1 => noErr ((mt ρ1).bind fun b => if b then (mi1 ρ1).bind fun ys => foldA (lc2In t1 vs1 mt1 me ρ1) ys acc else .ret acc)
def lc2W (t : T) (vs : List Nat) (mi : List Sl → W Exc (List D)) (mt : List Sl → W Exc Bool) (t1 : T) (vs1 : List Nat) (mi1 : List Sl → W Exc (List D)) (mt1 : List Sl → W Exc Bool) (me : List Sl → W Exc D) : List Sl → W Exc (List D) := fun ρ =>
  (mi ρ).bind fun xs => foldA (lc2Out t t1 vs1 mt mi1 mt1 me (wipeR ρ vs)) xs []
theorem rdLc2 {t t1 : T} {vs vs1 : List Nat} {mi mi1 : List Sl → W Exc (List D)} {mt mt1 : List Sl → W Exc Bool} {me : List Sl → W Exc D} (hv : ∀ i ∈ t.idx, i ∈ vs) (hv1 : ∀ i ∈ t1.idx, i ∈ vs1) {pl pl1 : Bool} (hpl : ∀ i, t = .nm i → pl = true) (hpl1 : ∀ i, t1 = .nm i → pl1 = true)
    (σ : St) (H : Hp) (Q : VK) (h : TEf X Wx (lc2W t vs mi mt t1 vs1 mi1 mt1 me) σ H Q) :
    tLc2 (TIi X Wx mi pl) (gT X.K t) (RdT X.K X.mg W0 mt) (TIi X W0 mi1 pl1) (gT X.K t1) (RdT X.K X.mg W0 mt1) (RdE X.K X.mg W0 me) vs vs1 σ H Q := by
  obtain ⟨p, H0, γ, ρ, st, er, hm⟩ := h
  refine ⟨p, H0, γ, ρ, st, er, (mi ρ).mono (fun xs h1 γ1 H1 J e1 it => ?_) (fun _ q => q) hm⟩
  intro a hn
  have hpa : p ≠ some a := fun hp => by
    obtain ⟨_, _, _, _, _, _, _, f1, _⟩ := e1.st.pool a hp
    rw [hn] at f1; cases f1
  have ng1 : γ1 a = none := by
    cases z : γ1 a with
    | none => rfl
    | some o => have := e1.st.sub a o z; rw [hn] at this; cases this
  have hnH : H a = none := e1.fre st hn
  refine ⟨fun i m H' => m = xs.length - i ∧ i ≤ xs.length ∧ ∃ γ' acc vacc, Ext X.K p γ1 H1 γ' H' ∧ H' a = some (.lst vacc) ∧ RepAll X.K γ' vacc acc ∧ γ' a = none ∧
    (foldA (lc2Out t t1 vs1 mt mi1 mt1 me (wipeR ρ vs)) (xs.drop i) acc).run (PostF X.K p γ H Q) (ExW X.K X.mg Wx p γ H σ), ⟨xs.length, by simp, Nat.zero_le _, γ1, [], [], .own e1.st hn, upd_same, .nil, ng1, h1⟩, ?_⟩
  rintro i m H' ⟨rfl, hi, γ', acc, vacc, e2, hD, ra, ng, hr⟩
  by_cases hlt : i < xs.length
  · have hdrop : xs.drop i = xs[i] :: xs.drop (i + 1) := List.drop_eq_getElem_cons hlt
    rw [hdrop] at hr
    refine .inr ⟨it.go γ' H' i e2.gg e2.st hlt, fun H'' => ∃ γ'' acc' vacc', Ext X.K p γ1 H1 γ'' H'' ∧ H'' a = some (.lst vacc') ∧ RepAll X.K γ'' vacc' acc' ∧ γ'' a = none ∧
      (foldA (lc2Out t t1 vs1 mt mi1 mt1 me (wipeR ρ vs)) (xs.drop (i + 1)) acc').run (PostF X.K p γ H Q) (ExW X.K X.mg Wx p γ H σ), fun H'' q => ⟨xs.length - (i + 1), by omega, rfl, hlt, q⟩, fun x H'' hy => ?_⟩
    obtain ⟨d, hd, r, rp, e3⟩ := it.yld γ' H' i x H'' e2.gg e2.st hlt hy
    have hd' : xs[i] = d := by rw [List.getElem?_eq_getElem hlt] at hd; exact Option.some.inj hd
    rw [hd'] at hr
    have e13 := Ext.trans e1.st e2 e3
    have e03 := Ext.trans st e1 e13
    refine gT_ok e3.st r (fun i hi => rp (hpl i hi)) ((er.ext e03).wipe vs) hr fun ρ1 σ2 h2 er2 o2 cy => ⟨?_, ?_⟩
    · rw [o2 vs hv, wipe_wipe]
    refine ⟨p, H0, γ', ρ1, e3.st, er2, (mt ρ1).mono (fun b h3 γ3 H3 e4 => ?_) (fun _ z => z.elim) h2⟩
    have e14 := Ext.trans e1.st e13 e4
    have hD3 : H3 a = some (.lst vacc) := e4.same a _ hpa (e3.same a _ hpa hD)
    have ng3 : γ3 a = none := e4.gnone (e3.gnone ng hD) (e3.same a _ hpa hD)
    cases b with
    | false => exact ⟨γ3, acc, vacc, e14, hD3, ra.mono e4.gg, ng3, h3⟩
    | true =>
      refine ⟨p, H0, γ3, ρ1, e4.st, er2.ext e4, (mi1 ρ1).mono (fun ys h4 γ4 H4 J1 e5 it1 => ?_) (fun _ z => z.elim) h3⟩
      have e15 := Ext.trans e1.st e14 e5
      have hD4 : H4 a = some (.lst vacc) := e5.same a _ hpa hD3
      refine ⟨fun j k H' => k = ys.length - j ∧ j ≤ ys.length ∧ ∃ γ5 acc' vacc', Same γ4 γ5 ∧ Ext X.K p γ1 H1 γ5 H' ∧ H' a = some (.lst vacc') ∧ RepAll X.K γ5 vacc' acc' ∧ γ5 a = none ∧
        (foldA (lc2In t1 vs1 mt1 me ρ1) (ys.drop j) acc').run (fun acc'' => (foldA (lc2Out t t1 vs1 mt mi1 mt1 me (wipeR ρ vs)) (xs.drop (i + 1)) acc'').run (PostF X.K p γ H Q) (ExW X.K X.mg Wx p γ H σ)) (fun _ => False),
        ⟨ys.length, by simp, Nat.zero_le _, γ4, acc, vacc, .refl _, e15, hD4, (ra.mono e4.gg).mono e5.gg, e5.gnone ng3 hD3, h4⟩, ?_⟩
      rintro j k H5 ⟨rfl, hj, γ5, acc5, vacc5, s45, e6, hD5, ra5, ng5, hr5⟩
      by_cases hjl : j < ys.length
      · have hdr : ys.drop j = ys[j] :: ys.drop (j + 1) := List.drop_eq_getElem_cons hjl
        rw [hdr] at hr5
        refine .inr ⟨it1.go γ5 H5 j s45 e6.st hjl, fun H'' => ∃ γ'' acc' vacc', Same γ4 γ'' ∧ Ext X.K p γ1 H1 γ'' H'' ∧ H'' a = some (.lst vacc') ∧ RepAll X.K γ'' vacc' acc' ∧ γ'' a = none ∧
          (foldA (lc2In t1 vs1 mt1 me ρ1) (ys.drop (j + 1)) acc').run (fun acc'' => (foldA (lc2Out t t1 vs1 mt mi1 mt1 me (wipeR ρ vs)) (xs.drop (i + 1)) acc'').run (PostF X.K p γ H Q) (ExW X.K X.mg Wx p γ H σ)) (fun _ => False),
          fun H'' q => ⟨ys.length - (j + 1), by omega, rfl, hjl, q⟩, fun x1 H6 hy1 => ?_⟩
        obtain ⟨d1, hd1, r1, rp1, e7⟩ := it1.yld γ5 H5 j x1 H6 s45 e6.st hjl hy1
        have hd1' : ys[j] = d1 := by rw [List.getElem?_eq_getElem hjl] at hd1; exact Option.some.inj hd1
        rw [hd1'] at hr5
        have e17 := Ext.trans e1.st e6 e7
        have e07 := Ext.trans st e1 e17
        have er6 : EnvR X.K p H0 γ5 H6 σ2 ρ1 := cy γ5 H6 (e4.gg.trans (e5.gg.trans s45)) ((er.ext e07).wipe vs)
        refine gT_ok e7.st r1 (fun i hi => rp1 (hpl1 i hi)) (er6.wipe vs1) hr5 fun ρ2 σ3 h6 er7 o3 _ => ⟨?_, ?_⟩
        · rw [o3 vs1 hv1, wipe_wipe]
        refine ⟨p, H0, γ5, ρ2, e7.st, er7, (mt1 ρ2).mono (fun b1 h7 γ7 H7 e8 => ?_) (fun _ z => z.elim) h6⟩
        have e18 := Ext.trans e1.st e17 e8
        have hD7 : H7 a = some (.lst vacc5) := e8.same a _ hpa (e7.same a _ hpa hD5)
        have ng7 : γ7 a = none := e8.gnone (e7.gnone ng5 hD5) (e7.same a _ hpa hD5)
        cases b1 with
        | false => exact ⟨γ7, acc5, vacc5, s45.trans e8.gg, e18, hD7, ra5.mono e8.gg, ng7, h7⟩
        | true =>
          refine ⟨p, H0, γ7, ρ2, e8.st, er7.ext e8, (me ρ2).mono (fun y h8 γ8 H8 v e9 r9 => ?_) (fun _ z => z.elim) h7⟩
          obtain ⟨hlen, h8⟩ := h8
          have hD8 : H8 a = some (.lst vacc5) := e9.same a _ hpa hD7
          have ng8 : γ8 a = none := e9.gnone ng7 hD7
          exact ⟨vacc5, hD8, by rw [ra5.length]; exact hlen, γ8, acc5 ++ [y], vacc5 ++ [v], s45.trans (e8.gg.trans e9.gg), Ext.mut e1.st (Ext.trans e1.st e18 e9) hn ng8, upd_same, ((ra5.mono e8.gg).mono e9.gg).append (.cons r9 .nil), ng8, h8⟩
      · have ej : j = ys.length := by omega
        subst ej
        rw [List.drop_length] at hr5
        exact .inl ⟨it1.stop γ5 H5 _ s45 e6.st (Nat.le_refl _), γ5, acc5, vacc5, e6, hD5, ra5, ng5, hr5⟩
  · have ei : i = xs.length := by omega
    subst ei
    rw [List.drop_length] at hr
    exact .inl ⟨it.stop γ' H' _ e2.gg e2.st (Nat.le_refl _), hr γ' H' a vacc (Ext.trans st e1 e2) hnH ng hD ra⟩
end
end Ev

/-! Ev5d: a dict display with text keys, looked into at once. -/
namespace Ev
open PySem PySem.Spec PyProof.Rows L2
section
variable {X : Cx} {Wx : WX} {e k v : Expr} {pos dpos kp : Pos} {keys : List (Option Expr)} {values : List Expr} {ks : List Str} {ma me : List Sl → W Exc D} {m : List Sl → W Exc (List D)}
def PDs (X : Cx) (Wx : WX) (pos : Pos) (keys : List (Option Expr)) (values : List Expr) (ks : List Str) (m : List Sl → W Exc (List D)) : Prop :=
  ∃ trs, PPs X pos keys values trs ∧ ∀ σ H (R : List (V × V) → Hp → Prop), TAl X Wx m σ H (fun vs H' => R ((ks.zip vs).map fun q => (V.str q.1, q.2)) H') → tPairs trs σ H R
theorem pd_nil : PDs X Wx pos [] [] [] (fun _ => .ret []) := ⟨[], pps_nil, fun σ H R ⟨p, H0, γ, ρ, st, er, hm⟩ => hm γ H [] (.refl st) .nil⟩
theorem pd_cons {j : Nat} {x : Str} {mr : List Sl → W Exc (List D)} (hv : PE X v (TEe X Wx ma)) (hr : PDs X Wx pos keys values ks mr) : PDs X Wx pos (some (.Constant (.str x) j kp) :: keys) (v :: values) (x :: ks) (fun ρ => (ma ρ).bind fun d => (mr ρ).bind fun ds => .ret (d :: ds)) := by
  obtain ⟨trs, h1, h2⟩ := hr
  refine ⟨(tC (.str x), TEe X Wx ma) :: trs, pps_cons pe_str hv h1, fun σ H R ⟨p, H0, γ, ρ, st, er, hm⟩ => ?_⟩
  refine ⟨p, H0, γ, ρ, st, er, (ma ρ).mono (fun d q1 γ1 H1 y e1 c1 => ?_) (fun _ q => q) hm⟩
  refine h2 σ H1 (fun ps H3 => R ((V.str x, y) :: ps) H3) ⟨p, H0, γ1, ρ, e1.st, er.ext e1, (mr ρ).mono (fun ds q2 γ2 H2 vs e2 c2 => ?_) (fun _ q => q.ext st e1) q1⟩
  exact q2 γ2 H2 (y :: vs) (Ext.trans st e1 e2) (.cons (c1.mono e2.gg) c2)
theorem kvOf_v (ks : List Str) (vs : List V) : (ks.zip vs).map (fun q => (V.str q.1, q.2)) = (kvOf ks vs).map fun kv => (kV kv.1, kv.2) := by
  unfold kvOf
  rw [List.map_map]
  rfl
def dsubD (ks : List Str) (ds : List D) : D → W Exc D
  | .str z => optW ((ks.zip ds).lookup z) .ret
  | _ => .stuck
theorem noSl_of (h : ∀ l u s p, k ≠ .Slice l u s p) : NoSl k := by
  intro o i
  cases k <;> first
    | rfl
    | exact absurd rfl (h _ _ _ _)
theorem pE_dsub (hu : X.A.units + 1 < cLine) (h : PDs X Wx dpos keys values ks m) (hall : keys.all (·.isSome) = true) (hl : keys.length = values.length) (h0 : keys ≠ []) (h15 : keys.length ≤ 15) (hk15 : ks.length ≤ 15) (hnd : ks.Nodup) (hk : PE X k (TEe X Wx me)) (hs : ∀ l u s p, k ≠ .Slice l u s p) :
    PE X (.Subscript (.Dict keys values dpos) k pos) (TEe X Wx fun ρ => (m ρ).bind fun ds => (me ρ).bind fun d => dsubD ks ds d) := by
  obtain ⟨trs, h1, h2⟩ := h
  refine pe_of (pe_dget hu (pe_disp h1 hall hl h0 h15) hk (noSl_of hs)) fun σ H Q ⟨p, H0, γ, ρ, st, er, hm⟩ => ?_
  intro q hq
  have hp : p ≠ some q := fun hp => by
    obtain ⟨_, _, _, _, _, _, _, f1, _⟩ := st.pool q hp
    rw [hq] at f1; cases f1
  have ng : γ q = none := by
    cases z : γ q with
    | none => rfl
    | some o => have := st.sub q o z; rw [hq] at this; cases this
  have e0 : Ext X.K p γ H γ (upd H q (.dK [])) := .own st hq
  refine h2 σ _ _ ⟨p, H0, γ, ρ, e0.st, er.ext e0, (m ρ).mono (fun ds q1 γ1 H1 vs e1 r1 => ?_) (fun _ q => q.ext st e0) hm⟩
  have hq1 : H1 q = some (.dK []) := e1.same q _ hp upd_same
  refine ⟨hq1, kvOf ks vs, kvOf_v ks vs, by unfold kvOf; simp; omega, ?_⟩
  have ng1 : γ1 q = none := e1.gnone ng upd_same
  have e2 : Ext X.K p γ H γ1 (upd H1 q (.dK (mergeK [] (kvOf ks vs)))) := Ext.mut st (Ext.trans st e0 e1) hq ng1
  refine ⟨p, H0, γ1, ρ, e2.st, er.ext e2, (me ρ).mono (fun d q2 γ2 H2 y e3 c3 => ?_) (fun _ q => q.ext st e2) q1⟩
  cases d <;> first
    | exact False.elim q2
    | skip
  rename_i z
  obtain ⟨dd, hlk, q3⟩ := optW_run q2
  obtain ⟨v, hv, rv⟩ := look_rep r1 hlk
  exact ⟨q, v, rfl, .inl ⟨_, Sum.inr z, .inl (e3.same q _ hp upd_same), c3.ofStr, (merge_get ks vs [] z v hnd hv).symm⟩, q3 γ2 H2 v (Ext.trans st e2 e3) (rv.mono e3.gg)⟩
theorem upd_same_of {γ : Hp} {q : Addr} {o : HO} (n : γ q = none) : Same γ (upd γ q o) := fun b o' hb => by
  by_cases e : b = q
  · subst e; rw [n] at hb; cases hb
  · rw [upd_ne e]; exact hb
/-- {k: v, ..} as a value -/
theorem pE_dct (h : PDs X Wx dpos keys values ks m) (hall : keys.all (·.isSome) = true) (hl : keys.length = values.length) (h0 : keys ≠ []) (h15 : keys.length ≤ 15) (hk15 : ks.length ≤ 15) (hnd : ks.Nodup) (htx : ∀ k ∈ ks, PyData.strOk k = true) :
    PE X (.Dict keys values dpos) (TEe X Wx fun ρ => (m ρ).bind fun ds => (W.ask (ks.length = ds.length)).bind fun _ => .ret (.dict (dkv ks ds))) := by
  obtain ⟨trs, h1, h2⟩ := h
  refine pe_of (pe_lockZ (pe_disp h1 hall hl h0 h15)) fun σ H Q ⟨p, H0, γ, ρ, st, er, hm⟩ => ?_
  intro q hq
  have hp : p ≠ some q := fun hp => by
    obtain ⟨_, _, _, _, _, _, _, f1, _⟩ := st.pool q hp
    rw [hq] at f1; cases f1
  have ng : γ q = none := by
    cases z : γ q with
    | none => rfl
    | some o => have := st.sub q o z; rw [hq] at this; cases this
  have e0 : Ext X.K p γ H γ (upd H q (.dK [])) := .own st hq
  refine h2 σ _ _ ⟨p, H0, γ, ρ, e0.st, er.ext e0, (m ρ).mono (fun ds q1 γ1 H1 vs e1 r1 => ?_) (fun _ q => q.ext st e0) hm⟩
  have hq1 : H1 q = some (.dK []) := e1.same q _ hp upd_same
  refine ⟨hq1, kvOf ks vs, kvOf_v ks vs, by unfold kvOf; simp; omega, ?_⟩
  have ng1 : γ1 q = none := e1.gnone ng upd_same
  have e2 : Ext X.K p γ H γ1 (upd H1 q (.dK (mergeK [] (kvOf ks vs)))) := Ext.mut st (Ext.trans st e0 e1) hq ng1
  refine ⟨q, _, upd_same, trivial, fun od => ?_⟩
  have e3 := Ext.freeze st (Ext.mut (o := .frz od (.dK (mergeK [] (kvOf ks vs)))) st e2 hq ng1) hq upd_same
  exact q1.2 _ _ _ e3 (Rep.dct ⟨od, upd_same⟩ (r1.mono (upd_same_of ng1)) ⟨⟨hnd, q1.1⟩, htx⟩)
theorem pE_dct0 : PE X (.Dict [] [] dpos) (TEe X Wx fun _ => .ret (.dict [])) := by
  refine pe_of (pe_lockZ pe_dnewK) fun σ H Q ⟨p, H0, γ, ρ, st, er, hm⟩ => ?_
  intro q hq
  have ng : γ q = none := by
    cases z : γ q with
    | none => rfl
    | some o => have := st.sub q o z; rw [hq] at this; cases this
  refine ⟨q, _, upd_same, trivial, fun od => ?_⟩
  have e := Ext.freeze (a := q) (o := .frz od (.dK [])) st (Ext.mut (o := .frz od (.dK [])) st (.own (o := .dK []) st hq) hq ng) hq upd_same
  exact hm _ _ _ e (Rep.dct (ks := []) (xs := []) (ds := []) ⟨od, upd_same⟩ .nil ⟨⟨List.nodup_nil, rfl⟩, fun _ h => by cases h⟩)
end
end Ev

/-! Ev5t: sorted(a list or a tuple of data); list(range), tuple(range), tuple(reversed). -/
namespace Ev
open PySem PySem.Spec PyProof.Rows L2
section
variable {prog : Program} {w : World} {A : Around} {E : Value → Shared → Prop} {s : Shared}
theorem collect_tup {l : Addr} {vs : List Value} {o : Obj} {n : Nat} {Q : List Value → Shared → Prop} (ho : s.heap.get? l = some o) (hc : o.cls = .type "tuple") (hd : o.data = .seq vs.toArray n)
    (h : Q vs { s with heap := (s.heap.push (seqObj "list" #[] 0)).update s.heap.objs.size (Obj.mapSeq (· ++ vs.toArray)) }) (hsz : vs.length ≤ sizeLine) :
    wpAny (model prog w) A (collect (.ref l)) Q E s := by
  unfold collect
  refine wpAny_bind (wpAny_runValue (codeAny_builtin entry_proto_collect' ?_))
  show wpAny _ _ (do again (.builtin "list.__iadd__" ⟨[← newList [], .ref l], []⟩)) _ _ s
  refine wpAny_bind (wpAny_newList (wpAny_pure ⟨Code.quiet_builtin _ (by decide +kernel), codeAny_builtin entry_list_iadd' ?_⟩))
  show wpAny _ _ (Builtin.List.listExtendWith (.ref s.heap.objs.size) (.ref l) (.ref s.heap.objs.size)) _ _ { s with heap := s.heap.push (seqObj "list" #[] 0) }
  unfold Builtin.List.listExtendWith
  have ho' : (s.heap.push (seqObj "list" #[] 0)).get? l = some o := Heap.get?_push_of_some _ ho
  refine wpAny_bind (wpAny_typeOf (T := "tuple") ⟨o, ho', hc⟩ ?_)
  have ht : (Value.type "tuple" == Value.type "tuple") = true := by rfl
  rw [if_pos (by rw [ht]; simp)]
  refine wpAny_bind (listItems_at ho' hd ?_)
  refine wpAny_bind (listItems_at (xs := #[]) (n := 0) (Heap.get?_push_size _ rfl) rfl ?_)
  rw [if_neg (by simp)]
  refine wpAny_bind (listUpdate_at (xs := #[]) (n := 0) (Heap.get?_push_size _ rfl) rfl ?_ (Nat.zero_le _) (by show (#[] ++ vs.toArray).size ≤ sizeLine + 1; simp only [Array.size_append, List.size_toArray, List.length_nil]; omega))
  refine wpAny_pure ?_
  show wpAny (model prog w) A (do
      let o ← load s.heap.objs.size
      match o.data with
      | .seq xs _ => pure xs.toList
      | _ => unsupported "internal:collect") Q E { s with heap := (s.heap.push (seqObj "list" #[] 0)).update s.heap.objs.size (Obj.mapSeq (· ++ vs.toArray)) }
  refine wpAny_bind (wpAny_load (get?_update_seq (Heap.get?_push_size _ rfl) _) ?_)
  show wpAny _ _ (pure ((#[] : Array Value) ++ vs.toArray).toList) Q E _
  rw [show ((#[] : Array Value) ++ vs.toArray).toList = vs by simp]
  exact wpAny_pure h
open PySem.W in
theorem sorted_vals_t {κ : PyProof.Rows.KeyKind} {l : Addr} {vs : List Value} {o : Obj} {n : Nat} {Q : Value → Shared → Prop} (ho : s.heap.get? l = some o) (hc : o.cls = .type "tuple") (hd : o.data = .seq vs.toArray n)
    (S : SortsAt prog w A.in1.in1 { s with heap := sortingHeap (copyHeap s.heap vs) (s.heap.objs.size + 1) vs } κ vs) (hL : vs.length ≤ sizeLine)
    (h : Q (.ref (s.heap.objs.size + 1)) { s with heap := sortedAll s.heap vs (sortVals κ false vs vs).toArray }) : wpAny (model prog w) A (call (.builtin "sorted") [.ref l]) Q E s := by
  refine PyProof.Rows.call_function_entry_kw kind_sorted plain_sorted entry_sorted (args_sorted1 _) ?_
  unfold Builtin.«sorted»
  refine wpAny_bind (m := checkCount "sorted" 1 1 _) (wpAny_pure ?_)
  refine wpAny_bind (collect_tup ho hc hd ?_ hL)
  refine wpAny_bind (wpAny_newList ?_ hL)
  have hsz : ((s.heap.push (seqObj "list" #[] 0)).update s.heap.objs.size (Obj.mapSeq (· ++ vs.toArray))).objs.size = s.heap.objs.size + 1 := by
    rw [Heap.size_update, PyProof.Rows.size_push']
  show wpAny _ _ _ _ _ { s with heap := copyHeap s.heap vs }
  rw [hsz]
  refine wpAny_bind (wpAny_holding (PyProof.Rows.wpAny_call_entry_kw slot_list_sort ⟨_, copyHeap_at s.heap vs, rfl⟩ entry_list_sort ?body (args_list_sort _)))
  case body =>
    show wpAny (model prog w) A.in1.in1 (Builtin.«list.sort» ⟨[.ref (s.heap.objs.size + 1)], []⟩) _ _ _
    refine wpAny_mono (list_sort_vals (s := { s with heap := copyHeap s.heap vs }) (P := fun f s' => f = .done (.ret .none) ∧ Q (.ref (s.heap.objs.size + 1)) s') (copyHeap_at s.heap vs) S hL ⟨rfl, h⟩) (fun f s' hf => ?_) fun _ _ e => e
    obtain ⟨rfl, hq⟩ := hf
    exact ⟨_, rfl, wpAny_pure ⟨_, rfl, hq⟩⟩
open PySem.W in
theorem sorted_data_t {β : Type} {vs : List Value} {bs : List β} {enc : β → PyData} {R : Value → β → Prop} {l : Addr} {o : Obj} {n : Nat} {Q : Value → Shared → Prop} (ho : s.heap.get? l = some o) (hc : o.cls = .type "tuple") (hd : o.data = .seq vs.toArray n)
    (e : EachIs R vs bs) (er : EachIs (fun v b => ∃ as, Reads s.heap v (enc b) as) vs bs) (hal : AllAlike (bs.map enc)) (hk : PySem.W.Sortable (bs.map enc)) (hL : bs.length ≤ sizeLine)
    (hu : ∀ b, b ∈ bs → A.units + 2 + (enc b).depth < cLine) (h : ∀ out, out.length = bs.length → EachIs R out (bs.mergeSort (dataLe false enc)) → Q (.ref (s.heap.objs.size + 1)) { s with heap := sortedAll s.heap vs (List.toArray out) }) :
    wpAny (model prog w) A (call (.builtin "sorted") [.ref l]) Q E s := by
  have er' : EachIs (fun v b => ∃ as, Reads (sortingHeap (copyHeap s.heap vs) (s.heap.objs.size + 1) vs) v (enc b) as) vs bs := er.mono fun _ _ ⟨as, r⟩ => ⟨as, PyProof.Rows.Reads.keeps (fun _ _ => sorting_copy_old) r⟩
  exact sorted_vals_t ho hc hd (SortsAt.data (s := { s with heap := sortingHeap (copyHeap s.heap vs) (s.heap.objs.size + 1) vs }) (each_map (R := fun v d => ∃ as, Reads (sortingHeap (copyHeap s.heap vs) (s.heap.objs.size + 1) vs) v d as) enc er') hal hk (bound_map hu)) (by rw [e.length]; exact hL)
    (h _ (by rw [sortVals_length false rfl]; exact e.length) (sortVals_data false e er' hal))
end
/-- the order of data -/
abbrev leD : D → D → Bool := PySem.W.dataLe false id
def srtOk (ds : List D) : Prop := ndAll ds = true ∧ PySem.W.AllAlike ds ∧ PySem.W.Sortable ds ∧ ∀ d ∈ ds, d.depth ≤ 60
def srtD : D → W Exc (List D)
  | .list ds => (W.ask (srtOk ds)).bind fun _ => .ret (ds.mergeSort leD)
  | .tuple ds => (W.ask (srtOk ds)).bind fun _ => .ret (ds.mergeSort leD)
  | _ => .stuck
def srtZ (vs : List V) (ds : List D) : List (V × D) := (vs.zip ds).mergeSort (PySem.W.dataLe false Prod.snd)
theorem map_srt {α β : Type} (f : α → β) (le : α → α → Bool) (le' : β → β → Bool) (h : ∀ a b, le a b = le' (f a) (f b)) {l : List α} : (l.mergeSort le).map f = (l.map f).mergeSort le' := by
  exact List.map_mergeSort (fun a _ b _ => h a b)
theorem zip_snd {vs : List V} {ds : List D} (h : vs.length = ds.length) : (vs.zip ds).map Prod.snd = ds := List.map_snd_zip (by omega)
theorem zip_fst {vs : List V} {ds : List D} (h : vs.length = ds.length) : (vs.zip ds).map Prod.fst = vs := List.map_fst_zip (by omega)
theorem srtZ_snd {vs : List V} {ds : List D} (h : vs.length = ds.length) : (srtZ vs ds).map Prod.snd = ds.mergeSort leD := by
  unfold srtZ
  have e := map_srt Prod.snd (PySem.W.dataLe false Prod.snd) leD (fun _ _ => rfl) (l := vs.zip ds)
  rw [zip_snd h] at e
  exact e
theorem repAll_mem {K : PySem.W.Frag} {γ : Hp} : ∀ {vs : List V} {ds : List D}, RepAll K γ vs ds → ∀ p ∈ vs.zip ds, Rep K γ p.1 p.2
  | [], _, _, p, h => by cases h
  | _ :: _, [], _, p, h => by cases h
  | v :: vs, d :: ds, r, p, h => by
    rw [List.zip_cons_cons] at h
    rcases List.mem_cons.mp h with e | e
    · rw [e]; exact r.head
    · exact repAll_mem r.tail p e
theorem repAll_of {K : PySem.W.Frag} {γ : Hp} : ∀ {l : List (V × D)}, (∀ p ∈ l, Rep K γ p.1 p.2) → RepAll K γ (l.map Prod.fst) (l.map Prod.snd)
  | [], _ => .nil
  | p :: l, h => .cons (h p List.mem_cons_self) (repAll_of fun q hq => h q (List.mem_cons_of_mem _ hq))
theorem srtZ_rep {K : PySem.W.Frag} {γ : Hp} {vs : List V} {ds : List D} (r : RepAll K γ vs ds) : RepAll K γ ((srtZ vs ds).map Prod.fst) (ds.mergeSort leD) := by
  rw [← srtZ_snd r.length]
  refine repAll_of fun p hp => repAll_mem r p ?_
  unfold srtZ at hp
  exact List.mem_mergeSort.mp hp
theorem each_zip {h : Heap} : ∀ {vs : List V} {its : List Value} {ds : List D} {as : List Addr}, Vals vs its → ReadsAll h its ds as → vs.length = ds.length → PySem.W.EachIs (fun v (b : V × D) => RelV b.1 v ∧ ∃ as, Reads h v b.2 as) its (vs.zip ds)
  | _, _, [], _, .nil, _, _ => .nil
  | _, _, [], _, .cons _ _, _, hl => by simp at hl
  | _, _, _ :: _, _, .nil, _, hl => by simp at hl
  | _, _, d :: ds, _, .cons a b, r, hl => by
    cases r with
    | cons h1 h2 => exact .cons ⟨a, _, h1⟩ (each_zip b h2 (by simpa using hl))
theorem vals_each : ∀ {out : List Value} {bs : List (V × D)}, PySem.W.EachIs (fun v (b : V × D) => RelV b.1 v) out bs → Vals (bs.map Prod.fst) out
  | _, _, .nil => .nil
  | _, _, .cons a b => .cons a (vals_each b)
section
variable {X : Cx}
def rSrtD (K : PySem.W.Frag) : List V → Hp → VK → Prop := fun xs H Q => ∃ (al : Addr) (vs : List V) (ds : List D), xs = [.ref al] ∧ (SqL K H al vs ∨ SqT K H al vs) ∧ DpAll K H vs ds ∧ vs.length = ds.length ∧ srtOk ds ∧ PyData.canLayAll0 ds = true ∧
  ∀ l, H l = none → Q (.ref l) (upd H l (.lst ((srtZ vs ds).map Prod.fst)))
theorem cr_srtD (hu : X.A.units + 65 < cLine) : CallR X (.builtin "sorted") (rSrtD X.K) := by
  intro pins s σ H xs us Q I r h
  obtain ⟨al, vs, ds, rfl, hs, hd, hl, ⟨_, ho1, ho2, ho3⟩, hcan, q⟩ := h
  rw [Vals.ref1 r]
  have main : ∀ (its : List Value), Vals vs its → its.length ≤ sizeLine → (∀ (out : List Value), out.length = its.length → PySem.W.EachIs (fun v (b : V × D) => RelV b.1 v) out (srtZ vs ds) → EP X pins σ Q (.ref (s.heap.objs.size + 1)) { s with heap := sortedAll s.heap its out.toArray }) := by
    intro its rv hz out hlen ho
    obtain ⟨ep, he'⟩ := PyProof.Rows.sortedAll_at s.heap its out.toArray
    have hv := vals_each ho
    exact ⟨.ref _, upd H (s.heap.objs.size + 1) (.lst ((srtZ vs ds).map Prod.fst)), I.laid (t' := s.toks) (fun _ _ => PyProof.Rows.sortedAll_old) (Nat.le_succ _) ⟨by rw [hv.length, hlen]; exact hz, out, ep, hv, he'⟩, rfl, q _ (I.hok.fresh (Nat.le_succ _))⟩
  have hmap : (vs.zip ds).map Prod.snd = ds := zip_snd hl
  rcases hs with hs | hs
  · obtain ⟨its, rv, pl, hz⟩ := I.list hs
    obtain ⟨as, ra⟩ := Dp.readsAll I ds _ its hd rv
    have e0 := each_zip rv ra hl
    have hlen : its.length = (vs.zip ds).length := e0.length
    refine PySem.W.sorted_data (enc := Prod.snd) (R := fun v (b : V × D) => RelV b.1 v) pl.isList (e0.mono fun _ _ z => z.1) (e0.mono fun _ _ z => z.2) (by rw [hmap]; exact ho1) (by rw [hmap]; exact ho2) (by rw [← hlen, ← rv.length]; exact hz) (fun b hb => ?_) fun out ho eo => main its rv (by rw [← rv.length]; exact hz) out (by rw [ho, hlen]) eo
    have : b.2 ∈ ds := by rw [← hmap]; exact List.mem_map_of_mem hb
    have := ho3 _ this
    omega
  · obtain ⟨its, rv, ⟨⟨cls, dd, data, sls⟩, hob, hc, n, hdt⟩, hz⟩ := I.tuple hs
    obtain ⟨as, ra⟩ := Dp.readsAll I ds _ its hd rv
    have e0 := each_zip rv ra hl
    have hlen : its.length = (vs.zip ds).length := e0.length
    refine sorted_data_t (enc := Prod.snd) (R := fun v (b : V × D) => RelV b.1 v) hob hc hdt (e0.mono fun _ _ z => z.1) (e0.mono fun _ _ z => z.2) (by rw [hmap]; exact ho1) (by rw [hmap]; exact ho2) (by rw [← hlen, ← rv.length]; exact hz) (fun b hb => ?_) fun out ho eo => main its rv (by rw [← rv.length]; exact hz) out (by rw [ho, hlen]) eo
    have : b.2 ∈ ds := by rw [← hmap]; exact List.mem_map_of_mem hb
    have := ho3 _ this
    omega
theorem br_srtD : BrK1F X.K srtD (rSrtD X.K) := by
  intro p γ H x d Q XX st cx h
  cases d <;> first
    | exact False.elim h
    | skip
  · obtain ⟨al, vs, rfl, ha, ra⟩ := ct_lst cx st
    obtain ⟨ho, q⟩ := h
    exact ⟨al, vs, _, rfl, .inl (.of ha), (dqAll_dp _ _ ho.1 (dqAll_mono st.sub _ _ ra.1)).1, ra.length, ho, (dqAll_dp _ _ ho.1 ra.1).2, fun l n => PostF.lst q st (srtZ_rep ra) l n⟩
  · obtain ⟨al, vs, rfl, ha, ra⟩ := ct_tup cx
    obtain ⟨ho, q⟩ := h
    exact ⟨al, vs, _, rfl, .inr (ha.mono st.sub).sq, (dqAll_dp _ _ ho.1 (dqAll_mono st.sub _ _ ra.1)).1, ra.length, ho, (dqAll_dp _ _ ho.1 ra.1).2, fun l n => PostF.lst q st (srtZ_rep ra) l n⟩
end
/-! ### list(range(..)), tuple(range(..)) -/
def rgL1 : D → W Exc (List D)
  | .int j => (W.ask (RgOk 0 j)).bind fun _ => .ret (upto 0 j.toNat)
  | _ => .stuck
def rgL2 : D → D → W Exc (List D)
  | .int i, .int j => (W.ask (RgOk i j)).bind fun _ => .ret (upto i (j - i).toNat)
  | _, _ => .stuck
theorem rg_rep {K : PySem.W.Frag} {γ : Hp} (a b : Int) : RepAll K γ (rgV a b) (upto a (b - a).toNat) := by
  have h := ints_rep (K := K) (γ := γ) ((List.range (b - a).toNat).map fun (i : Nat) => a + (i : Int))
  rw [List.map_map, List.map_map] at h
  exact h
section
variable {X : Cx} {Wx : WX} {e c : Expr} {pos pp ps2 pp2 : Pos} {ma mb : List Sl → W Exc D}
theorem pF_listR1 (hc : X.calm = true) (hg : Gl X "list") (hm : X.mg "list" = none) (hg2 : Gl X "range") (hm2 : X.mg "range" = none) (hs : ∀ e' p, e ≠ .Starred e' p) (he : PE X e (TEe X Wx ma)) :
    PE X (.Call (.Name "list" pp) [.Call (.Name "range" pp2) [e] [] ps2] [] pos) (TEf X Wx fun ρ => (ma ρ).bind rgL1) := by
  refine pe_of (pe_listRg hc hg hm (prg_1 hg2 hm2 he (star1 hs X.env))) fun σ H Q ⟨p, H0, γ, ρ, st, er, hq⟩ => ?_
  refine ⟨p, H0, γ, ρ, st, er, (ma ρ).mono (fun d h1 γ1 H1 x e1 c1 => ?_) (fun _ q => q) hq⟩
  cases d <;> first
    | exact False.elim h1
    | skip
  rename_i j
  refine ⟨j, c1.ofInt, h1.1, fun q hn => ?_⟩
  have h2 := h1.2
  rw [show j.toNat = (j - 0).toNat by simp] at h2
  exact PostF.lst (PostF.ext h2 st e1) e1.st (rg_rep 0 j) q hn
theorem pF_listR2 (hc : X.calm = true) (hg : Gl X "list") (hm : X.mg "list" = none) (hg2 : Gl X "range") (hm2 : X.mg "range" = none) (hs : ∀ e' p, e ≠ .Starred e' p) (hs2 : ∀ e' p, c ≠ .Starred e' p) (he : PE X e (TEe X Wx ma)) (hf : PE X c (TEe X Wx mb)) :
    PE X (.Call (.Name "list" pp) [.Call (.Name "range" pp2) [e, c] [] ps2] [] pos) (TEf X Wx fun ρ => (ma ρ).bind fun d => (mb ρ).bind fun f => rgL2 d f) := by
  refine pe_of (pe_listRg hc hg hm (prg_2 hg2 hm2 he hf (star1 hs X.env) (star1 hs2 X.env) (by rw [star1 hs2]; rfl))) fun σ H Q ⟨p, H0, γ, ρ, st, er, hq⟩ => ?_
  refine ⟨p, H0, γ, ρ, st, er, (ma ρ).mono (fun d h1 γ1 H1 x e1 c1 => ?_) (fun _ q => q) hq⟩
  refine ⟨p, H0, γ1, ρ, e1.st, er.ext e1, (mb ρ).mono (fun f h2 γ2 H2 y e2 c2 => ?_) (fun _ q => q.ext st e1) h1⟩
  cases d <;> cases f <;> first
    | exact False.elim h2
    | skip
  rename_i i j
  refine ⟨i, j, c1.ofInt, c2.ofInt, h2.1, fun q hn => ?_⟩
  have e12 := Ext.trans st e1 e2
  exact PostF.lst (PostF.ext h2.2 st e12) e12.st (rg_rep i j) q hn
theorem pF_srtL (hu : X.A.units + 65 < cLine) (hg : Gl X "sorted") (hm : X.mg "sorted" = none) (hs : ∀ e' p, e ≠ .Starred e' p) (ha : PE X e (TEo X Wx ma)) : PE X (.Call (.Name "sorted" pp) [e] [] pos) (TEf X Wx fun ρ => (ma ρ).bind srtD) :=
  pF_blt1 (cr_srtD hu) br_srtD hg hm (by decide +kernel) (by decide +kernel) (by decide +kernel) hs ha
end
end Ev

/-! Ev5m: sets of tuples of ints and texts, less than 64 of them, of whatever many given. -/
namespace Ev
open PySem PySem.Spec PyProof.Rows L2
abbrev IsM (P : Program) (w : World) (h : Heap) (k : List Key) (a : Addr) : Prop := IsTupleKey (mixKind P w) h k a
abbrev mH (P : Program) (w : World) (k : List Key) : Int := tupleKeyHash (mixKind P w) k
/-- an int or a text -/
def Atm (v : Value) : Prop := (∃ i t, v = Value.int i t) ∨ ∃ x t, v = Value.str x t
section
variable {P : Program} {w : World} {A : Around} {E : Value → Shared → Prop} {s : Shared}
theorem atm_all {k : List Key} {vs : List Value} (h : ItemsAre (mixKind P w) k vs) : ∀ v ∈ vs, Atm v := by
  induction h with
  | nil => exact fun v hv => nomatch hv
  | @cons k0 v0 ks us h1 _ ih =>
    intro v hv
    rcases List.mem_cons.mp hv with rfl | hv
    · rcases keyIs_shape h1 with ⟨i, t, _, e⟩ | ⟨x, t, _, e⟩
      · exact .inl ⟨i, t, e⟩
      · exact .inr ⟨x, t, e⟩
    · exact ih v hv
theorem atm_class {v : Value} (h : Atm v) (n : Nat) : ofAClassStatement n v = pure false := by
  rcases h with ⟨i, t, rfl⟩ | ⟨x, t, rfl⟩ <;> cases n <;> rfl
theorem atm_byval {v : Value} (h : Atm v) (n : Nat) : ∃ b, hashByValue n v = pure b := by
  rcases h with ⟨i, t, rfl⟩ | ⟨x, t, rfl⟩
  · exact ⟨true, by cases n <;> rfl⟩
  · exact ⟨false, by cases n <;> rfl⟩
theorem mix_class {k : List Key} {b : Addr} {Q : Bool → Shared → Prop} (hk : IsM P w s.heap k b) (q : Q false s) : wpAny (model P w) A (ofAClassStatement 8 (.ref b)) Q E s := by
  have ty := hk.typeIs
  obtain ⟨ob, its, n, hob, _, hdt, hits⟩ := hk
  unfold ofAClassStatement
  refine wpAny_bind (wpAny_typeOf ty ?_)
  dsimp only
  rw [if_pos (by decide)]
  try refine wpAny_bind (wpAny_pure ?_)
  rw [if_neg (by decide)]
  try refine wpAny_bind (wpAny_pure ?_)
  show wpAny _ _ (seqItems? (.ref b) >>= _) _ _ s
  refine wpAny_bind (wpAny_seqItems hob hdt ?_)
  dsimp only
  refine wpAny_bind ?_
  show wpAny _ _ (forIn its _ _) _ _ s
  rw [← Array.forIn_toList]
  refine wpAny_forIn_list _ (fun rest r s1 => r.1 = none ∧ s1 = s ∧ ∀ v ∈ rest, Atm v) _ ?_ ?_ _ _ ⟨rfl, rfl, atm_all hits⟩
  · rintro v rest r s1 ⟨hr, rfl, hall⟩
    rw [atm_class (hall v List.mem_cons_self)]
    refine wpAny_bind (wpAny_pure ?_)
    rw [if_neg (by decide)]
    exact wpAny_pure ⟨rfl, rfl, fun u hu => hall u (List.mem_cons_of_mem _ hu)⟩
  · rintro ⟨r1, r2⟩ s1 ⟨hr, rfl, _⟩
    cases hr
    exact wpAny_pure q
theorem mix_byval {k : List Key} {b : Addr} {Q : Bool → Shared → Prop} (hk : IsM P w s.heap k b) (q : ∀ r, Q r s) : wpAny (model P w) A (hashByValue 8 (.ref b)) Q E s := by
  have ty := hk.typeIs
  obtain ⟨ob, its, n, hob, _, hdt, hits⟩ := hk
  unfold hashByValue
  refine wpAny_bind (wpAny_specialOf ty F.slot_tuple_hash.lookup ?_)
  show wpAny _ _ (seqItems? (.ref b) >>= _) _ _ s
  refine wpAny_bind (wpAny_seqItems hob hdt ?_)
  refine wpAny_bind ?_
  show wpAny _ _ (forIn its _ _) _ _ s
  rw [← Array.forIn_toList]
  refine wpAny_forIn_list _ (fun rest r s1 => r.1 = none ∧ s1 = s ∧ ∀ v ∈ rest, Atm v) _ ?_ ?_ _ _ ⟨rfl, rfl, atm_all hits⟩
  · rintro v rest r s1 ⟨hr, rfl, hall⟩
    obtain ⟨c, ec⟩ := atm_byval (hall v List.mem_cons_self) 7
    rw [ec]
    refine wpAny_bind (wpAny_pure ?_)
    cases c with
    | true =>
      rw [if_neg (by decide)]
      exact wpAny_pure ⟨rfl, rfl, fun u hu => hall u (List.mem_cons_of_mem _ hu)⟩
    | false =>
      rw [if_pos (by decide)]
      exact wpAny_pure (wpAny_pure (q false))
  · rintro ⟨r1, r2⟩ s1 ⟨hr, rfl, _⟩
    cases hr
    exact wpAny_pure (q true)
/-- a search among such tuples shows nothing -/
theorem mix_seen {k : List Key} {b : Addr} {Q : Bool → Shared → Prop} (hk : IsM P w s.heap k b) {ys : List Value} (hy : ∀ y ∈ ys, ∃ j c, y = Value.ref c ∧ IsM P w s.heap j c) (q : Q false s) :
    wpAny (model P w) A (searchCouldBeSeen (.ref b) ys) Q E s := by
  unfold searchCouldBeSeen
  refine wpAny_bind ?_
  refine wpAny_forIn_list _ (fun rest r s1 => r.1 = none ∧ s1 = s ∧ ∀ y ∈ rest, ∃ j c, y = Value.ref c ∧ IsM P w s.heap j c) _ ?_ ?_ _ _ ⟨rfl, rfl, hy⟩
  · rintro v rest r s1 ⟨hr, rfl, hall⟩
    obtain ⟨j, c, rfl, hc⟩ := hall v List.mem_cons_self
    have more : ∀ y ∈ rest, ∃ j c, y = Value.ref c ∧ IsM P w s1.heap j c := fun u hu => hall u (List.mem_cons_of_mem _ hu)
    dsimp only
    by_cases same : (b == c || (carriedByValue (.ref b) && carriedByValue (.ref c))) = true
    · refine wp_if_pos same (wpAny_pure ⟨rfl, rfl, more⟩)
    · refine wp_if_neg same ?_
      refine wpAny_bind (wpAny_eqIsQuiet_tuple hk ?_)
      rw [if_neg (by decide)]
      try refine wpAny_bind (wpAny_pure ?_)
      refine wpAny_bind (wpAny_eqIsQuiet_tuple hc ?_)
      rw [if_neg (by decide)]
      try refine wpAny_bind (wpAny_pure ?_)
      refine wpAny_bind (mix_class hk ?_)
      rw [if_neg (by decide)]
      try refine wpAny_bind (wpAny_pure ?_)
      refine wpAny_bind (mix_class hc ?_)
      rw [if_neg (by decide)]
      exact wpAny_pure ⟨rfl, rfl, more⟩
  · rintro ⟨r1, r2⟩ s1 ⟨hr, rfl, _⟩
    cases hr
    exact wpAny_pure q
/-! ### the table -/
def rws (P : Program) (w : World) (L : List (Addr × List Key)) : List (Int × Value) := L.map fun p => (mH P w p.2, Value.ref p.1)
abbrev hss (P : Program) (w : World) (L : List (Addr × List Key)) : List Int := L.map fun p => mH P w p.2
structure TabM (P : Program) (w : World) (h : Heap) (a : Addr) (L : List (Addr × List Key)) (es : Array (Int × Value)) (ep : Nat) (t : SetTable) : Prop where
  ob : ∃ o, h.get? a = some o ∧ o.ExactSet ∧ o.data = .set es ep t
  rows : es.toList = rws P w L
  tab : TabOk t (hss P w L)
  nd : (L.map (·.2)).Nodup
  tup : ∀ p ∈ L, IsM P w h p.2 p.1
  led : w.params.followText "set-order" = true ∨ t.led = true
  room : L.length * 5 < t.mask * 3
  few : L.length < 64
variable {a : Addr} {L : List (Addr × List Key)} {es : Array (Int × Value)} {ep : Nat} {t : SetTable}
theorem rws_size (h : es.toList = rws P w L) : es.size = L.length := by
  rw [← Array.length_toList, h]
  simp [rws]
theorem rws_at (h : es.toList = rws P w L) {i : Nat} {p : Addr × List Key} (hp : L[i]? = some p) : es[i]? = some (mH P w p.2, Value.ref p.1) := by
  rw [← Array.getElem?_toList, h]
  unfold rws
  rw [List.getElem?_map, hp]
  rfl
theorem fits_of (T : TabOk t (hss P w L)) (h : es.size = L.length) (hm : es.size ≤ t.mask) : t.fits es.size = true := by
  have e := T.sz
  rw [List.length_map] at e
  unfold SetTable.fits SetTable.fill
  rw [T.dm, Bool.and_eq_true, beq_iff_eq, decide_eq_true_eq]
  exact ⟨by omega, by show t.place.size + 0 ≤ t.mask; omega⟩
theorem TabM.fits (R : TabM P w s.heap a L es ep t) : t.fits es.size = true := by
  have := rws_size R.rows
  have := R.room
  exact fits_of R.tab (rws_size R.rows) (by omega)
theorem TabM.gave (R : TabM P w s.heap a L es ep t) : ¬ t.gaveWay = true := by
  unfold SetTable.gaveWay
  rw [mask_odd R.tab.mok]
  decide
theorem TabM.plc (R : TabM P w s.heap a L es ep t) : t.place.toList.length = L.length := by
  have e := R.tab.sz
  rw [List.length_map] at e
  rw [Array.length_toList, e]
/-- the c-th step of the way of a hash -/
abbrev stp_ (m : Nat) (hv : Int) (c : Nat) : SetTable.Probe := nth m (runAt m (SetTable.bits hv % (m + 1)) (SetTable.bits hv)) c
theorem stp_dummy (m : Nat) (hv : Int) (c : Nat) : (stp_ m hv c).dummy = none := by
  have gen : ∀ (n : Nat) (p : SetTable.Probe), p.dummy = none → (nth m p n).dummy = none := by
    intro n
    induction n with
    | zero => exact fun p h => h
    | succ n ih =>
      intro p h
      refine ih (adv m p) ?_
      unfold adv
      split <;> exact h
  exact gen c _ rfl
theorem stp_add (m : Nat) (hv : Int) (c q : Nat) : nth m (stp_ m hv c) q = stp_ m hv (c + q) := (nth_add m c _ q).symm
theorem stp_j (m : Nat) (hv : Int) (c q : Nat) : (nth m (stp_ m hv c) q).j = way m hv (c + q) := congrArg SetTable.Probe.j (stp_add m hv c q)
theorem mix_find (R : TabM P w s.heap a L es ep t) {x : Addr} {k : List Key} (hx : IsM P w s.heap k x) (hu : A.units < cLine) {hv : Int} (ehv : hv = mH P w k) {K : Nat} (kf : K < 10 * SetTable.turns t.mask)
    (free : way t.mask hv K ∉ t.place.toList) (busy : ∀ c, c < K → way t.mask hv c ∈ t.place.toList) {Q : SetFound → Shared → Prop} (qin : k ∈ L.map (·.2) → Q (.there none) s) (qout : k ∉ L.map (·.2) → Q (.free (way t.mask hv K) false) s) :
    ∀ (f c : Nat) (st : Option SetTable.Probe), st.getD (t.probeStart hv) = stp_ t.mask hv c → c ≤ K → K - c < f →
      (∀ (i : Nat) p, L[i]? = some p → p.2 = k → ∃ d, c ≤ d ∧ d < K ∧ t.place.toList[i]? = some (way t.mask hv d)) → wpAny (model P w) A (setSearchFrom a (.ref x) hv true f st) Q E s
  | 0, _, _, _, _, z, _ => absurd z (Nat.not_lt_zero _)
  | f + 1, c, st, hst, hc, hf, reach => by
    obtain ⟨ob, hob, hex, hdt⟩ := R.ob
    rw [setSearchFrom_succ]
    refine wpAny_bind (wpAny_setState_of hob hdt R.fits ?_)
    dsimp only
    refine wp_if_neg R.gave ?_
    try refine wpAny_bind (wpAny_pure ?_)
    rw [hst]
    have at_ : ∀ (i : Nat) p, L[i]? = some p → (fun i => (es[i]?.map (·.1)).getD 0) i = mH P w p.2 := fun i p hp => by
      show (es[i]?.map (·.1)).getD 0 = _
      rw [rws_at R.rows hp]
      rfl
    rcases go_spec t R.tab.ris R.tab.dm (fun i => (es[i]?.map (·.1)).getD 0) hv (10 * SetTable.turns t.mask) (K - c) (stp_ t.mask hv c) (stp_dummy _ _ _) (by omega)
      (fun q hq => by rw [stp_j]; exact busy (c + q) (by omega)) (by rw [stp_j, show c + (K - c) = K by omega]; exact free) with ⟨q, i, hq, hi, hh, hno, hpr⟩ | ⟨hno, hpr⟩
    · rw [stp_j] at hi hpr
      rw [stp_add] at hpr
      rw [show t.probe (fun i => (es[i]?.map (·.1)).getD 0) hv (stp_ t.mask hv c) = _ from hpr]
      dsimp only
      have hil : i < L.length := by
        have := (List.getElem?_eq_some_iff.mp hi).1
        rw [R.plc] at this
        exact this
      obtain ⟨p, hp⟩ : ∃ p, L[i]? = some p := ⟨L[i], List.getElem?_eq_getElem hil⟩
      have hpm : p ∈ L := List.mem_of_getElem? hp
      have slot_i := slot_live R.tab.ris hi
      have go : wpAny (model P w) A (searchRest a (.ref x) hv true f es t (way t.mask hv (c + q)) i (stp_ t.mask hv (c + (q + 1)))) Q E s := by
        unfold searchRest
        rw [rws_at R.rows hp]
        dsimp only
        refine wpAny_bind (wpAny_holding (wpAny_eqBool_tuple hu (R.tup p hpm) hx ?_))
        refine wpAny_bind (wpAny_setState_of hob hdt R.fits ?_)
        dsimp only
        by_cases hpk : p.2 = k
        · refine wp_if_pos (by simp [hpk]) ?_
          exact wpAny_pure (qin (List.mem_map.mpr ⟨p, hpm, hpk⟩))
        refine wp_if_neg (by simp [hpk]) ?_
        try refine wpAny_bind (wpAny_pure ?_)
        rw [sameMem]
        dsimp only
        simp only [if_true, slot_i, rws_at R.rows hp]
        refine wpAny_bind (wpAny_isSame_ref_self (wpAny_bind (wpAny_pure ?_)))
        simp only [if_true]
        refine wp_if_neg (by simp [hpk]) ?_
        refine mix_find R hx hu ehv kf free busy qin qout f (c + (q + 1)) _ rfl (by omega) (by omega) fun i0 p0 h0 k0 => ?_
        obtain ⟨d, d1, d2, d3⟩ := reach i0 p0 h0 k0
        refine ⟨d, ?_, d2, d3⟩
        rcases Nat.lt_trichotomy d (c + q) with z | z | z
        · refine absurd ((at_ i0 p0 h0).trans ?_) (hno (d - c) i0 (by omega) (by rw [stp_j, show c + (d - c) = d by omega]; exact d3))
          rw [k0, ehv]
        · rw [z] at d3
          have e := slot_live R.tab.ris d3
          rw [slot_i] at e
          injection e with e
          rw [← e, hp] at h0
          cases h0
          exact absurd k0 hpk
        · omega
      by_cases hl : t.led = true
      · refine wp_if_neg (by simp [hl]) ?_
        try refine wpAny_bind (wpAny_pure ?_)
        exact go
      · refine wp_if_pos (by simp [hl]) ?_
        refine wpAny_bind (mix_seen hx (fun y hy => ?_) ?_)
        · obtain ⟨z, hz, ez⟩ := List.mem_map.mp hy
          have hz1 : z ∈ es.toList := by
            have : z ∈ es ∧ z.1 = hv := by simpa using hz
            simpa using this.1
          rw [R.rows] at hz1
          obtain ⟨p1, hp1, e1⟩ := List.mem_map.mp hz1
          exact ⟨p1.2, p1.1, by rw [← ez, ← e1], R.tup p1 hp1⟩
        · refine wp_if_neg (by decide) ?_
          try refine wpAny_bind (wpAny_pure ?_)
          exact go
    · rw [stp_j, show c + (K - c) = K by omega] at hpr
      rw [show t.probe (fun i => (es[i]?.map (·.1)).getD 0) hv (stp_ t.mask hv c) = _ from hpr]
      dsimp only
      refine wpAny_pure (qout fun hm => ?_)
      obtain ⟨p0, hp0, k0⟩ := List.mem_map.mp hm
      obtain ⟨i0, hi0, e0⟩ := List.getElem_of_mem hp0
      have h0 : L[i0]? = some p0 := by rw [List.getElem?_eq_getElem hi0, e0]
      obtain ⟨d, d1, d2, d3⟩ := reach i0 p0 h0 k0
      refine absurd ((at_ i0 p0 h0).trans ?_) (hno (d - c) i0 (by omega) (by rw [stp_j, show c + (d - c) = d by omega]; exact d3))
      rw [k0, ehv]
theorem mix_search (R : TabM P w s.heap a L es ep t) {x : Addr} {k : List Key} (hx : IsM P w s.heap k x) (hu : A.units < cLine) {hv : Int} (ehv : hv = mH P w k) {Q : SetFound → Shared → Prop} (qin : k ∈ L.map (·.2) → Q (.there none) s)
    (qout : ∀ K, k ∉ L.map (·.2) → way t.mask hv K ∉ t.place.toList → (∀ c, c < K → way t.mask hv c ∈ t.place.toList) → Q (.free (way t.mask hv K) false) s) : wpAny (model P w) A (setSearch a (.ref x) hv true) Q E s := by
  have room := R.room
  obtain ⟨K, kf, free, busy⟩ := R.tab.first (by rw [List.length_map]; omega) hv
  have small : 10 * SetTable.turns t.mask ≤ 1420 := by
    unfold SetTable.turns
    rcases R.tab.mok with e | e | e <;> omega
  unfold setSearch
  refine mix_find R hx hu ehv kf free busy qin (fun z => qout K z free busy) 100000 0 none rfl (Nat.zero_le _) (by omega) fun i p hp hk => ?_
  have hi : (hss P w L)[i]? = some hv := by
    rw [List.getElem?_map, hp, ehv, ← hk]
    rfl
  have hil : i < t.place.toList.length := by
    rw [R.plc]
    exact (List.getElem?_eq_some_iff.mp hp).1
  obtain ⟨d, d1, d2⟩ := R.tab.before free hi (List.getElem?_eq_getElem hil)
  exact ⟨d, Nat.zero_le _, d1, by rw [List.getElem?_eq_getElem hil, d2]⟩
end
end Ev

/-! Ev5n: adding to such a set; set(a list). -/
namespace Ev
open PySem PySem.Spec PyProof.Rows L2
section
variable {P : Program} {w : World} {A : Around} {E : Value → Shared → Prop} {s : Shared}
theorem isM_but {h h' : Heap} {k : List Key} {a b : Addr} {o : Obj} {es : Array (Int × Value)} {ep : Nat} {t : SetTable} (hk : IsM P w h k b) (ho : h.get? a = some o) (hd : o.data = .set es ep t) (sb : Heap.SameBut a h h') : IsM P w h' k b := by
  obtain ⟨ob, its, n, h1, h2, h3, h4⟩ := hk
  refine ⟨ob, its, n, (sb.2 b fun e => ?_).trans h1, h2, h3, h4⟩
  rw [e, ho] at h1
  cases h1
  rw [hd] at h3
  cases h3
theorem isM_up {h h' : Heap} {k : List Key} {b : Addr} (hk : IsM P w h k b) (up : ∀ c o, h.get? c = some o → h'.get? c = some o) : IsM P w h' k b := by
  obtain ⟨ob, its, n, h1, h2⟩ := hk
  exact ⟨ob, its, n, up b ob h1, h2⟩
theorem fm_range {α : Type} (L : List α) : (List.range L.length).filterMap (fun i => L[i]?) = L := by
  have gen : ∀ (l : List α) (pre : List α), (List.range' pre.length l.length).filterMap (fun i => (pre ++ l)[i]?) = l := by
    intro l
    induction l with
    | nil => exact fun _ => rfl
    | cons x l ih =>
      intro pre
      rw [List.length_cons, List.range'_succ, List.filterMap_cons_some (b := x) (by simp)]
      have e := ih (pre ++ [x])
      rw [List.append_assoc, List.singleton_append] at e
      rw [List.length_append, List.length_singleton] at e
      rw [e]
  have e := gen L []
  rw [List.nil_append] at e
  rw [List.range_eq_range']
  exact e
theorem rws_order {L : List (Addr × List Key)} {es : Array (Int × Value)} {order : Array Nat} (hr : es.toList = rws P w L) (hp : order.toList.Perm (List.range L.length)) :
    ∃ M, (order.filterMap (es[·]?)).toList = rws P w M ∧ M.Perm L ∧ hss P w M = order.toList.map fun i => (es.map (·.1)).getD i 0 := by
  have lt : ∀ i ∈ order.toList, i < L.length := fun i hi => List.mem_range.mp (hp.mem_iff.mp hi)
  have one : ∀ i, i < L.length → ∃ p, L[i]? = some p ∧ es[i]? = some (mH P w p.2, Value.ref p.1) := fun i hi => ⟨L[i], List.getElem?_eq_getElem hi, rws_at hr (List.getElem?_eq_getElem hi)⟩
  refine ⟨order.toList.filterMap fun i => L[i]?, ?_, ?_, ?_⟩
  · rw [Array.toList_filterMap]
    revert lt
    generalize order.toList = l
    intro lt
    induction l with
    | nil => rfl
    | cons i l ih =>
      obtain ⟨p, h1, h2⟩ := one i (lt i List.mem_cons_self)
      rw [List.filterMap_cons_some h2, List.filterMap_cons_some h1, ih fun j hj => lt j (List.mem_cons_of_mem _ hj)]
      rfl
  · have e := hp.filterMap fun i => L[i]?
    rw [fm_range] at e
    exact e
  · revert lt
    generalize order.toList = l
    intro lt
    induction l with
    | nil => rfl
    | cons i l ih =>
      obtain ⟨p, h1, h2⟩ := one i (lt i List.mem_cons_self)
      rw [List.filterMap_cons_some h1, List.map_cons]
      have e5 : (es.map (·.1))[i]? = some (mH P w p.2) := by rw [Array.getElem?_map, h2]; rfl
      have e6 : (es.map (·.1)).getD i 0 = mH P w p.2 := by simp [Array.getD_eq_getD_getElem?, e5]
      rw [e6]
      exact congrArg (List.cons _) (ih fun j hj => lt j (List.mem_cons_of_mem _ hj))
variable {a : Addr} {L : List (Addr × List Key)} {es : Array (Int × Value)} {ep : Nat} {t : SetTable}
/-- all but the room in the table -/
structure TabR (P : Program) (w : World) (h : Heap) (a : Addr) (L : List (Addr × List Key)) (es : Array (Int × Value)) (ep : Nat) (t : SetTable) : Prop where
  ob : ∃ o, h.get? a = some o ∧ o.ExactSet ∧ o.data = .set es ep t
  rows : es.toList = rws P w L
  tab : TabOk t (hss P w L)
  nd : (L.map (·.2)).Nodup
  tup : ∀ p ∈ L, IsM P w h p.2 p.1
  led : w.params.followText "set-order" = true ∨ t.led = true
  few : L.length < 64
theorem mix_relay (R : TabR P w s.heap a L es ep t) (hm : L.length ≤ t.mask) {wanted M : Nat} (hw : SetTable.sizeAbove wanted - 1 = M) (hM : MaskOk M) (hw2 : SetTable.sizeAbove wanted ≤ 128) (hn : L.length * 5 < M * 3) {Q : Unit → Shared → Prop}
    (q : ∀ h1 L1 es1 ep1 t1, Heap.SameBut a s.heap h1 → TabM P w h1 a L1 es1 ep1 t1 → L1.Perm L → Q () { s with heap := h1 }) : wpAny (model P w) A (setRelay a wanted) Q E s := by
  obtain ⟨ob, hob, hex, hdt⟩ := R.ob
  have sz := rws_size R.rows
  have few := R.few
  obtain ⟨t1, order, e1, pm, T1, em, el, _, _⟩ := relaid_ok t (hs := es.map (·.1)) (wanted := wanted) hw hM (by rw [Array.size_map, sz]; omega)
  rw [Array.size_map, sz] at pm
  obtain ⟨L1, r1, r2, r3⟩ := rws_order R.rows pm
  rw [← r3] at T1
  have sz1 : (order.filterMap (es[·]?)).size = L.length := by rw [rws_size r1, r2.length_eq]
  rw [setRelay_eq]
  refine wpAny_bind (wpAny_setState_of hob hdt (fits_of R.tab sz (by omega)) ?_)
  dsimp only
  refine wp_if_neg (by rw [sizeLine_eq]; omega) ?_
  try refine wpAny_bind (wpAny_pure ?_)
  rw [e1]
  dsimp only
  refine wpAny_bind ?_
  refine wp_if_neg (by rw [sz1, sz]; simp) ?_
  try refine wpAny_bind (wpAny_pure ?_)
  refine wpAny_pure ?_
  dsimp only
  refine wpAny_storeSet_of hob hdt ?_ (by rw [sz1, sizeLine_eq]; omega)
  have sb : Heap.SameBut a s.heap (s.heap.update a (Obj.putSet (order.filterMap (es[·]?)) t1)) := Heap.SameBut.update ..
  refine q _ L1 (order.filterMap (es[·]?)) (ep + 1) t1 sb ⟨⟨_, store_at hob hdt, ⟨hex.1, hex.2.1, hex.2.2⟩, rfl⟩, r1, T1, (r2.map (·.2)).nodup_iff.mpr R.nd, fun p hp => isM_but (R.tup p (r2.mem_iff.mp hp)) hob hdt sb, by rw [el]; exact R.led, ?_, by rw [r2.length_eq]; exact few⟩ r2
  rw [r2.length_eq, em]
  exact hn
theorem tabOk_flag {t : SetTable} {hs : List Int} (T : TabOk t hs) (b : Bool) : TabOk { t with plain := b } hs := ⟨T.ris, T.dm, T.sz, T.mok, T.bd, T.reach⟩
theorem mix_add (R : TabM P w s.heap a L es ep t) {x : Addr} {k : List Key} (hx : IsM P w s.heap k x) (hu : A.units < cLine) (few : k ∉ L.map (·.2) → L.length + 1 < 64) {Q : Bool → Shared → Prop}
    (q : ∀ b h1 L1 es1 ep1 t1, Heap.SameBut a s.heap h1 → TabM P w h1 a L1 es1 ep1 t1 → (k ∈ L.map (·.2) → L1 = L) → (k ∉ L.map (·.2) → L1.Perm ((x, k) :: L)) → Q b { s with heap := h1 }) :
    wpAny (model P w) A (setAddHashed a (.ref x) (mH P w k)) Q E s := by
  obtain ⟨ob, hob, hex, hdt⟩ := R.ob
  have sz := rws_size R.rows
  have room := R.room
  unfold setAddHashed
  refine wpAny_holding ?_
  rw [show (100000 : Nat) = 99999 + 1 from rfl, setAddHashedIn_succ]
  refine wpAny_bind (wpAny_setState_of hob hdt R.fits ?_)
  dsimp only
  refine wp_if_neg (by simp [byScan, Value.scannable]) ?_
  try refine wpAny_bind (wpAny_pure ?_)
  refine wpAny_bind (mix_search R hx hu rfl (fun hm => ?_) fun K hm free busy => ?_)
  · dsimp only
    exact wpAny_pure (q false s.heap L es ep t (Heap.SameBut.refl a s.heap) R (fun _ => rfl) fun z => absurd hm z)
  dsimp only
  refine wpAny_bind (wpAny_setState_of hob hdt R.fits ?_)
  dsimp only
  have few1 := few hm
  obtain ⟨p1, p2, p3, p4, p5, p6, p7, p8, p9⟩ := R.tab.put free busy
  have hput : t.put (way t.mask (mH P w k) K) = ((t.put (way t.mask (mH P w k) K)).1, SetTable.below t.place (way t.mask (mH P w k) K)) := by rw [← p1]
  rw [hput]
  dsimp only
  generalize (t.put (way t.mask (mH P w k) K)).1 = t1 at p3 p4 p5 p9
  have hrow : (SetTable.insertAt es (SetTable.below t.place (way t.mask (mH P w k) K)) (mH P w k, Value.ref x)).toList = rws P w (L.take (SetTable.below t.place (way t.mask (mH P w k) K)) ++ (x, k) :: L.drop (SetTable.below t.place (way t.mask (mH P w k) K))) := by
    rw [SetTable.toList_insertAt, R.rows]
    unfold rws
    rw [List.map_append, List.map_cons, List.map_take, List.map_drop]
  generalize hpos : SetTable.below t.place (way t.mask (mH P w k) K) = pos at p2 p3 hrow
  have hhs : (hss P w L).take pos ++ mH P w k :: (hss P w L).drop pos = hss P w (L.take pos ++ (x, k) :: L.drop pos) := by
    show _ = List.map _ _
    rw [List.map_append, List.map_cons, List.map_take, List.map_drop]
  rw [hhs] at p3
  have pm : (L.take pos ++ (x, k) :: L.drop pos).Perm ((x, k) :: L) := put_perm L pos (x, k)
  generalize SetTable.insertAt es pos (mH P w k, Value.ref x) = es1 at hrow
  generalize L.take pos ++ (x, k) :: L.drop pos = L1 at p3 hrow pm
  have len1 : L1.length = L.length + 1 := pm.length_eq
  have sz1 := rws_size hrow
  have nd1 : (L1.map (·.2)).Nodup := by
    refine (pm.map (·.2)).nodup_iff.mpr ?_
    rw [List.map_cons]
    exact List.nodup_cons.mpr ⟨hm, R.nd⟩
  rw [List.length_map] at p9
  have fin : ∀ t2 : SetTable, TabOk t2 (hss P w L1) → t2.mask = t.mask → t2.led = t.led → t2.fill = L.length + 1 → wpAny (model P w) A (do
      storeSet a es1 t2
      if (!false && t2.tooFull) = true then do
        setRelay a (SetTable.grown (es.size + 1))
        pure true
      else pure true) Q E s := by
    intro t2 T2 m2 l2 f2
    refine wpAny_bind (wpAny_storeSet_of hob hdt ?_ (by rw [sz1, len1, sizeLine_eq]; omega))
    have sb : Heap.SameBut a s.heap (s.heap.update a (Obj.putSet es1 t2)) := Heap.SameBut.update ..
    have at2 := store_at (es' := es1) (t' := t2) hob hdt
    generalize s.heap.update a (Obj.putSet es1 t2) = h2 at sb at2 ⊢
    have tup2 : ∀ p ∈ L1, IsM P w h2 p.2 p.1 := fun p hp => by
      rcases List.mem_cons.mp (pm.mem_iff.mp hp) with e | hp
      · rw [e]; exact isM_but hx hob hdt sb
      · exact isM_but (R.tup p hp) hob hdt sb
    have led2 : w.params.followText "set-order" = true ∨ t2.led = true := by rw [l2]; exact R.led
    have ob2 : ∃ o, h2.get? a = some o ∧ o.ExactSet ∧ o.data = .set es1 (ep + 1) t2 := ⟨_, at2, ⟨hex.1, hex.2.1, hex.2.2⟩, rfl⟩
    by_cases full : t2.tooFull = true
    · have big : t2.mask * 3 ≤ (L.length + 1) * 5 := by
        have z := full
        unfold SetTable.tooFull at z
        rw [decide_eq_true_eq, f2] at z
        exact z
      rw [m2] at big
      refine wp_if_pos (by simp [full]) (wpAny_bind ?_)
      rw [sz]
      have two : (t.mask = 7 ∧ L.length = 4) ∨ (t.mask = 31 ∧ L.length = 18) := by
        rcases R.tab.mok with e | e | e <;> rw [e] at big room
        · exact .inl ⟨e, by omega⟩
        · exact .inr ⟨e, by omega⟩
        · omega
      have go : ∀ M, SetTable.sizeAbove (SetTable.grown (L.length + 1)) - 1 = M → MaskOk M → SetTable.sizeAbove (SetTable.grown (L.length + 1)) ≤ 128 → (L.length + 1) * 5 < M * 3 →
          wpAny (model P w) A (setRelay a (SetTable.grown (L.length + 1))) (fun _ s1 => wpAny (model P w) A (pure true) Q E s1) E { s with heap := h2 } := fun M g1 g2 g3 g4 => by
        refine mix_relay (s := { s with heap := h2 }) ⟨ob2, hrow, T2, nd1, tup2, led2, by omega⟩ (by rw [len1, m2]; rcases two with ⟨e, e2⟩ | ⟨e, e2⟩ <;> omega) g1 g2 g3 (by rw [len1]; exact g4) ?_
        intro h3 L3 es3 ep3 t3 sb3 R3 pm3
        exact wpAny_pure (q true h3 L3 es3 ep3 t3 (sb.trans sb3) R3 (fun z => absurd z hm) fun _ => pm3.trans pm)
      rcases two with ⟨_, e2⟩ | ⟨_, e2⟩
      · exact go 31 (by rw [e2, size_20]) (.inr (.inl rfl)) (by rw [e2, size_20]; decide) (by omega)
      · exact go 127 (by rw [e2, size_76]) (.inr (.inr rfl)) (by rw [e2, size_76]; decide) (by omega)
    · have some_ : (L.length + 1) * 5 < t2.mask * 3 := by
        have z := full
        unfold SetTable.tooFull at z
        rw [decide_eq_true_eq, f2] at z
        omega
      refine wp_if_neg (by simp [full]) (wpAny_pure (q true h2 L1 es1 (ep + 1) t2 sb ⟨ob2, hrow, T2, nd1, tup2, led2, by rw [len1]; exact some_, by omega⟩ (fun z => absurd z hm) fun _ => pm))
  by_cases pl : t1.plain = true
  · refine wp_if_pos pl (wpAny_bind (mix_byval hx fun r => ?_))
    cases r with
    | true => exact fin t1 p3 p4 p5 p9
    | false => exact fin { t1 with plain := false } (tabOk_flag p3 false) p4 p5 p9
  · refine wp_if_neg pl (wpAny_bind (wpAny_pure ?_))
    exact fin t1 p3 p4 p5 p9
end
end Ev

/-! Ev5o: set(a list of such tuples). -/
namespace Ev
open PySem PySem.Spec PyProof.Rows L2
/-- L: what the first i items have left in the set -/
structure Has (ks : List (Addr × List Key)) (i : Nat) (L : List (Addr × List Key)) : Prop where
  sub : ∀ p ∈ L, p ∈ ks.take i
  all : ∀ p ∈ ks.take i, p.2 ∈ L.map (·.2)
def FewM (ks : List (Addr × List Key)) : Prop := ∀ l : List (List Key), l.Nodup → (∀ x ∈ l, x ∈ ks.map (·.2)) → l.length < 64
theorem Has.step {ks L M : List (Addr × List Key)} {i : Nat} {x : Addr × List Key} (g : Has ks i L) (h : ks[i]? = some x) (h1 : x.2 ∈ L.map (·.2) → M = L) (h2 : x.2 ∉ L.map (·.2) → M.Perm (x :: L)) : Has ks (i + 1) M := by
  have e : ks.take (i + 1) = ks.take i ++ [x] := by
    rw [List.take_succ, h]
    rfl
  have memE : ∀ p, p ∈ ks.take (i + 1) ↔ p ∈ ks.take i ∨ p = x := fun p => by rw [e, List.mem_append, List.mem_singleton]
  by_cases q : x.2 ∈ L.map (·.2)
  · rw [h1 q]
    refine ⟨fun p hp => (memE p).mpr (.inl (g.sub p hp)), fun p hp => ?_⟩
    rcases (memE p).mp hp with hp | rfl
    · exact g.all p hp
    · exact q
  · have pm := h2 q
    refine ⟨fun p hp => (memE p).mpr ?_, fun p hp => (pm.map (·.2)).mem_iff.mpr ?_⟩
    · rcases List.mem_cons.mp (pm.mem_iff.mp hp) with rfl | hp
      · exact .inr rfl
      · exact .inl (g.sub p hp)
    · rw [List.map_cons]
      rcases (memE p).mp hp with hp | rfl
      · exact List.mem_cons_of_mem _ (g.all p hp)
      · exact List.mem_cons_self
section
variable {P : Program} {w : World} {A : Around} {E : Value → Shared → Prop} {s : Shared}
theorem TabM.up {h h' : Heap} {a : Addr} {L : List (Addr × List Key)} {es : Array (Int × Value)} {ep : Nat} {t : SetTable} (R : TabM P w h a L es ep t) (ha : ∀ o, h.get? a = some o → h'.get? a = some o) (ht : ∀ p ∈ L, IsM P w h' p.2 p.1) : TabM P w h' a L es ep t := by
  obtain ⟨o, ho, r⟩ := R.ob
  exact ⟨⟨o, ha o ho, r⟩, R.rows, R.tab, R.nd, ht, R.led, R.room, R.few⟩
theorem tabM_new {h : Heap} {a : Addr} (ho : h.get? a = some (set0 w)) : TabM P w h a [] #[] 0 (.fresh 0 0 (!w.params.followText "set-order")) where
  ob := ⟨_, ho, ⟨rfl, rfl, rfl⟩, rfl⟩
  rows := rfl
  tab := ⟨List.Pairwise.nil, rfl, rfl, .inl rfl, fun x hx => (by cases hx), fun i h j hi => (by simp at hi)⟩
  nd := List.nodup_nil
  tup := fun p hp => (by cases hp)
  led := by
    show _ ∨ (!w.params.followText "set-order") = true
    cases w.params.followText "set-order"
    · exact .inr rfl
    · exact .inl rfl
  room := by
    show 0 * 5 < 7 * 3
    decide
  few := by
    show 0 < 64
    decide
theorem mix_loop {I : Addr} {fp wr : List Addr} {G : Array GenState → Array GenState → Prop} {n : Nat} {Pv : Nat → Value → Prop} {St : Nat → Shared → Prop} {R : Result → Shared → Prop} (W : WalksS P w A.in1 I fp wr G n Pv St) (S : Addr) (nS : S ∉ fp)
    (ks : List (Addr × List Key)) (hn : n = ks.length) (few : FewM ks) (val : ∀ i v, Pv i v → ∃ p, ks[i]? = some p ∧ v = .ref p.1) (h0 : Heap) (hk : ∀ p ∈ ks, IsM P w h0 p.2 p.1) (hS0 : h0.get? S = none) (hw0 : ∀ b ∈ wr, h0.get? b = none) (hu : A.in1.units < cLine) :
    ∀ (k i : Nat) (s : Shared), n - i = k → i ≤ n → St i s → (∀ b o, h0.get? b = some o → s.heap.get? b = some o) → (∃ L es ep t, TabM P w s.heap S L es ep t ∧ Has ks i L) →
      (∀ s' L es ep t, Moved (S :: wr) G s s' → TabM P w s'.heap S L es ep t → Has ks n L → (∀ b o, h0.get? b = some o → s'.heap.get? b = some o) → R (.ok (.ret .none)) s') →
      codeAny (model P w) A (.builtin "set.update.loop" ⟨[.ref S, .ref I], []⟩) R s := by
  have nSw : S ∉ wr := fun z => nS (W.sub _ z)
  have wr' : ∀ b ∈ wr, b ∈ S :: wr := fun b hb => List.mem_cons_of_mem _ hb
  have upM : ∀ {s1 s2 : Shared}, Moved wr G s1 s2 → (∀ b o, h0.get? b = some o → s1.heap.get? b = some o) → ∀ b o, h0.get? b = some o → s2.heap.get? b = some o := fun m u b o e =>
    m.heap b o (fun hb => by rw [hw0 b hb] at e; cases e) (u b o e)
  intro k
  induction k with
  | zero =>
    intro i s ek hi hst up ⟨L, es, ep, t, hT, g⟩ hR
    obtain rfl : i = n := by omega
    refine codeAny_builtin F.entry_set_update_loop ?_
    rw [Around.under_plainId F.plain_set_update_loop _]
    show wpAny _ A.in1 (pyNext (.ref I) >>= _) _ _ s
    refine wpAny_bind (W.done s _ _ hst fun s1 m => ?_)
    show wpAny _ A.in1 (ret Value.none) _ _ s1
    have up1 := upM m up
    exact wpAny_pure (hR s1 L es ep t (m.mono wr') (hT.up (fun o e => m.heap S o nSw e) fun p hp => isM_up (hk p (List.mem_of_mem_take (g.sub p hp))) up1) g up1)
  | succ k ih =>
    intro i s ek hi hst up ⟨L, es, ep, t, hT, g⟩ hR
    have lt : i < n := by omega
    refine codeAny_builtin F.entry_set_update_loop ?_
    rw [Around.under_plainId F.plain_set_update_loop _]
    show wpAny _ A.in1 (pyNext (.ref I) >>= _) _ _ s
    refine wpAny_bind (W.item i s _ _ lt hst fun v s1 hP hst1 m => ?_)
    obtain ⟨p, hp, rfl⟩ := val i v hP
    have up1 := upM m up
    have inks : ∀ q ∈ L, q ∈ ks := fun q hq => List.mem_of_mem_take (g.sub q hq)
    have pin : p ∈ ks := List.mem_of_getElem? hp
    have T1 : TabM P w s1.heap S L es ep t := hT.up (fun o e => m.heap S o nSw e) fun q hq => isM_up (hk q (inks q hq)) up1
    have x1 : IsM P w s1.heap p.2 p.1 := isM_up (hk p pin) up1
    show wpAny _ A.in1 (holding [Value.ref p.1] (setAdd S (.ref p.1)) >>= _) _ _ s1
    refine wpAny_bind (wpAny_holding ?_)
    unfold setAdd
    refine wpAny_holding ?_
    refine wpAny_bind (wpAny_pyHash_tuple hu x1 ?_)
    refine mix_add (s := { s1 with toks := s1.toks + (p.2.length + 1) }) T1 x1 hu (fun hm => ?_) fun b h2 L2 es2 ep2 t2 sb T2 c1 c2 => ?_
    · have := few (p.2 :: L.map (·.2)) (List.nodup_cons.mpr ⟨hm, hT.nd⟩) fun y hy => by
        rcases List.mem_cons.mp hy with rfl | hy
        · exact List.mem_map_of_mem pin
        · obtain ⟨q, hq, rfl⟩ := List.mem_map.mp hy
          exact List.mem_map_of_mem (inks q hq)
      simpa using this
    have g2 : Has ks (i + 1) L2 := g.step hp c1 c2
    have up2 : ∀ b o, h0.get? b = some o → h2.get? b = some o := fun b o e => (sb.2 b (fun z => by rw [z, hS0] at e; cases e)).trans (up1 b o e)
    refine wpAny_pure ⟨plainId_quiet F.plain_set_update_loop _, ih (i + 1) _ (by omega) lt (W.frame _ s1 _ _ hst1 (Nat.le_add_right _ _) fun b hb o e => ?_) up2 ⟨L2, es2, ep2, t2, T2, g2⟩ fun s3 L3 es3 ep3 t3 m3 T3 g3 up3 => ?_⟩
    · rw [sb.2 b (fun z : b = S => nS (by rw [← z]; exact hb))]; exact e
    · refine hR s3 L3 es3 ep3 t3 (Moved.trans W.gtrans ((m.mono wr').then_heap (Nat.le_add_right _ _) fun b o hb e => ?_) m3) T3 g3 up3
      rw [sb.2 b (fun z : b = S => hb (by rw [z]; exact List.mem_cons_self))]; exact e
theorem set_of_mix {l : Addr} {its : Array Value} (ks : List (Addr × List Key)) {Q : Value → Shared → Prop} (hh : A.handled = none) (hl : s.heap.IsList l its) (hit : its.toList = ks.map fun p => Value.ref p.1) (hk : ∀ p ∈ ks, IsM P w s.heap p.2 p.1) (few : FewM ks) (hu : A.units + 3 < cLine)
    (k : ∀ (g : Heap) (tk : Nat) L es ep t, TabM P w g s.heap.objs.size L es ep t → Has ks ks.length L → (∀ b o, s.heap.get? b = some o → g.get? b = some o) → Q (.ref s.heap.objs.size) { s with heap := g, toks := tk }) :
    wpAny (model P w) A (call (.type "set") [.ref l]) Q E s := by
  have hsz : its.size = ks.length := by
    rw [← Array.length_toList, hit, List.length_map]
  obtain ⟨c, tl, hmro⟩ := PySem.F.called_set.mro
  have f1 := PySem.F.called_set.made
  have f2 := PySem.F.called_set.sub
  refine wpAny_call (codeAny_of_tree ?_)
  show wpAny _ _ (callAny (.type "set") _) _ _ _
  refine wpAny_pure ⟨Code.quiet_builtin _ (by decide +kernel), codeAny_builtin PySem.F.entry_type_call ?_⟩
  rw [Around.under_plain (weight_type_call_type "set" [.ref l] []) rfl]
  have f3 := PySem.F.called_set.notType
  have f4 := PySem.F.called_set.canCreate
  have f5 := PySem.F.typeCall_set_1 (.ref l)
  repeat (any_goals (first | assumption | wp_step))
  refine codeAny_mono (code_set_led1 (.ref l) (E := E) (Q₁ := fun ob sa => ob = .ref s.heap.objs.size ∧ sa = { s with heap := s.heap.push (set0 w) }) ⟨rfl, rfl⟩) fun r sa hr => ?_
  cases r with
  | error e => exact hr
  | ok fl =>
    cases fl with
    | ret ob =>
      obtain ⟨rfl, rfl⟩ := hr
      have eS : (s.heap.push (set0 w)).get? s.heap.objs.size = some (set0 w) := Heap.get?_push_size _ rfl
      have eT : Shared.TypeIs { s with heap := s.heap.push (set0 w) } (.ref s.heap.objs.size) "set" := ⟨_, eS, rfl⟩
      have e1 := PySem.F.called_set.init.lookup
      have e2 := PySem.F.called_set.init.bind (.ref s.heap.objs.size)
      repeat (any_goals (first | assumption | wp_step))
      refine codeAny_mono (codeAny_call_builtin (R := wants (fun r sb => r = .none ∧ ∃ g tk L es ep t, sb = { s with heap := g, toks := tk } ∧ TabM P w g s.heap.objs.size L es ep t ∧ Has ks ks.length L ∧
          (∀ b o, s.heap.get? b = some o → g.get? b = some o)) E) PySem.F.called_set.init.plain PySem.F.entry_set_init (check_set_init_1 eT ?_)) fun r2 sb hr2 => ?_
      · obtain ⟨ol, hol, hcl, nl, hdl⟩ := hl
        obtain ⟨oc, od, odata, oslots⟩ := ol
        simp only at hcl hdl
        subst hcl hdl
        have hol' : (s.heap.push (set0 w)).get? l = some { cls := .type "list", dict := od, data := .seq its nl, slots := oslots } := Heap.get?_push_of_some _ hol
        have q1 := PySem.F.sub_list_set
        have q2 := PySem.F.sub_list_frozenset
        have q3 : (Value.type "list" == Value.type "dict") = false := by decide
        have hl1 : (s.heap.push (set0 w)).IsList l its := ⟨_, hol', rfl, nl, rfl⟩
        unfold Builtin.«set.__init__» noKeywords Builtin.Frozenset.updateFrom
        generalize hPI : pyIter = PI
        wp_walk
        subst hPI
        refine wpAny_pyIter_list hl1 ?_
        refine wpAny_bind (wpAny_runValue ?_)
        have lS : l < s.heap.objs.size := Heap.lt_size hol
        have h3 : A.in1.in1.in1.handled = none := by simp [hh]
        have sz : (s.heap.push (set0 w)).objs.size = s.heap.objs.size + 1 := Heap.size_push ..
        have nI : l ≠ (s.heap.push (set0 w)).objs.size := by
          rw [sz]; exact Nat.ne_of_lt (Nat.lt_succ_of_lt lS)
        have nS : s.heap.objs.size ∉ [(s.heap.push (set0 w)).objs.size, l] := by
          rw [sz]
          intro z
          rcases List.mem_cons.mp z with z | z
          · exact Nat.ne_of_lt (Nat.lt_succ_self _) z
          · rcases List.mem_cons.mp z with z | z
            · exact Nat.ne_of_gt lS z
            · cases z
        have hval : ∀ (i : Nat) (v : Value), its[i]? = some v → ∃ p, ks[i]? = some p ∧ v = .ref p.1 := fun i v hv => by
          have e : its.toList[i]? = some v := by rw [Array.getElem?_toList]; exact hv
          rw [hit, List.getElem?_map] at e
          cases hq : ks[i]? with
          | none => rw [hq] at e; cases e
          | some p => rw [hq] at e; exact ⟨p, rfl, (Option.some.inj e).symm⟩
        have fresh : ∀ b, s.heap.objs.size ≤ b → s.heap.get? b = none := fun b hb => by
          cases e : s.heap.get? b with
          | none => rfl
          | some o => exact absurd (Nat.lt_of_lt_of_le (Heap.lt_size e) hb) (Nat.lt_irrefl _)
        refine mix_loop ((Walks.list h3 _ l nI its).toS) s.heap.objs.size nS ks hsz few hval s.heap hk (fresh _ (Nat.le_refl _)) (fun b hb => fresh b (by rw [List.mem_singleton.mp hb, sz]; exact Nat.le_succ _)) hu (its.size - 0) 0 _ (by omega) (Nat.zero_le _) ⟨⟨_, Heap.get?_push_size _ rfl, rfl, rfl⟩, (hl1.push _)⟩
          (fun b o e => Heap.get?_push_of_some _ (Heap.get?_push_of_some _ e)) ?h0 ?hR
        case h0 => exact ⟨[], #[], 0, _, tabM_new (Heap.get?_push_of_some _ eS), ⟨fun p hp => (nomatch hp), fun p hp => by simp at hp⟩⟩
        case hR =>
          intro sc L es ep t m T g up
          obtain ⟨gg, g2, d', tk', os'⟩ := sc
          have eg : g2 = s.gens := m.gens
          have ed : d' = s.drawn := m.drawn
          have eo : os' = s.os := m.os
          subst eg ed eo
          show wpAny _ _ _ _ _ _
          refine wpAny_pure ?_
          show wpAny _ _ (ret Value.none) _ _ _
          rw [hsz] at g
          exact wpAny_pure ⟨rfl, gg, tk', L, es, ep, t, rfl, T, g, up⟩
      · cases r2 with
        | error e => exact hr2
        | ok fl2 =>
          cases fl2 with
          | ret r =>
            obtain ⟨rfl, g, tk, L, es, ep, t, rfl, z1, z2, z3⟩ := hr2
            repeat (any_goals (first | assumption | wp_step))
            exact k _ _ _ _ _ _ z1 z2 z3
          | _ => exact hr2.elim
    | _ => exact hr.elim
end
end Ev

/-! Ev5p: sorted(set(xs)), xs a list of ints, or of tuples of ints and texts. -/
namespace Ev
open PySem PySem.Spec PyProof.Rows L2
/-! ### the order of such tuples -/
def encK : Key → D
  | .inl i => .int i
  | .inr x => .str x
def encM (k : List Key) : D := .tuple (k.map encK)
def tokK : Key → Int ⊕ List Nat
  | .inl i => .inl i
  | .inr x => .inr x.cps.toList
def toksM (k : List Key) : List (Int ⊕ List Nat) := PySem.W.keyToks (encM k)
theorem toksM_nil : toksM [] = [.inl 0] := by simp [toksM, encM, PySem.W.keyToks, PySem.W.keyToksAll]
theorem toksM_cons (a : Key) (k : List Key) : toksM (a :: k) = .inl 1 :: tokK a :: toksM k := by
  cases a <;> simp [toksM, encM, encK, tokK, PySem.W.keyToks, PySem.W.keyToksAll]
theorem tokK_inj {a b : Key} (h : tokK a = tokK b) : a = b := by
  cases a <;> cases b <;> simp [tokK] at h ⊢
  · exact h
  · exact PySem.W.str_of_cps (by rw [h])
theorem toksM_inj : ∀ {x y : List Key}, toksM x = toksM y → x = y
  | [], [], _ => rfl
  | [], b :: y, h => by rw [toksM_nil, toksM_cons] at h; injection h with h _; cases h
  | a :: x, [], h => by rw [toksM_nil, toksM_cons] at h; injection h with h _; cases h
  | a :: x, b :: y, h => by
    rw [toksM_cons, toksM_cons] at h
    injection h with _ h
    injection h with h1 h2
    rw [tokK_inj h1, toksM_inj h2]
abbrev ordT : KeyOrd := listOrd itemOrd
def ltM (x y : List Key) : Bool := ordT.blt (toksM x) (toksM y)
theorem linM : Lin ltM := ⟨fun x => ordT.irrefl _, fun x y z => ordT.trans _ _ _, fun x y h1 h2 => toksM_inj (ordT.total _ _ h1 h2)⟩
abbrev uniqM (L : List (List Key)) : List (List Key) := uniq ltM L
/-- what can be sorted -/
def SrtM (L : List (List Key)) : Prop := PySem.W.AllAlike (L.map encM) ∧ ∀ k ∈ L, k ≠ []
theorem SrtM.sub {L M : List (List Key)} (h : SrtM L) (hs : ∀ k ∈ M, k ∈ L) : SrtM M := by
  refine ⟨fun d hd e he => ?_, fun k hk => h.2 k (hs k hk)⟩
  obtain ⟨x, hx, rfl⟩ := List.mem_map.mp hd
  obtain ⟨y, hy, rfl⟩ := List.mem_map.mp he
  exact h.1 _ (List.mem_map_of_mem (hs x hx)) _ (List.mem_map_of_mem (hs y hy))
theorem SrtM.ok {L : List (List Key)} (h : SrtM L) : PySem.W.Sortable (L.map encM) := by
  refine .inl fun d hd => ?_
  obtain ⟨k, hk, rfl⟩ := List.mem_map.mp hd
  cases k with
  | nil => exact absurd rfl (h.2 _ hk)
  | cons a k => exact ⟨_, _, rfl⟩
theorem encM_depth (k : List Key) : (encM k).depth ≤ 1 := by
  have : ∀ k : List Key, PyData.depthAll (k.map encK) = 0 := by
    intro k
    induction k with
    | nil => simp [PyData.depthAll]
    | cons a k ih => cases a <;> simp [PyData.depthAll, PyData.depth, encK, ih]
  simp [encM, PyData.depth, this]
section
variable {P : Program} {w : World} {A : Around} {E : Value → Shared → Prop} {s : Shared}
theorem reads_items {h : Heap} {k : List Key} {vs : List Value} (hi : ItemsAre (mixKind P w) k vs) : ReadsAll h vs (k.map encK) [] := by
  induction hi with
  | nil => exact .nil
  | @cons k0 v0 ks us h1 _ ih =>
    rcases keyIs_shape h1 with ⟨i, t, rfl, rfl⟩ | ⟨x, t, rfl, rfl⟩
    · exact .cons (as := []) (.int i t) ih
    · exact .cons (as := []) (.str x t) ih
theorem reads_isM {h : Heap} {k : List Key} {a : Addr} (hk : IsM P w h k a) : Reads h (.ref a) (encM k) [] := by
  obtain ⟨o, its, n, h1, h2, h3, h4⟩ := hk
  exact .tuple h1 h2 h3 (reads_items h4)
theorem each_refs {R : Value → Addr × List Key → Prop} : ∀ (L : List (Addr × List Key)), (∀ p ∈ L, R (.ref p.1) p) → PySem.W.EachIs R (L.map fun p => Value.ref p.1) L
  | [], _ => .nil
  | p :: L, h => .cons (h p List.mem_cons_self) (each_refs L fun q hq => h q (List.mem_cons_of_mem _ hq))
theorem refs_each : ∀ {out : List Value} {L : List (Addr × List Key)}, PySem.W.EachIs (fun v p => v = Value.ref p.1) out L → out = L.map fun p => Value.ref p.1
  | _, _, .nil => rfl
  | _, _, .cons h t => by rw [h, refs_each t]; rfl
theorem refs_of {L : List (Addr × List Key)} : ∀ {vs : List Value}, (∀ v ∈ vs, ∃ p ∈ L, v = Value.ref p.1) → ∃ M : List (Addr × List Key), vs = M.map (fun p => Value.ref p.1) ∧ ∀ p ∈ M, p ∈ L
  | [], _ => ⟨[], rfl, fun _ h => nomatch h⟩
  | v :: vs, h => by
    obtain ⟨p, hp, rfl⟩ := h v List.mem_cons_self
    obtain ⟨M, rfl, hM⟩ := refs_of (vs := vs) fun u hu => h u (List.mem_cons_of_mem _ hu)
    refine ⟨p :: M, rfl, fun q hq => ?_⟩
    rcases List.mem_cons.mp hq with rfl | hq
    · exact hp
    · exact hM q hq
open PySem.W in
theorem sorted_mix {a : Addr} {L : List (Addr × List Key)} {es : Array (Int × Value)} {ep : Nat} {t : SetTable} {Q : Value → Shared → Prop} (R : TabM P w s.heap a L es ep t) (hh : A.handled = none) (ho : SrtM (L.map (·.2))) (hu : A.units + 8 < cLine)
    (hQ : ∀ s1 p (out : Array Value) (c : Nat) (M : List (Addr × List Key)), (∀ b o, s.heap.get? b = some o → s1.heap.get? b = some o) → s1.gens = s.gens → s1.os = s.os → s.heap.objs.size ≤ p → s1.heap.get? p = some (seqObj "list" out c) → out.toList = M.map (fun q => Value.ref q.1) → M.Perm L →
      M.Pairwise (fun q r => ltM r.2 q.2 = false) → Q (.ref p) s1) : wpAny (model P w) A (call (.builtin "sorted") [.ref a]) Q E s := by
  obtain ⟨ob, hob, hex, hdt⟩ := R.ob
  have sz := rws_size R.rows
  have few := R.few
  refine PyProof.Rows.call_function_entry_kw kind_sorted plain_sorted entry_sorted (args_sorted1 _) ?_
  unfold Builtin.«sorted»
  refine wpAny_bind (m := checkCount "sorted" 1 1 _) (wpAny_pure ?_)
  refine wpAny_bind (collect_set (A := A.in1) hh ⟨ob, hob, hex.1, hdt⟩ R.fits (by unfold scanBound; omega) R.tab.ris R.led fun s1 vs up hz g1 o1 pm => ?_)
  have hes : es.toList.map (·.2) = L.map fun q => Value.ref q.1 := by
    rw [R.rows]
    unfold rws
    rw [List.map_map]
    rfl
  rw [hes] at pm
  obtain ⟨M, rfl, hM⟩ := refs_of (L := L) (vs := vs) fun v hv => by
    obtain ⟨p, hp, e⟩ := List.mem_map.mp (pm.mem_iff.mp hv)
    exact ⟨p, hp, e.symm⟩
  have one : ∀ q ∈ L, ∀ r ∈ L, q.1 = r.1 → q = r := fun q hq r hr e => by
    have x1 := R.tup q hq
    have x2 := R.tup r hr
    rw [e] at x1
    exact Prod.ext e (x1.inj x2)
  have pmM : M.Perm L := by
    have nL : L.Nodup := nodup_of_map R.nd
    have nR : (L.map fun q => Value.ref q.1).Nodup := by
      refine List.pairwise_map.mpr (nL.imp_of_mem fun {q r} hq hr hne e => ?_)
      injection e with e
      exact hne (one q hq r hr e)
    have nM : M.Nodup := nodup_of_map (pm.nodup_iff.mpr nR)
    refine (List.perm_ext_iff_of_nodup nM nL).mpr fun q => ⟨hM q, fun hq => ?_⟩
    obtain ⟨r, hr, e⟩ := List.mem_map.mp (pm.mem_iff.mpr (List.mem_map.mpr ⟨q, hq, rfl⟩))
    injection e with e
    rw [← one r (hM r hr) q hq e]
    exact hr
  have lenM : M.length = L.length := pmM.length_eq
  refine wpAny_bind (wpAny_newList ?_ (by rw [List.length_map, sizeLine_eq]; omega))
  have hoL : (s1.heap.push (seqObj "list" (M.map fun q => Value.ref q.1).toArray 0)).get? s1.heap.objs.size = some (seqObj "list" (M.map fun q => Value.ref q.1).toArray 0) := Heap.get?_push_size _ rfl
  generalize hvs : (M.map fun q => Value.ref q.1) = vs at hoL pm
  have hlv : vs.length = L.length := by rw [← hvs, List.length_map, lenM]
  have upS : ∀ b o, s.heap.get? b = some o → (sortingHeap (s1.heap.push (seqObj "list" vs.toArray 0)) s1.heap.objs.size vs).get? b = some o := fun b o e =>
    sortingHeap_old (Nat.ne_of_lt (Nat.lt_of_lt_of_le (Heap.lt_size e) hz)) (Heap.get?_push_of_some _ (up b o e))
  have sub : ∀ k ∈ M.map (·.2), k ∈ L.map (·.2) := fun k hk => by
    obtain ⟨q, hq, rfl⟩ := List.mem_map.mp hk
    exact List.mem_map_of_mem (hM q hq)
  have hoM := ho.sub sub
  have eM : M.map (fun q => encM q.2) = (M.map (·.2)).map encM := by rw [List.map_map]; rfl
  have er : EachIs (fun v (q : Addr × List Key) => ∃ as, Reads (sortingHeap (s1.heap.push (seqObj "list" vs.toArray 0)) s1.heap.objs.size vs) v (encM q.2) as) vs M := by
    rw [← hvs]
    exact each_refs M fun q hq => ⟨[], by rw [hvs]; exact reads_isM (isM_up (R.tup q (hM q hq)) upS)⟩
  have e0 : EachIs (fun v (q : Addr × List Key) => v = Value.ref q.1) vs M := by
    rw [← hvs]
    exact each_refs M fun q _ => rfl
  have hal : AllAlike (M.map fun q => encM q.2) := by rw [eM]; exact hoM.1
  have S := SortsAt.data (prog := P) (w := w) (A := A.in1.in1) (s := { s1 with heap := sortingHeap (s1.heap.push (seqObj "list" vs.toArray 0)) s1.heap.objs.size vs }) (each_map (R := fun v d => ∃ as, Reads (sortingHeap (s1.heap.push (seqObj "list" vs.toArray 0)) s1.heap.objs.size vs) v d as) (fun q : Addr × List Key => encM q.2) er) hal (by rw [eM]; exact hoM.ok) (fun d hd => by
    obtain ⟨q, hq, rfl⟩ := List.mem_map.mp hd
    have := encM_depth q.2
    have e2 : A.in1.in1.units ≤ A.units + 2 := by simp
    omega)
  refine wpAny_bind (wpAny_holding (PyProof.Rows.wpAny_call_entry_kw slot_list_sort ⟨_, hoL, rfl⟩ entry_list_sort ?body (args_list_sort _)))
  case body =>
    refine wpAny_mono (list_sort_vals (s := { s1 with heap := s1.heap.push (seqObj "list" vs.toArray 0) }) (P := fun f s2 => f = .done (.ret .none) ∧ Q (.ref s1.heap.objs.size) s2) hoL S (by rw [hlv, sizeLine_eq]; omega) ⟨rfl, ?_⟩) (fun f s2 hf => ?_) fun _ _ e => e
    · have eo := sortVals_data (R := fun v (q : Addr × List Key) => v = Value.ref q.1) false e0 er hal
      generalize sortVals _ false vs vs = out at eo
      obtain ⟨c, hc⟩ := sortedHeap_at (out := out.toArray) hoL
      have pmS : (M.mergeSort (dataLe false fun q => encM q.2)).Perm M := List.mergeSort_perm _ _
      refine hQ _ s1.heap.objs.size out.toArray c (M.mergeSort (dataLe false fun q => encM q.2)) (fun b u e => ?_) g1 o1 hz hc (by simpa using refs_each eo) (pmS.trans pmM) ?_
      · have e1 := up b u e
        have lt := Heap.lt_size e1
        show (sortedHeap (s1.heap.push (seqObj "list" vs.toArray 0)) s1.heap.objs.size vs out.toArray).get? b = some u
        rw [sortedHeap_old (Nat.ne_of_lt lt) (by rw [PyProof.Rows.size_push']; exact Nat.lt_succ_of_lt lt)]
        exact Heap.get?_push_of_some _ e1
      · have T := sortLe_total ordT false fun q : Addr × List Key => toksM q.2
        refine (List.pairwise_mergeSort (le := dataLe false fun q : Addr × List Key => encM q.2) (fun a b c => T.trans a b c) (fun a b => ?_) M).imp fun {q r} z => ?_
        · rw [Bool.or_eq_true]; exact T.total a b
        · have z' : (!ltM r.2 q.2) = true := z
          simpa using z'
    · obtain ⟨rfl, hq⟩ := hf
      exact ⟨_, rfl, wpAny_pure ⟨_, rfl, hq⟩⟩
end
/-! ### the rules -/
/-- the set at a, without the tuples themselves -/
structure TabX (P : Program) (w : World) (h : Heap) (a : Addr) (L : List (Addr × List Key)) : Prop where
  ex : ∃ (es : Array (Int × Value)) (ep : Nat) (t : SetTable), (∃ o, h.get? a = some o ∧ o.ExactSet ∧ o.data = .set es ep t) ∧ es.toList = rws P w L ∧ TabOk t (hss P w L) ∧ (L.map (·.2)).Nodup ∧
    (w.params.followText "set-order" = true ∨ t.led = true) ∧ L.length * 5 < t.mask * 3 ∧ L.length < 64
def SetMO (P : Program) (w : World) (a : Addr) (L : List (Addr × List Key)) : HO := .ext fun h => TabX P w h a L
theorem TabM.x {P : Program} {w : World} {h : Heap} {a : Addr} {L : List (Addr × List Key)} {es : Array (Int × Value)} {ep : Nat} {t : SetTable} (R : TabM P w h a L es ep t) : TabX P w h a L := ⟨es, ep, t, R.ob, R.rows, R.tab, R.nd, R.led, R.room, R.few⟩
theorem TabX.full {P : Program} {w : World} {h : Heap} {a : Addr} {L : List (Addr × List Key)} (R : TabX P w h a L) (ht : ∀ p ∈ L, IsM P w h p.2 p.1) : ∃ es ep t, TabM P w h a L es ep t := by
  obtain ⟨es, ep, t, h1, h2, h3, h4, h5, h6, h7⟩ := R.ex
  exact ⟨es, ep, t, h1, h2, h3, h4, ht, h5, h6, h7⟩
theorem setMO_new {P : Program} {w : World} {H : Hp} {h : Heap} {a : Addr} {L : List (Addr × List Key)} (R : TabX P w h a L) : ObjOk P w H h a (SetMO P w a L) := by
  have ⟨es, ep, t, ⟨o, ho, r⟩, _⟩ := R.ex
  refine ⟨R, ⟨o, ho⟩, fun h1 h2 p k => ?_⟩
  have ⟨es', ep', t', ⟨o', ho', r'⟩, q'⟩ := TabX.ex p
  exact ⟨es', ep', t', ⟨o', k o' ho', r'⟩, q'⟩
theorem vals_refs : ∀ {ks : List (Addr × List Key)} {us : List Value}, Vals (ks.map fun p => V.ref p.1) us → us = ks.map fun p => Value.ref p.1
  | [], _, .nil => rfl
  | p :: ks, _, .cons r t => by
    cases r
    rw [vals_refs t]
    rfl
theorem refs_vals : ∀ (ks : List (Addr × List Key)), Vals (ks.map fun p => V.ref p.1) (ks.map fun p => Value.ref p.1)
  | [] => .nil
  | p :: ks => .cons rfl (refs_vals ks)
section
variable {X : Cx}
theorem inv_isM {pins : List (Addr × Obj)} {σ : St} {H : Hp} {s : Shared} {b : Addr} {k : List Key} (I : Inv X pins σ H s) (h : SqT X.K H b (k.map kV)) : IsM X.prog X.w s.heap k b := by
  obtain ⟨its, r, ⟨o, h1, h2, n, h3⟩, _⟩ := I.tuple h
  exact ⟨o, its.toArray, n, h1, h2, h3, by simpa using items_are r⟩
def rSetM (K : PySem.W.Frag) (P : Program) (w : World) : List V → Hp → VK → Prop := fun xs H Q => ∃ (l : Addr) (ks : List (Addr × List Key)), xs = [V.ref l] ∧ SqL K H l (ks.map fun p => V.ref p.1) ∧ (∀ p ∈ ks, SqT K H p.1 (p.2.map kV)) ∧ FewM ks ∧
  ∀ a L, H a = none → (∀ p ∈ L, p ∈ ks) → (∀ p ∈ ks, p.2 ∈ L.map (·.2)) → Q (.ref a) (upd H a (SetMO P w a L))
theorem cr_setM (hc : X.calm = true) (hu : X.A.units + 64 < cLine) : CallR X (.type "set") (rSetM X.K X.prog X.w) := by
  intro pins s σ H xs us Q I r h
  obtain ⟨l, ks, rfl, hl, hk, hf, q⟩ := h
  rw [Vals.ref1 r]
  obtain ⟨its, rv, pl, hz⟩ := I.list hl
  have hn : H s.heap.objs.size = none := I.hok.fresh (Nat.le_refl _)
  refine set_of_mix (P := X.prog) (w := X.w) ks (I.ok.hd hc) pl.isList (by simpa using vals_refs rv) (fun p hp => inv_isM I (hk p hp)) hf (by omega) fun g tk L es ep t R has up => ?_
  refine ⟨.ref s.heap.objs.size, upd H s.heap.objs.size (SetMO X.prog X.w s.heap.objs.size L), I.laid (t' := tk) up (Nat.le_refl _) (setMO_new R.x), rfl, q _ L hn (fun p hp => List.mem_of_mem_take (has.sub p hp)) fun p hp => ?_⟩
  exact has.all p (by rw [List.take_length]; exact hp)
def rSortM (K : PySem.W.Frag) (P : Program) (w : World) : List V → Hp → VK → Prop := fun vs H Q => ∃ (a : Addr) (L : List (Addr × List Key)), vs = [V.ref a] ∧ H a = some (SetMO P w a L) ∧ (∀ p ∈ L, SqT K H p.1 (p.2.map kV)) ∧ SrtM (L.map (·.2)) ∧
  ∀ (M : List (Addr × List Key)) (p : Addr), M.Perm L → (M.map (·.2)).Nodup → M.Pairwise (fun q r => ltM r.2 q.2 = false) → H p = none → Q (.ref p) (upd H p (.lst (M.map fun q => V.ref q.1)))
theorem cr_sortM (hc : X.calm = true) (hu : X.A.units + 64 < cLine) : CallR X (.builtin "sorted") (rSortM X.K X.prog X.w) := by
  intro pins s σ H vs us Q I r h
  obtain ⟨a, L, rfl, ha, hk, ho, q⟩ := h
  have R0 : TabX X.prog X.w s.heap a L := (I.hok a _ ha).1
  obtain ⟨es, ep, t, R⟩ := R0.full fun p hp => inv_isM I (hk p hp)
  rw [Vals.ref1 r]
  refine sorted_mix R (I.ok.hd hc) ho (by omega) fun s1 p out c M up g1 o1 hp hg hout pm pw => ?_
  have few : M.length < 64 := by rw [pm.length_eq]; exact R.few
  have lenz : (M.map fun q => V.ref q.1).length ≤ sizeLine := by rw [List.length_map, sizeLine_eq]; omega
  have hn : H p = none := I.hok.fresh hp
  have hv : Vals (M.map fun q => V.ref q.1) out.toList := by rw [hout]; exact refs_vals M
  have J : Inv X pins σ (upd H p (.lst (M.map fun q => V.ref q.1))) { s with heap := s1.heap, gens := s1.gens, drawn := s1.drawn, toks := s1.toks } :=
    I.call (ch := []) (Un.laid up hp hn) (I.hok.laid up hp ⟨lenz, out.toList, c, hv, hg⟩) (by rw [g1]; exact I.bare) (fun _ z => nomatch z)
  have e : s1 = { s with heap := s1.heap, gens := s1.gens, drawn := s1.drawn, toks := s1.toks } := by
    cases s1
    cases s
    cases o1
    rfl
  rw [e]
  exact ⟨.ref p, _, J, rfl, q M p pm ((pm.map (·.2)).nodup_iff.mpr R.nd) pw hn⟩
end
end Ev

/-! Ev5q: sorted(set(xs)) on data. -/
namespace Ev
open PySem PySem.Spec PyProof.Rows L2
def keysOf : List D → Option (List Key)
  | [] => some []
  | .int i :: r => (keysOf r).map (.inl i :: ·)
  | .str x :: r => (keysOf r).map (.inr x :: ·)
  | _ => none
theorem keysOf_eq : ∀ {ds : List D} {k : List Key}, keysOf ds = some k → ds = k.map encK
  | [], k, h => by cases h; rfl
  | d :: ds, k, h => by
    cases d <;> simp only [keysOf] at h <;> first
      | cases h
      | skip
    all_goals
      cases e : keysOf ds with
      | none => rw [e] at h; cases h
      | some l => rw [e] at h; cases h; rw [List.map_cons, ← keysOf_eq e]; rfl
theorem keysOf_map : ∀ k : List Key, keysOf (k.map encK) = some k
  | [] => rfl
  | .inl i :: k => by simp [encK, keysOf, keysOf_map k]
  | .inr x :: k => by simp [encK, keysOf, keysOf_map k]
def mixOf : List D → Option (List (List Key))
  | [] => some []
  | .tuple xs :: r => (keysOf xs).bind fun l => (mixOf r).map (l :: ·)
  | _ => none
theorem mixOf_eq : ∀ {ds : List D} {L : List (List Key)}, mixOf ds = some L → ds = L.map encM
  | [], L, h => by cases h; rfl
  | d :: ds, L, h => by
    cases d <;> simp only [mixOf] at h <;> first
      | cases h
      | skip
    rename_i xs
    cases e1 : keysOf xs with
    | none => rw [e1] at h; cases h
    | some l =>
      cases e2 : mixOf ds with
      | none => rw [e1, e2] at h; cases h
      | some L' => rw [e1, e2] at h; cases h; rw [List.map_cons, ← mixOf_eq e2, keysOf_eq e1]; rfl
theorem mixOf_map : ∀ L : List (List Key), mixOf (L.map encM) = some L
  | [] => rfl
  | l :: L => by simp [mixOf, encM, keysOf_map, mixOf_map L]
def srtSetD : D → W Exc (List D)
  | .list ds => match intsOf ds with
    | some ns => (W.ask (ns.length + 1 < scanBound ∧ (uniqI ns).length < 64)).bind fun _ => .ret ((uniqI ns).map .int)
    | none => match mixOf ds with
      | some L => (W.ask ((uniqM L).length < 64 ∧ SrtM L)).bind fun _ => .ret ((uniqM L).map encM)
      | none => .stuck
  | _ => .stuck
theorem rep_keys {K : PySem.W.Frag} {γ : Hp} : ∀ {vs : List V} {k : List Key}, RepAll K γ vs (k.map encK) → vs = k.map kV
  | [], [], _ => rfl
  | [], _ :: _, r => by cases r.1
  | _ :: _, [], r => by cases r.1
  | v :: vs, .inl i :: k, r => by rw [List.map_cons, rep_keys (k := k) r.tail, Rep.ofInt (i := i) r.head]; rfl
  | v :: vs, .inr x :: k, r => by rw [List.map_cons, rep_keys (k := k) r.tail, Rep.ofStr (i := x) r.head]; rfl
theorem reps_mix {K : PySem.W.Frag} {γ : Hp} : ∀ {vs : List V} {L : List (List Key)}, RepAll K γ vs (L.map encM) → ∃ ks : List (Addr × List Key), vs = ks.map (fun p => V.ref p.1) ∧ ks.map (·.2) = L ∧ ∀ p ∈ ks, TupAt K γ p.1 (p.2.map kV) ∧ Rep K γ (.ref p.1) (encM p.2)
  | [], [], _ => ⟨[], rfl, rfl, fun _ h => nomatch h⟩
  | [], _ :: _, r => by cases r.1
  | _ :: _, [], r => by cases r.1
  | v :: vs, l :: L, r => by
    obtain ⟨ks, e1, e2, e3⟩ := reps_mix r.tail
    have rh := r.head
    obtain ⟨a, ws, ev, ha, ra⟩ := rh.ofTup
    have ew : ws = l.map kV := rep_keys ra
    subst ew ev
    refine ⟨(a, l) :: ks, by rw [e1]; rfl, by rw [← e2]; rfl, fun p hp => ?_⟩
    rcases List.mem_cons.mp hp with e | e
    · rw [e]; exact ⟨ha, rh⟩
    · exact e3 p e
theorem mix_reps {K : PySem.W.Frag} {γ : Hp} : ∀ {ks : List (Addr × List Key)}, (∀ p ∈ ks, Rep K γ (.ref p.1) (encM p.2)) → RepAll K γ (ks.map fun p => V.ref p.1) ((ks.map (·.2)).map encM)
  | [], _ => .nil
  | p :: ks, h => .cons (h p List.mem_cons_self) (mix_reps fun q hq => h q (List.mem_cons_of_mem _ hq))
section
variable {X : Cx} {Wx : WX} {e : Expr} {pos pp ps2 pp2 : Pos} {ma : List Sl → W Exc D}
abbrev rSetA (K : PySem.W.Frag) (P : Program) (w : World) : List V → Hp → VK → Prop := fun xs H Q => rSetLI K w xs H Q ∨ rSetM K P w xs H Q
abbrev rSrtA (K : PySem.W.Frag) (P : Program) (w : World) : List V → Hp → VK → Prop := fun xs H Q => rSortedSet w xs H Q ∨ rSortM K P w xs H Q
theorem rd_srt {K : PySem.W.Frag} {P : Program} {w : World} {p : Option Addr} {γ H : Hp} {x : V} {d : D} {Q : VK} {XX : Exc → Prop} (st : Stt K p γ H) (cx : Ct K p γ H x d) (h : (srtSetD d).run (PostF K p γ H Q) XX) : rSetA K P w [x] H fun y H2 => rSrtA K P w [y] H2 Q := by
  cases d <;> first
    | exact False.elim h
    | skip
  rename_i ds
  obtain ⟨al, vs, rfl, ha, ra⟩ := ct_lst cx st
  have h' : (match intsOf ds with
    | some ns => (W.ask (ns.length + 1 < scanBound ∧ (uniqI ns).length < 64)).bind fun _ => .ret ((uniqI ns).map .int)
    | none => match mixOf ds with
      | some L => (W.ask ((uniqM L).length < 64 ∧ SrtM L)).bind fun _ => .ret ((uniqM L).map encM)
      | none => .stuck : W Exc (List D)).run (PostF K p γ H Q) XX := h
  cases q : intsOf ds with
  | some ns =>
    rw [q] at h'
    obtain ⟨⟨h1, h2⟩, h3⟩ := h'
    rw [intsOf_eq q] at ra
    have ev := rep_ints ra
    subst ev
    refine .inl ⟨al, ns, rfl, .of ha, h1, fun a c hn hc => .inl ⟨a, _, c, rfl, upd_same, by omega, fun ms pp hs hm hl hpn => ?_⟩⟩
    have em : ms = uniqI ns := sorted_unique linI (hs.imp fun {x y} z => by simpa [ltI] using z) (uniq_sorted linI ns) fun z => by rw [hm, uniq_mem linI]; simp
    subst em
    have e1 : Ext K p γ H γ (upd H a (SetO w a (fun j => decide (j ∈ ns)) c)) := .own st hn
    exact PostF.lst (PostF.ext h3 st e1) e1.st (ints_rep _) pp hpn
  | none =>
    rw [q] at h'
    cases q2 : mixOf ds with
    | none => rw [q2] at h'; exact h'.elim
    | some L =>
      rw [q2] at h'
      obtain ⟨⟨h1, ho⟩, h3⟩ := h'
      rw [mixOf_eq q2] at ra
      obtain ⟨ks, e1, e2, e3⟩ := reps_mix ra
      subst e1 e2
      have sq : ∀ {H' : Hp}, Same γ H' → ∀ p ∈ ks, SqT K H' p.1 (p.2.map kV) := fun s p hp => ((e3 p hp).1.mono s).sq
      have few : FewM ks := fun l hl hs => Nat.lt_of_le_of_lt (nodup_len hl fun x hx => (uniq_mem linM _ x).mpr (hs x hx)) h1
      refine .inr ⟨al, ks, rfl, .of ha, sq st.sub, few, fun a L0 hn hsub hall => .inr ?_⟩
      have x1 : Ext K p γ H γ (upd H a (SetMO P w a L0)) := .own st hn
      refine ⟨a, L0, rfl, upd_same, fun q hq => sq x1.st.sub q (hsub q hq), ho.sub fun k hk => ?_, fun M pp pm nd pw hpn => ?_⟩
      · obtain ⟨q, hq, rfl⟩ := List.mem_map.mp hk
        exact List.mem_map_of_mem (hsub q hq)
      have sub' : ∀ q ∈ M, q ∈ ks := fun q hq => hsub q (pm.mem_iff.mp hq)
      have em : M.map (·.2) = uniqM (ks.map (·.2)) := by
        refine sorted_unique linM ?_ (uniq_sorted linM _) fun z => ?_
        · rw [List.pairwise_map]
          have nd' : M.Pairwise fun q r => q.2 ≠ r.2 := List.pairwise_map.mp nd
          refine (pw.and nd').imp fun {q r} z => ?_
          cases c : ltM q.2 r.2 with
          | true => rfl
          | false => exact absurd (linM.tot _ _ c z.1) z.2
        · rw [uniq_mem linM]
          constructor
          · intro hz
            obtain ⟨q, hq, e⟩ := List.mem_map.mp hz
            exact List.mem_map.mpr ⟨q, sub' q hq, e⟩
          · intro hz
            obtain ⟨q, hq, e⟩ := List.mem_map.mp hz
            obtain ⟨q', hq', e'⟩ := List.mem_map.mp (hall q hq)
            exact List.mem_map.mpr ⟨q', pm.mem_iff.mpr hq', by rw [e', e]⟩
      have h4 : PostF K p γ H Q ((uniqM (ks.map (·.2))).map encM) := h3
      rw [← em] at h4
      exact PostF.lst (PostF.ext h4 st x1) x1.st (mix_reps fun q hq => (e3 q (sub' q hq)).2) pp hpn
theorem pF_srtSet (hc : X.calm = true) (hu : X.A.units + 64 < cLine) (hg : Gl X "sorted") (hm : X.mg "sorted" = none) (hg2 : Gl X "set") (hm2 : X.mg "set" = none) (hs : ∀ e' p, e ≠ .Starred e' p) (ha : PE X e (TEo X Wx ma)) :
    PE X (.Call (.Name "sorted" pp) [.Call (.Name "set" pp2) [e] [] ps2] [] pos) (TEf X Wx fun ρ => (ma ρ).bind srtSetD) := by
  refine pe_of (pe_callB (crOr (cr_sortedSet hc) (cr_sortM hc hu)) hg hm (by decide +kernel) (pa_cons (pe_callTy (crOr (cr_setLI hc) (cr_setM hc hu)) hg2 hm2 (by decide +kernel) (pa_cons ha pa_nil (star1 hs X.env)) (by decide +kernel) (by decide +kernel) (star1 hs X.env) (back0 _ _)) pa_nil rfl) (by decide +kernel) (by decide +kernel) rfl rfl) fun σ H Q ⟨p, H0, γ, ρ, st, er, hm⟩ => ?_
  refine ⟨p, H0, γ, ρ, st, er, (ma ρ).mono (fun d h1 γ1 H1 x e1 c1 => ?_) (fun _ q => q) hm⟩
  exact rd_srt e1.st c1 ((srtSetD d).mono (fun z q => q.ext st e1) (fun _ q => q) h1)
end
end Ev

/-! Ev5r: tuple(reversed(a tuple)). -/
namespace Ev
open PySem PySem.Spec PyProof.Rows L2 RT
theorem nolen_rt : typeLookup (.type "reversed") "__len__" = pure none := by rw [typeLookup_type, builtinLookup_eq_fast]; kernel_rfl
theorem slot_rt_hint : Slot "reversed" "__length_hint__" "reversed.__length_hint__" :=
  .of (owner := "reversed") (n := "__length_hint__") (by rw [typeLookup_type, builtinLookup_eq_fast]; kernel_rfl) (by decide +kernel) (by decide +kernel) (by decide +kernel) (by first | exact .inl (by decide +kernel) | exact .inr (by decide +kernel)) (by rw [isSubtype_type]; kernel_rfl)
theorem entry_rt_hint : entryFor table "reversed.__length_hint__" = some Builtin.«reversed.__length_hint__» := entryFor_of_tree (by kernel_rfl)
theorem args_rt_hint (a : Value) : argsOk "reversed.__length_hint__" ⟨[a], []⟩ := by
  unfold argsOk; rw [signature?_of (id := "reversed.__length_hint__") (n := ['_', '_', 't', 'n', 'i', 'h', '_', 'h', 't', 'g', 'n', 'e', 'l', '_', '_']) (o := ['d', 'e', 's', 'r', 'e', 'v', 'e', 'r']) (by kernel_rfl) owner_rt]; kernel_rfl
section
variable {P : Program} {w : World} {A : Around} {E : Value → Shared → Prop} {s : Shared}
theorem isTup_at {h h' : Heap} {t : Addr} {items : Array Value} (x : IsTup h t items) (e : ∀ o, h.get? t = some o → h'.get? t = some o) : IsTup h' t items := let ⟨o, ho, r⟩ := x; ⟨o, e _ ho, r⟩
theorem walks_rt (hh : A.handled = none) (I t : Addr) (hne : t ≠ I) (items : Array Value) (hz : items.size ≤ sizeLine) :
    Walks P w A I [I, t] [I] items.size (fun i v => items[items.size - 1 - i]? = some v) (fun i h => i ≤ items.size ∧ IsRt h I t ((items.size : Int) - 1 - (i : Int)) ∧ IsTup h t items) where
  sub := fun b hb => by simp at hb; simp [hb]
  frame := fun _ _ _ x hk => ⟨x.1, x.2.1.at fun o e => hk I (by simp) o e, isTup_at x.2.2 fun o e => hk t (by simp) o e⟩
  item := fun i s Q E hi x hQ => by
    obtain ⟨x1, x2, x3⟩ := x
    rw [show (items.size : Int) - 1 - (i : Int) = ((items.size - 1 - i : Nat) : Int) by omega] at x2
    have hx : items[items.size - 1 - i]? = some (items[items.size - 1 - i]'(by omega)) := Array.getElem?_eq_getElem (by omega)
    refine next_rt_item x2 x3 hx hz fun h1 r1 sb => ?_
    rw [show ((items.size - 1 - i : Nat) : Int) - 1 = (items.size : Int) - 1 - ((i + 1 : Nat) : Int) by omega] at r1
    exact hQ _ h1 _ hx ⟨hi, r1, isTup_at x3 fun o eo => (sb.2 t hne).trans eo⟩ fun b o hb eo => (sb.2 b fun z => hb (by simp [z])).trans eo
  done := fun s Q E x hQ => by
    obtain ⟨x1, x2, x3⟩ := x
    rw [show (items.size : Int) - 1 - (items.size : Int) = -1 by omega] at x2
    exact next_rt_end hh x2 fun h1 eb => hQ h1 s.toks fun b o hb eo => eb b o (fun z => hb (by simp [z])) eo
  self := fun _ _ _ _ x hQ => iter_rt x.2.1 hQ
theorem hint_of_rt {it t : Addr} {items : Array Value} {Q : Bool → Shared → Prop} (hit : IsRt s.heap it t ((items.size : Int) - 1)) (ht : IsTup s.heap t items) (hz : items.size ≤ sizeLine) (q : ∀ b tk, Q b { s with toks := tk }) : wpAny (model P w) A (Builtin.List.listLengthHint (.ref it)) Q E s := by
  obtain ⟨o, ho, hc, hd⟩ := id hit
  unfold Builtin.List.listLengthHint
  refine wpAny_bind (wpAny_specialOf hit.typeIs nolen_rt ?_)
  dsimp only
  show wpAny _ A (specialOf (Value.ref it) (Str.ofString "__length_hint__") >>= _) _ _ _
  refine wpAny_bind (wpAny_specialOf hit.typeIs slot_rt_hint.lookup ?_)
  generalize hid : ("reversed.__length_hint__" : String) = id0
  wp_delta
  rw [show splitId id0 = some ("reversed", "__length_hint__") from by subst hid; decide +kernel]
  subst hid
  refine wpAny_bind (wpAny_isInstance (b := true) hit.typeIs (by rw [isSubtype_type]; kernel_rfl) ?_)
  refine wp_if_neg (by decide) ?_
  try refine wpAny_bind (wpAny_pure ?_)
  refine wp_if_neg (by decide +kernel) ?_
  try refine wpAny_bind (wpAny_pure ?_)
  refine wpAny_bind (wpAny_rule ?_)
  refine wpAny_bind (wpAny_of_eq (slot_rt_hint.bind _) ?_)
  dsimp only
  refine wpAny_bind (wpAny_attempt (wpAny_call_entry slot_rt_hint hit.typeIs entry_rt_hint ?_ (args_rt_hint _)))
  unfold Builtin.«reversed.__length_hint__»
  refine wpAny_bind (wpAny_of_eq (a := Value.ref it) rfl ?_)
  try dsimp only
  refine wpAny_bind (wpAny_field ho hd (x := .ref t) rfl ?_)
  try dsimp only
  refine wp_if_neg (by simp) ?_
  try refine wpAny_bind (wpAny_pure ?_)
  have zz := hz
  rw [sizeLine_eq] at zz
  refine wpAny_bind (len_tuple ht (by omega) ?_)
  refine wpAny_bind (wpAny_of_eq (a := some ((items.size : Nat) : Int)) rfl ?_)
  try dsimp only
  refine wpAny_bind (wpAny_field (s := { s with toks := s.toks + 1 + 1 }) ho hd (x := rawInt ((items.size : Int) - 1)) rfl ?_)
  show wpAny _ _ (if ((items.size : Nat) : Int) < (items.size : Int) - 1 + 1 then _ else _) _ _ _
  refine wp_if_neg (by omega) ?_
  unfold retInt
  refine wpAny_bind (wpAny_mkInt ?_)
  refine wpAny_pure ⟨_, rfl, ?_⟩
  dsimp only
  refine wpAny_bind (wpAny_of_eq (a := some ((items.size : Int) - 1 + 1)) rfl ?_)
  try dsimp only
  have e1 : Builtin.List.listFitsIndex ((items.size : Int) - 1 + 1) = true := by
    unfold Builtin.List.listFitsIndex
    simp
    omega
  have e2 : Builtin.List.listTooLong ((items.size : Int) - 1 + 1).toNat = false := by
    unfold Builtin.List.listTooLong
    simp
    omega
  refine wp_if_neg (by rw [e1]; decide) ?_
  try refine wpAny_bind (wpAny_pure ?_)
  refine wp_if_neg (by omega) ?_
  try refine wpAny_bind (wpAny_pure ?_)
  refine wp_if_neg (by rw [e2]; decide) ?_
  try refine wpAny_bind (wpAny_pure ?_)
  exact wpAny_pure (q _ _)
theorem collect_rt {it t : Addr} {items : Array Value} {Q : List Value → Shared → Prop} (hh : A.handled = none) (hit : IsRt s.heap it t ((items.size : Int) - 1)) (ht : IsTup s.heap t items) (hne : t ≠ it) (hz : items.size ≤ sizeLine)
    (q : ∀ (h1 : Heap) (tk : Nat) (acc : Array Value), (∀ b o, b ≠ it → s.heap.get? b = some o → h1.get? b = some o) → ItemsOf (fun i v => items[items.size - 1 - i]? = some v) acc items.size → Q acc.toList { s with heap := h1, toks := tk }) :
    wpAny (model P w) A (collect (.ref it)) Q E s := by
  have W := (walks_rt (P := P) (w := w) (A := A.in1) hh it t hne items hz).toS
  obtain ⟨oi, hoi, _⟩ := id hit
  obtain ⟨ot, hot, _⟩ := id ht
  have lI := Heap.lt_size hoi
  have lT := Heap.lt_size hot
  have nS : s.heap.objs.size ∉ [it, t] := by
    simp only [List.mem_cons, List.not_mem_nil, or_false, not_or]
    exact ⟨Nat.ne_of_gt lI, Nat.ne_of_gt lT⟩
  unfold collect
  refine wpAny_bind (wpAny_runValue (codeAny_builtin F.entry_proto_collect ?_))
  rw [Around.under_plainId F.plain_proto_collect _]
  show wpAny _ A.in1 (newList [] >>= fun l => again (.builtin "list.__iadd__" ⟨[l, .ref it], []⟩)) _ _ s
  refine wpAny_bind (wpAny_newObj_type ?_)
  refine wpAny_pure ⟨plainId_quiet F.plain_list_iadd _, codeAny_builtin F.entry_list_iadd ?_⟩
  rw [Around.under_plainId F.plain_list_iadd _]
  have hS : (s.heap.push { cls := .type "list", data := .seq ([] : List Value).toArray }).get? s.heap.objs.size = some { cls := .type "list", data := .seq ([] : List Value).toArray } := Heap.get?_push_size _ rfl
  have up : ∀ b o, s.heap.get? b = some o → (s.heap.push { cls := .type "list", data := .seq ([] : List Value).toArray }).get? b = some o := fun b o e => Heap.get?_push_of_some _ e
  generalize hH : s.heap.push { cls := .type "list", data := .seq ([] : List Value).toArray } = H1 at hS up ⊢
  have hit1 : IsRt H1 it t ((items.size : Int) - 1) := hit.at fun o e => up _ _ e
  have ht1 : IsTup H1 t items := isTup_at ht fun o e => up _ _ e
  have hT : ({ s with heap := H1 } : Shared).TypeIs (.ref it) "reversed" := IsRt.typeIs (s := { s with heap := H1 }) hit1
  have same : Builtin.List.listSameRef (.ref s.heap.objs.size) (.ref it) = false := by simp [Builtin.List.listSameRef]; exact Nat.ne_of_gt lI
  show wpAny _ A.in1 (Builtin.List.listExtendWith (.ref s.heap.objs.size) (.ref it) (.ref s.heap.objs.size)) _ _ _
  unfold Builtin.List.listExtendWith
  refine wpAny_bind (wpAny_typeOf hT ?_)
  rw [if_neg (by rw [same]; decide)]
  refine wpAny_bind (iter_rt (s := { s with heap := H1 }) hit1 ?_)
  refine wpAny_bind (wpAny_holding (hint_of_rt (s := { s with heap := H1 }) hit1 ht1 hz fun b tk => ?_))
  have loop : ∀ (H2 : Heap) (c tk : Nat), H2.get? s.heap.objs.size = some { cls := .type "list", dict := none, data := .seq #[] c, slots := #[] } → (∀ b o, b ≠ s.heap.objs.size → H1.get? b = some o → H2.get? b = some o) →
      ∀ R : Result → Shared → Prop, (∀ (H3 : Heap) (tk3 : Nat) (acc : Array Value) (c3 : Nat), H3.get? s.heap.objs.size = some { cls := .type "list", dict := none, data := .seq acc c3, slots := #[] } → (∀ b o, b ≠ it → s.heap.get? b = some o → H3.get? b = some o) → ItemsOf (fun i v => items[items.size - 1 - i]? = some v) acc items.size →
        R (.ok (.ret (.ref s.heap.objs.size))) { s with heap := H3, toks := tk3 }) → codeAny (model P w) A (.builtin "list.extend.loop" ⟨[.ref s.heap.objs.size, .ref it, .ref s.heap.objs.size], []⟩) R { s with heap := H2, toks := tk } := by
    intro H2 c tk g2 k2 R hR
    have old : ∀ b o, s.heap.get? b = some o → H2.get? b = some o := fun b o e => k2 b o (Nat.ne_of_lt (Heap.lt_size e)) (up b o e)
    refine codeAny_extend_loopS W hz _ nS _ items.size 0 _ _ _ rfl (Nat.zero_le _) ⟨Nat.zero_le _, ?_, isTup_at ht fun o e => old _ _ e⟩ g2 (ItemsOf.nil _) fun s3 acc c3 m g3 hacc => ?_
    · rw [show (items.size : Int) - 1 - ((0 : Nat) : Int) = (items.size : Int) - 1 by omega]
      exact hit.at fun o e => old _ _ e
    rw [Moved.eq_with m]
    refine hR s3.heap s3.toks acc c3 g3 (fun b o hb e => m.heap b o (fun z => ?_) (old b o e)) hacc
    rcases List.mem_cons.mp z with z | z
    · exact absurd (Heap.lt_size e) (by rw [z]; exact Nat.lt_irrefl _)
    · exact hb (List.mem_singleton.mp z)
  have done : ∀ (H3 : Heap) (tk3 : Nat) (acc : Array Value) (c3 : Nat), H3.get? s.heap.objs.size = some { cls := .type "list", dict := none, data := .seq acc c3, slots := #[] } → (∀ b o, b ≠ it → s.heap.get? b = some o → H3.get? b = some o) → ItemsOf (fun i v => items[items.size - 1 - i]? = some v) acc items.size →
      wpAny (model P w) A (load s.heap.objs.size >>= fun o => match o.data with
        | .seq xs _ => pure xs.toList
        | _ => unsupported "internal:collect") Q E { s with heap := H3, toks := tk3 } := fun H3 tk3 acc c3 g3 k3 hacc =>
    wpAny_bind (wpAny_load g3 (wpAny_pure (q H3 tk3 acc k3 hacc)))
  cases b with
  | false =>
    refine wp_if_neg (by decide +kernel) ?_
    exact wpAny_pure ⟨plainId_quiet F.plain_extend_loop _, loop H1 0 tk hS (fun _ _ _ e => e) _ fun H3 tk3 acc c3 g3 k3 hacc => done H3 tk3 acc c3 g3 k3 hacc⟩
  | true =>
    refine wp_if_pos rfl ?_
    refine wpAny_bind (wpAny_rule ?_)
    unfold Builtin.List.listTouch
    have hS' : H1.get? s.heap.objs.size = some (seqObj "list" #[] 0) := hS
    have g1 := get?_update_seq hS' (fun xs => xs.push Value.none)
    have g2 := get?_update_seq g1 (fun xs => xs.pop)
    refine wpAny_bind (wpAny_bind (PyProof.Rows.listUpdate_at (s := { s with heap := H1, toks := tk }) hS' rfl ?_))
    refine PyProof.Rows.listUpdate_at (s := { s with heap := H1.update s.heap.objs.size (Obj.mapSeq fun xs => xs.push Value.none), toks := tk }) g1 rfl ?_
    exact wpAny_pure ⟨plainId_quiet F.plain_extend_loop _, loop _ _ tk g2 (fun b o hb e => by rw [Heap.get?_update_ne _ _ _ _ hb, Heap.get?_update_ne _ _ _ _ hb]; exact e) _ fun H3 tk3 acc c3 g3 k3 hacc => done H3 tk3 acc c3 g3 k3 hacc⟩
theorem tuple_new_rt {it t : Addr} {items : Array Value} {Q₁ : Value → Shared → Prop} (hh : A.handled = none) (hit : IsRt s.heap it t ((items.size : Int) - 1)) (ht : IsTup s.heap t items) (hne : t ≠ it) (hz : items.size ≤ sizeLine)
    (q : ∀ (h1 : Heap) (tk : Nat) (acc : Array Value), (∀ b o, b ≠ it → s.heap.get? b = some o → h1.get? b = some o) → ItemsOf (fun i v => items[items.size - 1 - i]? = some v) acc items.size → Q₁ (.ref h1.objs.size) { s with heap := h1.push { cls := .type "tuple", data := .seq acc }, toks := tk }) :
    codeAny (model P w) A (.call (.builtin "tuple.__new__") ⟨[.type "tuple", .ref it], []⟩) (wants Q₁ E) s := by
  refine codeAny_of_tree ?_
  show wpAny _ A.in1 (do checkBuiltinCall "tuple.__new__" ⟨[.type "tuple", .ref it], []⟩; again (.builtin "tuple.__new__" ⟨[.type "tuple", .ref it], []⟩)) _ _ s
  refine wpAny_bind (wpAny_of_eq (F.newCall_tuple_1 _) (wpAny_pure ⟨plainId_quiet F.plain_tuple_new _, codeAny_builtin F.entry_tuple_new ?_⟩))
  rw [Around.under_plainId F.plain_tuple_new _]
  have f1 := sub_tuple_self
  have f2 := init_tuple_lookup
  have f3 := madeHere_tuple
  have tI : s.TypeIs (.ref it) "reversed" := hit.typeIs
  have hh1 : A.in1.handled = none := hh
  wp_walk using wpAny_typeOf tI, collect_rt (A := A.in1) hh1 hit ht hne hz
  intro h1 tk acc up hacc
  show wpAny _ _ (Builtin.Tuple.tupleExact acc.toList.toArray >>= fun v => ret v) _ _ _
  unfold Builtin.Tuple.tupleExact
  refine wpAny_bind (wpAny_newObj_type ?_ (by show acc.toList.toArray.size ≤ sizeLine; simp only [Array.toArray_toList]; rw [hacc.1]; exact hz))
  refine wpAny_pure ?_
  rw [show acc.toList.toArray = acc by simp]
  exact q h1 tk acc up hacc
theorem tuple_rt {it t : Addr} {items : Array Value} {Q : Value → Shared → Prop} (hh : A.handled = none) (hit : IsRt s.heap it t ((items.size : Int) - 1)) (ht : IsTup s.heap t items) (hne : t ≠ it) (hz : items.size ≤ sizeLine)
    (q : ∀ (h1 : Heap) (tk : Nat) (acc : Array Value), (∀ b o, b ≠ it → s.heap.get? b = some o → h1.get? b = some o) → ItemsOf (fun i v => items[items.size - 1 - i]? = some v) acc items.size → Q (.ref h1.objs.size) { s with heap := h1.push { cls := .type "tuple", data := .seq acc }, toks := tk }) :
    wpAny (model P w) A (call (.type "tuple") [.ref it]) Q E s := by
  refine callType_codes (Q₁ := fun ob s1 => s1.TypeIs ob "tuple" ∧ Q ob s1) F.called_tuple (F.typeCall_tuple_1 _) F.entry_object_init
    (tuple_new_rt (A := A.in1) hh hit ht hne hz fun h1 tk acc up hacc => ⟨⟨_, Heap.get?_push_size _ rfl, rfl⟩, q h1 tk acc up hacc⟩) fun ob s1 hs => ?_
  exact ⟨hs.1, F.args_object_init_2 ob _, object_init_meets F.called_tuple.init.lookup F.called_tuple.made (by decide) P w A.in1 _ s1 ⟨hs.1, rfl, hs.2⟩⟩
end
/-- tuple(reversed(x)), x a tuple: a new tuple -/
def tTupRevT (K : PySem.W.Frag) (te : TE) : TE := fun σ H Q => te σ H fun v H1 => ∃ (a : Addr) (xs : List V), v = .ref a ∧ SqT K H1 a xs ∧ ∀ (l : Addr) (o : Obj), o.dict = none → H1 l = none → Q (.ref l) (upd H1 l (.frz o (.tup xs.reverse)))
section
variable {X : Cx} {Wx : WX} {e : Expr} {pos pp pos2 pp2 : Pos} {ma : List Sl → W Exc D} {te : TE}
theorem pe_tupRevT (hc : X.calm = true) (hg : Gl X "tuple") (hm : X.mg "tuple" = none) (hg2 : Gl X "reversed") (hm2 : X.mg "reversed" = none) (he : PE X e te)
    (hs : starEach [e] X.env = (false, eval e X.env) :: starEach [] X.env) (hs2 : starEach [.Call (.Name "reversed" pp2) [e] [] pos2] X.env = (false, eval (.Call (.Name "reversed" pp2) [e] [] pos2) X.env) :: starEach [] X.env := by rfl) :
    PE X (.Call (.Name "tuple" pp) [.Call (.Name "reversed" pp2) [e] [] pos2] [] pos) (tTupRevT X.K te) := by
  refine ⟨fun pins s σ H Q I h => ?_⟩
  refine Call_ (ld_blt I hg hm boot_tuple (PyProof.Rows.callWith_type1 (args_cons (Call_ (ld_blt I hg2 hm2 PyProof.Rows.boot_reversed (PyProof.Rows.callWith_type1 (args_cons (thn (he.run pins s σ H _ I h) fun u s1 ⟨v, H1, I1, r1, q1⟩ => args_nil ?_) hs) hs rfl))) hs2) hs2 rfl))
  obtain ⟨a, xs, ev, hq, q⟩ := q1
  subst ev
  obtain rfl : u = Value.ref a := r1
  obtain ⟨its, rv, pt, hz⟩ := I1.tuple hq
  have zz := hz
  rw [sizeLine_eq] at zz
  have hl := rv.length
  refine call_reversed_tup pt (fun A E Q k => len_tuple pt (by simp only [List.size_toArray] <;> omega) k) (args_nil ?_)
  have k0 : ∀ b o, s1.heap.get? b = some o → (s1.heap.push (rtObj a ((its.toArray.size : Int) - 1))).get? b = some o := fun b o e => Heap.get?_push_of_some _ e
  have I2 : Inv X pins σ H1 { s1 with heap := s1.heap.push (rtObj a ((its.toArray.size : Int) - 1)), toks := s1.toks + 1 + 1 } := I1.kept (t' := s1.toks + 1 + 1) k0
  obtain ⟨f0, f1, f2, f3, f4, f5⟩ := I1.fpOk (H' := H1) (b := s1.heap.objs.size) (Nat.le_refl _) (I1.hok.fresh (Nat.le_refl _))
  obtain ⟨ot, hot, _⟩ := id pt
  have hne : a ≠ s1.heap.objs.size := Nat.ne_of_lt (Heap.lt_size hot)
  have hn : its.toArray.size ≤ sizeLine := by rw [List.size_toArray, ← rv.length]; exact hz
  refine tuple_rt (s := { s1 with heap := s1.heap.push (rtObj a ((its.toArray.size : Int) - 1)), toks := s1.toks + 1 + 1 }) (I1.ok.hd hc) ⟨_, Heap.get?_push_size _ rfl, rfl, rfl⟩ (isTup_at pt fun o e => k0 _ _ e) hne hn fun h1 tk acc up hi => ?_
  have I3 : Inv X pins σ H1 { s1 with heap := h1, toks := tk } := I2.turned (t' := tk) (fun b o hb e => up b o hb e) f0 f1 f3 f4 f5
  have L := laidT I3 (vals_rev rv hi) (by rw [List.length_reverse]; exact hz)
  rw [Array.toArray_toList] at L
  exact ⟨.ref h1.objs.size, _, L, rfl, q _ _ rfl (I3.hok.fresh (Nat.le_refl _))⟩
theorem repAll_snoc {K : PySem.W.Frag} {γ : Hp} : ∀ {vs : List V} {ds : List D} {v : V} {d : D}, RepAll K γ vs ds → Rep K γ v d → RepAll K γ (vs ++ [v]) (ds ++ [d])
  | [], [], _, _, _, h => .cons h .nil
  | [], _ :: _, _, _, r, _ => by cases r.1
  | _ :: _, [], _, _, r, _ => by cases r.1
  | _ :: _, _ :: _, _, _, r, h => .cons r.head (repAll_snoc r.tail h)
theorem repAll_rev {K : PySem.W.Frag} {γ : Hp} : ∀ {vs : List V} {ds : List D}, RepAll K γ vs ds → RepAll K γ vs.reverse ds.reverse
  | [], [], _ => .nil
  | [], _ :: _, r => by cases r.1
  | _ :: _, [], r => by cases r.1
  | v :: vs, d :: ds, r => by
    rw [List.reverse_cons, List.reverse_cons]
    exact repAll_snoc (repAll_rev r.tail) r.head
def rvtD : D → W Exc D
  | .tuple xs => .ret (.tuple xs.reverse)
  | _ => .stuck
theorem pE_rvt (hc : X.calm = true) (hg : Gl X "tuple") (hm : X.mg "tuple" = none) (hg2 : Gl X "reversed") (hm2 : X.mg "reversed" = none) (hs : ∀ e' p, e ≠ .Starred e' p) (ha : PE X e (TEo X Wx ma)) :
    PE X (.Call (.Name "tuple" pp) [.Call (.Name "reversed" pp2) [e] [] pos2] [] pos) (TEe X Wx fun ρ => (ma ρ).bind rvtD) := by
  refine pe_of (pe_tupRevT hc hg hm hg2 hm2 ha (star1 hs X.env)) fun σ H Q ⟨p, H0, γ, ρ, st, er, hq⟩ => ?_
  refine ⟨p, H0, γ, ρ, st, er, (ma ρ).mono (fun d h1 γ1 H1 x e1 c1 => ?_) (fun _ q => q) hq⟩
  cases d <;> first
    | exact False.elim h1
    | skip
  obtain ⟨al, vs, rfl, hta, ra⟩ := ct_tup c1
  exact ⟨al, vs, rfl, (hta.mono e1.st.sub).sq, fun l o od n => Post.tup (Post.ext h1 st e1) e1.st (repAll_rev ra) l o od n⟩
end
end Ev

/-! Ev8: statements. -/
namespace Ev
open PySem PySem.Spec PyProof.Rows L2

inductive Out where
  | nx (ρ : List Sl) | rt (d : D) | bk (ρ : List Sl) | ct (ρ : List Sl)
abbrev XS := Exc × List Sl
abbrev S := List Sl → W XS Out
def PostS (K : PySem.W.Frag) (p : Option Addr) (γ0 H0 γ : Hp) (E : Ends) : Out → Prop
  | .nx ρ' => ∀ γ' H' σ', Same γ γ' → Ext K p γ0 H0 γ' H' → EnvR K p H0 γ' H' σ' ρ' → E.nx σ' H'
  | .bk ρ' => ∀ γ' H' σ', Same γ γ' → Ext K p γ0 H0 γ' H' → EnvR K p H0 γ' H' σ' ρ' → E.bk σ' H'
  | .ct ρ' => ∀ γ' H' σ', Same γ γ' → Ext K p γ0 H0 γ' H' → EnvR K p H0 γ' H' σ' ρ' → E.ct σ' H'
  | .rt d => ∀ γ' H' v, Same γ γ' → Ext K p γ0 H0 γ' H' → Rep K γ' v d → E.rt v H'
def ExS (K : PySem.W.Frag) (mg : Str → Option Value) (Wx : WX) (p : Option Addr) (γ0 H0 γ : Hp) : XS → Prop := fun x => ∀ γ' H' σ' c dd, Same γ γ' → Ext K p γ0 H0 γ' H' → EnvR K p H0 γ' H' σ' x.2 → ExcR mg x.1 c dd H' → Wx c dd σ' H'
def RdS (K : PySem.W.Frag) (mg : Str → Option Value) (Wx : WX) (p : Option Addr) (γ0 H0 : Hp) (m : S) : TS := fun E σ H => ∃ γ ρ, Ext K p γ0 H0 γ H ∧ EnvR K p H0 γ H σ ρ ∧ (m ρ).run (PostS K p γ0 H0 γ E) (ExS K mg Wx p γ0 H0 γ)
abbrev TSs (X : Cx) (Wx : WX) (p : Option Addr) (γ0 H0 : Hp) (m : S) : TS := RdS X.K X.mg Wx p γ0 H0 m
def lf {α : Type} (ρ : List Sl) (m : W Exc α) : W XS α := m.mapErr fun x => (x, ρ)
@[simp] theorem lf_run {α : Type} {ρ : List Sl} {m : W Exc α} {Q : α → Prop} {XX : XS → Prop} : (lf ρ m).run Q XX = m.run Q (fun x => XX (x, ρ)) := rfl

section
variable {X : Cx} {Wx : WX} {p : Option Addr} {γ0 H0 : Hp} {e a b c : Expr} {st : Stmt} {sts rest : List Stmt} {pos : Pos} {me ma mb : List Sl → W Exc D} {mt : List Sl → W Exc Bool} {m m1 m2' : S}
theorem PostS.mono {K : PySem.W.Frag} {γ γ1 : Hp} {E : Ends} {o : Out} (h : PostS K p γ0 H0 γ E o) (s : Same γ γ1) : PostS K p γ0 H0 γ1 E o := by
  cases o with
  | nx ρ => exact fun γ' H' σ' s' => h γ' H' σ' (s.trans s')
  | bk ρ => exact fun γ' H' σ' s' => h γ' H' σ' (s.trans s')
  | ct ρ => exact fun γ' H' σ' s' => h γ' H' σ' (s.trans s')
  | rt d => exact fun γ' H' v s' => h γ' H' v (s.trans s')
theorem ExS.toE {K : PySem.W.Frag} {mg : Str → Option Value} {γ H : Hp} {σ : St} {ρ : List Sl} {x : Exc} (st0 : Stt K p γ0 H0) (e0 : Ext K p γ0 H0 γ H) (er : EnvR K p H0 γ H σ ρ) {γb : Hp} (sb : Same γb γ) (h : ExS K mg Wx p γ0 H0 γb (x, ρ)) : ExW K mg Wx p γ H σ x :=
  fun γ' H' cc dd e' r => h γ' H' σ cc dd (sb.trans e'.gg) (Ext.trans st0 e0 e') (er.ext e') r
theorem ExS.mono {K : PySem.W.Frag} {mg : Str → Option Value} {γ γ1 : Hp} {x : XS} (h : ExS K mg Wx p γ0 H0 γ x) (s : Same γ γ1) : ExS K mg Wx p γ0 H0 γ1 x := fun γ' H' σ' cc dd s' => h γ' H' σ' cc dd (s.trans s')

/-! ### blocks -/
theorem pS_nil : PSs X [] (TSs X Wx p γ0 H0 fun ρ => .ret (.nx ρ)) := pss_of pss_nil fun E σ H ⟨γ, ρ, e0, er, hm⟩ => hm γ H σ (.refl _) e0 er
def seqS (m1 m2 : S) : S := fun ρ => (m1 ρ).bind fun o => match o with
  | .nx ρ' => m2 ρ'
  | .rt d => .ret (.rt d)
  | .bk ρ' => .ret (.bk ρ')
  | .ct ρ' => .ret (.ct ρ')
theorem pS_cons (h1 : PS X st (TSs X Wx p γ0 H0 m1)) (h2 : PSs X rest (TSs X Wx p γ0 H0 m2')) : PSs X (st :: rest) (TSs X Wx p γ0 H0 (seqS m1 m2')) := by
  refine pss_of (pss_cons h1 h2) fun E σ H ⟨γ, ρ, e0, er, hm⟩ => ⟨γ, ρ, e0, er, (m1 ρ).mono (fun o h => ?_) (fun _ q => q) hm⟩
  cases o with
  | nx ρ' => exact fun γ' H' σ' s' e' er' => ⟨γ', ρ', e', er', (m2' ρ').mono (fun o q => q.mono s') (fun _ q => q.mono s') h⟩
  | rt d => exact h
  | bk ρ' => exact h
  | ct ρ' => exact h
theorem pS_pass : PS X (.Pass pos) (TSs X Wx p γ0 H0 fun ρ => .ret (.nx ρ)) := ps_of ps_pass fun E σ H ⟨γ, ρ, e0, er, hm⟩ => hm γ H σ (.refl _) e0 er
theorem pS_brk : PS X (.Break pos) (TSs X Wx p γ0 H0 fun ρ => .ret (.bk ρ)) := ps_of ps_break fun E σ H ⟨γ, ρ, e0, er, hm⟩ => hm γ H σ (.refl _) e0 er
theorem pS_cnt : PS X (.Continue pos) (TSs X Wx p γ0 H0 fun ρ => .ret (.ct ρ)) := ps_of ps_continue fun E σ H ⟨γ, ρ, e0, er, hm⟩ => hm γ H σ (.refl _) e0 er

/-! ### values -/
section
variable (st0 : Stt X.K p γ0 H0)
include st0
theorem pS_ret (he : PE X e (TEe X Wx me)) : PS X (.Return (some e) pos) (TSs X Wx p γ0 H0 fun ρ => (lf ρ (me ρ)).bind fun d => .ret (.rt d)) :=
  ps_of (ps_ret he) fun E σ H ⟨γ, ρ, e0, er, hm⟩ => ⟨p, H0, γ, ρ, e0.st, er, (me ρ).mono (fun d h γ' H' v e' r => h γ' H' v e'.gg (Ext.trans st0 e0 e') r) (fun x q => q.toE st0 e0 er (.refl _)) hm⟩
theorem pS_retN : PS X (.Return none pos) (TSs X Wx p γ0 H0 fun ρ => .ret (.rt .none)) := ps_of ps_retN fun E σ H ⟨γ, ρ, e0, er, hm⟩ => hm γ H .non (.refl _) e0 .non
theorem pS_drop (he : PE X e (TEe X Wx me)) (hs : swapsWith e none pos.line X.env = pure false) : PS X (.Expr e pos) (TSs X Wx p γ0 H0 fun ρ => (lf ρ (me ρ)).bind fun _ => .ret (.nx ρ)) :=
  ps_of (ps_expr he hs) fun E σ H ⟨γ, ρ, e0, er, hm⟩ => ⟨p, H0, γ, ρ, e0.st, er, (me ρ).mono (fun d h γ' H' v e' r => h γ' H' σ e'.gg (Ext.trans st0 e0 e') (er.ext e')) (fun x q => q.toE st0 e0 er (.refl _)) hm⟩
theorem pS_set {i : Nat} {x : Str} {pos' : Pos} (hN : X.N.Nodup) (hi : X.N[i]? = some x) (hx : Loc X.env.scope x) (hf : X.fn x = true ∨ X.env.scope.names.lookup x = some .local) (he : PE X e (TEe X Wx me)) (hs : swapsWith e (some (.Name x pos')) pos.line X.env = pure false) :
    PS X (.Assign [.Name x pos'] e pos) (TSs X Wx p γ0 H0 fun ρ => (lf ρ (me ρ)).bind fun d => .ret (.nx (ρ.set i (.val d)))) :=
  ps_of (ps_set hN hi hx he hs hf) fun E σ H ⟨γ, ρ, e0, er, hm⟩ => ⟨p, H0, γ, ρ, e0.st, er, (me ρ).mono (fun d h γ' H' v e' r => h γ' H' _ e'.gg (Ext.trans st0 e0 e') ((er.ext e').setVal r)) (fun x q => q.toE st0 e0 er (.refl _)) hm⟩
/-- name = a fresh list: it is ours -/
theorem own_set {mf : List Sl → W Exc (List D)} {i : Nat} {E : Ends} {σ : St} {H γ : Hp} {ρ : List Sl} (e0 : Ext X.K p γ0 H0 γ H) (er : EnvR X.K p H0 γ H σ ρ) {xs : List D} (h : PostS X.K p γ0 H0 γ E (.nx (ρ.set i (.own xs)))) :
    PostF X.K p γ H (fun v H1 => gName i v σ H1 E.nx) xs := by
  intro γ' H' al vs e' n n' hq r
  have hp : p ≠ some al := fun hp => by
    obtain ⟨_, _, _, _, _, _, _, f1, _⟩ := e0.st.pool al hp
    rw [n] at f1; cases f1
  refine h γ' H' _ e'.gg (Ext.trans st0 e0 e') ((er.ext e').set (s := .own xs) ⟨al, vs, rfl, hq, n', hp, e0.fre st0 n, r⟩ fun xs' _ j ys hj hy => ?_)
  obtain ⟨ov, f1, b, ws, f2, f3, _⟩ := er.sl j _ hy
  rw [f1, f2]
  intro z
  cases z
  rw [n] at f3; cases f3
theorem pS_setF {mf : List Sl → W Exc (List D)} {i : Nat} {x : Str} {pos' : Pos} (hN : X.N.Nodup) (hi : X.N[i]? = some x) (hx : Loc X.env.scope x) (hf : X.fn x = true ∨ X.env.scope.names.lookup x = some .local) (he : PE X e (TEf X Wx mf)) (hs : swapsWith e (some (.Name x pos')) pos.line X.env = pure false) :
    PS X (.Assign [.Name x pos'] e pos) (TSs X Wx p γ0 H0 fun ρ => (lf ρ (mf ρ)).bind fun xs => .ret (.nx (ρ.set i (.own xs)))) :=
  ps_of (ps_set hN hi hx he hs hf) fun E σ H ⟨γ, ρ, e0, er, hm⟩ => ⟨p, H0, γ, ρ, e0.st, er, (mf ρ).mono (fun xs h => own_set (mf := mf) st0 e0 er h) (fun x q => q.toE st0 e0 er (.refl _)) hm⟩
/-- a target, a value -/
theorem pS_asg {tg : Expr} {t : T} (hg : PG X tg (gT X.K t)) (he : PE X e (TEe X Wx me)) (hs : swapsWithSole [tg] e pos.line X.env = pure false) (hw : swappedStores [tg] e X.env = pure none) (h1 : (assignEach [tg] X.env).map (·.2) = [assign tg X.env]) :
    PS X (.Assign [tg] e pos) (TSs X Wx p γ0 H0 fun ρ => (lf ρ (me ρ)).bind fun d => (lf ρ (asgT t d ρ)).bind fun ρ' => .ret (.nx ρ')) :=
  ps_of (ps_asg he hg hs hw h1) fun E σ H ⟨γ, ρ, e0, er, hm⟩ => ⟨p, H0, γ, ρ, e0.st, er, (me ρ).mono (fun d h γ' H' v e' r =>
    gT_ok e'.st (.inl r) (fun _ _ => r) (er.ext e') h fun ρ' σ' h' er' _ _ => h' γ' H' σ' e'.gg (Ext.trans st0 e0 e') er') (fun x q => q.toE st0 e0 er (.refl _)) hm⟩

/-! ### if, for, while -/
theorem pS_if {aa bb : List Stmt} (hc : PT X c (TTt X Wx mt)) (ha : PSs X aa (TSs X Wx p γ0 H0 m1)) (hb : PSs X bb (TSs X Wx p γ0 H0 m2')) : PS X (.If c aa bb pos) (TSs X Wx p γ0 H0 fun ρ => (lf ρ (mt ρ)).bind fun k => if k then m1 ρ else m2' ρ) :=
  ps_of (ps_if hc ha hb) fun E σ H ⟨γ, ρ, e0, er, hm⟩ => ⟨p, H0, γ, ρ, e0.st, er, (mt ρ).mono (fun k h γ' H' e' => by
    cases k with
    | true => exact ⟨γ', ρ, Ext.trans st0 e0 e', er.ext e', (m1 ρ).mono (fun o q => q.mono e'.gg) (fun _ q => q.mono e'.gg) h⟩
    | false => exact ⟨γ', ρ, Ext.trans st0 e0 e', er.ext e', (m2' ρ).mono (fun o q => q.mono e'.gg) (fun _ q => q.mono e'.gg) h⟩) (fun x q => q.toE st0 e0 er (.refl _)) hm⟩
end
/-- what a turn leads to -/
def loopO (k : S) : Out → W XS Out
  | .nx ρ => k ρ
  | .ct ρ => k ρ
  | .bk ρ => .ret (.nx ρ)
  | .rt d => .ret (.rt d)
def forD (t : T) (body : S) : List D → S
  | [], ρ => .ret (.nx ρ)
  | x :: xs, ρ => (lf ρ (asgT t x ρ)).bind fun ρ1 => (body ρ1).bind (loopO (forD t body xs))
def forS (t : T) (mi : List Sl → W Exc (List D)) (body : S) : S := fun ρ => (lf ρ (mi ρ)).bind fun xs => forD t body xs ρ
theorem pS_for {tg iter : Expr} {body : List Stmt} {t : T} {mi : List Sl → W Exc (List D)} {pl : Bool} (st0 : Stt X.K p γ0 H0) (hp : PassesOwn (model X.prog X.w) X.A X.env X.xe) (hc : X.calm = true) (hpl : ∀ i, t = .nm i → pl = true) (hi : PI X tg iter (TIi X Wx mi pl)) (hg : PG X tg (gT X.K t))
    (hb : PSs X body (TSs X Wx p γ0 H0 m)) (hs : ∀ x, foldedSetIterable iter X.env x = pure x) : PS X (.For tg iter body [] pos) (TSs X Wx p γ0 H0 (forS t mi m)) := by
  refine ps_of (ps_for hp hc hi hg hb hs) fun E σ H ⟨γ, ρ, e0, er, hm⟩ => ⟨p, H0, γ, ρ, e0.st, er, (mi ρ).mono (fun xs h1 γ1 H1 J e1 it => ?_) (fun x q => q.toE st0 e0 er (.refl _)) hm⟩
  refine ⟨fun i n σ' H' => n = xs.length - i ∧ i ≤ xs.length ∧ ∃ γ' ρ', Same γ1 γ' ∧ Ext X.K p γ0 H0 γ' H' ∧ EnvR X.K p H0 γ' H' σ' ρ' ∧ (forD t m (xs.drop i) ρ').run (PostS X.K p γ0 H0 γ E) (ExS X.K X.mg Wx p γ0 H0 γ),
    ⟨xs.length, by simp, Nat.zero_le _, γ1, ρ, .refl _, Ext.trans st0 e0 e1, er.ext e1, h1⟩, ?_⟩
  rintro i n σ' H' ⟨rfl, hi, γ', ρ', s1, e2, er2, hr⟩
  by_cases hlt : i < xs.length
  · have hdrop : xs.drop i = xs[i] :: xs.drop (i + 1) := List.drop_eq_getElem_cons hlt
    rw [hdrop] at hr
    refine .inr ⟨it.go γ' H' i s1 e2.st hlt, fun σ'' H'' => ∃ γ'' ρ'', Same γ1 γ'' ∧ Ext X.K p γ0 H0 γ'' H'' ∧ EnvR X.K p H0 γ'' H'' σ'' ρ'' ∧ (forD t m (xs.drop (i + 1)) ρ'').run (PostS X.K p γ0 H0 γ E) (ExS X.K X.mg Wx p γ0 H0 γ),
      fun σ'' H'' q => ⟨xs.length - (i + 1), by omega, rfl, hlt, q⟩, fun x H'' hy => ?_⟩
    obtain ⟨d, hd, r, rp, e3⟩ := it.yld γ' H' i x H'' s1 e2.st hlt hy
    have hd' : xs[i] = d := by rw [List.getElem?_eq_getElem hlt] at hd; exact Option.some.inj hd
    rw [hd'] at hr
    have e03 := Ext.trans st0 e2 e3
    refine gT_ok e3.st r (fun i hi => rp (hpl i hi)) (er2.ext e3) hr fun ρ1 σ1 h2 er3 _ _ => ?_
    refine ⟨γ', ρ1, e03, er3, (m ρ1).mono (fun o h3 => ?_) (fun _ q => q.mono (e1.gg.trans s1)) h2⟩
    cases o with
    | nx ρ3 => exact fun γ4 H4 σ4 s4 e4 er4 => ⟨γ4, ρ3, s1.trans s4, e4, er4, h3⟩
    | ct ρ3 => exact fun γ4 H4 σ4 s4 e4 er4 => ⟨γ4, ρ3, s1.trans s4, e4, er4, h3⟩
    | bk ρ3 => exact fun γ4 H4 σ4 s4 e4 er4 => h3 γ4 H4 σ4 (e1.gg.trans (s1.trans s4)) e4 er4
    | rt d3 => exact fun γ4 H4 v4 s4 e4 r4 => h3 γ4 H4 v4 (e1.gg.trans (s1.trans s4)) e4 r4
  · have ei : i = xs.length := by omega
    subst ei
    rw [List.drop_length] at hr
    exact .inl ⟨it.stop γ' H' _ s1 e2.st (Nat.le_refl _), hr γ' H' σ' (e1.gg.trans s1) e2 er2⟩
/-- some number of turns is enough -/
def someW {ε α : Type} (f : Nat → W ε α) : W ε α := ⟨fun Q X => ∃ n, (f n).run Q X, fun h hx ⟨n, q⟩ => ⟨n, (f n).mono h hx q⟩⟩
@[simp] theorem someW_run {ε α : Type} {f : Nat → W ε α} {Q : α → Prop} {XX : ε → Prop} : (someW f).run Q XX = ∃ n, (f n).run Q XX := rfl
def whileN (mt : List Sl → W Exc Bool) (body : S) : Nat → S
  | 0, _ => .stuck
  | n + 1, ρ => (lf ρ (mt ρ)).bind fun k => if k then (body ρ).bind (loopO (whileN mt body n)) else .ret (.nx ρ)
def whileS (mt : List Sl → W Exc Bool) (body : S) : S := fun ρ => someW fun n => whileN mt body n ρ
theorem pS_while {body : List Stmt} (st0 : Stt X.K p γ0 H0) (hp : PassesOwn (model X.prog X.w) X.A X.env X.xe) (hc : PT X c (TTt X Wx mt)) (hb : PSs X body (TSs X Wx p γ0 H0 m)) : PS X (.While c body [] pos) (TSs X Wx p γ0 H0 (whileS mt m)) := by
  refine ps_of (ps_while hp hc hb) fun E σ H ⟨γ, ρ, e0, er, n0, hm⟩ => ?_
  refine ⟨fun n σ' H' => ∃ γ' ρ', Same γ γ' ∧ Ext X.K p γ0 H0 γ' H' ∧ EnvR X.K p H0 γ' H' σ' ρ' ∧ (whileN mt m n ρ').run (PostS X.K p γ0 H0 γ E) (ExS X.K X.mg Wx p γ0 H0 γ), ⟨n0, γ, ρ, .refl _, e0, er, hm⟩, ?_⟩
  rintro n σ' H' ⟨γ', ρ', s1, e2, er2, hr⟩
  cases n with
  | zero => exact hr.elim
  | succ n =>
    refine ⟨p, H0, γ', ρ', e2.st, er2, (mt ρ').mono (fun k h3 γ3 H3 e3 => ?_) (fun x q => q.toE st0 e2 er2 s1) hr⟩
    have e03 := Ext.trans st0 e2 e3
    cases k with
    | false => exact h3 γ3 H3 σ' (s1.trans e3.gg) e03 (er2.ext e3)
    | true =>
      refine ⟨fun σ'' H'' => ∃ γ'' ρ'', Same γ γ'' ∧ Ext X.K p γ0 H0 γ'' H'' ∧ EnvR X.K p H0 γ'' H'' σ'' ρ'' ∧ (whileN mt m n ρ'').run (PostS X.K p γ0 H0 γ E) (ExS X.K X.mg Wx p γ0 H0 γ), fun σ'' H'' q => ⟨n, Nat.lt_succ_self _, q⟩, γ3, ρ', e03, er2.ext e3, (m ρ').mono (fun o h4 => ?_) (fun _ q => q.mono (s1.trans e3.gg)) h3⟩
      cases o with
      | nx ρ4 => exact fun γ4 H4 σ4 s4 e4 er4 => ⟨γ4, ρ4, s1.trans (e3.gg.trans s4), e4, er4, h4⟩
      | ct ρ4 => exact fun γ4 H4 σ4 s4 e4 er4 => ⟨γ4, ρ4, s1.trans (e3.gg.trans s4), e4, er4, h4⟩
      | bk ρ4 => exact fun γ4 H4 σ4 s4 e4 er4 => h4 γ4 H4 σ4 (s1.trans (e3.gg.trans s4)) e4 er4
      | rt d4 => exact fun γ4 H4 v4 s4 e4 r4 => h4 γ4 H4 v4 (s1.trans (e3.gg.trans s4)) e4 r4

/-! ### comprehensions as statements' values; ghosts -/
/-- the own list of slot i joins what stays -/
def frzR (ρ : List Sl) (i : Nat) : List Sl := match ρ[i]? with
  | some (.own xs) => ρ.set i (.val (.list xs))
  | some (.dic kvs) => match txK kvs with
    | some ks => ρ.set i (.val (.dict (dkv ks (kvs.map (·.2)))))
    | none => ρ
  | _ => ρ
theorem pS_frz {i : Nat} (st0 : Stt X.K p γ0 H0) (h : PS X st (TSs X Wx p γ0 H0 m)) : PS X st (TSs X Wx p γ0 H0 fun ρ => m (frzR ρ i)) := by
  refine ps_of (ps_lockZ h) fun E σ H ⟨γ, ρ, e0, er, hm⟩ => ?_
  have hm' : (m (frzR ρ i)).run (PostS X.K p γ0 H0 γ E) (ExS X.K X.mg Wx p γ0 H0 γ) := hm
  unfold frzR at hm'
  split at hm'
  · rename_i xs e1
    obtain ⟨al, vs, f1, f2, f3, f4, f5⟩ := er.freeze e0.st e1
    refine .inl ⟨upd γ al (.lst vs), _, ⟨e0.gg.trans f4, fun b o q => ?_, e0.same, f3⟩, f5, (m _).mono (fun o q => q.mono f4) (fun _ q => q.mono f4) hm'⟩
    by_cases hb : b = al
    · subst hb; exact .inr f2
    · rw [upd_ne hb] at q; exact e0.new b o q
  · rename_i xs e1
    split at hm'
    · rename_i ks e2
      obtain ⟨ov, g0, al, vl, g1, g2, _⟩ := er.sl i _ e1
      subst g1
      refine .inr ⟨al, _, g2, trivial, fun od => ?_⟩
      obtain ⟨f1, f2, f3, f4, f5⟩ := er.freezeD e0.st e1 e2 g2 g0 od
      have em : Ext X.K p γ0 H0 γ (upd H al (.frz od (.dK vl))) := Ext.mut st0 e0 f2 f1
      refine ⟨upd γ al (.frz od (.dK vl)), _, ⟨e0.gg.trans f4, fun b o q => ?_, em.same, f3⟩, f5, (m _).mono (fun o q => q.mono f4) (fun _ q => q.mono f4) hm'⟩
      by_cases hb : b = al
      · subst hb; exact .inr f2
      · rw [upd_ne hb] at q; exact e0.new b o q
    · exact .inl ⟨γ, ρ, e0, er, hm'⟩
  · exact .inl ⟨γ, ρ, e0, er, hm'⟩
end
end Ev

/-! Ev9: in, index; our own lists changed. -/
namespace Ev
open PySem PySem.Spec PyProof.Rows L2
section
variable {X : Cx} {Wx : WX} {a b c e : Expr} {es rest : List Expr} {pos pp apos : Pos} {ma mb mc m : List Sl → W Exc D}

/-! ### in -/
def inD (neg : Bool) : D → D → W Exc Bool
  | d, .list ds => (W.ask (sh d = true ∧ sh (.list ds) = true)).bind fun _ => .ret (if neg then !(ds.any fun z => PyData.eqv z d) else ds.any fun z => PyData.eqv z d)
  | d, .tuple ds => (W.ask (sh d = true ∧ sh (.tuple ds) = true)).bind fun _ => .ret (if neg then !(ds.any fun z => PyData.eqv z d) else ds.any fun z => PyData.eqv z d)
  | .str x, .str y => .ret (if neg then !(!(Builtin.Str.occurrences y x 0 y.length 1).isEmpty) else !(Builtin.Str.occurrences y x 0 y.length 1).isEmpty)
  | .str z, .dict kvs => .ret (if neg then !(dlk kvs z).isSome else (dlk kvs z).isSome)
  | _, _ => .stuck
def rInDk (neg : Bool) : R2 := fun x y H Q => ∃ a ov, y = .ref a ∧ DGet H a x ov ∧ Q (.bl (if neg then !ov.isSome else ov.isSome)) H
theorem op_inDk (hu : X.A.units + 1 < cLine) : OpR X (compareOp .In) (rInDk false) := by
  intro pins s σ H x y v u Q I rx ry h
  obtain ⟨a, ov, rfl, g, q⟩ := h
  cases ry
  exact d_in hu I g rx fun s3 I3 => ⟨.bl ov.isSome, H, I3, rfl, q⟩
theorem op_notInDk (hu : X.A.units + 1 < cLine) : OpR X (compareOp .NotIn) (rInDk true) := by
  intro pins s σ H x y v u Q I rx ry h
  obtain ⟨a, ov, rfl, g, q⟩ := h
  cases ry
  exact d_notIn hu I g rx fun s3 I3 => ⟨.bl (!ov.isSome), H, I3, rfl, q⟩
theorem rd_inDk {neg : Bool} {p : Option Addr} {γ H : Hp} {x y : V} {z : Str} {kvs : List (D × D)} {Q : VK} (st : Stt X.K p γ H) (cx : Ct X.K p γ H x (.str z)) (cy : Ct X.K p γ H y (.dict kvs)) (h : Q (.bl (if neg then !(dlk kvs z).isSome else (dlk kvs z).isSome)) H) : rInDk neg x y H Q := by
  obtain ⟨a, ks, xs, ds, rfl, ha, ra, e, rfl⟩ := ct_dct cy
  rw [(ct_str cx).1]
  rcases dct_get st.sub ha ra e.1 z with ⟨d, v, q1, q2, q3⟩ | ⟨q1, q2⟩
  · rw [q1] at h; exact ⟨a, _, rfl, q3, h⟩
  · rw [q1] at h; exact ⟨a, _, rfl, q2, h⟩
def rInT (K : PySem.W.Frag) (neg : Bool) : R2 := fun x y H Q => ∃ d ds, Dp K H x d ∧ Dp K H y (.tuple ds) ∧ SeqAt.shaped d = true ∧ SeqAt.shaped (.tuple ds) = true ∧ Q (.bl (if neg then !(ds.any fun z => PyData.eqv z d) else ds.any fun z => PyData.eqv z d)) H
theorem op_inT (hu : X.A.units + 65 < cLine) : OpR X (compareOp .In) (rInT X.K false) := by
  intro pins s σ H x y v u Q I rx ry h
  obtain ⟨d, ds, hd, he, sd, se, q⟩ := h
  obtain ⟨as, r1⟩ := Dp.reads I d x v hd rx
  obtain ⟨bs, r2⟩ := Dp.reads I (.tuple ds) y u he ry
  exact SeqAt.in_tuple_reads r2 r1 (SeqAt.canLay_of_shaped se) (SeqAt.canLay_of_shaped sd) (PyProof.Rows.room_in_shaped sd hu) ⟨.bl _, H, I, rfl, q⟩
theorem op_notInT (hu : X.A.units + 65 < cLine) : OpR X (compareOp .NotIn) (rInT X.K true) := by
  intro pins s σ H x y v u Q I rx ry h
  obtain ⟨d, ds, hd, he, sd, se, q⟩ := h
  obtain ⟨as, r1⟩ := Dp.reads I d x v hd rx
  obtain ⟨bs, r2⟩ := Dp.reads I (.tuple ds) y u he ry
  exact SeqAt.notIn_tuple_reads r2 r1 (SeqAt.canLay_of_shaped se) (SeqAt.canLay_of_shaped sd) (PyProof.Rows.room_in_shaped sd hu) ⟨.bl _, H, I, rfl, q⟩
abbrev rInAll (K : PySem.W.Frag) : R2 := fun x y H Q => rInD K x y H Q ∨ (rInT K false x y H Q ∨ ((∃ i j, x = .str i ∧ y = .str j ∧ Q (.bl (!(Builtin.Str.occurrences j i 0 j.length 1).isEmpty)) H) ∨ rInDk false x y H Q))
abbrev rNotInAll (K : PySem.W.Frag) : R2 := fun x y H Q => rNotInD K x y H Q ∨ (rInT K true x y H Q ∨ ((∃ i j, x = .str i ∧ y = .str j ∧ Q (.bl (!(!(Builtin.Str.occurrences j i 0 j.length 1).isEmpty))) H) ∨ rInDk true x y H Q))
theorem op_inAll (hu : X.A.units + 65 < cLine) : OpR X (compareOp .In) (rInAll X.K) := (op_inD hu).or ((op_inT hu).or (op_in_str.or (op_inDk (by omega))))
theorem op_notInAll (hu : X.A.units + 65 < cLine) : OpR X (compareOp .NotIn) (rNotInAll X.K) := (op_notInD hu).or ((op_notInT hu).or (op_notin_str.or (op_notInDk (by omega))))
theorem br_in : BrC X.K (inD false) (rInAll X.K) := by
  intro p γ H x y d e Q XX st cx cy h
  cases e with
  | list ds => exact .inl ⟨d, ds, ct_dp cx st (sh_nd h.1.1), ct_dp cy st (sh_nd h.1.2), sh_shaped h.1.1 (ct_lay cx st (sh_nd h.1.1)), sh_shaped h.1.2 (ct_lay cy st (sh_nd h.1.2)), h.2⟩
  | tuple ds => exact .inr (.inl ⟨d, ds, ct_dp cx st (sh_nd h.1.1), ct_dp cy st (sh_nd h.1.2), sh_shaped h.1.1 (ct_lay cx st (sh_nd h.1.1)), sh_shaped h.1.2 (ct_lay cy st (sh_nd h.1.2)), h.2⟩)
  | str z =>
    cases d <;> first
      | exact False.elim h
      | exact .inr (.inr (.inl ⟨_, z, (ct_str cx).1, (ct_str cy).1, h⟩))
  | dict kvs =>
    cases d <;> first
      | exact False.elim h
      | exact .inr (.inr (.inr (rd_inDk st cx cy h)))
  | _ => cases d <;> exact False.elim h
theorem br_notIn : BrC X.K (inD true) (rNotInAll X.K) := by
  intro p γ H x y d e Q XX st cx cy h
  cases e with
  | list ds => exact .inl ⟨d, ds, ct_dp cx st (sh_nd h.1.1), ct_dp cy st (sh_nd h.1.2), sh_shaped h.1.1 (ct_lay cx st (sh_nd h.1.1)), sh_shaped h.1.2 (ct_lay cy st (sh_nd h.1.2)), h.2⟩
  | tuple ds => exact .inr (.inl ⟨d, ds, ct_dp cx st (sh_nd h.1.1), ct_dp cy st (sh_nd h.1.2), sh_shaped h.1.1 (ct_lay cx st (sh_nd h.1.1)), sh_shaped h.1.2 (ct_lay cy st (sh_nd h.1.2)), h.2⟩)
  | str z =>
    cases d <;> first
      | exact False.elim h
      | exact .inr (.inr (.inl ⟨_, z, (ct_str cx).1, (ct_str cy).1, h⟩))
  | dict kvs =>
    cases d <;> first
      | exact False.elim h
      | exact .inr (.inr (.inr (rd_inDk st cx cy h)))
  | _ => cases d <;> exact False.elim h

/-! ### methods of built-in types, with one argument -/
/-- the receiver is of the type, by data -/
def tyB (K : PySem.W.Frag) (T : _root_.String) (x : V) (H : Hp) : Prop := match x with
  | .str _ => T = "str"
  | .ref p => (T = "list" ∧ ∃ xs, SqL K H p xs) ∨ (T = "tuple" ∧ ∃ xs, TupAt K H p xs)
  | _ => False
theorem tyB_is {pins : List (Addr × Obj)} {σ : St} {H : Hp} {s : Shared} {T : _root_.String} {x : V} {v : Value} (I : Inv X pins σ H s) (r : RelV x v) (ty : tyB X.K T x H) :
    s.TypeIs v T ∧ ∀ al, v = .ref al → ∃ ob, s.heap.get? al = some ob ∧ ob.dict = none := by
  cases x <;> first
    | exact False.elim ty
    | skip
  · obtain ⟨t, rfl⟩ := r
    obtain rfl : T = "str" := ty
    exact ⟨typeIs_str s _ t, fun _ e => nomatch e⟩
  · rename_i p
    obtain rfl : v = Value.ref p := r
    rcases ty with ⟨rfl, xs, hq⟩ | ⟨rfl, xs, hq⟩
    · obtain ⟨its, _, pl, _⟩ := I.list hq
      refine ⟨pl.isList.typeIs, fun al e => ?_⟩
      cases e
      obtain ⟨o, n, e, c, hd, _⟩ := pl
      exact ⟨o, e, hd⟩
    · rcases hq with ⟨o, hq, od⟩ | ⟨o, its, n, hk, hc, hd, _⟩
      · obtain ⟨ho, _, its, _, o', ho', hc, _⟩ := (show ObjOk X.prog X.w H s.heap p (.frz o (.tup xs)) from I.hok p _ hq)
        rw [ho] at ho'; cases ho'
        exact ⟨⟨o, ho, hc⟩, fun al e => by cases e; exact ⟨o, ho, od⟩⟩
      · exact ⟨⟨o, I.kIn p o hk, hc⟩, fun al e => by cases e; exact ⟨o, I.kIn _ o hk, hd⟩⟩
def tMB (K : PySem.W.Frag) (T : _root_.String) (r : V → List V → Hp → VK → Prop) (to : TE) (t : TA) : TE := fun σ H Q => to σ H fun x H1 => tyB K T x H1 ∧ t σ H1 fun xs H2 => r x xs H2 Q
theorem few1 (h : ∀ e' p, e ≠ .Starred e' p) (cpos : Pos) (env : Env) : ((backTo cpos (starEach [e] env)).all (fun x => !x.1) && (backToKw cpos (keywordEach [] env)).all (fun x => x.1.isSome)
      && decide ([e].length + ([] : List Keyword).length + (if ([] : List Keyword).isEmpty then 0 else 1) < 30)) = true := by
  rw [star1 h]; rfl
theorem pe_mb {o : Expr} {name : Str} {id T : _root_.String} {r : V → List V → Hp → VK → Prop} {to : TE} {t : TA} (pa : PlainAttrs T) (slot : Slot T name id) (hty : typeOf (.builtin id) = pure (.type "method_descriptor")) (hm : MtR X id r) (ho : PE X o to) (ha : PA X [e] t)
    (hbase : attributeBase o name X.env (eval o X.env) = eval o X.env) (hs : ∀ e' p, e ≠ .Starred e' p) (hline : (apos.endLine == pos.line) = true) : PE X (.Call (.Attribute o name apos) [e] [] pos) (tMB X.K T r to t) := by
  refine ⟨fun pins s σ H Q I h => ?_⟩
  refine wpAny_Call_method_late hbase (few1 hs _ _) hline rfl (thn (ho.run pins s σ H _ I h) fun v s1 hh => ?_)
  obtain ⟨x, H1, I1, r1, ty, q1⟩ := hh
  obtain ⟨h1, h2⟩ := tyB_is I1 r1 ty
  refine ⟨T, id, pa, slot, hty, h1, h2, ?_⟩
  have hA := ha.run pos pins s1 σ H1 _ I1 q1
  rw [star1 hs] at hA ⊢
  exact Calls.callWith_builtin rfl (Calls.evalArgs_plain (thn hA fun us s2 ⟨vs, H2, I2, r2, q2⟩ => hm pins s2 σ H2 x vs v us Q I2 r1 r2 q2))
end
end Ev

/-! Ev10: index; our own lists changed; augmented assignments; raise, try. -/
namespace Ev
open PySem PySem.Spec PyProof.Rows L2
section
variable {X : Cx} {Wx : WX} {a b c e : Expr} {es rest : List Expr} {pos pp apos : Pos} {ma mb mc m : List Sl → W Exc D}

/-! ### index -/
def findD (ds : List D) (d : D) : Option Nat := ds.findIdx? fun z => PyData.eqv z d
def indexD : D → D → W Exc D
  | .list ds, d => (W.ask (sh d = true ∧ sh (.list ds) = true)).bind fun _ => match findD ds d with
    | some j => .ret (.int j)
    | none => .stuck
  | .tuple ds, d => (W.ask (sh d = true ∧ sh (.tuple ds) = true)).bind fun _ => match findD ds d with
    | some j => .ret (.int j)
    | none => .stuck
  | _, _ => .stuck
theorem findD_some {ds : List D} {d : D} {j : Nat} (h : findD ds d = some j) : ∃ z, ds[j]? = some z ∧ PyData.eqv z d = true ∧ ∀ (m : Nat) (z' : D), m < j → ds[m]? = some z' → PyData.eqv z' d = false := by
  unfold findD at h
  rw [List.findIdx?_eq_some_iff_getElem] at h
  obtain ⟨h1, h2, h3⟩ := h
  refine ⟨ds[j], List.getElem?_eq_getElem h1, h2, fun m z' hm hz => ?_⟩
  obtain ⟨h4, h5⟩ := List.getElem?_eq_some_iff.mp hz
  have := h3 m hm
  rw [h5] at this
  cases q : PyData.eqv z' d with
  | false => rfl
  | true => exact absurd q this
def rIndexT (K : PySem.W.Frag) : V → List V → Hp → VK → Prop := fun x xs H Q => ∃ (al : Addr) (y : V) (d : D) (ds : List D) (j : Nat) (z : D), x = V.ref al ∧ xs = [y] ∧ Dp K H (V.ref al) (.tuple ds) ∧ Dp K H y d ∧
  SeqAt.shaped (.tuple ds) = true ∧ SeqAt.shaped d = true ∧ ds[j]? = some z ∧ PyData.eqv z d = true ∧ (∀ (m : Nat) (z' : D), m < j → ds[m]? = some z' → PyData.eqv z' d = false) ∧ Q (.int (j : Nat)) H
theorem mt_indexT (hu : X.A.units + 65 < cLine) : MtR X "tuple.index" (rIndexT X.K) := by
  intro pins s σ H x xs v us Q I rx rxs h
  obtain ⟨al, y, d, ds, j, z, rfl, rfl, hl, hy, sl, sd, hz, hzj, hno, q⟩ := h
  obtain rfl : v = Value.ref al := rx
  obtain ⟨uy, rfl, ry⟩ := vals1 rxs
  obtain ⟨bs, r1⟩ := Dp.reads I d y uy hy ry
  have hxs : PyData.canLayAll0 ds = true := SeqAt.canLay_of_shaped sl
  cases hl with
  | tup hs ha =>
    obtain ⟨its, rv, ⟨⟨cls, dd, data, sls⟩, ho, hc, n, hdt⟩, hlen⟩ := I.tuple hs
    simp only at hc hdt
    subst hc hdt
    obtain ⟨as, h4⟩ := Dp.readsAll I ds _ its ha rv
    have hn : its.length = ds.length := SeqAt.ReadsAll.length ds its as h4
    have hmap : its.map (SeqAt.readOf s.heap) = ds := SeqAt.readsAll_map ds its as hxs h4
    obtain ⟨hjd, _⟩ := List.getElem?_eq_some_iff.mp hz
    have hj : j < its.toArray.size := by simp; omega
    have at_ : ∀ (m : Nat) (hm : m < its.toArray.size) (z' : D), ds[m]? = some z' → SeqAt.readOf s.heap its.toArray[m] = z' := fun m hm z' hz' => by
      have hml : m < its.length := by simpa using hm
      rw [← hmap, List.getElem?_map, List.getElem?_eq_getElem hml] at hz'
      simpa using Option.some.inj hz'
    refine call_meets PySem.F.slot_tuple_index ⟨_, ho, rfl⟩ PySem.F.entry_tuple_index (PySem.F.args_tuple_index_2 _ _)
      (TI.tuple_indexAt al its.toArray n dd sls uy (fun u => PyData.eqv (SeqAt.readOf s.heap u) d) j hj ?_ fun m hm hmj => ?_) ⟨ho, SeqAt.items_eqAt (vs := its.toArray) (show ReadsAll s.heap its.toArray.toList ds as from h4) r1 hxs (SeqAt.canLay_of_shaped sd) (PyProof.Rows.room_in_shaped sd hu), ?_⟩
    · show PyData.eqv (SeqAt.readOf s.heap its.toArray[j]) d = true
      rw [at_ j hj z hz]; exact hzj
    · have hmd : m < ds.length := by omega
      show PyData.eqv (SeqAt.readOf s.heap its.toArray[m]) d = false
      rw [at_ m hm _ (List.getElem?_eq_getElem hmd)]
      exact hno m _ hmj (List.getElem?_eq_getElem hmd)
    · exact ⟨.int (j : Nat), H, I.tok _, ⟨_, rfl⟩, q⟩
/-- a method of lists and of tuples -/
def tMB2 (K : PySem.W.Frag) (r1 r2 : V → List V → Hp → VK → Prop) (to : TE) (t : TA) : TE := fun σ H Q => to σ H fun x H1 => (tyB K "list" x H1 ∧ t σ H1 fun xs H2 => r1 x xs H2 Q) ∨ (tyB K "tuple" x H1 ∧ t σ H1 fun xs H2 => r2 x xs H2 Q)
theorem pe_mb2 {o : Expr} {name : Str} {id1 id2 : _root_.String} {r1 r2 : V → List V → Hp → VK → Prop} {to : TE} {t : TA} (slot1 : Slot "list" name id1) (slot2 : Slot "tuple" name id2) (hty1 : typeOf (.builtin id1) = pure (.type "method_descriptor")) (hty2 : typeOf (.builtin id2) = pure (.type "method_descriptor"))
    (hm1 : MtR X id1 r1) (hm2 : MtR X id2 r2) (ho : PE X o to) (ha : PA X [e] t) (hbase : attributeBase o name X.env (eval o X.env) = eval o X.env) (hs : ∀ e' p, e ≠ .Starred e' p) (hline : (apos.endLine == pos.line) = true) :
    PE X (.Call (.Attribute o name apos) [e] [] pos) (tMB2 X.K r1 r2 to t) := by
  refine ⟨fun pins s σ H Q I h => ?_⟩
  refine wpAny_Call_method_late hbase (few1 hs _ _) hline rfl (thn (ho.run pins s σ H _ I h) fun v s1 hh => ?_)
  obtain ⟨x, H1, I1, r1', hq⟩ := hh
  rcases hq with ⟨ty, q1⟩ | ⟨ty, q1⟩
  · obtain ⟨h1, h2⟩ := tyB_is I1 r1' ty
    refine ⟨"list", id1, PySem.F.plainAttrs_list, slot1, hty1, h1, h2, ?_⟩
    have hA := ha.run pos pins s1 σ H1 _ I1 q1
    rw [star1 hs] at hA ⊢
    exact Calls.callWith_builtin rfl (Calls.evalArgs_plain (thn hA fun us s2 ⟨vs, H2, I2, r2, q2⟩ => hm1 pins s2 σ H2 x vs v us Q I2 r1' r2 q2))
  · obtain ⟨h1, h2⟩ := tyB_is I1 r1' ty
    refine ⟨"tuple", id2, PySem.F.plainAttrs_tuple, slot2, hty2, h1, h2, ?_⟩
    have hA := ha.run pos pins s1 σ H1 _ I1 q1
    rw [star1 hs] at hA ⊢
    exact Calls.callWith_builtin rfl (Calls.evalArgs_plain (thn hA fun us s2 ⟨vs, H2, I2, r2, q2⟩ => hm2 pins s2 σ H2 x vs v us Q I2 r1' r2 q2))
def seqOnly : D → W Exc Unit
  | .list _ => .ret ()
  | .tuple _ => .ret ()
  | _ => .stuck
abbrev indexW (ma mb : List Sl → W Exc D) : List Sl → W Exc D := fun ρ => (ma ρ).bind fun d => (seqOnly d).bind fun _ => (mb ρ).bind fun e => indexD d e
theorem pE_index {o : Expr} (hu : X.A.units + 65 < cLine) (ho : PE X o (TEo X Wx ma)) (ha : PE X e (TEo X Wx mb)) (hbase : attributeBase o "index" X.env (eval o X.env) = eval o X.env) (hs : ∀ e' p, e ≠ .Starred e' p) (hline : (apos.endLine == pos.line) = true) :
    PE X (.Call (.Attribute o "index" apos) [e] [] pos) (TEe X Wx (indexW ma mb)) := by
  refine pe_of (pe_mb2 (r1 := rIndexD X.K) (r2 := rIndexT X.K) PySem.F.slot_list_index PySem.F.slot_tuple_index PySem.F.type_list_index PySem.F.type_tuple_index (mt_indexD hu) (mt_indexT hu) ho (pa_cons ha pa_nil (star1 hs X.env)) hbase hs hline) fun σ H Q ⟨p, H0, γ, ρ, st, er, hm⟩ => ?_
  refine ⟨p, H0, γ, ρ, st, er, (ma ρ).mono (fun d h1 γ1 H1 x e1 c1 => ?_) (fun _ q => q) hm⟩
  cases d <;> first
    | exact False.elim h1
    | skip
  · rename_i ds
    obtain ⟨al, vs, ex, hal, _⟩ := ct_lst c1 e1.st
    refine .inl ⟨by rw [ex]; exact .inl ⟨rfl, vs, .of hal⟩, p, H0, γ1, ρ, e1.st, er.ext e1, (mb ρ).mono (fun f h2 γ2 H2 y e2 c2 => ?_) (fun _ q => q.ext st e1) h1⟩
    obtain ⟨⟨s1, s2⟩, h2⟩ := h2
    have c1' := c1.mono e2
    cases q : findD ds f with
    | none => rw [q] at h2; exact h2.elim
    | some j =>
      rw [q] at h2
      obtain ⟨z, hz, hzj, hno⟩ := findD_some q
      exact ⟨al, y, f, ds, j, z, ex, rfl, by rw [← ex]; exact ct_dp c1' e2.st (sh_nd s2), ct_dp c2 e2.st (sh_nd s1), sh_shaped s2 (ct_lay c1' e2.st (sh_nd s2)), sh_shaped s1 (ct_lay c2 e2.st (sh_nd s1)), hz, hzj, hno, Post.int (Post.ext h2 st (Ext.trans st e1 e2)) e2.st⟩
  · rename_i ds
    obtain ⟨al, vs, ex, hal, _⟩ := ct_tup c1
    refine .inr ⟨by rw [ex]; exact .inr ⟨rfl, vs, hal.mono e1.st.sub⟩, p, H0, γ1, ρ, e1.st, er.ext e1, (mb ρ).mono (fun f h2 γ2 H2 y e2 c2 => ?_) (fun _ q => q.ext st e1) h1⟩
    obtain ⟨⟨s1, s2⟩, h2⟩ := h2
    have c1' := c1.mono e2
    cases q : findD ds f with
    | none => rw [q] at h2; exact h2.elim
    | some j =>
      rw [q] at h2
      obtain ⟨z, hz, hzj, hno⟩ := findD_some q
      exact ⟨al, y, f, ds, j, z, ex, rfl, by rw [← ex]; exact ct_dp c1' e2.st (sh_nd s2), ct_dp c2 e2.st (sh_nd s1), sh_shaped s2 (ct_lay c1' e2.st (sh_nd s2)), sh_shaped s1 (ct_lay c2 e2.st (sh_nd s1)), hz, hzj, hno, Post.int (Post.ext h2 st (Ext.trans st e1 e2)) e2.st⟩

/-- x.count(k), x a list of ints -/
def cntD (ds : List D) : D → W Exc D
  | .int k => optW (intsOf ds) fun ns => .ret (.int (ns.count k : Nat))
  | _ => .stuck
def lstOnly : D → W Exc (List D)
  | .list ds => .ret ds
  | _ => .stuck
abbrev countW (ma mb : List Sl → W Exc D) : List Sl → W Exc D := fun ρ => (ma ρ).bind fun d => (lstOnly d).bind fun ds => (mb ρ).bind fun e => cntD ds e
theorem pE_count {o : Expr} (ho : PE X o (TEo X Wx ma)) (ha : PE X e (TEo X Wx mb)) (hbase : attributeBase o "count" X.env (eval o X.env) = eval o X.env) (hs : ∀ e' p, e ≠ .Starred e' p) (hline : (apos.endLine == pos.line) = true) :
    PE X (.Call (.Attribute o "count" apos) [e] [] pos) (TEe X Wx (countW ma mb)) := by
  refine pe_of (pe_mb PySem.F.plainAttrs_list PySem.F.slot_list_count PySem.F.type_list_count mt_lcount ho (pa_cons ha pa_nil (star1 hs X.env)) hbase hs hline) fun σ H Q ⟨p, H0, γ, ρ, st, er, hm⟩ => ?_
  refine ⟨p, H0, γ, ρ, st, er, (ma ρ).mono (fun d h1 γ1 H1 x e1 c1 => ?_) (fun _ q => q) hm⟩
  cases d <;> first
    | exact False.elim h1
    | skip
  rename_i ds
  obtain ⟨al, vs, ex, hal, _⟩ := ct_lst c1 e1.st
  refine ⟨by rw [ex]; exact .inl ⟨rfl, vs, .of hal⟩, p, H0, γ1, ρ, e1.st, er.ext e1, (mb ρ).mono (fun f h2 γ2 H2 y e2 c2 => ?_) (fun _ q => q.ext st e1) h1⟩
  cases f <;> first
    | exact False.elim h2
    | skip
  rename_i k
  obtain ⟨ns, hns, h2⟩ := optW_run h2
  obtain ⟨al2, vs2, ex2, hal2, r2⟩ := ct_lst (c1.mono e2) e2.st
  rw [intsOf_eq hns] at r2
  have hv := rep_ints r2
  subst hv
  exact ⟨al2, ns, k, ex2, by rw [ct_int c2], .of hal2, Post.int (Post.ext h2 st (Ext.trans st e1 e2)) e2.st⟩

/-! ### our own lists -/
section
variable {p : Option Addr} {γ0 H0 : Hp} {st : Stmt}
/-- the own list of slot i takes other items -/
theorem own_mut {K : PySem.W.Frag} {γ H : Hp} {σ : St} {ρ : List Sl} (st0 : Stt K p γ0 H0) (e0 : Ext K p γ0 H0 γ H) (er : EnvR K p H0 γ H σ ρ) {i : Nat} {xs ys : List D} {al : Addr} {vs ws : List V} (hi : ρ[i]? = some (.own xs)) (hσ : σ[i]? = some (some (.ref al))) (ha : H al = some (.lst vs)) (hg : γ al = none) (hp : p ≠ some al) (h0 : H0 al = none)
    (r : RepAll K γ ws ys) : Ext K p γ0 H0 γ (upd H al (.lst ws)) ∧ EnvR K p H0 γ (upd H al (.lst ws)) σ (ρ.set i (.own ys)) := by
  have hl : i < ρ.length := (List.getElem?_eq_some_iff.mp hi).1
  refine ⟨Ext.mut st0 e0 h0 hg, by simp [er.len], fun j s q => ?_, fun j k us zs hjk q1 q2 => ?_, fun j k us zs hjk q1 q2 => ?_⟩
  · by_cases hj : i = j
    · subst hj
      rw [List.getElem?_set_self hl] at q; cases q
      exact ⟨_, hσ, al, ws, rfl, upd_same, hg, hp, h0, r⟩
    · rw [List.getElem?_set_ne hj] at q
      obtain ⟨ov, e1, z⟩ := er.sl j s q
      refine ⟨ov, e1, ?_⟩
      cases s with
      | un => trivial
      | val d => exact z
      | own us =>
        obtain ⟨b, bs, g1, g2, g3, g4, g5, g6⟩ := z
        have hb : b ≠ al := fun z => er.ap i j xs us hj hi q (by rw [hσ, e1, g1, z])
        exact ⟨b, bs, g1, by rw [upd_ne hb]; exact g2, g3, g4, g5, g6⟩
      | dic us =>
        obtain ⟨b, bs, g1, g2, g3, g4, g5, g6, g7⟩ := z
        have hb : b ≠ al := fun z => by rw [z, ha] at g2; cases g2
        exact ⟨b, bs, g1, by rw [upd_ne hb]; exact g2, g3, g4, g5, g6, g7⟩
      | pool => exact z
  · by_cases hj : i = j
    · subst hj
      by_cases hk : i = k
      · exact absurd hk hjk
      · rw [List.getElem?_set_ne hk] at q2
        exact er.ap i k xs zs hk hi q2
    · rw [List.getElem?_set_ne hj] at q1
      by_cases hk : i = k
      · subst hk
        exact er.ap j i us xs (fun z => hj z.symm) q1 hi
      · rw [List.getElem?_set_ne hk] at q2
        exact er.ap j k us zs hjk q1 q2
  · have hj : i ≠ j := fun hj => by subst hj; rw [List.getElem?_set_self hl] at q1; cases q1
    have hk : i ≠ k := fun hk => by subst hk; rw [List.getElem?_set_self hl] at q2; cases q2
    rw [List.getElem?_set_ne hj] at q1
    rw [List.getElem?_set_ne hk] at q2
    exact er.apd j k us zs hjk q1 q2
def ownW (ρ : List Sl) (i : Nat) : W XS (List D) := match ρ[i]? with
  | some (.own xs) => .ret xs
  | _ => .stuck
theorem ownW_run {ρ : List Sl} {i : Nat} {Q : List D → Prop} {XX : XS → Prop} (h : (ownW ρ i).run Q XX) : ∃ xs, ρ[i]? = some (.own xs) ∧ Q xs := by
  unfold ownW at h
  split at h
  · exact ⟨_, by assumption, h⟩
  · exact h.elim
/-- x.append(e) -/
abbrev appW (i : Nat) (me : List Sl → W Exc D) : S := fun ρ => (ownW ρ i).bind fun _ => (lf ρ (me ρ)).bind fun d => (ownW ρ i).bind fun xs => (W.ask (xs.length < sizeLine)).bind fun _ => .ret (.nx (ρ.set i (.own (xs ++ [d]))))
theorem pS_app {i : Nat} {x : Str} {px pos2 : Pos} (st0 : Stt X.K p γ0 H0) (hN : X.N[i]? = some x) (hv : Vis X.env.scope x) (hd : (x == ("__debug__" : Str)) = false) (hcd : (x == ("__classdict__" : Str)) = false) (hs : ∀ e' p, e ≠ .Starred e' p) (hline : (apos.endLine == pos.line) = true) (he : PE X e (TEe X Wx ma)) :
    PS X (.Expr (.Call (.Attribute (.Name x px) "append" apos) [e] [] pos) pos2) (TSs X Wx p γ0 H0 (appW i ma)) := by
  refine ps_of (ps_expr (pe_mb PySem.F.plainAttrs_list PySem.F.slot_list_append PySem.F.type_list_append mt_append (pe_var hN hv hd hcd) (pa_cons he pa_nil (star1 hs X.env)) rfl hs hline) rfl) fun E σ H ⟨γ, ρ, e0, er, hm⟩ => ?_
  obtain ⟨xs, hi, hm⟩ := ownW_run hm
  obtain ⟨ov, hσ, al, vs, ev, ha, hg, hp, h0, r⟩ := er.sl i _ hi
  subst ev
  refine ⟨.ref al, hσ, .inl ⟨rfl, vs, .of ha⟩, p, H0, γ, ρ, e0.st, er, (ma ρ).mono (fun d h1 γ1 H1 y e1 c1 => ?_) (fun x q => q.toE st0 e0 er (.refl _)) hm⟩
  obtain ⟨xs', hi', hz, h1⟩ := ownW_run h1
  rw [hi] at hi'; cases hi'
  have ha1 := e1.same al _ hp ha
  obtain ⟨q1, q2⟩ := own_mut st0 (Ext.trans st0 e0 e1) (er.ext e1) hi hσ ha1 (e1.gnone hg ha) hp h0 ((r.mono e1.gg).append (.cons c1 .nil))
  exact ⟨al, vs, y, rfl, rfl, ha1, by rw [r.length]; exact hz, h1 γ1 _ σ e1.gg q1 q2⟩
/-- x.extend(e) -/
def listOnly : D → W Exc (List D)
  | .list ys => .ret ys
  | _ => .stuck
abbrev extW (i : Nat) (me : List Sl → W Exc D) : S := fun ρ => (ownW ρ i).bind fun _ => (lf ρ ((me ρ).bind listOnly)).bind fun ys => (ownW ρ i).bind fun xs => (W.ask (xs.length + ys.length ≤ sizeLine)).bind fun _ => .ret (.nx (ρ.set i (.own (xs ++ ys))))
theorem pS_ext {i : Nat} {x : Str} {px pos2 : Pos} (st0 : Stt X.K p γ0 H0) (hN : X.N[i]? = some x) (hv : Vis X.env.scope x) (hd : (x == ("__debug__" : Str)) = false) (hcd : (x == ("__classdict__" : Str)) = false) (hs : ∀ e' p, e ≠ .Starred e' p) (hline : (apos.endLine == pos.line) = true) (he : PE X e (TEe X Wx ma)) :
    PS X (.Expr (.Call (.Attribute (.Name x px) "extend" apos) [e] [] pos) pos2) (TSs X Wx p γ0 H0 (extW i ma)) := by
  refine ps_of (ps_expr (pe_mb PySem.F.plainAttrs_list PySem.F.slot_list_extend PySem.F.type_list_extend mt_extend (pe_var hN hv hd hcd) (pa_cons he pa_nil (star1 hs X.env)) rfl hs hline) rfl) fun E σ H ⟨γ, ρ, e0, er, hm⟩ => ?_
  obtain ⟨xs, hi, hm⟩ := ownW_run hm
  obtain ⟨ov, hσ, al, vs, ev, ha, hg, hp, h0, r⟩ := er.sl i _ hi
  subst ev
  refine ⟨.ref al, hσ, .inl ⟨rfl, vs, .of ha⟩, p, H0, γ, ρ, e0.st, er, (ma ρ).mono (fun d h1 γ1 H1 y e1 c1 => ?_) (fun x q => q.toE st0 e0 er (.refl _)) hm⟩
  cases d <;> first
    | exact False.elim h1
    | skip
  rename_i ys
  obtain ⟨bl, ws, rfl, hb, rb⟩ := c1.ofLst
  obtain ⟨xs', hi', hz, h1⟩ := ownW_run h1
  rw [hi] at hi'; cases hi'
  have ha1 := e1.same al _ hp ha
  obtain ⟨q1, q2⟩ := own_mut st0 (Ext.trans st0 e0 e1) (er.ext e1) hi hσ ha1 (e1.gnone hg ha) hp h0 ((r.mono e1.gg).append rb)
  exact ⟨al, bl, vs, ws, rfl, rfl, ha1, e1.st.sub _ _ hb, by rw [r.length, rb.length]; exact hz, h1 γ1 _ σ e1.gg q1 q2⟩
/-- x[j] = e -/
def setAtD (xs : List D) (d : D) (v : D) : Option (List D) := match d with
  | .int k => (ixN xs.length k).map fun j => xs.set j v
  | _ => none
abbrev setW (i : Nat) (mj me : List Sl → W Exc D) : S := fun ρ => (lf ρ (me ρ)).bind fun v => (ownW ρ i).bind fun xs => (lf ρ (mj ρ)).bind fun d => match setAtD xs d v with
  | some ys => .ret (.nx (ρ.set i (.own ys)))
  | none => .stuck
theorem pS_setI {i : Nat} {x : Str} {px psub : Pos} {j : Expr} (st0 : Stt X.K p γ0 H0) (hN : X.N[i]? = some x) (hv : Vis X.env.scope x) (hd : (x == ("__debug__" : Str)) = false) (hcd : (x == ("__classdict__" : Str)) = false)
    (hj : PE X j (TEe X Wx mb)) (hns : ∀ l u s p, j ≠ .Slice l u s p) (he : PE X e (TEe X Wx ma)) (hs : swapsWithSole [.Subscript (.Name x px) j psub] e pos.line X.env = pure false) (hw : swappedStores [.Subscript (.Name x px) j psub] e X.env = pure none) :
    PS X (.Assign [.Subscript (.Name x px) j psub] e pos) (TSs X Wx p γ0 H0 (setW i mb ma)) := by
  refine ps_of (ps_asg he (pg_sub (pe_var hN hv hd hcd) hj set_list (fun v => by cases j <;> first | rfl | exact absurd rfl (hns _ _ _ _))) hs hw rfl) fun E σ H ⟨γ, ρ, e0, er, hm⟩ => ?_
  refine ⟨p, H0, γ, ρ, e0.st, er, (ma ρ).mono (fun v h1 γ1 H1 y e1 c1 => ?_) (fun x q => q.toE st0 e0 er (.refl _)) hm⟩
  have e01 := Ext.trans st0 e0 e1
  have er1 := er.ext e1
  obtain ⟨xs, hi, h1⟩ := ownW_run h1
  obtain ⟨ov, hσ, al, vs, ev, ha, hg, hp, h0, r⟩ := er1.sl i _ hi
  subst ev
  refine ⟨.ref al, hσ, p, H0, γ1, ρ, e1.st, er1, (mb ρ).mono (fun d h2 γ2 H2 z e2 c2 => ?_) (fun x q => q.toE st0 e01 er1 e1.gg) h1⟩
  have ha2 := e2.same al _ hp ha
  have h2' : (match setAtD xs d v with | some ys => W.ret (.nx (ρ.set i (.own ys))) | none => W.stuck : W XS Out).run (PostS X.K p γ0 H0 γ E) (ExS X.K X.mg Wx p γ0 H0 γ) := h2
  cases q : setAtD xs d v with
  | none => rw [q] at h2'; exact h2'.elim
  | some ys =>
    rw [q] at h2'
    cases d <;> first
      | cases q
      | skip
    rename_i k
    cases q3 : ixN xs.length k with
    | none => simp [setAtD, q3] at q
    | some jj =>
      have q' : xs.set jj v = ys := by simpa [setAtD, q3] using q
      subst q'
      obtain ⟨q1, q2⟩ := own_mut st0 (Ext.trans st0 e01 e2) (er1.ext e2) hi hσ ha2 (e2.gnone hg ha) hp h0 (RepAll.set (c1.mono e2.gg) jj (r.mono e2.gg))
      exact ⟨al, vs, k, jj, rfl, c2.ofInt, ha2, by rw [r.length]; exact q3, h2' γ2 _ σ (e1.gg.trans e2.gg) q1 q2⟩
/-- t = x.pop(0), and its like -/
def popAtD (xs : List D) (d : D) : Option (D × List D) := match d with
  | .int k => if -(2 ^ 63) ≤ k ∧ k < 2 ^ 63 then (seqIndex? k xs.length).bind fun j => (xs[j]?).map fun y => (y, xs.eraseIdx j) else none
  | _ => none
theorem RepAll.erase {K : PySem.W.Frag} {γ : Hp} : ∀ {vs : List V} {ds : List D} (n : Nat), RepAll K γ vs ds → RepAll K γ (vs.eraseIdx n) (ds.eraseIdx n)
  | [], [], _, h => by simpa using h
  | [], _ :: _, _, h => by cases h.1
  | _ :: _, [], _, h => by cases h.1
  | _ :: _, _ :: _, 0, h => by simpa using h.tail
  | _ :: _, _ :: _, n + 1, h => by simpa using RepAll.cons h.head (RepAll.erase n h.tail)
/-- a value that is popped off the own list of slot i -/
abbrev popW {α : Type} (i : Nat) (mj : List Sl → W Exc D) (k : D → List Sl → W XS α) : List Sl → W XS α := fun ρ => (ownW ρ i).bind fun _ => (lf ρ (mj ρ)).bind fun d => (ownW ρ i).bind fun xs => match popAtD xs d with
  | some (y, ys) => k y (ρ.set i (.own ys))
  | none => .stuck
theorem rdPop {i : Nat} {γ H : Hp} {σ : St} {ρ : List Sl} {Q : VK} {R : Out → Prop} {k : D → List Sl → W XS Out} (st0 : Stt X.K p γ0 H0) (e0 : Ext X.K p γ0 H0 γ H) (er : EnvR X.K p H0 γ H σ ρ)
    (hm : (popW i mb k ρ).run R (ExS X.K X.mg Wx p γ0 H0 γ)) (hk : ∀ γ1 H1 y d ρ', Same γ γ1 → Ext X.K p γ0 H0 γ1 H1 → EnvR X.K p H0 γ1 H1 σ ρ' → Rep X.K γ1 y d → (k d ρ').run R (ExS X.K X.mg Wx p γ0 H0 γ) → Q y H1) :
    tMB X.K "list" rPopAt (tVar i) (tCons (TEe X Wx mb) tNil) σ H Q := by
  obtain ⟨xs, hi, hm⟩ := ownW_run hm
  obtain ⟨ov, hσ, al, vs, ev, ha, hg, hp, h0, r⟩ := er.sl i _ hi
  subst ev
  refine ⟨.ref al, hσ, .inl ⟨rfl, vs, .of ha⟩, p, H0, γ, ρ, e0.st, er, (mb ρ).mono (fun d h1 γ1 H1 y e1 c1 => ?_) (fun x q => q.toE st0 e0 er (.refl _)) hm⟩
  obtain ⟨xs', hi', h1⟩ := ownW_run h1
  rw [hi] at hi'; cases hi'
  have ha1 := e1.same al _ hp ha
  have h1' : (match popAtD xs d with | some (y, ys) => k y (ρ.set i (.own ys)) | none => W.stuck : W XS Out).run R (ExS X.K X.mg Wx p γ0 H0 γ) := h1
  cases q : popAtD xs d with
  | none => rw [q] at h1'; exact h1'.elim
  | some yy =>
    obtain ⟨yd, ys⟩ := yy
    rw [q] at h1'
    obtain ⟨kk, rfl⟩ : ∃ kk, d = .int kk := by
      cases d <;> first
        | exact ⟨_, rfl⟩
        | cases q
    by_cases hb : -(2 ^ 63) ≤ kk ∧ kk < 2 ^ 63
    · cases q3 : seqIndex? kk xs.length with
      | none => simp [popAtD, q3] at q
      | some jj =>
        cases q4 : xs[jj]? with
        | none => simp [popAtD, q3, q4] at q
        | some y0 =>
          have q' : y0 = yd ∧ xs.eraseIdx jj = ys := by
            have q := q
            simp only [popAtD, if_pos hb, q3, Option.bind_some, q4, Option.map_some, Option.some.injEq, Prod.mk.injEq] at q
            exact q
          obtain ⟨rfl, rfl⟩ := q'
          obtain ⟨v0, hv0, rv⟩ := r.get q4
          obtain ⟨q1, q2⟩ := own_mut st0 (Ext.trans st0 e0 e1) (er.ext e1) hi hσ ha1 (e1.gnone hg ha) hp h0 (RepAll.erase jj (r.mono e1.gg))
          exact ⟨al, vs, kk, jj, v0, rfl, by rw [c1.ofInt], ha1, hb.1, hb.2, by rw [r.length]; exact q3, hv0, hk γ1 _ v0 y0 _ e1.gg q1 q2 (rv.mono e1.gg) h1'⟩
    · simp only [popAtD, if_neg hb] at q
      cases q
abbrev popS (i : Nat) (mj : List Sl → W Exc D) (t : T) : S := popW i mj fun y ρ' => (lf ρ' (asgT t y ρ')).bind fun ρ2 => .ret (.nx ρ2)
theorem pS_pop {i : Nat} {x : Str} {px : Pos} {tg : Expr} {t : T} {cp : Pos} (st0 : Stt X.K p γ0 H0) (hN : X.N[i]? = some x) (hv : Vis X.env.scope x) (hd : (x == ("__debug__" : Str)) = false) (hcd : (x == ("__classdict__" : Str)) = false) (hs : ∀ e' p, e ≠ .Starred e' p) (hline : (apos.endLine == cp.line) = true) (he : PE X e (TEe X Wx mb)) (hg : PG X tg (gT X.K t))
    (hs1 : swapsWithSole [tg] (.Call (.Attribute (.Name x px) "pop" apos) [e] [] cp) pos.line X.env = pure false) (hw : swappedStores [tg] (.Call (.Attribute (.Name x px) "pop" apos) [e] [] cp) X.env = pure none) (h1 : (assignEach [tg] X.env).map (·.2) = [assign tg X.env]) :
    PS X (.Assign [tg] (.Call (.Attribute (.Name x px) "pop" apos) [e] [] cp) pos) (TSs X Wx p γ0 H0 (popS i mb t)) := by
  refine ps_of (ps_asg (pe_mb PySem.F.plainAttrs_list PySem.F.slot_list_pop PySem.F.type_list_pop mt_popAt (pe_var hN hv hd hcd) (pa_cons he pa_nil (star1 hs X.env)) rfl hs hline) hg hs1 hw h1) fun E σ H ⟨γ, ρ, e0, er, hm⟩ => ?_
  refine rdPop st0 e0 er hm fun γ1 H1 y d ρ' s1 e1 er1 r1 h => ?_
  exact gT_ok e1.st (.inl r1) (fun _ _ => r1) er1 h fun ρ2 σ2 h' er2 _ _ => h' γ1 H1 σ2 s1 e1 er2
/-- f.append(x.pop(e)) -/
abbrev appPopS (f i : Nat) (mj : List Sl → W Exc D) : S := fun ρ => (ownW ρ f).bind fun _ => popW i mj (fun y ρ' => (ownW ρ' f).bind fun xs => (W.ask (xs.length < sizeLine)).bind fun _ => .ret (.nx (ρ'.set f (.own (xs ++ [y]))))) ρ
theorem pS_appPop {f i : Nat} {x y : Str} {px py pos2 apos2 cp : Pos} (st0 : Stt X.K p γ0 H0) (hNf : X.N[f]? = some y) (hvf : Vis X.env.scope y) (hdf : (y == ("__debug__" : Str)) = false) (hcdf : (y == ("__classdict__" : Str)) = false) (hN : X.N[i]? = some x) (hv : Vis X.env.scope x) (hd : (x == ("__debug__" : Str)) = false) (hcd : (x == ("__classdict__" : Str)) = false)
    (hs : ∀ e' p, e ≠ .Starred e' p) (hline : (apos.endLine == cp.line) = true) (hline2 : (apos2.endLine == pos.line) = true) (he : PE X e (TEe X Wx mb)) :
    PS X (.Expr (.Call (.Attribute (.Name y py) "append" apos2) [.Call (.Attribute (.Name x px) "pop" apos) [e] [] cp] [] pos) pos2) (TSs X Wx p γ0 H0 (appPopS f i mb)) := by
  have h1 := pe_mb (pos := cp) PySem.F.plainAttrs_list PySem.F.slot_list_pop PySem.F.type_list_pop mt_popAt (pe_var (pos := px) hN hv hd hcd) (pa_cons he pa_nil (star1 hs X.env)) rfl hs hline
  refine ps_of (ps_expr (pe_mb PySem.F.plainAttrs_list PySem.F.slot_list_append PySem.F.type_list_append mt_append (pe_var hNf hvf hdf hcdf) (pa_cons h1 pa_nil rfl) rfl (fun _ _ => by simp) hline2) rfl) fun E σ H ⟨γ, ρ, e0, er, hm⟩ => ?_
  obtain ⟨fs, hf, hm⟩ := ownW_run hm
  obtain ⟨ov, hσ, al, vs, ev, ha, hg, hp, h0, r⟩ := er.sl f _ hf
  subst ev
  refine ⟨.ref al, hσ, .inl ⟨rfl, vs, .of ha⟩, rdPop st0 e0 er hm fun γ1 H1 yv d ρ' s1 e1 er1 r1 h => ?_⟩
  obtain ⟨xs, hi, hz, h⟩ := ownW_run h
  obtain ⟨ov2, hσ2, al2, vs2, ev2, ha2, hg2, hp2, h02, r2⟩ := er1.sl f _ hi
  subst ev2
  rw [hσ] at hσ2
  obtain rfl : al = al2 := by cases hσ2; rfl
  obtain ⟨q1, q2⟩ := own_mut st0 e1 er1 hi hσ ha2 hg2 hp2 h02 (r2.append (.cons r1 .nil))
  exact ⟨al, vs2, yv, rfl, rfl, ha2, by rw [r2.length]; exact hz, h γ1 _ σ s1 q1 q2⟩
end
end
end Ev

/-! Ev10d: our own dicts, keys ints or texts. -/
namespace Ev
open PySem PySem.Spec PyProof.Rows L2
section
variable {X : Cx} {Wx : WX} {a b c e f : Expr} {es rest : List Expr} {pos pp apos : Pos} {ma mb mc m : List Sl → W Exc D}
def keyD : D → Option Key
  | .int i => some (.inl i)
  | .str s => some (.inr s)
  | _ => none
def getKD (kvs : List (Key × D)) (k : Key) : Option D := (kvs.find? fun kv => decide (kv.1 = k)).map (·.2)
def putKD (kvs : List (Key × D)) (k : Key) (d : D) : List (Key × D) :=
  if (kvs.any fun kv => decide (kv.1 = k)) = true then kvs.map (fun kv => if kv.1 = k then (kv.1, d) else kv) else kvs ++ [(k, d)]
theorem keyD_ct {K : PySem.W.Frag} {γ : Hp} {y : V} {d : D} {k : Key} (h : keyD d = some k) (r : Rep K γ y d) : y = kV k := by
  cases d <;> first
    | cases h
    | skip
  · exact r.ofInt
  · exact r.ofStr
theorem kvr_nil_l {K : PySem.W.Frag} {γ : Hp} {ws : List (Key × V)} (h : KVR K γ ws []) : ws = [] := by
  have h1 := h.1
  simpa using h1
theorem kvr_cons {K : PySem.W.Frag} {γ : Hp} {ws : List (Key × V)} {q : Key × D} {ds : List (Key × D)} (h : KVR K γ ws (q :: ds)) : ∃ w ws', ws = w :: ws' ∧ w.1 = q.1 ∧ Rep K γ w.2 q.2 ∧ KVR K γ ws' ds := by
  cases ws with
  | nil => have := h.1; simp at this
  | cons w ws' =>
    have h1 : w.1 = q.1 ∧ ws'.map (·.1) = ds.map (·.1) := by simpa using h.1
    have h2 : RepAll K γ (w.2 :: ws'.map (·.2)) (q.2 :: ds.map (·.2)) := h.2
    exact ⟨w, ws', rfl, h1.1, h2.head, h1.2, h2.tail⟩
theorem kvr_get {K : PySem.W.Frag} {γ : Hp} {k : Key} : ∀ {ds : List (Key × D)} {ws : List (Key × V)}, KVR K γ ws ds → (∃ d v, getKD ds k = some d ∧ valV ws k = some v ∧ Rep K γ v d) ∨ (getKD ds k = none ∧ valV ws k = none)
  | [], ws, h => by rw [kvr_nil_l h]; exact .inr ⟨rfl, rfl⟩
  | q :: ds, ws, h => by
    obtain ⟨w, ws', rfl, e1, r, h'⟩ := kvr_cons h
    by_cases hk : q.1 = k
    · refine .inl ⟨q.2, w.2, by simp [getKD, List.find?_cons, hk], valV_pos (by rw [e1, hk]), r⟩
    · have eg : getKD (q :: ds) k = getKD ds k := by simp [getKD, List.find?_cons, hk]
      rw [eg, valV_neg (by rw [e1]; exact hk)]
      exact kvr_get h'
theorem kvr_any {K : PySem.W.Frag} {γ : Hp} {k : Key} {ds : List (Key × D)} {ws : List (Key × V)} (h : KVR K γ ws ds) : (ws.any fun kv => decide (kv.1 = k)) = (ds.any fun kv => decide (kv.1 = k)) := by
  have e1 : (ws.any fun kv => decide (kv.1 = k)) = (ws.map (·.1)).any fun z => decide (z = k) := by rw [List.any_map]; rfl
  have e2 : (ds.any fun kv => decide (kv.1 = k)) = (ds.map (·.1)).any fun z => decide (z = k) := by rw [List.any_map]; rfl
  rw [e1, e2, h.1]
theorem kvr_map {K : PySem.W.Frag} {γ : Hp} {k : Key} {v : V} {d : D} (rv : Rep K γ v d) : ∀ {ds : List (Key × D)} {ws : List (Key × V)}, KVR K γ ws ds → KVR K γ (ws.map fun kv => if kv.1 = k then (kv.1, v) else kv) (ds.map fun kv => if kv.1 = k then (kv.1, d) else kv)
  | [], ws, h => by rw [kvr_nil_l h]; exact ⟨rfl, .nil⟩
  | q :: ds, ws, h => by
    obtain ⟨w, ws', rfl, e1, r, h'⟩ := kvr_cons h
    have ih := kvr_map (k := k) rv h'
    by_cases hk : q.1 = k
    · have hw : w.1 = k := by rw [e1, hk]
      refine ⟨?_, ?_⟩
      · rw [List.map_cons, List.map_cons, List.map_cons, List.map_cons, if_pos hw, if_pos hk, ih.1, e1]
      · rw [List.map_cons, List.map_cons, List.map_cons, List.map_cons, if_pos hw, if_pos hk]
        exact .cons rv ih.2
    · have hw : ¬ w.1 = k := by rw [e1]; exact hk
      refine ⟨?_, ?_⟩
      · rw [List.map_cons, List.map_cons, List.map_cons, List.map_cons, if_neg hw, if_neg hk, ih.1, e1]
      · rw [List.map_cons, List.map_cons, List.map_cons, List.map_cons, if_neg hw, if_neg hk]
        exact .cons r ih.2
theorem kvr_put {K : PySem.W.Frag} {γ : Hp} {k : Key} {v : V} {d : D} (rv : Rep K γ v d) {ds : List (Key × D)} {ws : List (Key × V)} (h : KVR K γ ws ds) : KVR K γ (putK ws k v) (putKD ds k d) := by
  unfold putK putKD
  rw [kvr_any h]
  by_cases hc : (ds.any fun kv => decide (kv.1 = k)) = true
  · rw [if_pos hc, if_pos hc]; exact kvr_map rv h
  · rw [if_neg hc, if_neg hc]
    exact ⟨by rw [List.map_append, List.map_append, h.1]; rfl, by rw [List.map_append, List.map_append]; exact h.2.append (.cons rv .nil)⟩
theorem putKD_keys {k : Key} {d : D} : ∀ ds : List (Key × D), (ds.map fun kv => if kv.1 = k then (kv.1, d) else kv).map (·.1) = ds.map (·.1)
  | [] => rfl
  | q :: ds => by
    rw [List.map_cons, List.map_cons, List.map_cons, putKD_keys ds]
    split <;> rfl
theorem putKD_nd {k : Key} {d : D} {ds : List (Key × D)} (h : (ds.map (·.1)).Nodup) : ((putKD ds k d).map (·.1)).Nodup := by
  unfold putKD
  by_cases hc : (ds.any fun kv => decide (kv.1 = k)) = true
  · rw [if_pos hc, putKD_keys]; exact h
  · rw [if_neg hc, List.map_append, List.nodup_append]
    refine ⟨h, by simp, fun x hx y hy => ?_⟩
    have hy' : y = k := by simpa using hy
    subst hy'
    rintro rfl
    obtain ⟨z, hz, e⟩ := List.mem_map.mp hx
    exact hc (List.any_eq_true.mpr ⟨z, hz, by simpa using e⟩)
theorem putKD_tx {k : Key} {d : D} {ds : List (Key × D)} (h : ∀ z, (Sum.inr z : Key) ∈ ds.map (·.1) → PyData.strOk z = true) (hk : ∀ z, k = Sum.inr z → PyData.strOk z = true) : ∀ z, (Sum.inr z : Key) ∈ (putKD ds k d).map (·.1) → PyData.strOk z = true := by
  intro z hz
  unfold putKD at hz
  by_cases hc : (ds.any fun kv => decide (kv.1 = k)) = true
  · rw [if_pos hc, putKD_keys] at hz; exact h z hz
  · rw [if_neg hc, List.map_append] at hz
    rcases List.mem_append.mp hz with hz | hz
    · exact h z hz
    · exact hk z (by have h2 : Sum.inr z = k := by simpa using hz
                     exact h2.symm)
theorem keyD_tx {K : PySem.W.Frag} {γ : Hp} {y : V} {d : D} {z : Str} (h : keyD d = some (Sum.inr z)) (r : Rep K γ y d) : PyData.strOk z = true := by
  cases d <;> first
    | cases h
    | skip
  exact r.strOk
def getDc (ρ : List Sl) (i : Nat) : W Exc (List (Key × D)) := match ρ[i]? with
  | some (.dic kvs) => .ret kvs
  | _ => .stuck
theorem getDc_run {ρ : List Sl} {i : Nat} {Q : List (Key × D) → Prop} {XX : Exc → Prop} (h : (getDc ρ i).run Q XX) : ∃ xs, ρ[i]? = some (.dic xs) ∧ Q xs := by
  unfold getDc at h
  split at h
  · exact ⟨_, by assumption, h⟩
  · exact h.elim
def dicW (ρ : List Sl) (i : Nat) : W XS (List (Key × D)) := match ρ[i]? with
  | some (.dic xs) => .ret xs
  | _ => .stuck
theorem dicW_run {ρ : List Sl} {i : Nat} {Q : List (Key × D) → Prop} {XX : XS → Prop} (h : (dicW ρ i).run Q XX) : ∃ xs, ρ[i]? = some (.dic xs) ∧ Q xs := by
  unfold dicW at h
  split at h
  · exact ⟨_, by assumption, h⟩
  · exact h.elim
/-- d[k] -/
def lookD (kvs : List (Key × D)) (d : D) : W Exc D := optW (keyD d) fun k => optW (getKD kvs k) .ret
abbrev dgetW (i : Nat) (mk : List Sl → W Exc D) : List Sl → W Exc D := fun ρ => (getDc ρ i).bind fun kvs => (mk ρ).bind (lookD kvs)
theorem pE_dget {i : Nat} {x : Str} {px : Pos} (hu : X.A.units + 1 < cLine) (hN : X.N[i]? = some x) (hv : Vis X.env.scope x) (hd : (x == ("__debug__" : Str)) = false) (hcd : (x == ("__classdict__" : Str)) = false) (hk : PE X e (TEe X Wx mb)) (hs : ∀ l u s p, e ≠ .Slice l u s p) :
    PE X (.Subscript (.Name x px) e pos) (TEe X Wx (dgetW i mb)) := by
  refine pe_of (pe_dget hu (pe_var hN hv hd hcd) hk (noSl_of hs)) fun σ H Q ⟨p, H0, γ, ρ, st, er, hm⟩ => ?_
  obtain ⟨kvs, hi, hm⟩ := getDc_run hm
  obtain ⟨ov, hσ, al, ws, ev, ha, hg, hp, h0, r, nd, ntx⟩ := er.sl i _ hi
  subst ev
  refine ⟨.ref al, hσ, p, H0, γ, ρ, st, er, (mb ρ).mono (fun d h1 γ1 H1 y e1 c1 => ?_) (fun _ q => q) hm⟩
  have ha1 := e1.same al _ hp ha
  obtain ⟨k, hk, h1⟩ := optW_run h1
  obtain ⟨dd, hd, h1⟩ := optW_run h1
  rcases kvr_get (k := k) r with ⟨d', v, g1, g2, rv⟩ | ⟨g1, g2⟩
  · rw [hd] at g1; cases g1
    refine ⟨al, v, rfl, ?_, h1 γ1 H1 v e1 (rv.mono e1.gg)⟩
    rw [keyD_ct hk c1, ← g2]
    exact .k ha1
  · rw [hd] at g1; cases g1
/-- d.get(k, x) -/
def lookD2 (kvs : List (Key × D)) (d z : D) : W Exc D := optW (keyD d) fun k => .ret ((getKD kvs k).getD z)
abbrev dget2W (i : Nat) (mk mz : List Sl → W Exc D) : List Sl → W Exc D := fun ρ => (getDc ρ i).bind fun kvs => (mk ρ).bind fun d => (mz ρ).bind fun z => lookD2 kvs d z
theorem pE_dget2 {i : Nat} {x : Str} {px : Pos} (hu : X.A.units + 1 < cLine) (hN : X.N[i]? = some x) (hv : Vis X.env.scope x) (hd : (x == ("__debug__" : Str)) = false) (hcd : (x == ("__classdict__" : Str)) = false) (hk : PE X e (TEe X Wx mb)) (hz : PE X f (TEe X Wx mc)) (hs : ∀ e' p, e ≠ .Starred e' p) (hs2 : ∀ e' p, f ≠ .Starred e' p) (hline : (apos.endLine == pos.line) = true) :
    PE X (.Call (.Attribute (.Name x px) "get" apos) [e, f] [] pos) (TEe X Wx (dget2W i mb mc)) := by
  refine pe_of (pe_dget2 hu (pe_var hN hv hd hcd) hk hz ⟨rfl, by rw [star1 hs, star1 hs2]; rfl, hline, by rw [star1 hs, star1 hs2]; rfl⟩) fun σ H Q ⟨p, H0, γ, ρ, st, er, hm⟩ => ?_
  obtain ⟨kvs, hi, hm⟩ := getDc_run hm
  obtain ⟨ov, hσ, al, ws, ev, ha, hg, hp, h0, r, nd, ntx⟩ := er.sl i _ hi
  subst ev
  refine ⟨.ref al, hσ, al, rfl, .inl ⟨ws, .inl ha⟩, p, H0, γ, ρ, st, er, (mb ρ).mono (fun d h1 γ1 H1 y e1 c1 => ?_) (fun _ q => q) hm⟩
  refine ⟨p, H0, γ1, ρ, e1.st, er.ext e1, (mc ρ).mono (fun z h2 γ2 H2 yz e2 c2 => ?_) (fun _ q => q.ext st e1) h1⟩
  have e12 := Ext.trans st e1 e2
  have ha1 := e12.same al _ hp ha
  obtain ⟨k, hk, h2⟩ := optW_run h2
  refine ⟨valV ws k, by rw [keyD_ct hk c1]; exact .k ha1, ?_⟩
  rcases kvr_get (k := k) r with ⟨d', v, g1, g2, rv⟩ | ⟨g1, g2⟩
  · rw [g2]; rw [g1] at h2
    exact h2 γ2 H2 v e12 (rv.mono e12.gg)
  · rw [g2]; rw [g1] at h2
    exact h2 γ2 H2 yz e12 c2
section
variable {p : Option Addr} {γ0 H0 : Hp} {st : Stmt}
/-- x = {} -/
theorem pS_newD {i : Nat} {x : Str} {pos' dpos : Pos} (st0 : Stt X.K p γ0 H0) (hN : X.N.Nodup) (hi : X.N[i]? = some x) (hx : Loc X.env.scope x) (hf : X.fn x = true ∨ X.env.scope.names.lookup x = some .local) (hs : swapsWith (.Dict [] [] dpos) (some (.Name x pos')) pos.line X.env = pure false) :
    PS X (.Assign [.Name x pos'] (.Dict [] [] dpos) pos) (TSs X Wx p γ0 H0 fun ρ => .ret (.nx (ρ.set i (.dic [])))) := by
  refine ps_of (ps_set hN hi hx pe_dnewK hs hf) fun E σ H ⟨γ, ρ, e0, er, hm⟩ => ?_
  intro q hq
  have e1 : Ext X.K p γ H γ (upd H q (.dK [])) := .own e0.st hq
  have hp : p ≠ some q := fun hp => by
    obtain ⟨_, _, _, _, _, _, _, f1, _⟩ := e0.st.pool q hp
    rw [hq] at f1; cases f1
  have ng : γ q = none := by
    cases z : γ q with
    | none => rfl
    | some o => have := e0.st.sub q o z; rw [hq] at this; cases this
  refine hm γ _ _ (.refl _) (Ext.trans st0 e0 e1) ((er.ext e1).set (s := .dic []) ⟨q, [], rfl, upd_same, ng, hp, e0.fre st0 hq, ⟨rfl, .nil⟩, List.nodup_nil, fun _ h => by cases h⟩ (fun _ e => by cases e) (fun _ _ j ys hj hy => ?_))
  obtain ⟨ov, f1, b, ws, f2, f3, _⟩ := er.sl j _ hy
  rw [f1, f2]
  intro z
  cases z
  rw [hq] at f3; cases f3
/-- the own dict of slot i takes other items -/
theorem dic_mut {K : PySem.W.Frag} {γ H : Hp} {σ : St} {ρ : List Sl} (st0 : Stt K p γ0 H0) (e0 : Ext K p γ0 H0 γ H) (er : EnvR K p H0 γ H σ ρ) {i : Nat} {xs ys : List (Key × D)} {al : Addr} {vs ws : List (Key × V)} (hi : ρ[i]? = some (.dic xs)) (hσ : σ[i]? = some (some (.ref al))) (ha : H al = some (.dK vs)) (hg : γ al = none) (hp : p ≠ some al) (h0 : H0 al = none)
    (r : KVR K γ ws ys) (nd : (ys.map (·.1)).Nodup) (ntx : ∀ z, (Sum.inr z : Key) ∈ ys.map (·.1) → PyData.strOk z = true) : Ext K p γ0 H0 γ (upd H al (.dK ws)) ∧ EnvR K p H0 γ (upd H al (.dK ws)) σ (ρ.set i (.dic ys)) := by
  have hl : i < ρ.length := (List.getElem?_eq_some_iff.mp hi).1
  refine ⟨Ext.mut st0 e0 h0 hg, by simp [er.len], fun j s q => ?_, fun j k us zs hjk q1 q2 => ?_, fun j k us zs hjk q1 q2 => ?_⟩
  · by_cases hj : i = j
    · subst hj
      rw [List.getElem?_set_self hl] at q; cases q
      exact ⟨_, hσ, al, ws, rfl, upd_same, hg, hp, h0, r, nd, ntx⟩
    · rw [List.getElem?_set_ne hj] at q
      obtain ⟨ov, e1, z⟩ := er.sl j s q
      refine ⟨ov, e1, ?_⟩
      cases s with
      | un => trivial
      | val d => exact z
      | own us =>
        obtain ⟨b, bs, g1, g2, g3, g4, g5, g6⟩ := z
        have hb : b ≠ al := fun z => by rw [z, ha] at g2; cases g2
        exact ⟨b, bs, g1, by rw [upd_ne hb]; exact g2, g3, g4, g5, g6⟩
      | dic us =>
        obtain ⟨b, bs, g1, g2, g3, g4, g5, g6, g7⟩ := z
        have hb : b ≠ al := fun z => er.apd i j xs us hj hi q (by rw [hσ, e1, g1, z])
        exact ⟨b, bs, g1, by rw [upd_ne hb]; exact g2, g3, g4, g5, g6, g7⟩
      | pool => exact z
  · have hj : i ≠ j := fun hj => by subst hj; rw [List.getElem?_set_self hl] at q1; cases q1
    have hk : i ≠ k := fun hk => by subst hk; rw [List.getElem?_set_self hl] at q2; cases q2
    rw [List.getElem?_set_ne hj] at q1
    rw [List.getElem?_set_ne hk] at q2
    exact er.ap j k us zs hjk q1 q2
  · by_cases hj : i = j
    · subst hj
      by_cases hk : i = k
      · exact absurd hk hjk
      · rw [List.getElem?_set_ne hk] at q2
        exact er.apd i k xs zs hk hi q2
    · rw [List.getElem?_set_ne hj] at q1
      by_cases hk : i = k
      · subst hk
        exact er.apd j i us xs (fun z => hj z.symm) q1 hi
      · rw [List.getElem?_set_ne hk] at q2
        exact er.apd j k us zs hjk q1 q2
/-- x[k] = e -/
abbrev putW (i : Nat) (mk me : List Sl → W Exc D) : S := fun ρ => (lf ρ (me ρ)).bind fun v => (dicW ρ i).bind fun kvs => (lf ρ (mk ρ)).bind fun d => (lf ρ (optW (keyD d) .ret)).bind fun k => (W.ask (kvs.length < sizeLine)).bind fun _ => .ret (.nx (ρ.set i (.dic (putKD kvs k v))))
theorem pS_put {i : Nat} {x : Str} {px psub : Pos} {j : Expr} (hu : X.A.units + 1 < cLine) (st0 : Stt X.K p γ0 H0) (hN : X.N[i]? = some x) (hv : Vis X.env.scope x) (hd : (x == ("__debug__" : Str)) = false) (hcd : (x == ("__classdict__" : Str)) = false)
    (hj : PE X j (TEe X Wx mb)) (he : PE X e (TEe X Wx ma)) (hs : swapsWith e (some (.Subscript (.Name x px) j psub)) pos.line X.env = pure false) :
    PS X (.Assign [.Subscript (.Name x px) j psub] e pos) (TSs X Wx p γ0 H0 (putW i mb ma)) := by
  refine ps_of (ps_dput hu (pe_var hN hv hd hcd) hj he hs) fun E σ H ⟨γ, ρ, e0, er, hm⟩ => ?_
  refine ⟨p, H0, γ, ρ, e0.st, er, (ma ρ).mono (fun v h1 γ1 H1 y e1 c1 => ?_) (fun x q => q.toE st0 e0 er (.refl _)) hm⟩
  have e01 := Ext.trans st0 e0 e1
  have er1 := er.ext e1
  obtain ⟨kvs, hi, h1⟩ := dicW_run h1
  obtain ⟨ov, hσ, al, ws, ev, ha, hg, hp, h0, r, nd, ntx⟩ := er1.sl i _ hi
  subst ev
  refine ⟨.ref al, hσ, p, H0, γ1, ρ, e1.st, er1, (mb ρ).mono (fun d h2 γ2 H2 z e2 c2 => ?_) (fun x q => q.toE st0 e01 er1 e1.gg) h1⟩
  have ha2 := e2.same al _ hp ha
  obtain ⟨k, hk, h2⟩ := optW_run (show (optW (keyD d) W.ret).run _ _ from h2)
  obtain ⟨hl, h2⟩ := h2
  have r2 := r.mono e2.gg
  have hlen : ws.length = kvs.length := by
    have := congrArg List.length r.1
    simpa using this
  obtain ⟨q1, q2⟩ := dic_mut st0 (Ext.trans st0 e01 e2) (er1.ext e2) hi hσ ha2 (e2.gnone hg ha) hp h0 (kvr_put (k := k) (c1.mono e2.gg) r2) (putKD_nd nd) (putKD_tx ntx (fun z hz => by subst hz; exact keyD_tx hk c2))
  refine ⟨al, _, rfl, ?_, h2 γ2 _ σ (e1.gg.trans e2.gg) q1 q2⟩
  rw [keyD_ct hk c2]
  exact .k ha2 (by rw [hlen]; exact hl)
end
end
end Ev

/-! Ev11: augmented assignments; parallel assignments; raise, try. -/
namespace Ev
open PySem PySem.Spec PyProof.Rows L2 HT
theorem noI_tup : typeLookup (.type "tuple") (dunderI "add") = pure none := by first | rfl | decide +kernel | (with_unfolding_all rfl)
section
variable {prog : Program} {w : World} {A : Around} {E : Value → Shared → Prop} {s : Shared}
theorem icat_tup {t b : Addr} {vs ws : List Value} {Q : Value → Shared → Prop} (ht : IsTup s.heap t vs.toArray) (hb : IsTup s.heap b ws.toArray)
    (h0 : vs = [] → Q (.ref b) s) (h1 : ws = [] → Q (.ref t) s) (h2 : Q (.ref s.heap.objs.size) { s with heap := s.heap.push { cls := .type "tuple", data := .seq (vs ++ ws).toArray } })
    (hsz : vs.length + ws.length ≤ sizeLine) : wpAny (model prog w) A (inplaceOp .Add (.ref t) (.ref b)) Q E s := by
  obtain ⟨⟨c1, d1, e1, s1⟩, ho, hc, n, hd⟩ := id ht
  obtain ⟨⟨c2, d2, e2, s2⟩, ho2, hc2, n2, hd2⟩ := id hb
  simp only at hc hd hc2 hd2
  subst hc hd hc2 hd2
  have ee : vs.toArray ++ ws.toArray = (vs ++ ws).toArray := by simp
  refine wpAny_inplaceOp_concat ⟨_, ho, rfl⟩ ⟨_, ho2, rfl⟩ noI_tup noFill_tuple_add seq_tuple_add ?_
  by_cases hv : vs = []
  · subst hv
    exact call_meets PySem.F.slot_tuple_add ⟨_, ho, rfl⟩ PySem.F.entry_tuple_add (PySem.F.args_tuple_add_2 _ _) (tuple_addW0 t b _ _ n n2 d1 d2 s1 s2 (by simp)) ⟨ho, ho2, h0 rfl⟩
  · by_cases hw : ws = []
    · exact call_meets PySem.F.slot_tuple_add ⟨_, ho, rfl⟩ PySem.F.entry_tuple_add (PySem.F.args_tuple_add_2 _ _) (tuple_addW1 t b _ _ n n2 d1 d2 s1 s2 (by simpa using hv) (by simp [hw])) ⟨ho, ho2, h1 hw⟩
    · refine call_meets PySem.F.slot_tuple_add ⟨_, ho, rfl⟩ PySem.F.entry_tuple_add (PySem.F.args_tuple_add_2 _ _) (tuple_addW2 t b _ _ n n2 d1 d2 s1 s2 (by simpa using hv) (by simpa using hw) (by rw [List.size_toArray, List.size_toArray]; exact hsz)) ⟨ho, ho2, ?_⟩
      rw [ee]
      exact h2
end
section
variable {X : Cx} {Wx : WX} {a b c e : Expr} {es rest : List Expr} {pos pp apos : Pos} {ma mb mc me : List Sl → W Exc D} {p : Option Addr} {γ0 H0 : Hp}
theorem iop_catN : OpR X (inplaceOp .Add) (rCatN X.K) := by
  intro pins s σ H x y v u Q I rx ry h
  obtain ⟨al, bl, xs, ys, rfl, rfl, ha, hb, hz, q0, q1, q2⟩ := h
  cases rx
  cases ry
  obtain ⟨its, r1, p1, _⟩ := I.tuple ha
  obtain ⟨its2, r2, p2, _⟩ := I.tuple hb
  refine icat_tup p1 p2 (fun z => ⟨.ref bl, H, I, rfl, q0 (r1.nil_iff.mp z)⟩) (fun z => ⟨.ref al, H, I, rfl, q1 (r2.nil_iff.mp z)⟩) ?_ (by rw [← r1.length, ← r2.length]; exact hz)
  exact ⟨.ref s.heap.objs.size, _, laidT I (r1.append r2) (by rw [List.length_append]; exact hz), rfl, q2 _ _ rfl (I.hok.fresh (Nat.le_refl _))⟩
abbrev rIAdd (K : PySem.W.Frag) : R2 := fun x y H Q => ((rInt (· + ·) x y H Q ∨ rCatN K x y H Q) ∨ ∃ i j, x = .str i ∧ y = .str j ∧ i.length + j.length ≤ sizeLine ∧ Q (.str (i ++ j)) H)
theorem iop_addD : OpR X (inplaceOp .Add) (rIAdd X.K) := (iop_add.or iop_catN).or iop_add_str
/-- x += e, of what stays -/
def iaddD : D → D → W Exc D
  | .list _, _ => .stuck
  | d, e => addD d e
theorem br_iadd {p : Option Addr} {γ H : Hp} {x y : V} {d e : D} {Q : VK} {XX : Exc → Prop} (st : Stt X.K p γ H) (cx : Ct X.K p γ H x d) (cy : Ct X.K p γ H y e) (h : (iaddD d e).run (Post X.K p γ H Q) XX) : rIAdd X.K x y H Q := by
  cases d <;> cases e <;> first
    | exact False.elim h
    | skip
  · exact .inl (.inl ⟨_, _, ct_int cx, ct_int cy, Post.int h st⟩)
  · exact .inr ⟨_, _, (ct_str cx).1, (ct_str cy).1, h.1, Post.str h.2 st (strOk_app (ct_str cx).2 (ct_str cy).2)⟩
  · rename_i ds es
    obtain ⟨al, vs, rfl, ha, ra⟩ := ct_tup cx
    obtain ⟨bl, ws, rfl, hb, rb⟩ := ct_tup cy
    have h2 : Post X.K p γ H Q (.tuple (ds ++ es)) := h.2
    refine .inl (.inr ⟨al, bl, vs, ws, rfl, rfl, (ha.mono st.sub).sq, (hb.mono st.sub).sq, by rw [ra.length, rb.length]; exact h.1, fun z => ?_, fun z => ?_, fun l o od n => Post.tup h2 st (ra.append rb) l o od n⟩)
    · subst z
      have : ds = [] := List.length_eq_zero_iff.mp (by rw [← ra.length]; rfl)
      subst this
      exact Post.here h2 st (Rep.tup hb rb)
    · subst z
      have : es = [] := List.length_eq_zero_iff.mp (by rw [← rb.length]; rfl)
      subst this
      rw [List.append_nil] at h2
      exact Post.here h2 st (Rep.tup ha ra)
theorem pS_aug {i : Nat} {x : Str} {pos' : Pos} (st0 : Stt X.K p γ0 H0) (hN : X.N.Nodup) (hi : X.N[i]? = some x) (hx : Loc X.env.scope x) (hf : X.fn x = true ∨ X.env.scope.names.lookup x = some .local) (he : PE X e (TEe X Wx me)) :
    PS X (.AugAssign (.Name x pos') .Add e pos) (TSs X Wx p γ0 H0 fun ρ => (lf ρ (getV ρ i)).bind fun d => (lf ρ (me ρ)).bind fun f => (lf ρ (iaddD d f)).bind fun z => .ret (.nx (ρ.set i (.val z)))) := by
  refine ps_of (ps_aug hN hi hx he (ti := rIAdd X.K) iop_addD hf) fun E σ H ⟨γ, ρ, e0, er, hm⟩ => ?_
  have hm' : (getV ρ i).run (fun d => ((lf ρ (me ρ)).bind fun f => (lf ρ (iaddD d f)).bind fun z => .ret (.nx (ρ.set i (.val z)))).run (PostS X.K p γ0 H0 γ E) (ExS X.K X.mg Wx p γ0 H0 γ)) (fun x => ExS X.K X.mg Wx p γ0 H0 γ (x, ρ)) := hm
  unfold getV at hm'
  split at hm'
  · rename_i d hd
    obtain ⟨v, e1, r⟩ := er.val hd
    refine ⟨v, e1, p, H0, γ, ρ, e0.st, er, (me ρ).mono (fun f h1 γ1 H1 y e1 c1 => ?_) (fun x q => q.toE st0 e0 er (.refl _)) hm'⟩
    refine br_iadd (XX := fun _ => True) e1.st (.inl (r.mono e1.gg)) (.inl c1) ((iaddD d f).mono (fun z q γ2 H2 u e2 r2 => ?_) (fun _ _ => trivial) h1)
    have e12 := Ext.trans e0.st e1 e2
    exact q γ2 H2 _ e12.gg (Ext.trans st0 e0 e12) ((er.ext e12).setVal r2)
  · exact hm'.elim

/-! ### raise, try -/
section
variable {m ms : S}
abbrev raiseW (x : Str) (ml : List Sl → W Exc (List D)) : S := fun ρ => (lf ρ (ml ρ)).bind fun ds => (W.ask (ds.length ≤ sizeLine)).bind fun _ => .err (⟨x, []⟩, ρ)
theorem pS_raise {x : Str} {C : Addr} {ml : List Sl → W Exc (List D)} (st0 : Stt X.K p γ0 H0) (hc : X.calm = true) (tk : Takes X Wx) (q : PySem.W.excIn X.K C He.veBase "ValueError.__new__" = true) (gC : X.mg x = some (.ref C)) (kC : PySem.W.keepIn X.K (.ref C) = true)
    (r : Raises X (.ref C)) (hg : Gl X x) (ha : PA X (e :: es) (TAl X Wx ml)) (hdb : (x == ("__debug__" : Str)) = false) (he : starEach (e :: es) X.env = (false, eval e X.env) :: starEach es X.env) (hpl : (backTo pos (starEach es X.env)).any (·.1) = false) :
    PS X (.Raise (some (.Call (.Name x pp) (e :: es) [] pos)) none apos) (TSs X Wx p γ0 H0 (raiseW x ml)) := by
  refine ps_of (ps_raise hc tk (pmk_ownA PySem.F.excBase_ValueError q gC kC r hg ha hdb he hpl)) fun E σ H ⟨γ, ρ, e0, er, hm⟩ => ?_
  refine ⟨p, H0, γ, ρ, e0.st, er, (ml ρ).mono (fun ds h1 γ1 H1 vs e1 r1 => ?_) (fun x q => q.toE st0 e0 er (.refl _)) hm⟩
  obtain ⟨hz, h1⟩ := h1
  exact ⟨by rw [r1.length]; exact hz, h1 γ1 H1 σ (.ref C) none e1.gg (Ext.trans st0 e0 e1) (er.ext e1) ⟨C, gC, rfl, rfl, rfl⟩⟩
/-- try: body except n: suite -/
abbrev tryW (ex : Str → Option Bool) (mb ms : S) : S := fun ρ => (mb ρ).catch_ fun x => match ex x.1.cls with
  | some true => ms x.2
  | some false => .err x
  | none => .stuck
theorem pS_try {n : Str} {Cn : Addr} {body suite : List Stmt} {b₀ : Stmt} {np pos' : Pos} {ex : Str → Option Bool} {mb ms : S} (st0 : Stt X.K p γ0 H0) (hs : X.stack = X.env :: X.outer) (hf : X.env.frame = some X.env.locals) (hc : Names X n (.ref Cn)) (tk : Takes X Wx)
    (hex : ∀ y b C, ex y = some b → X.mg y = some (.ref C) → PySem.W.exmOne X.K (.ref C) (.ref Cn) = some b)
    (hb : ∀ (W : WX) (pn : List (Addr × Obj)) (xe : Value → Shared → Prop), Takes (X.tr pn xe) W → PassesOwn (model X.prog X.w) X.A X.env xe → PSs (X.tr pn xe) body (RdS X.K X.mg W p γ0 H0 mb))
    (hsu : ∀ (al : Addr) (oe : Obj) (cls : Value) (d : Option Addr) (pn : List (Addr × Obj)), Zc cls d oe → (∃ vs, oe.data = .fields vs) → PSs (X.suite al ((al, oe) :: pn)) (b₀ :: suite) (RdS X.K X.mg W0 p γ0 H0 ms)) (hms : ∀ ρ Q XX, (ms ρ).run Q XX → (ms ρ).run Q fun _ => False) :
    PS X (.Try body [.ExceptHandler (some (.Name n np)) none (b₀ :: suite) pos'] [] [] pos) (TSs X Wx p γ0 H0 (tryW ex mb ms)) := by
  refine ps_of (ps_try_only hs hf hc tk (ts := fun _ _ _ => RdS X.K X.mg W0 p γ0 H0 ms) hb hsu) fun E σ H ⟨γ, ρ, e0, er, hm⟩ => ?_
  refine ⟨γ, ρ, e0, er, (mb ρ).mono (fun _ q => q) (fun x hx => ?_) hm⟩
  intro γ' H' σ' cc dd s' e' er' rx
  obtain ⟨C, gC, rfl, f0, f1⟩ := rx
  have hx' : (match ex x.1.cls with | some true => ms x.2 | some false => .err x | none => .stuck : W XS Out).run (PostS X.K p γ0 H0 γ E) (ExS X.K X.mg Wx p γ0 H0 γ) := hx
  cases q : ex x.1.cls with
  | none => rw [q] at hx'; exact hx'.elim
  | some bb =>
    refine ⟨bb, hex _ _ _ q gC, fun hb _ _ => ?_, fun hb => ?_⟩
    · subst hb
      rw [q] at hx'
      exact ⟨γ', x.2, e', er', (ms x.2).mono (fun o z => z.mono s') (fun _ z => z.elim) (hms _ _ _ hx')⟩
    · subst hb
      rw [q] at hx'
      exact hx' γ' H' σ' _ dd s' e' er' ⟨C, gC, rfl, f0, f1⟩
end
end
end Ev

/-! Ev12: operations by name; forms of the text looked at; wrappers of comprehensions. -/
namespace Ev
open PySem PySem.Spec PyProof.Rows L2

/-! ### operations -/
inductive AO where
  | add | sub | mul | mod | div
  deriving DecidableEq
def AO.op : AO → D → D → W Exc D
  | .add => addD
  | .sub => subD
  | .mul => mulD
  | .mod => modD
  | .div => divD
def AO.ast : AO → Operator
  | .add => .Add
  | .sub => .Sub
  | .mul => .Mult
  | .mod => .Mod
  | .div => .FloorDiv
inductive CO where
  | eq | ne | lt | le | gt | ge | is | isn | inn | nin
  deriving DecidableEq
def CO.op : CO → D → D → W Exc Bool
  | .eq => eqD false
  | .ne => eqD true
  | .lt => ltD fun i j => decide (i < j)
  | .le => ltD fun i j => decide (i ≤ j)
  | .gt => ltD fun i j => decide (j < i)
  | .ge => ltD fun i j => decide (j ≤ i)
  | .is => isD false
  | .isn => isD true
  | .inn => inD false
  | .nin => inD true
def CO.ast : CO → CmpOp
  | .eq => .Eq
  | .ne => .NotEq
  | .lt => .Lt
  | .le => .LtE
  | .gt => .Gt
  | .ge => .GtE
  | .is => .Is
  | .isn => .IsNot
  | .inn => .In
  | .nin => .NotIn
inductive BI where
  | len | int | tup | all | any | sum | min | max | abs
  deriving DecidableEq
def BI.op : BI → D → W Exc D
  | .len => lenD
  | .int => intD
  | .tup => tupleD
  | .all => allD
  | .any => anyD
  | .sum => sumD
  | .min => minD
  | .max => maxD
  | .abs => absD
def BI.nm : BI → Str
  | .len => "len"
  | .int => "int"
  | .tup => "tuple"
  | .all => "all"
  | .any => "any"
  | .sum => "sum"
  | .min => "min"
  | .max => "max"
  | .abs => "abs"
inductive B2 where
  | min | max
  deriving DecidableEq
def B2.op : B2 → D → D → W Exc D
  | .min => min2D
  | .max => max2D
def B2.nm : B2 → Str
  | .min => "min"
  | .max => "max"
inductive Ty where
  | bool | int | str | list | tuple
  deriving DecidableEq
def Ty.s : Ty → _root_.String
  | .bool => "bool"
  | .int => "int"
  | .str => "str"
  | .list => "list"
  | .tuple => "tuple"
def Ty.nm : Ty → Str
  | .bool => "bool"
  | .int => "int"
  | .str => "str"
  | .list => "list"
  | .tuple => "tuple"
section
variable {X : Cx}
theorem AO.ok (o : AO) : ∃ r, OpR X (binaryOp o.ast) r ∧ Br2 X.K o.op r := by
  cases o
  · exact ⟨_, op_addD, br_add⟩
  · exact ⟨_, op_sub, br_sub⟩
  · exact ⟨_, op_mul, br_mul⟩
  · exact ⟨_, op_mod, br_mod⟩
  · exact ⟨_, op_fdiv, br_div⟩
theorem CO.ok (hu : X.A.units + 65 < cLine) (o : CO) : ∃ r, OpR X (compareOp o.ast) r ∧ BrC X.K o.op r := by
  cases o
  · exact ⟨_, op_eqD (by omega), br_eq⟩
  · exact ⟨_, op_neD (by omega), br_ne⟩
  · exact ⟨_, op_lt, br_lt⟩
  · exact ⟨_, op_le, br_lt⟩
  · exact ⟨_, op_gt, br_lt⟩
  · exact ⟨_, op_ge, br_lt⟩
  · exact ⟨_, op_isN, br_is⟩
  · exact ⟨_, op_notN, br_isnot⟩
  · exact ⟨_, op_inAll hu, br_in⟩
  · exact ⟨_, op_notInAll hu, br_notIn⟩
theorem boot_len' : bootBuiltins "len" = some (.builtin "len") := by decide +kernel
theorem BI.ok (hc : X.calm = true) (o : BI) : (∃ id r, CallR X (.builtin id) r ∧ BrK1 X.K o.op r ∧ bootBuiltins o.nm = some (.builtin id)) ∨ (∃ id r, CallR X (.type id) r ∧ BrK1 X.K o.op r ∧ bootBuiltins o.nm = some (.type id)) := by
  cases o
  · exact .inl ⟨_, _, call_lenG, br_len, by decide +kernel⟩
  · exact .inr ⟨_, _, call_int1, br_int, by decide +kernel⟩
  · exact .inr ⟨_, _, call_tupleN, br_tuple, by decide +kernel⟩
  · exact .inl ⟨_, _, cr_all hc, br_all, by decide +kernel⟩
  · exact .inl ⟨_, _, cr_any hc, br_any, by decide +kernel⟩
  · exact .inl ⟨_, _, cr_sum hc, br_sum, by decide +kernel⟩
  · exact .inl ⟨_, _, cr_min hc, br_min, by decide +kernel⟩
  · exact .inl ⟨_, _, cr_max hc, br_max, by decide +kernel⟩
  · exact .inl ⟨_, _, call_abs, br_abs, by decide +kernel⟩
theorem BI.nn (o : BI) : o.nm ≠ "__name__" ∧ (o.nm == ("__debug__" : Str)) = false := by
  cases o <;> exact ⟨by decide +kernel, by decide +kernel⟩
theorem B2.ok (hc : X.calm = true) (o : B2) : ∃ id r, CallR X (.builtin id) r ∧ BrK2 X.K o.op r ∧ bootBuiltins o.nm = some (.builtin id) := by
  cases o
  · exact ⟨_, _, call_min2 hc, br_min2, by decide +kernel⟩
  · exact ⟨_, _, call_max2 hc, br_max2, by decide +kernel⟩
theorem B2.nn (o : B2) : o.nm ≠ "__name__" ∧ (o.nm == ("__debug__" : Str)) = false := by
  cases o <;> exact ⟨by decide +kernel, by decide +kernel⟩
theorem Ty.ok (t : Ty) : t.s ∈ ["bool", "int", "str", "list", "tuple"] ∧ bootBuiltins t.nm = some (.type t.s) ∧ t.nm ≠ "__name__" ∧ (t.nm == ("__debug__" : Str)) = false := by
  cases t <;> exact ⟨by decide +kernel, by decide +kernel, by decide +kernel, by decide +kernel⟩
end

/-! ### forms -/
theorem and2 {a b : Bool} (h : (a && b) = true) : a = true ∧ b = true := by simpa using h
theorem dec1 {p : Prop} [Decidable p] (h : decide p = true) : p := by simpa using h
def ns : Expr → Bool
  | .Starred _ _ => false
  | _ => true
theorem ns_ok {e : Expr} (h : ns e = true) : ∀ e' p, e ≠ .Starred e' p := by
  intro e' p z; subst z; cases h
def nSl : Expr → Bool
  | .Slice _ _ _ _ => false
  | _ => true
theorem nSl_ok {e : Expr} (h : nSl e = true) : ∀ l u s p, e ≠ .Slice l u s p := by
  intro l u s p z; subst z; cases h
def nSet : Expr → Bool
  | .Set _ _ _ => false
  | _ => true
theorem nSet_ok {e : Expr} (h : nSet e = true) (env : Env) (x : Value) : foldedSetIterable e env x = pure x := by
  cases e <;> first
    | rfl
    | cases h
theorem nSet_mark {e : Expr} (h : nSet e = true) (o : CmpOp) : behindInMarks o e = false := by
  cases e <;> first
    | rfl
    | cases h
def nT : Expr → Bool
  | .UnaryOp .Not _ _ => false
  | .BoolOp _ _ _ => false
  | .IfExp _ _ _ _ => false
  | .Compare _ _ _ _ => false
  | _ => true
theorem nT_ok {e : Expr} (h : nT e = true) (env : Env) (whole : Sem Value) : isTrue e env whole = (do let v ← whole; standAt e.pos; holding [v] (truthy v)) :=
  plainT (fun _ _ z => by subst z; cases h) (fun _ _ _ z => by subst z; cases h) (fun _ _ _ _ z => by subst z; cases h) (fun _ _ _ _ z => by subst z; cases h) env whole
def nSup : Expr → Bool
  | .Call (.Name _ _) [] [] _ => false
  | _ => true
theorem nSup_ok {o : Expr} (h : nSup o = true) (attr : Str) (env : Env) (whole : Sem Value) : attributeBase o attr env whole = whole := by
  unfold attributeBase
  split
  · cases h
  · rfl
def isLc : Expr → Bool
  | .ListComp _ _ _ _ => true
  | .SetComp _ _ _ _ => true
  | .DictComp _ _ _ _ _ => true
  | _ => false
theorem sw_not {e : Expr} (h : isLc e = false) (t : Option Expr) (l : Nat) (env : Env) : swapsWith e t l env = pure false := by
  cases e <;> first
    | rfl
    | cases h
def okNm (x : Str) : Bool := !(x == ("__debug__" : Str)) && !(x == ("__classdict__" : Str))
theorem okNm_ok {x : Str} (h : okNm x = true) : (x == ("__debug__" : Str)) = false ∧ (x == ("__classdict__" : Str)) = false := by
  simpa [okNm] using h
def visB (sc : Scope) (x : Str) : Bool := match sc.names.lookup x with
  | some .local => true
  | some .cell => true
  | some .free => true
  | _ => false
theorem visB_ok {sc : Scope} {x : Str} (h : visB sc x = true) : Vis sc x := by
  unfold visB at h
  split at h
  · exact .inl (by assumption)
  · exact .inr (.inl (by assumption))
  · exact .inr (.inr (by assumption))
  · cases h
def lokB (sc : Scope) (x : Str) : Bool := match sc.names.lookup x with
  | some .local => true
  | some .cell => true
  | _ => false
theorem lokB_ok {sc : Scope} {x : Str} (h : lokB sc x = true) : Loc sc x := by
  unfold lokB at h
  split at h
  · exact .inl (by assumption)
  · exact .inr (by assumption)
  · cases h
def gloB (sc : Scope) (x : Str) : Bool := match sc.names.lookup x with
  | some .globalImplicit => !(x == ("__debug__" : Str))
  | _ => false
theorem gloB_ok {X : Cx} {x : Str} (h : gloB X.env.scope x = true) : Gl X x ∧ (x == ("__debug__" : Str)) = false := by
  unfold gloB at h
  split at h
  · rename_i q
    exact ⟨q, by simpa using h⟩
  · cases h
def onNm (e : Expr) (k : Str → Bool) : Bool := match e with
  | .Name x _ => k x
  | _ => false
theorem onNm_ok {e : Expr} {k : Str → Bool} (h : onNm e k = true) : ∃ x p, e = .Name x p ∧ k x = true := by
  cases e <;> first | exact ⟨_, _, rfl, h⟩ | cases h
def onCst (e : Expr) (k : Const → Bool) : Bool := match e with
  | .Constant c _ _ => k c
  | _ => false
theorem onCst_ok {e : Expr} {k : Const → Bool} (h : onCst e k = true) : ∃ c j p, e = .Constant c j p ∧ k c = true := by
  cases e <;> first | exact ⟨_, _, _, rfl, h⟩ | cases h
def onTup (e : Expr) (k : List Expr → Bool) : Bool := match e with
  | .Tuple es _ _ => k es
  | _ => false
theorem onTup_ok {e : Expr} {k : List Expr → Bool} (h : onTup e k = true) : ∃ es j p, e = .Tuple es j p ∧ k es = true := by
  cases e <;> first | exact ⟨_, _, _, rfl, h⟩ | cases h
def onLst (e : Expr) (k : List Expr → Bool) : Bool := match e with
  | .List es _ => k es
  | _ => false
theorem onLst_ok {e : Expr} {k : List Expr → Bool} (h : onLst e k = true) : ∃ es p, e = .List es p ∧ k es = true := by
  cases e <;> first | exact ⟨_, _, rfl, h⟩ | cases h
def onIx (e : Expr) (k : Expr → Expr → Bool) : Bool := match e with
  | .Subscript a b _ => k a b
  | _ => false
theorem onIx_ok {e : Expr} {k : Expr → Expr → Bool} (h : onIx e k = true) : ∃ a b p, e = .Subscript a b p ∧ k a b = true := by
  cases e <;> first | exact ⟨_, _, _, rfl, h⟩ | cases h
def onSl (e : Expr) (k : Option Expr → Option Expr → Bool) : Bool := match e with
  | .Slice l u none _ => k l u
  | _ => false
theorem onSl_ok {e : Expr} {k : Option Expr → Option Expr → Bool} (h : onSl e k = true) : ∃ l u p, e = .Slice l u none p ∧ k l u = true := by
  cases e <;> first | cases h; done | skip
  rename_i l u s p
  cases s <;> first | exact ⟨_, _, _, rfl, h⟩ | cases h
def onBin (e : Expr) (k : Expr → Operator → Expr → Bool) : Bool := match e with
  | .BinOp a o b _ => k a o b
  | _ => false
theorem onBin_ok {e : Expr} {k : Expr → Operator → Expr → Bool} (h : onBin e k = true) : ∃ a o b p, e = .BinOp a o b p ∧ k a o b = true := by
  cases e <;> first | exact ⟨_, _, _, _, rfl, h⟩ | cases h
def onUn (e : Expr) (k : UnaryOp → Expr → Bool) : Bool := match e with
  | .UnaryOp o a _ => k o a
  | _ => false
theorem onUn_ok {e : Expr} {k : UnaryOp → Expr → Bool} (h : onUn e k = true) : ∃ o a p, e = .UnaryOp o a p ∧ k o a = true := by
  cases e <;> first | exact ⟨_, _, _, rfl, h⟩ | cases h
def onCmp (e : Expr) (k : Expr → CmpOp → Expr → Bool) : Bool := match e with
  | .Compare a [o] [b] _ => k a o b
  | _ => false
theorem onCmp_ok {e : Expr} {k : Expr → CmpOp → Expr → Bool} (h : onCmp e k = true) : ∃ a o b p, e = .Compare a [o] [b] p ∧ k a o b = true := by
  unfold onCmp at h
  split at h
  · exact ⟨_, _, _, _, rfl, h⟩
  · cases h
def onCh (e : Expr) (k : Expr → CmpOp → Expr → CmpOp → Expr → Bool) : Bool := match e with
  | .Compare a [o, o'] [b, c] _ => k a o b o' c
  | _ => false
theorem onCh_ok {e : Expr} {k : Expr → CmpOp → Expr → CmpOp → Expr → Bool} (h : onCh e k = true) : ∃ a o b o' c p, e = .Compare a [o, o'] [b, c] p ∧ k a o b o' c = true := by
  unfold onCh at h
  split at h
  · exact ⟨_, _, _, _, _, _, rfl, h⟩
  · cases h
def onBo (e : Expr) (k : BoolOp → List Expr → Bool) : Bool := match e with
  | .BoolOp o es _ => k o es
  | _ => false
theorem onBo_ok {e : Expr} {k : BoolOp → List Expr → Bool} (h : onBo e k = true) : ∃ o es p, e = .BoolOp o es p ∧ k o es = true := by
  cases e <;> first | exact ⟨_, _, _, rfl, h⟩ | cases h
def onIfe (e : Expr) (k : Expr → Expr → Expr → Bool) : Bool := match e with
  | .IfExp c a b _ => k c a b
  | _ => false
theorem onIfe_ok {e : Expr} {k : Expr → Expr → Expr → Bool} (h : onIfe e k = true) : ∃ c a b p, e = .IfExp c a b p ∧ k c a b = true := by
  cases e <;> first | exact ⟨_, _, _, _, rfl, h⟩ | cases h
/-- a call of a name, no keywords -/
def onCall (e : Expr) (k : Str → List Expr → Bool) : Bool := match e with
  | .Call (.Name x _) es [] _ => k x es
  | _ => false
theorem onCall_ok {e : Expr} {k : Str → List Expr → Bool} (h : onCall e k = true) : ∃ x pp es p, e = .Call (.Name x pp) es [] p ∧ k x es = true := by
  unfold onCall at h
  split at h
  · exact ⟨_, _, _, _, rfl, h⟩
  · cases h
def on1 (es : List Expr) (k : Expr → Bool) : Bool := match es with
  | [a] => k a
  | _ => false
theorem on1_ok {es : List Expr} {k : Expr → Bool} (h : on1 es k = true) : ∃ a, es = [a] ∧ k a = true := by
  unfold on1 at h
  split at h
  · exact ⟨_, rfl, h⟩
  · cases h
def on2 (es : List Expr) (k : Expr → Expr → Bool) : Bool := match es with
  | [a, b] => k a b
  | _ => false
theorem on2_ok {es : List Expr} {k : Expr → Expr → Bool} (h : on2 es k = true) : ∃ a b, es = [a, b] ∧ k a b = true := by
  unfold on2 at h
  split at h
  · exact ⟨_, _, rfl, h⟩
  · cases h
def onC {α : Type} (es : List α) (k : α → List α → Bool) : Bool := match es with
  | a :: r => k a r
  | _ => false
theorem onC_ok {α : Type} {es : List α} {k : α → List α → Bool} (h : onC es k = true) : ∃ a r, es = a :: r ∧ k a r = true := by
  cases es with
  | nil => cases h
  | cons a r => exact ⟨_, _, rfl, h⟩
def onO {α : Type} (o : Option α) (k : α → Bool) : Bool := match o with
  | some a => k a
  | none => false
theorem onO_ok {α : Type} {o : Option α} {k : α → Bool} (h : onO o k = true) : ∃ a, o = some a ∧ k a = true := by
  cases o with
  | none => cases h
  | some a => exact ⟨_, rfl, h⟩
/-- a call of a method, no keywords -/
def onMet (e : Expr) (k : Expr → Str → List Expr → Bool) : Bool := match e with
  | .Call (.Attribute o n ap) es [] p => (ap.endLine == p.line) && k o n es
  | _ => false
theorem onMet_ok {e : Expr} {k : Expr → Str → List Expr → Bool} (h : onMet e k = true) : ∃ o n ap es p, e = .Call (.Attribute o n ap) es [] p ∧ (ap.endLine == p.line) = true ∧ k o n es = true := by
  unfold onMet at h
  split at h
  · rw [Bool.and_eq_true] at h
    exact ⟨_, _, _, _, _, rfl, h.1, h.2⟩
  · cases h
def onLc (e : Expr) (k : Expr → List Comprehension → Scope → Bool) : Bool := match e with
  | .ListComp a gs sc _ => k a gs sc
  | _ => false
theorem onLc_ok {e : Expr} {k : Expr → List Comprehension → Scope → Bool} (h : onLc e k = true) : ∃ a gs sc p, e = .ListComp a gs sc p ∧ k a gs sc = true := by
  cases e <;> first | exact ⟨_, _, _, _, rfl, h⟩ | cases h
def onG1 (gs : List Comprehension) (k : Expr → Expr → List Expr → Bool) : Bool := match gs with
  | [⟨tg, it, ifs, 0⟩] => k tg it ifs
  | _ => false
theorem onG1_ok {gs : List Comprehension} {k : Expr → Expr → List Expr → Bool} (h : onG1 gs k = true) : ∃ tg it ifs, gs = [⟨tg, it, ifs, 0⟩] ∧ k tg it ifs = true := by
  unfold onG1 at h
  split at h
  · exact ⟨_, _, _, rfl, h⟩
  · cases h
def onG2 (gs : List Comprehension) (k : Expr → Expr → List Expr → Expr → Expr → List Expr → Bool) : Bool := match gs with
  | [⟨tg, it, ifs, 0⟩, ⟨tg1, it1, ifs1, 0⟩] => k tg it ifs tg1 it1 ifs1
  | _ => false
theorem onG2_ok {gs : List Comprehension} {k : Expr → Expr → List Expr → Expr → Expr → List Expr → Bool} (h : onG2 gs k = true) : ∃ tg it ifs tg1 it1 ifs1, gs = [⟨tg, it, ifs, 0⟩, ⟨tg1, it1, ifs1, 0⟩] ∧ k tg it ifs tg1 it1 ifs1 = true := by
  unfold onG2 at h
  split at h
  · exact ⟨_, _, _, _, _, _, rfl, h⟩
  · cases h

/-! ### targets -/
def tgB (N : List Str) (sc : Scope) (i : Nat) (e : Expr) : Bool := onNm e fun x => decide (N[i]? = some x) && lokB sc x
def tgsB (N : List Str) (sc : Scope) : List Nat → List Expr → Bool
  | [], [] => true
  | i :: is, e :: es => tgB N sc i e && tgsB N sc is es
  | _, _ => false
def chkTg (N : List Str) (sc : Scope) : T → Expr → Bool
  | .nm i, e => tgB N sc i e
  | .tup is, e => onTup e fun es => tgsB N sc is es
section
variable {X : Cx}
/-- every name may be stored -/
def FnAll (X : Cx) : Prop := ∀ x, Loc X.env.scope x → X.fn x = true ∨ X.env.scope.names.lookup x = some .local
theorem pg_nm {i : Nat} {e : Expr} (hN : X.N.Nodup) (hf : FnAll X) (h : tgB X.N X.env.scope i e = true) : PG X e (gName i) := by
  obtain ⟨x, p, rfl, h⟩ := onNm_ok h
  obtain ⟨h1, h2⟩ := and2 h
  exact pg_name hN (dec1 h1) (lokB_ok h2) (hf x (lokB_ok h2))
theorem nm_each {N : List Str} {sc : Scope} {i : Nat} {e : Expr} (h : tgB N sc i e = true) (es : List Expr) (env : Env) : assignEach (e :: es) env = (false, assign e env) :: assignEach es env := by
  obtain ⟨x, p, rfl, h⟩ := onNm_ok h
  rfl
theorem pgs_all (hN : X.N.Nodup) (hf : FnAll X) : ∀ {is : List Nat} {es : List Expr}, tgsB X.N X.env.scope is es = true → PGs X es (gAll is) ∧ (assignEach es X.env).length = is.length ∧ (assignEach es X.env).findIdx? (·.1) = none
  | [], [], _ => ⟨pgs_nil, rfl, rfl⟩
  | [], _ :: _, h => by cases h
  | _ :: _, [], h => by cases h
  | i :: is, e :: es, h => by
    have h' : (tgB X.N X.env.scope i e && tgsB X.N X.env.scope is es) = true := h
    rw [Bool.and_eq_true] at h'
    obtain ⟨a, b, c⟩ := pgs_all hN hf h'.2
    have q := nm_each h'.1 es X.env
    refine ⟨pgs_cons (pg_nm hN hf h'.1) a (by rw [q]; rfl), by rw [q]; simp [b], by rw [q]; simp [List.findIdx?_cons, c]⟩
theorem pg_or {tg : Expr} {t1 t2 : TG} (h1 : PG X tg t1) (h2 : PG X tg t2) : PG X tg (fun v σ H Q => t1 v σ H Q ∨ t2 v σ H Q) := ⟨fun pins s σ H v u Q I r h => by
  rcases h with h | h
  · exact h1.run pins s σ H v u Q I r h
  · exact h2.run pins s σ H v u Q I r h⟩
theorem pg_T {t : T} {e : Expr} (hN : X.N.Nodup) (hf : FnAll X) (hc : X.calm = true) (h : chkTg X.N X.env.scope t e = true) : PG X e (gT X.K t) := by
  cases t with
  | nm i => exact pg_nm hN hf h
  | tup is =>
    obtain ⟨es, k, p, rfl, h⟩ := onTup_ok h
    obtain ⟨a, b, c⟩ := pgs_all hN hf h
    exact pg_or (pg_tup hc a b c) (pg_lst hc a b c)
theorem tg_plain {N : List Str} {sc : Scope} {t : T} {e : Expr} (env : Env) (h : chkTg N sc t e = true) : (assignEach [e] env).map (·.2) = [assign e env] := by
  cases t with
  | nm i => obtain ⟨x, p, rfl, h⟩ := onNm_ok h; rfl
  | tup is => obtain ⟨es, k, p, rfl, h⟩ := onTup_ok h; rfl
end
end Ev

/-! Ev5j: data of the written part. -/
namespace Ev
open PySem PySem.Spec PyProof.Rows L2
section
def uNone (u : Value) : Bool := match u with
  | .none => true
  | _ => false
theorem uNone_ok {u : Value} (h : uNone u = true) : u = .none := by
  cases u <;> first | rfl | cases h
def uBool (u : Value) (k : Bool → Bool) : Bool := match u with
  | .bool c => k c
  | _ => false
theorem uBool_ok {u : Value} {k : Bool → Bool} (h : uBool u k = true) : ∃ c, u = .bool c ∧ k c = true := by
  cases u <;> first | exact ⟨_, rfl, h⟩ | cases h
def uInt (u : Value) (k : Int → Bool) : Bool := match u with
  | .int c _ => k c
  | _ => false
theorem uInt_ok {u : Value} {k : Int → Bool} (h : uInt u k = true) : ∃ c t, u = .int c t ∧ k c = true := by
  cases u <;> first | exact ⟨_, _, rfl, h⟩ | cases h
def uStr (u : Value) (k : Str → Bool) : Bool := match u with
  | .str c _ => k c
  | _ => false
theorem uStr_ok {u : Value} {k : Str → Bool} (h : uStr u k = true) : ∃ c t, u = .str c t ∧ k c = true := by
  cases u <;> first | exact ⟨_, _, rfl, h⟩ | cases h
def uTup (K : PySem.W.Frag) (u : Value) (k : List Value → Bool) : Bool := match u with
  | .ref a => (match K.lookup a with
    | some ⟨.type c, none, .seq its _, _⟩ => decide (c = "tuple") && (decide (its.size ≤ sizeLine) && k its.toList)
    | _ => false)
  | _ => false
theorem uTup_ok {K : PySem.W.Frag} {u : Value} {k : List Value → Bool} (h : uTup K u k = true) : ∃ (a : Addr) (its : Array Value) (n : Nat) (sl : Array (Option Value)), u = .ref a ∧ K.lookup a = some ⟨.type "tuple", none, .seq its n, sl⟩ ∧ its.size ≤ sizeLine ∧ k its.toList = true := by
  cases u <;> first | cases h; done | skip
  rename_i a
  have h : (match K.lookup a with
    | some ⟨.type c, none, .seq its _, _⟩ => decide (c = "tuple") && (decide (its.size ≤ sizeLine) && k its.toList)
    | _ => false) = true := h
  cases q : K.lookup a with
  | none => rw [q] at h; cases h
  | some o =>
    rw [q] at h
    obtain ⟨oc, od, dt, osl⟩ := o
    cases oc with
    | type c =>
      cases od with
      | none =>
        cases dt with
        | seq its n =>
          obtain ⟨h1, h2⟩ := and2 (show (decide (c = "tuple") && (decide (its.size ≤ sizeLine) && k its.toList)) = true from h)
          obtain ⟨h3, h4⟩ := and2 h2
          have e := dec1 h1
          subst e
          exact ⟨a, its, n, osl, rfl, q, dec1 h3, h4⟩
        | _ => cases h
      | some _ => cases dt <;> cases h
    | _ => cases od <;> cases dt <;> cases h
mutual
def repB (K : PySem.W.Frag) : D → Value → Bool
  | .none, u => uNone u
  | .bool b, u => uBool u fun c => decide (b = c)
  | .int i, u => uInt u fun c => decide (i = c)
  | .str z, u => uStr u fun c => decide (z = c) && PyData.strOk z
  | .tuple ds, u => uTup K u fun us => repAllB K ds us
  | .list _, _ => false
  | .dict _, _ => false
def repAllB (K : PySem.W.Frag) : List D → List Value → Bool
  | [], us => us.isEmpty
  | d :: ds, us => onC us fun u r => repB K d u && repAllB K ds r
end
mutual
theorem repB_ok (K : PySem.W.Frag) : ∀ (d : D) (u : Value), repB K d u = true → ∃ v, RelV v u ∧ ∀ γ, Rep K γ v d
  | .none, u, h => by
    rw [repB] at h
    rw [uNone_ok h]
    exact ⟨.non, rfl, fun _ => .non⟩
  | .bool b, u, h => by
    rw [repB] at h
    obtain ⟨c, rfl, h⟩ := uBool_ok h
    have e := dec1 h
    subst e
    exact ⟨.bl b, rfl, fun _ => .bl⟩
  | .int i, u, h => by
    rw [repB] at h
    obtain ⟨c, t, rfl, h⟩ := uInt_ok h
    have e := dec1 h
    subst e
    exact ⟨.int i, ⟨t, rfl⟩, fun _ => .int⟩
  | .str z, u, h => by
    rw [repB] at h
    obtain ⟨c, t, rfl, h⟩ := uStr_ok h
    obtain ⟨h1, h2⟩ := and2 h
    have e := dec1 h1
    subst e
    exact ⟨.str z, ⟨t, rfl⟩, fun _ => .str h2⟩
  | .tuple ds, u, h => by
    rw [repB] at h
    obtain ⟨a, its, n, sl, rfl, q, h3, h4⟩ := uTup_ok h
    obtain ⟨vs, r1, r2⟩ := repAllB_ok K ds its.toList h4
    exact ⟨.ref a, rfl, fun γ => Rep.tup (.inr ⟨_, its, n, q, rfl, rfl, rfl, h3, r1⟩) (r2 γ)⟩
  | .list _, _, h => by rw [repB] at h; cases h
  | .dict _, _, h => by rw [repB] at h; cases h
theorem repAllB_ok (K : PySem.W.Frag) : ∀ (ds : List D) (us : List Value), repAllB K ds us = true → ∃ vs, Vals vs us ∧ ∀ γ, RepAll K γ vs ds
  | [], us, h => by
    rw [repAllB] at h
    cases us with
    | nil => exact ⟨[], .nil, fun _ => .nil⟩
    | cons _ _ => cases h
  | d :: ds, us, h => by
    rw [repAllB] at h
    obtain ⟨u, r, rfl, h⟩ := onC_ok h
    obtain ⟨h1, h2⟩ := and2 h
    obtain ⟨v, r1, r2⟩ := repB_ok K d u h1
    obtain ⟨vs, r3, r4⟩ := repAllB_ok K ds r h2
    exact ⟨v :: vs, .cons r1 r3, fun γ => .cons (r2 γ) (r4 γ)⟩
end
end
end Ev

/-! Ev5k: tables of the module (str keys, ints): k in T, T[k]. -/
namespace Ev
open PySem PySem.Spec PyProof.Rows L2
abbrev Tb := List (Str × Option D)
mutual
def deqD : D → D → Bool
  | .none, .none => true
  | .bool a, .bool b => decide (a = b)
  | .int a, .int b => decide (a = b)
  | .str a, .str b => decide (a = b)
  | .list xs, .list ys => deqAll xs ys
  | .tuple xs, .tuple ys => deqAll xs ys
  | _, _ => false
def deqAll : List D → List D → Bool
  | [], [] => true
  | x :: xs, y :: ys => deqD x y && deqAll xs ys
  | _, _ => false
end
mutual
theorem deqD_ok : ∀ {a b : D}, deqD a b = true → a = b
  | .none, b, h => by cases b <;> first | rfl | (rw [deqD] at h; cases h; done) | (simp [deqD] at h)
  | .bool a, b, h => by cases b <;> simp [deqD] at h; rw [h]
  | .int a, b, h => by cases b <;> simp [deqD] at h; rw [h]
  | .str a, b, h => by cases b <;> simp [deqD] at h; rw [h]
  | .list xs, b, h => by
    cases b <;> simp [deqD] at h
    rw [deqAll_ok h]
  | .tuple xs, b, h => by
    cases b <;> simp [deqD] at h
    rw [deqAll_ok h]
  | .dict _, b, h => by cases b <;> simp [deqD] at h
theorem deqAll_ok : ∀ {a b : List D}, deqAll a b = true → a = b
  | [], [], _ => rfl
  | [], _ :: _, h => by simp [deqAll] at h
  | _ :: _, [], h => by simp [deqAll] at h
  | x :: xs, y :: ys, h => by
    simp [deqAll] at h
    rw [deqD_ok h.1, deqAll_ok h.2]
end
def deqT : Tb → Tb → Bool
  | [], [] => true
  | (x, none) :: t, (y, none) :: s => decide (x = y) && deqT t s
  | (x, some a) :: t, (y, some b) :: s => decide (x = y) && (deqD a b && deqT t s)
  | _, _ => false
theorem deqT_ok : ∀ {t s : Tb}, deqT t s = true → t = s
  | [], [], _ => rfl
  | [], _ :: _, h => by simp [deqT] at h
  | (x, none) :: t, [], h => by simp [deqT] at h
  | (x, some a) :: t, [], h => by simp [deqT] at h
  | (x, none) :: t, (y, none) :: s, h => by
    simp [deqT] at h
    rw [h.1, deqT_ok h.2]
  | (x, none) :: t, (y, some b) :: s, h => by simp [deqT] at h
  | (x, some a) :: t, (y, none) :: s, h => by simp [deqT] at h
  | (x, some a) :: t, (y, some b) :: s, h => by
    simp [deqT] at h
    rw [h.1, deqD_ok h.2.1, deqT_ok h.2.2]
def memT (x : Str) (t : Tb) (l : List (Str × Tb)) : Bool := l.any fun p => decide (x = p.1) && deqT t p.2
theorem memT_ok {x : Str} {t : Tb} {l : List (Str × Tb)} (h : memT x t l = true) : (x, t) ∈ l := by
  obtain ⟨p, hp, q⟩ := List.any_eq_true.mp h
  rw [Bool.and_eq_true] at q
  have e1 : x = p.1 := of_decide_eq_true q.1
  have e2 := deqT_ok q.2
  rw [e1, e2]
  exact hp
def entB (K : PySem.W.Frag) : Option (Option Value) → Option D → Bool
  | some (some u), some d => repB K d u
  | some none, none => true
  | _, _ => false
theorem entB_some {K : PySem.W.Frag} {r : Option (Option Value)} {d : D} (h : entB K r (some d) = true) : ∃ u, r = some (some u) ∧ repB K d u = true := by
  unfold entB at h
  split at h
  · rename_i u d' e
    cases e
    exact ⟨u, rfl, h⟩
  · rename_i e; cases e
  · cases h
theorem entB_none {K : PySem.W.Frag} {r : Option (Option Value)} (h : entB K r none = true) : r = some none := by
  unfold entB at h
  split at h
  · rename_i e; cases e
  · rfl
  · cases h
theorem lookup_mem {z : Str} {o : Option D} : ∀ {t : Tb}, t.lookup z = some o → (z, o) ∈ t
  | [], h => by cases h
  | q :: t, h => by
    rw [List.lookup_cons] at h
    cases e : z == q.1 with
    | true =>
      rw [e] at h
      have e' : z = q.1 := by simpa using e
      cases h
      rw [e']
      exact List.mem_cons_self
    | false =>
      rw [e] at h
      exact List.mem_cons_of_mem _ (lookup_mem h)
/-- what a table has at a text -/
def tbo (t : Tb) (z : Str) : Option D := (t.lookup z).join
/-- a table of the module -/
def TblAt (K : PySem.W.Frag) (w : World) (mg : Str → Option Value) (x : Str) (t : Tb) : Prop :=
  ∃ a es n, mg x = some (.ref a) ∧ KDict K w a es n ∧ ∀ z, entB K (PySem.W.nsIn K a z) (tbo t z) = true
def kinD (neg : Bool) (t : Tb) : D → W Exc Bool
  | .str z => .ret (if neg then !(tbo t z).isSome else (tbo t z).isSome)
  | _ => .stuck
def kixD (t : Tb) : D → W Exc D
  | .str z => optW (tbo t z) .ret
  | _ => .stuck
section
variable {X : Cx} {Wx : WX} {e : Expr} {pos pp : Pos} {ma : List Sl → W Exc D} {x : Str} {t : Tb}
theorem pT_kin {neg : Bool} (T : TblAt X.K X.w X.mg x t) (hg : Gl X x) (hdb : (x == ("__debug__" : Str)) = false) (ha : PE X e (TEo X Wx ma)) :
    PT X (.Compare e [if neg then .NotIn else .In] [.Name x pp] pos) (TTt X Wx fun ρ => (ma ρ).bind (kinD neg t)) := by
  obtain ⟨a, es, n, hm, kd, hk⟩ := T
  have key : ∀ z, ∃ r, PySem.W.nsIn X.K a z = some r ∧ r.isSome = (tbo t z).isSome := by
    intro z
    have hb := hk z
    cases o : tbo t z with
    | none => rw [o] at hb; exact ⟨none, entB_none hb, rfl⟩
    | some i => rw [o] at hb; obtain ⟨t, e, _⟩ := entB_some hb; exact ⟨_, e, rfl⟩
  cases neg with
  | false =>
    refine pt_of (pt_cmpR (op_in_kd kd) ha (pe_glob (v := .ref a) hg hm rfl hdb) rfl) fun σ H Q ⟨p, H0, γ, ρ, st, er, hm⟩ => ?_
    refine ⟨p, H0, γ, ρ, st, er, (ma ρ).mono (fun d h1 γ1 H1 y e1 c1 => ?_) (fun _ q => q) hm⟩
    cases d <;> first
      | exact False.elim h1
      | skip
    obtain ⟨r, hr, ho⟩ := key _
    refine ⟨_, r, (ct_str c1).1, rfl, hr, _, rfl, ?_⟩
    rw [ho]
    exact h1 γ1 H1 e1
  | true =>
    refine pt_of (pt_cmpR (op_notIn_kd kd) ha (pe_glob (v := .ref a) hg hm rfl hdb) rfl) fun σ H Q ⟨p, H0, γ, ρ, st, er, hm⟩ => ?_
    refine ⟨p, H0, γ, ρ, st, er, (ma ρ).mono (fun d h1 γ1 H1 y e1 c1 => ?_) (fun _ q => q) hm⟩
    cases d <;> first
      | exact False.elim h1
      | skip
    obtain ⟨r, hr, ho⟩ := key _
    refine ⟨_, r, (ct_str c1).1, rfl, hr, _, rfl, ?_⟩
    rw [ho]
    exact h1 γ1 H1 e1
theorem pE_kix (T : TblAt X.K X.w X.mg x t) (hg : Gl X x) (hdb : (x == ("__debug__" : Str)) = false) (ha : PE X e (TEo X Wx ma)) (hns : ∀ l u s p, e ≠ .Slice l u s p) :
    PE X (.Subscript (.Name x pp) e pos) (TEe X Wx fun ρ => (ma ρ).bind (kixD t)) := by
  obtain ⟨a, es, n, hm, kd, hk⟩ := T
  refine pe_of (pe_ix ix_kdict (pe_glob (v := .ref a) hg hm rfl hdb) ha (plainIx_of hns)) fun σ H Q ⟨p, H0, γ, ρ, st, er, hm⟩ => ?_
  refine ⟨p, H0, γ, ρ, st, er, (ma ρ).mono (fun d h1 γ1 H1 y e1 c1 => ?_) (fun _ q => q) hm⟩
  cases d <;> first
    | exact False.elim h1
    | skip
  obtain ⟨i, hz, q⟩ := optW_run h1
  have hb := hk (by assumption)
  rw [hz] at hb
  obtain ⟨u, e, hu⟩ := entB_some hb
  obtain ⟨v, r1, r2⟩ := repB_ok X.K _ u hu
  exact ⟨a, _, v, rfl, (ct_str c1).1, ⟨es, n, _, kd.at_, kd.lit, e, r1⟩, Post.here (Post.ext q st e1) e1.st (r2 _)⟩
end
end Ev

/-! Ev13: a plain form of expressions: what it means, that it is the text. -/
namespace Ev
open PySem PySem.Spec PyProof.Rows L2
mutual
/-- values -/
inductive IE where
  | v (i : Nat) | none | b (k : Bool) | i (n : Int) | s (z : Str) | g (j : Nat)
  | tup (l : IL) | ix (a b : IO) | sl (a : IO) (lo hi : IP) | bin (o : AO) (a b : IO) | cmp (o : CO) (a b : IO) | chn (o o' : CO) (a b c : IO)
  | not (a : IO) | and (x : IB) | or (x : IB) | ife (c : IC) (a b : IE) | neg (a : IE) | f1 (f : BI) (a : IO) | f2 (f : B2) (a b : IO) | isi (t : Ty) (a : IO) | idx (a b : IO) | cnt (a b : IO) | rvt (a : IO)
  | call (n : Nat) (a : IA) | fr (f : IF) | bad | dsub (ks : List Str) (l : IL) (k : IE) | dct (ks : List Str) (l : IL) | kix (x : Str) (t : Tb) (a : IO) | dget (i : Nat) (k : IE) | dget2 (i : Nat) (k z : IE)
/-- values that are only read -/
inductive IO where
  | e (e : IE) | own (i : Nat)
/-- fresh lists -/
inductive IF where
  | lst (l : IL) | cat (a b : IO) | rep (a b : IO) | list (a : IO) | lc (vs : List Nat) (t : T) (i : II) (c : IQ) (e : IE)
  | lc2 (vs : List Nat) (t : T) (i : II) (c : IQ) (vs1 : List Nat) (t1 : T) (i1 : II) (c1 : IQ) (e : IE) | srtS (a : IO) | srtL (a : IO) | rg1 (e : IE) | rg2 (a b : IE)
/-- tests -/
inductive IC where
  | tru (a : IO) | cmp (o : CO) (a b : IO) | chn (o o' : CO) (a b c : IO) | not (c : IC) | and (x : IK) | or (x : IK) | kin (neg : Bool) (x : Str) (t : Tb) (a : IO)
inductive IQ where
  | no | one (c : IC)
inductive IK where
  | one (c : IC) | more (c : IC) (x : IK)
inductive IB where
  | one (e : IE) | more (e : IE) (x : IB)
inductive II where
  | seq (e : IE) | r1 (e : IE) | r2 (a b : IE) | rev (e : IE) | zip (a b : IE)
inductive IP where
  | no | one (e : IE)
inductive IL where
  | nil | cons (e : IE) (l : IL)
inductive IA where
  | nil | d (e : IE) (a : IA) | pool (i : Nat) (a : IA)
end
structure Tab where
  N : List Str
  sc : Scope
  ss : Scope
  calm : Bool
  fns : List Str
  cst : List Str
  bl : List Str
  exs : List Str
  tbl : List (Str × Tb)
structure Mg where
  Φ : Nat → List Ar → W Exc D
  C : Nat → D
  exs : List Str
def II.pl : II → Bool
  | .zip _ _ => false
  | _ => true

/-! ### what they mean -/
mutual
def denE (M : Mg) : IE → List Sl → W Exc D
  | .v i => fun ρ => getV ρ i
  | .none => fun _ => .ret .none
  | .b k => fun _ => .ret (.bool k)
  | .i n => fun _ => .ret (.int n)
  | .s z => fun _ => .ret (.str z)
  | .g j => fun _ => .ret (M.C j)
  | .tup l => fun ρ => (denL M l ρ).bind fun ds => (W.ask (ds.length ≤ sizeLine)).bind fun _ => .ret (.tuple ds)
  | .ix a b => m2 ixD (denO M a) (denO M b)
  | .sl a lo hi => fun ρ => (denO M a ρ).bind fun d => (denP M lo ρ).bind fun l => (denP M hi ρ).bind fun h => slD d l h
  | .bin o a b => m2 o.op (denO M a) (denO M b)
  | .cmp o a b => m2 (fun d e => (o.op d e).bind fun b => .ret (.bool b)) (denO M a) (denO M b)
  | .chn o o' a b c => fun ρ => (chW o.op o'.op (denO M a) (denO M b) (denO M c) ρ).bind fun k => .ret (.bool k)
  | .not a => fun ρ => (denO M a ρ).bind fun d => (truthD d).bind fun k => .ret (.bool (!k))
  | .and x => denB M true x
  | .or x => denB M false x
  | .ife c a b => fun ρ => (denC M c ρ).bind fun k => if k then denE M a ρ else denE M b ρ
  | .neg a => fun ρ => (denE M a ρ).bind negD
  | .f1 f a => fun ρ => (denO M a ρ).bind f.op
  | .f2 f a b => m2 f.op (denO M a) (denO M b)
  | .isi t a => fun ρ => (denO M a ρ).bind fun d => .ret (.bool (isiB (tyName d) t.s))
  | .idx a b => indexW (denO M a) (denO M b)
  | .cnt a b => countW (denO M a) (denO M b)
  | .rvt a => fun ρ => (denO M a ρ).bind rvtD
  | .call n a => fun ρ => (denA M a ρ).bind (M.Φ n)
  | .fr f => fun ρ => (denF M f ρ).bind fun xs => .ret (.list xs)
  | .bad => fun _ => .stuck
  | .dsub ks l k => fun ρ => (denL M l ρ).bind fun ds => (denE M k ρ).bind fun d => dsubD ks ds d
  | .dct ks l => fun ρ => (denL M l ρ).bind fun ds => (W.ask (ks.length = ds.length)).bind fun _ => .ret (.dict (dkv ks ds))
  | .kix _ t a => fun ρ => (denO M a ρ).bind (kixD t)
  | .dget i k => dgetW i (denE M k)
  | .dget2 i k z => dget2W i (denE M k) (denE M z)
def denO (M : Mg) : IO → List Sl → W Exc D
  | .e e => denE M e
  | .own i => fun ρ => getO ρ i
def denF (M : Mg) : IF → List Sl → W Exc (List D)
  | .lst l => fun ρ => (denL M l ρ).bind fun ds => (W.ask (ds.length ≤ sizeLine)).bind fun _ => .ret ds
  | .cat a b => m2 catF (denO M a) (denO M b)
  | .rep a b => m2 repF (denO M a) (denO M b)
  | .list a => fun ρ => (denO M a ρ).bind listF
  | .srtS a => fun ρ => (denO M a ρ).bind srtSetD
  | .srtL a => fun ρ => (denO M a ρ).bind srtD
  | .rg1 e => fun ρ => (denE M e ρ).bind rgL1
  | .rg2 a b => fun ρ => (denE M a ρ).bind fun d => (denE M b ρ).bind fun f => rgL2 d f
  | .lc vs t i c e => lcW t vs (denI M i) (denQ M c) (denE M e)
  | .lc2 vs t i c vs1 t1 i1 c1 e => lc2W t vs (denI M i) (denQ M c) t1 vs1 (denI M i1) (denQ M c1) (denE M e)
def denC (M : Mg) : IC → List Sl → W Exc Bool
  | .tru a => fun ρ => (denO M a ρ).bind truthD
  | .cmp o a b => m2 o.op (denO M a) (denO M b)
  | .chn o o' a b c => chW o.op o'.op (denO M a) (denO M b) (denO M c)
  | .not c => fun ρ => (denC M c ρ).bind fun k => .ret (!k)
  | .and x => denK M true x
  | .or x => denK M false x
  | .kin neg _ t a => fun ρ => (denO M a ρ).bind (kinD neg t)
def denQ (M : Mg) : IQ → List Sl → W Exc Bool
  | .no => fun _ => .ret true
  | .one c => denC M c
def denK (M : Mg) (o : Bool) : IK → List Sl → W Exc Bool
  | .one c => denC M c
  | .more c x => fun ρ => (denC M c ρ).bind fun k => if k = o then denK M o x ρ else .ret k
def denB (M : Mg) (o : Bool) : IB → List Sl → W Exc D
  | .one e => denE M e
  | .more e x => fun ρ => (denE M e ρ).bind fun d => (truthD d).bind fun k => if k = o then denB M o x ρ else .ret d
def denI (M : Mg) : II → List Sl → W Exc (List D)
  | .seq e => fun ρ => (denE M e ρ).bind iterD
  | .r1 e => fun ρ => (denE M e ρ).bind rng1D
  | .r2 a b => fun ρ => (denE M a ρ).bind fun d => (denE M b ρ).bind fun f => rng2D d f
  | .rev e => fun ρ => (denE M e ρ).bind revD
  | .zip a b => fun ρ => (denE M a ρ).bind fun d => (denE M b ρ).bind fun f => zipD d f
def denP (M : Mg) : IP → List Sl → W Exc (Option Int)
  | .no => fun _ => .ret .none
  | .one e => fun ρ => (denE M e ρ).bind intW
def denL (M : Mg) : IL → List Sl → W Exc (List D)
  | .nil => fun _ => .ret []
  | .cons e l => fun ρ => (denE M e ρ).bind fun d => (denL M l ρ).bind fun ds => .ret (d :: ds)
def denA (M : Mg) : IA → List Sl → W Exc (List Ar)
  | .nil => fun _ => .ret []
  | .d e a => fun ρ => (denE M e ρ).bind fun d => (denA M a ρ).bind fun ds => .ret (.d d :: ds)
  | .pool i a => fun ρ => (getP ρ i).bind fun _ => (denA M a ρ).bind fun ds => .ret (.pool :: ds)
end

/-! ### that they are the text -/
def relS (sc scope : Scope) : Scope := { scope with names := scope.names.map fun (n, k) => if (k == NameKind.free && sc.kind == .function && sc.names.lookup n == some .cell) then (n, NameKind.cell) else (n, k) }
def ownL (N : List Str) (vs : List Nat) : List (Str × Nat) := vs.map fun v => (N.getD v "", v)
def Tab.blk (Γ : Tab) (scope : Scope) : Tab := { Γ with sc := relS Γ.sc scope, ss := scope }
def plB (t : T) (i : II) : Bool := match t with
  | .nm _ => i.pl
  | .tup _ => true
def bltB (Γ : Tab) (x : Str) : Bool := decide (x ∈ Γ.bl) && gloB Γ.sc x
def onDict (e : Expr) (k : List (Option Expr) → List Expr → Bool) : Bool := match e with
  | .Dict a b _ => k a b
  | _ => false
theorem onDict_ok {e : Expr} {k : List (Option Expr) → List Expr → Bool} (h : onDict e k = true) : ∃ a b p, e = .Dict a b p ∧ k a b = true := by
  cases e <;> first | exact ⟨_, _, _, rfl, h⟩ | cases h
def chkDK : List Str → List (Option Expr) → Bool
  | [], [] => true
  | k :: ks, e :: es => (onO e fun x => onCst x fun c => decide (c = .str k)) && chkDK ks es
  | _, _ => false
def isNilL : IL → Bool
  | .nil => true
  | _ => false
mutual
def chkE (Γ : Tab) : IE → Expr → Bool
  | .v i, e => onNm e fun x => decide (Γ.N[i]? = some x) && (visB Γ.sc x && okNm x)
  | .none, e => onCst e fun c => decide (c = .none)
  | .b k, e => onCst e fun c => decide (c = .bool k)
  | .i n, e => onCst e fun c => decide (c = .int n)
  | .s z, e => onCst e fun c => decide (c = .str z) && PyData.strOk z
  | .g j, e => onNm e fun x => decide (Γ.cst[j]? = some x) && gloB Γ.sc x
  | .tup l, e => onTup e fun es => chkL Γ l es
  | .ix a b, e => onIx e fun x y => nSl y && (chkO Γ a x && chkO Γ b y)
  | .sl a lo hi, e => onIx e fun x y => chkO Γ a x && onSl y fun l u => chkP Γ lo l && chkP Γ hi u
  | .bin o a b, e => onBin e fun x p y => decide (p = o.ast) && (chkO Γ a x && chkO Γ b y)
  | .cmp o a b, e => onCmp e fun x p y => decide (p = o.ast) && (nSet y && (chkO Γ a x && chkO Γ b y))
  | .chn o o' a b c, e => onCh e fun x p y p' z => (decide (p = o.ast) && decide (p' = o'.ast)) && (nSet z && (chkO Γ a x && (chkO Γ b y && chkO Γ c z)))
  | .not a, e => onUn e fun o x => decide (o = .Not) && chkO Γ a x
  | .and x, e => onBo e fun o es => decide (o = .And) && chkB Γ x es
  | .or x, e => onBo e fun o es => decide (o = .Or) && chkB Γ x es
  | .ife c a b, e => onIfe e fun z x y => chkC Γ c z && (chkE Γ a x && chkE Γ b y)
  | .neg a, e => onUn e fun o x => decide (o = .USub) && chkE Γ a x
  | .f1 f a, e => onCall e fun x es => (Γ.calm && (decide (x = f.nm) && bltB Γ x)) && on1 es fun y => ns y && chkO Γ a y
  | .f2 f a b, e => onCall e fun x es => (Γ.calm && (decide (x = f.nm) && bltB Γ x)) && on2 es fun y z => (ns y && ns z) && (chkO Γ a y && chkO Γ b z)
  | .isi t a, e => onCall e fun x es => (decide (x = "isinstance") && bltB Γ x) && on2 es fun y z => (ns y && chkO Γ a y) && onNm z fun n => decide (n = t.nm) && bltB Γ n
  | .idx a b, e => onMet e fun o n es => (decide (n = "index") && nSup o) && on1 es fun y => ns y && (chkO Γ a o && chkO Γ b y)
  | .cnt a b, e => onMet e fun o n es => (decide (n = "count") && nSup o) && on1 es fun y => ns y && (chkO Γ a o && chkO Γ b y)
  | .rvt a, e => onCall e fun x es => (Γ.calm && (decide (x = "tuple") && bltB Γ x)) && on1 es fun z => onCall z fun y es2 => (decide (y = "reversed") && bltB Γ y) && on1 es2 fun w => ns w && chkO Γ a w
  | .call n a, e => onCall e fun x es => (decide (Γ.fns[n]? = some x) && gloB Γ.sc x) && chkA Γ a es
  | .fr f, e => chkF Γ f e
  | .bad, _ => true
  | .dsub ks l k, e => onIx e fun x y => nSl y && (chkE Γ k y && onDict x fun keys values => (decide ks.Nodup && (decide (ks.length ≤ 15) && (decide (keys.length = values.length) && !keys.isEmpty))) && (chkDK ks keys && chkL Γ l values))
  | .dct ks l, e => onDict e fun keys values => if ks.isEmpty then (keys.isEmpty && values.isEmpty) && isNilL l else ((decide ks.Nodup && ks.all PyData.strOk) && (decide (ks.length ≤ 15) && (decide (keys.length = values.length) && !keys.isEmpty))) && (chkDK ks keys && chkL Γ l values)
  | .kix x t a, e => onIx e fun l r => ((onNm l fun y => decide (y = x) && gloB Γ.sc y) && memT x t Γ.tbl) && (nSl r && chkO Γ a r)
  | .dget i k, e => onIx e fun x y => nSl y && ((onNm x fun n => decide (Γ.N[i]? = some n) && (visB Γ.sc n && okNm n)) && chkE Γ k y)
  | .dget2 i k z, e => onMet e fun o n es => decide (n = "get") && ((onNm o fun x => decide (Γ.N[i]? = some x) && (visB Γ.sc x && okNm x)) && on2 es fun y w => (ns y && ns w) && (chkE Γ k y && chkE Γ z w))
def chkO (Γ : Tab) : IO → Expr → Bool
  | .e e, x => chkE Γ e x
  | .own i, e => onNm e fun x => decide (Γ.N[i]? = some x) && (visB Γ.sc x && okNm x)
def chkF (Γ : Tab) : IF → Expr → Bool
  | .lst l, e => onLst e fun es => chkL Γ l es
  | .cat a b, e => onBin e fun x p y => decide (p = .Add) && (chkO Γ a x && chkO Γ b y)
  | .rep a b, e => onBin e fun x p y => decide (p = .Mult) && (chkO Γ a x && chkO Γ b y)
  | .list a, e => onCall e fun x es => (Γ.calm && (decide (x = "list") && bltB Γ x)) && on1 es fun y => ns y && chkO Γ a y
  | .srtS a, e => onCall e fun x es => (Γ.calm && (decide (x = "sorted") && bltB Γ x)) && on1 es fun z => onCall z fun y es2 => (decide (y = "set") && bltB Γ y) && on1 es2 fun w => ns w && chkO Γ a w
  | .srtL a, e => onCall e fun x es => (decide (x = "sorted") && bltB Γ x) && on1 es fun y => ns y && chkO Γ a y
  | .rg1 a, e => onCall e fun x es => (Γ.calm && (decide (x = "list") && bltB Γ x)) && on1 es fun z => onCall z fun y es2 => (decide (y = "range") && bltB Γ y) && on1 es2 fun w => ns w && chkE Γ a w
  | .rg2 a b, e => onCall e fun x es => (Γ.calm && (decide (x = "list") && bltB Γ x)) && on1 es fun z => onCall z fun y es2 => (decide (y = "range") && bltB Γ y) && on2 es2 fun w v => (ns w && ns v) && (chkE Γ a w && chkE Γ b v)
  | .lc vs t i c e, ex => onLc ex fun elt gs scope => onG1 gs fun tg it ifs => (Γ.calm && (nSet it && (plB t i && (blkC Γ.N Γ.sc scope (ownL Γ.N vs) && t.idx.all fun k => decide (k ∈ vs))))) &&
      (chkI Γ i tg it && (chkTg Γ.N scope t tg && (chkQ (Γ.blk scope) c ifs && chkE (Γ.blk scope) e elt)))
  | .lc2 vs t i c vs1 t1 i1 c1 e, ex => onLc ex fun elt gs scope => onG2 gs fun tg it ifs tg1 it1 ifs1 => ((Γ.calm && (nSet it && (plB t i && (blkC Γ.N Γ.sc scope (ownL Γ.N vs) && t.idx.all fun k => decide (k ∈ vs))))) &&
      ((nSet it1 && (plB t1 i1 && ((vs1.all fun k => decide (k ∈ vs)) && t1.idx.all fun k => decide (k ∈ vs1)))))) &&
      ((chkI Γ i tg it && (chkTg Γ.N scope t tg && chkQ (Γ.blk scope) c ifs)) && (chkI (Γ.blk scope) i1 tg1 it1 && (chkTg Γ.N scope t1 tg1 && (chkQ (Γ.blk scope) c1 ifs1 && chkE (Γ.blk scope) e elt))))
def chkC (Γ : Tab) : IC → Expr → Bool
  | .tru a, e => nT e && chkO Γ a e
  | .cmp o a b, e => onCmp e fun x p y => decide (p = o.ast) && (nSet y && (chkO Γ a x && chkO Γ b y))
  | .chn o o' a b c, e => onCh e fun x p y p' z => (decide (p = o.ast) && decide (p' = o'.ast)) && (nSet z && (chkO Γ a x && (chkO Γ b y && chkO Γ c z)))
  | .not c, e => onUn e fun o x => decide (o = .Not) && chkC Γ c x
  | .and x, e => onBo e fun o es => decide (o = .And) && chkK Γ x es
  | .or x, e => onBo e fun o es => decide (o = .Or) && chkK Γ x es
  | .kin neg x t a, e => onCmp e fun l p r => (decide (p = if neg then .NotIn else .In) && ((onNm r fun y => decide (y = x) && gloB Γ.sc y) && memT x t Γ.tbl)) && chkO Γ a l
def chkQ (Γ : Tab) : IQ → List Expr → Bool
  | .no, es => es.isEmpty
  | .one c, es => on1 es fun e => chkC Γ c e
def chkK (Γ : Tab) : IK → List Expr → Bool
  | .one c, es => on1 es fun e => chkC Γ c e
  | .more c x, es => onC es fun e r => chkC Γ c e && (!r.isEmpty && chkK Γ x r)
def chkB (Γ : Tab) : IB → List Expr → Bool
  | .one c, es => on1 es fun e => chkE Γ c e
  | .more c x, es => onC es fun e r => chkE Γ c e && (!r.isEmpty && chkB Γ x r)
def chkI (Γ : Tab) : II → Expr → Expr → Bool
  | .seq e, _, x => chkE Γ e x
  | .r1 e, _, x => onCall x fun n es => (decide (n = "range") && bltB Γ n) && on1 es fun y => ns y && chkE Γ e y
  | .r2 a b, _, x => onCall x fun n es => (decide (n = "range") && bltB Γ n) && on2 es fun y z => (ns y && ns z) && (chkE Γ a y && chkE Γ b z)
  | .rev e, _, x => onCall x fun n es => (decide (n = "reversed") && bltB Γ n) && on1 es fun y => ns y && chkE Γ e y
  | .zip a b, tg, x => onTup tg (fun _ => true) && onCall x fun n es => (decide (n = "zip") && bltB Γ n) && on2 es fun y z => (ns y && ns z) && (chkE Γ a y && chkE Γ b z)
def chkP (Γ : Tab) : IP → Option Expr → Bool
  | .no, o => o.isNone
  | .one e, o => onO o fun x => chkE Γ e x
def chkL (Γ : Tab) : IL → List Expr → Bool
  | .nil, es => es.isEmpty
  | .cons e l, es => onC es fun x r => ns x && (chkE Γ e x && chkL Γ l r)
def chkA (Γ : Tab) : IA → List Expr → Bool
  | .nil, es => es.isEmpty
  | .d e l, es => onC es fun x r => ns x && (chkE Γ e x && chkA Γ l r)
  | .pool i l, es => onC es fun e r => (onNm e fun x => decide (Γ.N[i]? = some x) && (visB Γ.sc x && okNm x)) && chkA Γ l r
end
end Ev

/-! Ev14: the plain form of expressions is kept. -/
namespace Ev
open PySem PySem.Spec PyProof.Rows L2
structure Fit (X : Cx) (Wx : WX) (Γ : Tab) (M : Mg) : Prop where
  sc : X.env.scope = Γ.sc
  N : X.N = Γ.N
  nd : Γ.N.Nodup
  hu : X.A.units + 65 < cLine
  calm : Γ.calm = true → X.calm = true
  tk : Takes X Wx
  sto : ∀ x, Loc Γ.ss x → Loc X.env.scope x ∧ (X.fn x = true ∨ X.env.scope.names.lookup x = some .local)
  bl : ∀ x ∈ Γ.bl, X.mg x = none
  cst : ∀ (j : Nat) (x : Str), Γ.cst[j]? = some x → ∃ v u, X.mg x = some u ∧ RelV v u ∧ ∀ γ, Rep X.K γ v (M.C j)
  tbl : ∀ x t, (x, t) ∈ Γ.tbl → TblAt X.K X.w X.mg x t
  fns : ∀ (n : Nat) (x : Str), Γ.fns[n]? = some x → ∃ k f fd ps, Room k X.A ∧ X.mg x = some (.ref f) ∧ PySem.W.keepIn X.K (.ref f) = true ∧ Binds X.K fd ps [] ∧ FnD X k f fd ps (M.Φ n) ∧ ∀ as Q XX, (M.Φ n as).run Q XX → as.length = ps.length
section
variable {X : Cx} {Wx : WX} {Γ : Tab} {M : Mg}
theorem relS_keep {sc scope : Scope} {x : Str} {k : NameKind} (hk : k ≠ .free) (h : scope.names.lookup x = some k) : (relS sc scope).names.lookup x = some k := lookup_relS_keep hk h
theorem Fit.blk (φ : Fit X Wx Γ M) {scope : Scope} (s : Shared) (H : Hp) (C : Addr) (cl : List (Str × Addr)) (fp : List Addr) : Fit (X.blk s H scope (compEnvC scope cl C X.env) fp) W0 (Γ.blk scope) M where
  sc := by
    show relabel scope X.env = relS Γ.sc scope
    rw [← φ.sc]; rfl
  N := φ.N
  nd := φ.nd
  hu := φ.hu
  calm := φ.calm
  tk := fun u s' ⟨a, B, sI, pins, σ, H, cls, d, e, I, nb, up, sky, na, os, ag, w⟩ => w.elim
  sto := fun x hx => by
    have e : (X.blk s H scope (compEnvC scope cl C X.env) fp).env.scope = relS X.env.scope scope := rfl
    rw [e]
    rcases hx with h | h
    · exact ⟨.inl (relS_keep (by decide) h), .inr (relS_keep (by decide) h)⟩
    · exact ⟨.inr (relS_keep (by decide) h), .inl (by show (scope.names.lookup x == some .cell) = true; rw [show scope.names.lookup x = some .cell from h]; rfl)⟩
  bl := φ.bl
  cst := φ.cst
  tbl := φ.tbl
  fns := φ.fns
theorem pg_nmT {N : List Str} {i : Nat} {e : Expr} (φ : Fit X Wx Γ M) (h : tgB Γ.N Γ.ss i e = true) : PG X e (gName i) := by
  obtain ⟨x, p, rfl, h⟩ := onNm_ok h
  obtain ⟨h1, h2⟩ := and2 h
  obtain ⟨q1, q2⟩ := φ.sto x (lokB_ok h2)
  exact pg_name (by rw [φ.N]; exact φ.nd) (by rw [φ.N]; exact dec1 h1) q1 q2
theorem pgs_allT (φ : Fit X Wx Γ M) : ∀ {is : List Nat} {es : List Expr}, tgsB Γ.N Γ.ss is es = true → PGs X es (gAll is) ∧ (assignEach es X.env).length = is.length ∧ (assignEach es X.env).findIdx? (·.1) = none
  | [], [], _ => ⟨pgs_nil, rfl, rfl⟩
  | [], _ :: _, h => by cases h
  | _ :: _, [], h => by cases h
  | i :: is, e :: es, h => by
    have h' : (tgB Γ.N Γ.ss i e && tgsB Γ.N Γ.ss is es) = true := h
    rw [Bool.and_eq_true] at h'
    obtain ⟨a, b, c⟩ := pgs_allT φ h'.2
    have q := nm_each h'.1 es X.env
    refine ⟨pgs_cons (pg_nmT (N := Γ.N) φ h'.1) a (by rw [q]; rfl), by rw [q]; simp [b], by rw [q]; simp [List.findIdx?_cons, c]⟩
theorem pg_TT {t : T} {e : Expr} (φ : Fit X Wx Γ M) (hc : X.calm = true) (h : chkTg Γ.N Γ.ss t e = true) : PG X e (gT X.K t) := by
  cases t with
  | nm i => exact pg_nmT (N := Γ.N) φ h
  | tup is =>
    obtain ⟨es, k, p, rfl, h⟩ := onTup_ok h
    obtain ⟨a, b, c⟩ := pgs_allT φ h
    exact pg_or (pg_tup hc a b c) (pg_lst hc a b c)
theorem nd_ok (φ : Fit X Wx Γ M) : X.N.Nodup := by rw [φ.N]; exact φ.nd
theorem blt_ok (φ : Fit X Wx Γ M) {x : Str} (h : bltB Γ x = true) : Gl X x ∧ (x == ("__debug__" : Str)) = false ∧ X.mg x = none := by
  obtain ⟨h1, h2⟩ := and2 h
  rw [← φ.sc] at h2
  obtain ⟨q1, q2⟩ := gloB_ok h2
  exact ⟨q1, q2, φ.bl x (dec1 h1)⟩
theorem var_ok (φ : Fit X Wx Γ M) {i : Nat} {x : Str} (h : (decide (Γ.N[i]? = some x) && (visB Γ.sc x && okNm x)) = true) : X.N[i]? = some x ∧ Vis X.env.scope x ∧ (x == ("__debug__" : Str)) = false ∧ (x == ("__classdict__" : Str)) = false := by
  obtain ⟨h1, h2⟩ := and2 h
  obtain ⟨h2, h3⟩ := and2 h2
  refine ⟨by rw [φ.N]; exact dec1 h1, by rw [φ.sc]; exact visB_ok h2, okNm_ok h3⟩
theorem ownL_snd (N : List Str) : ∀ vs : List Nat, (ownL N vs).map (·.2) = vs
  | [] => rfl
  | v :: vs => by
    show v :: (ownL N vs).map (·.2) = _
    rw [ownL_snd N vs]
theorem pl_ok {t : T} {i : II} (h : plB t i = true) : ∀ k, t = .nm k → i.pl = true := by
  intro k e; subst e; exact h
theorem all_mem {l vs : List Nat} (h : (l.all fun k => decide (k ∈ vs)) = true) : ∀ i ∈ l, i ∈ vs := by
  intro i hi
  have := List.all_eq_true.mp h i hi
  simpa using this
theorem w_eq {m m' : List Sl → W Exc Bool} (h : ∀ ρ, m ρ = m' ρ) : m = m' := funext h
theorem wE_eq {m m' : List Sl → W Exc D} (h : ∀ ρ, m ρ = m' ρ) : m = m' := funext h
theorem ne_ok {r : List Expr} (h : (!r.isEmpty) = true) : ∃ b r', r = b :: r' := by
  cases r with
  | nil => cases h
  | cons b r' => exact ⟨_, _, rfl⟩
theorem pts_yes : PTs X [] (RdT X.K X.mg Wx fun _ => .ret true) := ⟨fun pins s σ H Q I ⟨p, H0, γ, ρ, st, er, hm⟩ => pts_nil.run pins s σ H Q I (hm γ H (.refl st))⟩
theorem and_eq (m1 m2 : List Sl → W Exc Bool) : (fun ρ => (m1 ρ).bind fun k => if k then m2 ρ else W.ret false) = fun ρ => (m1 ρ).bind fun k => if k = true then m2 ρ else W.ret k := by
  funext ρ; congr 1; funext k; cases k <;> rfl
theorem or_eq (m1 m2 : List Sl → W Exc Bool) : (fun ρ => (m1 ρ).bind fun k => if k then W.ret true else m2 ρ) = fun ρ => (m1 ρ).bind fun k => if k = false then m2 ρ else W.ret k := by
  funext ρ; congr 1; funext k; cases k <;> rfl
theorem orE_eq (m1 m2 : List Sl → W Exc D) : (fun ρ => (m1 ρ).bind fun d => (truthD d).bind fun k => if k then W.ret d else m2 ρ) = fun ρ => (m1 ρ).bind fun d => (truthD d).bind fun k => if k = false then m2 ρ else W.ret d := by
  funext ρ; congr 1; funext d; congr 1; funext k; cases k <;> rfl
theorem chkDK_len : ∀ {ks : List Str} {keys : List (Option Expr)}, chkDK ks keys = true → keys.all (·.isSome) = true ∧ keys.length = ks.length
  | [], [], _ => ⟨rfl, rfl⟩
  | [], _ :: _, h => by cases h
  | _ :: _, [], h => by cases h
  | k :: ks, e :: es, h => by
    obtain ⟨h1, h2⟩ := and2 (show ((onO e fun x => onCst x fun c => decide (c = .str k)) && chkDK ks es) = true from h)
    obtain ⟨x, rfl, _⟩ := onO_ok h1
    obtain ⟨q1, q2⟩ := chkDK_len h2
    exact ⟨by simpa using q1, by simp [q2]⟩
mutual
theorem okE {X : Cx} {Wx : WX} {Γ : Tab} {M : Mg} : ∀ (t : IE) (e : Expr), Fit X Wx Γ M → chkE Γ t e = true → PE X e (TEe X Wx (denE M t))
  | .v i, e, φ, h => by
    rw [chkE] at h
    obtain ⟨x, p, rfl, h⟩ := onNm_ok h
    obtain ⟨a, b, c, d⟩ := var_ok φ h
    exact pE_var a b c d
  | .none, e, φ, h => by
    rw [chkE] at h
    obtain ⟨c, j, p, rfl, h⟩ := onCst_ok h
    rw [dec1 h]
    exact pE_cst rfl
  | .b k, e, φ, h => by
    rw [chkE] at h
    obtain ⟨c, j, p, rfl, h⟩ := onCst_ok h
    rw [dec1 h]
    exact pE_cst rfl
  | .i n, e, φ, h => by
    rw [chkE] at h
    obtain ⟨c, j, p, rfl, h⟩ := onCst_ok h
    rw [dec1 h]
    exact pE_cst rfl
  | .s z, e, φ, h => by
    rw [chkE] at h
    obtain ⟨c, j, p, rfl, h⟩ := onCst_ok h
    obtain ⟨h1, h2⟩ := and2 h
    rw [dec1 h1]
    exact pE_cst (by simp only [cstD]; rw [if_pos h2])
  | .g j, e, φ, h => by
    rw [chkE] at h
    obtain ⟨x, p, rfl, h⟩ := onNm_ok h
    obtain ⟨h1, h2⟩ := and2 h
    rw [← φ.sc] at h2
    obtain ⟨q1, q2⟩ := gloB_ok h2
    obtain ⟨v, u, q3, q4, q5⟩ := φ.cst j x (dec1 h1)
    exact pE_glob q1 q3 q4 q5 q2
  | .tup l, e, φ, h => by
    rw [chkE] at h
    obtain ⟨es, k, p, rfl, h⟩ := onTup_ok h
    exact pE_tup (okL l es φ h)
  | .ix a b, e, φ, h => by
    rw [chkE] at h
    obtain ⟨x, y, p, rfl, h⟩ := onIx_ok h
    obtain ⟨h0, h⟩ := and2 h
    obtain ⟨h1, h2⟩ := and2 h
    exact pE_ix (by have := φ.hu; omega) (okO a x φ h1) (okO b y φ h2) (plainIx_of (nSl_ok h0))
  | .sl a lo hi, e, φ, h => by
    rw [chkE] at h
    obtain ⟨x, y, p, rfl, h⟩ := onIx_ok h
    obtain ⟨h0, h⟩ := and2 h
    obtain ⟨l, u, p2, rfl, h⟩ := onSl_ok h
    obtain ⟨h1, h2⟩ := and2 h
    exact pE_sl (okO a x φ h0) (okP lo l φ h1) (okP hi u φ h2)
  | .bin o a b, e, φ, h => by
    rw [chkE] at h
    obtain ⟨x, o', y, p, rfl, h⟩ := onBin_ok h
    obtain ⟨h0, h⟩ := and2 h
    obtain ⟨h1, h2⟩ := and2 h
    obtain ⟨r, q1, q2⟩ := AO.ok (X := X) o
    rw [dec1 h0]
    exact pE_bin q1 q2 (okO a x φ h1) (okO b y φ h2)
  | .cmp o a b, e, φ, h => by
    rw [chkE] at h
    obtain ⟨x, o', y, p, rfl, h⟩ := onCmp_ok h
    obtain ⟨h0, h⟩ := and2 h
    obtain ⟨h3, h⟩ := and2 h
    obtain ⟨h1, h2⟩ := and2 h
    obtain ⟨r, q1, q2⟩ := CO.ok φ.hu o
    rw [dec1 h0]
    exact pE_cmp q1 q2 (nSet_mark h3 _) (okO a x φ h1) (okO b y φ h2)
  | .chn o o' a b c, e, φ, h => by
    rw [chkE] at h
    obtain ⟨x, p1, y, p2, z, p, rfl, h⟩ := onCh_ok h
    obtain ⟨h0, h⟩ := and2 h
    obtain ⟨h00, h01⟩ := and2 h0
    obtain ⟨h3, h⟩ := and2 h
    obtain ⟨h1, h⟩ := and2 h
    obtain ⟨h2, h4⟩ := and2 h
    obtain ⟨r, q1, q2⟩ := CO.ok φ.hu o
    obtain ⟨r', q1', q2'⟩ := CO.ok φ.hu o'
    rw [dec1 h00, dec1 h01]
    exact pE_chn q1 q1' q2 q2' (nSet_mark h3 _) (okO a x φ h1) (okO b y φ h2) (okO c z φ h4)
  | .not a, e, φ, h => by
    rw [chkE] at h
    obtain ⟨o, x, p, rfl, h⟩ := onUn_ok h
    obtain ⟨h0, h⟩ := and2 h
    rw [dec1 h0]
    exact pE_not (okO a x φ h)
  | .and x, e, φ, h => by
    rw [chkE] at h
    obtain ⟨o, es, p, rfl, h⟩ := onBo_ok h
    obtain ⟨h0, h⟩ := and2 h
    rw [dec1 h0]
    exact okBA x es p φ h
  | .or x, e, φ, h => by
    rw [chkE] at h
    obtain ⟨o, es, p, rfl, h⟩ := onBo_ok h
    obtain ⟨h0, h⟩ := and2 h
    rw [dec1 h0]
    exact okBO x es p φ h
  | .ife c a b, e, φ, h => by
    rw [chkE] at h
    obtain ⟨z, x, y, p, rfl, h⟩ := onIfe_ok h
    obtain ⟨h0, h⟩ := and2 h
    obtain ⟨h1, h2⟩ := and2 h
    exact pE_ife (okC c z φ h0) (okE a x φ h1) (okE b y φ h2)
  | .neg a, e, φ, h => by
    rw [chkE] at h
    obtain ⟨o, x, p, rfl, h⟩ := onUn_ok h
    obtain ⟨h0, h⟩ := and2 h
    rw [dec1 h0]
    exact pE_neg (okE a x φ h)
  | .f1 f a, e, φ, h => by
    rw [chkE] at h
    obtain ⟨x, pp, es, p, rfl, h⟩ := onCall_ok h
    obtain ⟨h0, h⟩ := and2 h
    obtain ⟨hc, h0⟩ := and2 h0
    obtain ⟨h1, h2⟩ := and2 h0
    obtain ⟨y, rfl, h⟩ := on1_ok h
    obtain ⟨h3, h4⟩ := and2 h
    have hx := dec1 h1
    subst hx
    obtain ⟨g1, g2, g3⟩ := blt_ok φ h2
    rcases BI.ok (φ.calm hc) f with ⟨id, r, q1, q2, q3⟩ | ⟨id, r, q1, q2, q3⟩
    · exact pE_blt1 q1 q2 g1 g3 q3 f.nn.1 g2 (ns_ok h3) (okO a y φ h4)
    · exact pE_ty1 q1 q2 g1 g3 q3 f.nn.1 g2 (ns_ok h3) (okO a y φ h4)
  | .f2 f a b, e, φ, h => by
    rw [chkE] at h
    obtain ⟨x, pp, es, p, rfl, h⟩ := onCall_ok h
    obtain ⟨h0, h⟩ := and2 h
    obtain ⟨hc, h0⟩ := and2 h0
    obtain ⟨h1, h2⟩ := and2 h0
    obtain ⟨y, z, rfl, h⟩ := on2_ok h
    obtain ⟨h3, h4⟩ := and2 h
    obtain ⟨h5, h6⟩ := and2 h3
    obtain ⟨h7, h8⟩ := and2 h4
    have hx := dec1 h1
    subst hx
    obtain ⟨g1, g2, g3⟩ := blt_ok φ h2
    obtain ⟨id, r, q1, q2, q3⟩ := B2.ok (φ.calm hc) f
    exact pE_blt2 q1 q2 g1 g3 q3 f.nn.1 g2 (ns_ok h5) (ns_ok h6) (okO a y φ h7) (okO b z φ h8)
  | .isi t a, e, φ, h => by
    rw [chkE] at h
    obtain ⟨x, pp, es, p, rfl, h⟩ := onCall_ok h
    obtain ⟨h0, h⟩ := and2 h
    obtain ⟨h1, h2⟩ := and2 h0
    obtain ⟨y, z, rfl, h⟩ := on2_ok h
    obtain ⟨h3, h4⟩ := and2 h
    obtain ⟨h5, h6⟩ := and2 h3
    obtain ⟨n, p2, rfl, hz⟩ := onNm_ok h4
    obtain ⟨h7, h8⟩ := and2 hz
    have hx := dec1 h1
    subst hx
    have hn := dec1 h7
    subst hn
    obtain ⟨g1, g2, g3⟩ := blt_ok φ h2
    obtain ⟨k1, k2, k3⟩ := blt_ok φ h8
    obtain ⟨t1, t2, t3, t4⟩ := t.ok
    exact pE_isi t1 g1 g3 k1 k3 t2 t3 k2 (ns_ok h5) (okO a y φ h6)
  | .idx a b, e, φ, h => by
    rw [chkE] at h
    obtain ⟨o, n, ap, es, p, rfl, hl, h⟩ := onMet_ok h
    obtain ⟨h0, h⟩ := and2 h
    obtain ⟨h1, h2⟩ := and2 h0
    obtain ⟨y, rfl, h⟩ := on1_ok h
    obtain ⟨h3, h4⟩ := and2 h
    obtain ⟨h5, h6⟩ := and2 h4
    have hx := dec1 h1
    subst hx
    exact pE_index φ.hu (okO a o φ h5) (okO b y φ h6) (nSup_ok h2 _ _ _) (ns_ok h3) hl
  | .cnt a b, e, φ, h => by
    rw [chkE] at h
    obtain ⟨o, n, ap, es, p, rfl, hl, h⟩ := onMet_ok h
    obtain ⟨h0, h⟩ := and2 h
    obtain ⟨h1, h2⟩ := and2 h0
    obtain ⟨y, rfl, h⟩ := on1_ok h
    obtain ⟨h3, h4⟩ := and2 h
    obtain ⟨h5, h6⟩ := and2 h4
    have hx := dec1 h1
    subst hx
    exact pE_count (okO a o φ h5) (okO b y φ h6) (nSup_ok h2 _ _ _) (ns_ok h3) hl
  | .rvt a, e, φ, h => by
    rw [chkE] at h
    obtain ⟨x, pp, es, p, rfl, h⟩ := onCall_ok h
    obtain ⟨h0, h⟩ := and2 h
    obtain ⟨hc, h0⟩ := and2 h0
    obtain ⟨h1, h2⟩ := and2 h0
    obtain ⟨z, rfl, hz⟩ := on1_ok h
    obtain ⟨y, pp2, es2, p2, rfl, hy⟩ := onCall_ok hz
    obtain ⟨h3, h4⟩ := and2 hy
    obtain ⟨h5, h6⟩ := and2 h3
    obtain ⟨v, rfl, hv⟩ := on1_ok h4
    obtain ⟨h7, h8⟩ := and2 hv
    have hx := dec1 h1
    subst hx
    have hy' := dec1 h5
    subst hy'
    obtain ⟨g1, g2, g3⟩ := blt_ok φ h2
    obtain ⟨k1, k2, k3⟩ := blt_ok φ h6
    exact pE_rvt (φ.calm hc) g1 g3 k1 k3 (ns_ok h7) (okO a v φ h8)
  | .call n a, e, φ, h => by
    rw [chkE] at h
    obtain ⟨x, pp, es, p, rfl, h⟩ := onCall_ok h
    obtain ⟨h0, h⟩ := and2 h
    obtain ⟨h1, h2⟩ := and2 h0
    rw [← φ.sc] at h2
    obtain ⟨g1, g2⟩ := gloB_ok h2
    obtain ⟨k, f, fd, ps, r1, r2, r3, r4, r5, r6⟩ := φ.fns n x (dec1 h1)
    obtain ⟨ha, hs⟩ := okA a es φ h
    cases es with
    | nil =>
      have hn : a = .nil := by
        cases a with
        | nil => rfl
        | d e l => rw [chkA] at h; cases h
        | pool i l => rw [chkA] at h; cases h
      subst hn
      exact pE_call0 φ.tk r1 r6 r5 g1 r2 r3 r4 g2
    | cons y ys =>
      obtain ⟨hs1, hs2⟩ := hs
      exact pE_call φ.tk r1 r6 r5 g1 r2 r3 r4 ha g2 hs1 (hs2 p)
  | .fr f, e, φ, h => by
    rw [chkE] at h
    exact pe_FE (okF f e φ h)
  | .bad, e, φ, h => ⟨fun _ _ _ _ _ _ ⟨_, _, _, _, _, _, z⟩ => z.elim⟩
  | .dsub ks l k, e, φ, h => by
    rw [chkE] at h
    obtain ⟨x, y, p, rfl, h⟩ := onIx_ok h
    obtain ⟨h1, h⟩ := and2 h
    obtain ⟨h2, h⟩ := and2 h
    obtain ⟨keys, values, dp, rfl, h⟩ := onDict_ok h
    obtain ⟨h3, h⟩ := and2 h
    obtain ⟨h4, h5⟩ := and2 h
    obtain ⟨n1, h3⟩ := and2 h3
    obtain ⟨n2, h3⟩ := and2 h3
    obtain ⟨n3, n4⟩ := and2 h3
    obtain ⟨q1, q2⟩ := chkDK_len h4
    exact pE_dsub (by have := φ.hu; omega) (okD l ks keys values dp φ (dec1 n3) h4 h5) q1 (dec1 n3) (fun z => by rw [z] at n4; cases n4) (by rw [q2]; exact dec1 n2) (dec1 n2) (dec1 n1) (okE k y φ h2) (nSl_ok h1)
  | .dct ks l, e, φ, h => by
    rw [chkE] at h
    obtain ⟨keys, values, dp, e0, h'⟩ := onDict_ok h
    clear h
    subst e0
    by_cases he : ks.isEmpty = true
    · rw [if_pos he] at h'
      obtain ⟨h1, h2⟩ := and2 h'
      obtain ⟨h3, h4⟩ := and2 h1
      cases keys with
      | cons _ _ => cases h3
      | nil =>
        cases values with
        | cons _ _ => cases h4
        | nil =>
          cases ks with
          | cons _ _ => cases he
          | nil =>
            cases l with
            | cons _ _ => cases h2
            | nil =>
              have e : denE M (.dct [] .nil) = fun _ => .ret (.dict []) := by
                funext ρ
                show W.mk _ _ = W.mk _ _
                congr 1
                funext Q X
                exact propext ⟨fun q => q.2, fun q => ⟨rfl, q⟩⟩
              rw [e]
              exact pE_dct0
    · rw [if_neg he] at h'
      obtain ⟨h3, h⟩ := and2 h'
      obtain ⟨h4, h5⟩ := and2 h
      obtain ⟨n1, h3⟩ := and2 h3
      obtain ⟨n1, ntx⟩ := and2 n1
      obtain ⟨n2, h3⟩ := and2 h3
      obtain ⟨n3, n4⟩ := and2 h3
      obtain ⟨q1, q2⟩ := chkDK_len h4
      exact pE_dct (okD l ks keys values dp φ (dec1 n3) h4 h5) q1 (dec1 n3) (fun z => by rw [z] at n4; cases n4) (by rw [q2]; exact dec1 n2) (dec1 n2) (dec1 n1) (fun k hk => List.all_eq_true.mp ntx k hk)
  | .kix x t a, e, φ, h => by
    rw [chkE] at h
    obtain ⟨l, r, p, rfl, h⟩ := onIx_ok h
    obtain ⟨h0, h⟩ := and2 h
    obtain ⟨h1, h2⟩ := and2 h0
    obtain ⟨h3, h4⟩ := and2 h
    obtain ⟨y, pp, rfl, h1⟩ := onNm_ok h1
    obtain ⟨h5, h6⟩ := and2 h1
    have hx := dec1 h5
    subst hx
    rw [← φ.sc] at h6
    obtain ⟨q1, q2⟩ := gloB_ok h6
    exact pE_kix (φ.tbl _ _ (memT_ok h2)) q1 q2 (okO a r φ h4) (nSl_ok h3)
  | .dget i k, e, φ, h => by
    rw [chkE] at h
    obtain ⟨x, y, p, rfl, h⟩ := onIx_ok h
    obtain ⟨h0, h⟩ := and2 h
    obtain ⟨h1, h2⟩ := and2 h
    obtain ⟨n, pn, rfl, h1⟩ := onNm_ok h1
    obtain ⟨a, b, c, d⟩ := var_ok φ h1
    exact pE_dget (by have := φ.hu; omega) a b c d (okE k y φ h2) (nSl_ok h0)
  | .dget2 i k z, e, φ, h => by
    rw [chkE] at h
    obtain ⟨o, n, ap, es, p, rfl, hl, h⟩ := onMet_ok h
    obtain ⟨h0, h⟩ := and2 h
    obtain ⟨h1, h2⟩ := and2 h
    obtain ⟨x, px, rfl, h1⟩ := onNm_ok h1
    obtain ⟨y, w, rfl, h2⟩ := on2_ok h2
    obtain ⟨h3, h4⟩ := and2 h2
    obtain ⟨h5, h6⟩ := and2 h3
    obtain ⟨h7, h8⟩ := and2 h4
    obtain ⟨a, b, c, d⟩ := var_ok φ h1
    have hx := dec1 h0
    subst hx
    exact pE_dget2 (by have := φ.hu; omega) a b c d (okE k y φ h7) (okE z w φ h8) (ns_ok h5) (ns_ok h6) hl
theorem okO {X : Cx} {Wx : WX} {Γ : Tab} {M : Mg} : ∀ (t : IO) (e : Expr), Fit X Wx Γ M → chkO Γ t e = true → PE X e (TEo X Wx (denO M t))
  | .e t, e, φ, h => by
    rw [chkO] at h
    exact pe_EO (okE t e φ h)
  | .own i, e, φ, h => by
    rw [chkO] at h
    obtain ⟨x, p, rfl, h⟩ := onNm_ok h
    obtain ⟨a, b, c, d⟩ := var_ok φ h
    exact pO_var a b c d
theorem okF {X : Cx} {Wx : WX} {Γ : Tab} {M : Mg} : ∀ (t : IF) (e : Expr), Fit X Wx Γ M → chkF Γ t e = true → PE X e (TEf X Wx (denF M t))
  | .lst l, e, φ, h => by
    rw [chkF] at h
    obtain ⟨es, p, rfl, h⟩ := onLst_ok h
    exact pF_lst (okL l es φ h)
  | .cat a b, e, φ, h => by
    rw [chkF] at h
    obtain ⟨x, o', y, p, rfl, h⟩ := onBin_ok h
    obtain ⟨h0, h⟩ := and2 h
    obtain ⟨h1, h2⟩ := and2 h
    rw [dec1 h0]
    exact pF_bin (o := .Add) op_cat br_catF (okO a x φ h1) (okO b y φ h2)
  | .rep a b, e, φ, h => by
    rw [chkF] at h
    obtain ⟨x, o', y, p, rfl, h⟩ := onBin_ok h
    obtain ⟨h0, h⟩ := and2 h
    obtain ⟨h1, h2⟩ := and2 h
    rw [dec1 h0]
    exact pF_bin (o := .Mult) op_rep br_repF (okO a x φ h1) (okO b y φ h2)
  | .list a, e, φ, h => by
    rw [chkF] at h
    obtain ⟨x, pp, es, p, rfl, h⟩ := onCall_ok h
    obtain ⟨h0, h⟩ := and2 h
    obtain ⟨hc, h0⟩ := and2 h0
    obtain ⟨h1, h2⟩ := and2 h0
    obtain ⟨y, rfl, h⟩ := on1_ok h
    obtain ⟨h3, h4⟩ := and2 h
    have hx := dec1 h1
    subst hx
    obtain ⟨g1, g2, g3⟩ := blt_ok φ h2
    exact pF_ty1 call_list_of br_list g1 g3 (by decide +kernel) (by decide +kernel) g2 (ns_ok h3) (okO a y φ h4)
  | .srtS a, e, φ, h => by
    rw [chkF] at h
    obtain ⟨x, pp, es, p, rfl, h⟩ := onCall_ok h
    obtain ⟨h0, h⟩ := and2 h
    obtain ⟨hc, h0⟩ := and2 h0
    obtain ⟨h1, h2⟩ := and2 h0
    obtain ⟨z, rfl, hz⟩ := on1_ok h
    obtain ⟨y, pp2, es2, p2, rfl, hy⟩ := onCall_ok hz
    obtain ⟨h3, h4⟩ := and2 hy
    obtain ⟨h5, h6⟩ := and2 h3
    obtain ⟨v, rfl, hv⟩ := on1_ok h4
    obtain ⟨h7, h8⟩ := and2 hv
    have hx := dec1 h1
    subst hx
    have hy' := dec1 h5
    subst hy'
    obtain ⟨g1, g2, g3⟩ := blt_ok φ h2
    obtain ⟨k1, k2, k3⟩ := blt_ok φ h6
    exact pF_srtSet (φ.calm hc) (by have := φ.hu; omega) g1 g3 k1 k3 (ns_ok h7) (okO a v φ h8)
  | .srtL a, e, φ, h => by
    rw [chkF] at h
    obtain ⟨x, pp, es, p, rfl, h⟩ := onCall_ok h
    obtain ⟨h0, h⟩ := and2 h
    obtain ⟨h1, h2⟩ := and2 h0
    obtain ⟨y, rfl, h⟩ := on1_ok h
    obtain ⟨h3, h4⟩ := and2 h
    have hx := dec1 h1
    subst hx
    obtain ⟨g1, g2, g3⟩ := blt_ok φ h2
    exact pF_srtL (by have := φ.hu; omega) g1 g3 (ns_ok h3) (okO a y φ h4)
  | .rg1 a, e, φ, h => by
    rw [chkF] at h
    obtain ⟨x, pp, es, p, rfl, h⟩ := onCall_ok h
    obtain ⟨h0, h⟩ := and2 h
    obtain ⟨hc, h0⟩ := and2 h0
    obtain ⟨h1, h2⟩ := and2 h0
    obtain ⟨z, rfl, hz⟩ := on1_ok h
    obtain ⟨y, pp2, es2, p2, rfl, hy⟩ := onCall_ok hz
    obtain ⟨h3, h4⟩ := and2 hy
    obtain ⟨h5, h6⟩ := and2 h3
    obtain ⟨v, rfl, hv⟩ := on1_ok h4
    obtain ⟨h7, h8⟩ := and2 hv
    have hx := dec1 h1
    subst hx
    have hy' := dec1 h5
    subst hy'
    obtain ⟨g1, g2, g3⟩ := blt_ok φ h2
    obtain ⟨k1, k2, k3⟩ := blt_ok φ h6
    exact pF_listR1 (φ.calm hc) g1 g3 k1 k3 (ns_ok h7) (okE a v φ h8)
  | .rg2 a b, e, φ, h => by
    rw [chkF] at h
    obtain ⟨x, pp, es, p, rfl, h⟩ := onCall_ok h
    obtain ⟨h0, h⟩ := and2 h
    obtain ⟨hc, h0⟩ := and2 h0
    obtain ⟨h1, h2⟩ := and2 h0
    obtain ⟨z, rfl, hz⟩ := on1_ok h
    obtain ⟨y, pp2, es2, p2, rfl, hy⟩ := onCall_ok hz
    obtain ⟨h3, h4⟩ := and2 hy
    obtain ⟨h5, h6⟩ := and2 h3
    obtain ⟨v, v2, rfl, hv⟩ := on2_ok h4
    obtain ⟨h7, h8⟩ := and2 hv
    obtain ⟨n1, n2⟩ := and2 h7
    obtain ⟨c1, c2⟩ := and2 h8
    have hx := dec1 h1
    subst hx
    have hy' := dec1 h5
    subst hy'
    obtain ⟨g1, g2, g3⟩ := blt_ok φ h2
    obtain ⟨k1, k2, k3⟩ := blt_ok φ h6
    exact pF_listR2 (φ.calm hc) g1 g3 k1 k3 (ns_ok n1) (ns_ok n2) (okE a v φ c1) (okE b v2 φ c2)
  | .lc vs t i c e, ex, φ, h => by
    rw [chkF] at h
    obtain ⟨elt, gs, scope, p, rfl, h⟩ := onLc_ok h
    obtain ⟨tg, it, ifs, rfl, h⟩ := onG1_ok h
    obtain ⟨h0, h⟩ := and2 h
    obtain ⟨hc, h0⟩ := and2 h0
    obtain ⟨h1, h0⟩ := and2 h0
    obtain ⟨h2, h0⟩ := and2 h0
    obtain ⟨h3, h4⟩ := and2 h0
    obtain ⟨k1, h⟩ := and2 h
    obtain ⟨k2, h⟩ := and2 h
    obtain ⟨k3, k4⟩ := and2 h
    rw [← φ.sc, ← φ.N] at h3
    have hvs : (ownL X.N vs).map (·.2) = vs := ownL_snd _ _
    refine pe_of (pe_lc (g := gT X.K t) (te := RdE X.K X.mg W0 (denE M e)) (tt := RdT X.K X.mg W0 (denQ M c)) (φ.calm hc) (nd_ok φ) (okI i tg it φ k1) (blkOk_by h3) (fun s H C cl fp => pg_TT (φ.blk s H C cl fp) (φ.calm hc) k2)
      (fun s H C cl fp => okQ c ifs (φ.blk s H C cl fp) k3) (fun s H C cl fp => okE e elt (φ.blk s H C cl fp) k4) (nSet_ok h1 _)) ?_
    rw [hvs]
    exact rdLc (all_mem h4) (pl_ok h2)
  | .lc2 vs t i c vs1 t1 i1 c1 e, ex, φ, h => by
    rw [chkF] at h
    obtain ⟨elt, gs, scope, p, rfl, h⟩ := onLc_ok h
    obtain ⟨tg, it, ifs, tg1, it1, ifs1, rfl, h⟩ := onG2_ok h
    obtain ⟨h0, h⟩ := and2 h
    obtain ⟨ha, hb⟩ := and2 h0
    obtain ⟨hc, h0⟩ := and2 ha
    obtain ⟨h1, h0⟩ := and2 h0
    obtain ⟨h2, h0⟩ := and2 h0
    obtain ⟨h3, h4⟩ := and2 h0
    obtain ⟨b1, hb⟩ := and2 hb
    obtain ⟨b2, hb⟩ := and2 hb
    obtain ⟨b3, b4⟩ := and2 hb
    obtain ⟨ka, kb⟩ := and2 h
    obtain ⟨k1, ka⟩ := and2 ka
    obtain ⟨k2, k3⟩ := and2 ka
    obtain ⟨k4, kb⟩ := and2 kb
    obtain ⟨k5, kb⟩ := and2 kb
    obtain ⟨k6, k7⟩ := and2 kb
    rw [← φ.sc, ← φ.N] at h3
    have hvs : (ownL X.N vs).map (·.2) = vs := ownL_snd _ _
    refine pe_of (pe_lc2 (vs1 := vs1) (g := gT X.K t) (g1 := gT X.K t1) (te := RdE X.K X.mg W0 (denE M e)) (tt := RdT X.K X.mg W0 (denQ M c)) (tt1 := RdT X.K X.mg W0 (denQ M c1)) (wi1 := TIi X W0 (denI M i1) i1.pl) (φ.calm hc) (nd_ok φ) (okI i tg it φ k1) (blkOk_by h3) (by rw [hvs]; exact all_mem b3) (fun s H C cl fp => pg_TT (φ.blk s H C cl fp) (φ.calm hc) k2)
      (fun s H C cl fp => okQ c ifs (φ.blk s H C cl fp) k3) (fun s H C cl fp => okI i1 tg1 it1 (φ.blk s H C cl fp) k4) (fun s H C cl fp => pg_TT (φ.blk s H C cl fp) (φ.calm hc) k5)
      (fun s H C cl fp => okQ c1 ifs1 (φ.blk s H C cl fp) k6) (fun s H C cl fp => okE e elt (φ.blk s H C cl fp) k7) (nSet_ok h1 _) (nSet_ok b1)) ?_
    rw [hvs]
    exact rdLc2 (all_mem h4) (all_mem b4) (pl_ok h2) (pl_ok b2)
theorem okC {X : Cx} {Wx : WX} {Γ : Tab} {M : Mg} : ∀ (t : IC) (e : Expr), Fit X Wx Γ M → chkC Γ t e = true → PT X e (TTt X Wx (denC M t))
  | .tru a, e, φ, h => by
    rw [chkC] at h
    obtain ⟨h1, h2⟩ := and2 h
    exact pT_tru (okO a e φ h2) (nT_ok h1 _)
  | .cmp o a b, e, φ, h => by
    rw [chkC] at h
    obtain ⟨x, o', y, p, rfl, h⟩ := onCmp_ok h
    obtain ⟨h0, h⟩ := and2 h
    obtain ⟨h3, h⟩ := and2 h
    obtain ⟨h1, h2⟩ := and2 h
    obtain ⟨r, q1, q2⟩ := CO.ok φ.hu o
    rw [dec1 h0]
    exact pT_cmp q1 q2 (nSet_mark h3 _) (okO a x φ h1) (okO b y φ h2)
  | .chn o o' a b c, e, φ, h => by
    rw [chkC] at h
    obtain ⟨x, p1, y, p2, z, p, rfl, h⟩ := onCh_ok h
    obtain ⟨h0, h⟩ := and2 h
    obtain ⟨h00, h01⟩ := and2 h0
    obtain ⟨h3, h⟩ := and2 h
    obtain ⟨h1, h⟩ := and2 h
    obtain ⟨h2, h4⟩ := and2 h
    obtain ⟨r, q1, q2⟩ := CO.ok φ.hu o
    obtain ⟨r', q1', q2'⟩ := CO.ok φ.hu o'
    rw [dec1 h00, dec1 h01]
    exact pT_chn q1 q1' q2 q2' (nSet_mark h3 _) (okO a x φ h1) (okO b y φ h2) (okO c z φ h4)
  | .not c, e, φ, h => by
    rw [chkC] at h
    obtain ⟨o, x, p, rfl, h⟩ := onUn_ok h
    obtain ⟨h0, h⟩ := and2 h
    rw [dec1 h0]
    exact pT_not (okC c x φ h)
  | .and x, e, φ, h => by
    rw [chkC] at h
    obtain ⟨o, es, p, rfl, h⟩ := onBo_ok h
    obtain ⟨h0, h⟩ := and2 h
    rw [dec1 h0]
    exact (okKA x es p φ h).pt
  | .or x, e, φ, h => by
    rw [chkC] at h
    obtain ⟨o, es, p, rfl, h⟩ := onBo_ok h
    obtain ⟨h0, h⟩ := and2 h
    rw [dec1 h0]
    exact (okKO x es p φ h).pt
  | .kin neg x t a, e, φ, h => by
    rw [chkC] at h
    obtain ⟨l, o, r, p, rfl, h⟩ := onCmp_ok h
    obtain ⟨h0, h1⟩ := and2 h
    obtain ⟨h2, h3⟩ := and2 h0
    obtain ⟨h4, h5⟩ := and2 h3
    obtain ⟨y, pp, rfl, h4⟩ := onNm_ok h4
    obtain ⟨h6, h7⟩ := and2 h4
    have hx := dec1 h6
    subst hx
    have ho := dec1 h2
    subst ho
    rw [← φ.sc] at h7
    obtain ⟨q1, q2⟩ := gloB_ok h7
    exact pT_kin (φ.tbl _ _ (memT_ok h5)) q1 q2 (okO a l φ h1)
theorem okQ {X : Cx} {Wx : WX} {Γ : Tab} {M : Mg} : ∀ (t : IQ) (es : List Expr), Fit X Wx Γ M → chkQ Γ t es = true → PTs X es (RdT X.K X.mg Wx (denQ M t))
  | .no, es, φ, h => by
    rw [chkQ] at h
    cases es with
    | nil => exact pts_yes
    | cons _ _ => cases h
  | .one c, es, φ, h => by
    rw [chkQ] at h
    obtain ⟨e, rfl, h⟩ := on1_ok h
    exact pts_one (okC c e φ h)
theorem okKA {X : Cx} {Wx : WX} {Γ : Tab} {M : Mg} : ∀ (t : IK) (es : List Expr) (p : Pos), Fit X Wx Γ M → chkK Γ t es = true → PW X (.BoolOp .And es p) (TTt X Wx (denK M true t))
  | .one c, es, p, φ, h => by
    rw [chkK] at h
    obtain ⟨e, rfl, h⟩ := on1_ok h
    exact pW_and1 (okC c e φ h)
  | .more c x, es, p, φ, h => by
    rw [chkK] at h
    obtain ⟨e, r, rfl, h⟩ := onC_ok h
    obtain ⟨h1, h⟩ := and2 h
    obtain ⟨h2, h3⟩ := and2 h
    have hx := okKA x r p φ h3
    obtain ⟨b, r', rfl⟩ := ne_ok h2
    have q := pW_and (okC c e φ h1) hx
    rw [and_eq] at q
    exact q
theorem okKO {X : Cx} {Wx : WX} {Γ : Tab} {M : Mg} : ∀ (t : IK) (es : List Expr) (p : Pos), Fit X Wx Γ M → chkK Γ t es = true → PW X (.BoolOp .Or es p) (TTt X Wx (denK M false t))
  | .one c, es, p, φ, h => by
    rw [chkK] at h
    obtain ⟨e, rfl, h⟩ := on1_ok h
    exact pW_or1 (okC c e φ h)
  | .more c x, es, p, φ, h => by
    rw [chkK] at h
    obtain ⟨e, r, rfl, h⟩ := onC_ok h
    obtain ⟨h1, h⟩ := and2 h
    obtain ⟨h2, h3⟩ := and2 h
    have hx := okKO x r p φ h3
    obtain ⟨b, r', rfl⟩ := ne_ok h2
    have q := pW_or (okC c e φ h1) hx
    rw [or_eq] at q
    exact q
theorem okBA {X : Cx} {Wx : WX} {Γ : Tab} {M : Mg} : ∀ (t : IB) (es : List Expr) (p : Pos), Fit X Wx Γ M → chkB Γ t es = true → PE X (.BoolOp .And es p) (TEe X Wx (denB M true t))
  | .one c, es, p, φ, h => by
    rw [chkB] at h
    obtain ⟨e, rfl, h⟩ := on1_ok h
    exact pE_one (okE c e φ h)
  | .more c x, es, p, φ, h => by
    rw [chkB] at h
    obtain ⟨e, r, rfl, h⟩ := onC_ok h
    obtain ⟨h1, h⟩ := and2 h
    obtain ⟨h2, h3⟩ := and2 h
    have hx := okBA x r p φ h3
    obtain ⟨b, r', rfl⟩ := ne_ok h2
    exact pE_and (okE c e φ h1) hx
theorem okBO {X : Cx} {Wx : WX} {Γ : Tab} {M : Mg} : ∀ (t : IB) (es : List Expr) (p : Pos), Fit X Wx Γ M → chkB Γ t es = true → PE X (.BoolOp .Or es p) (TEe X Wx (denB M false t))
  | .one c, es, p, φ, h => by
    rw [chkB] at h
    obtain ⟨e, rfl, h⟩ := on1_ok h
    exact pE_one (okE c e φ h)
  | .more c x, es, p, φ, h => by
    rw [chkB] at h
    obtain ⟨e, r, rfl, h⟩ := onC_ok h
    obtain ⟨h1, h⟩ := and2 h
    obtain ⟨h2, h3⟩ := and2 h
    have hx := okBO x r p φ h3
    obtain ⟨b, r', rfl⟩ := ne_ok h2
    have q := pE_or (okE c e φ h1) hx
    rw [orE_eq] at q
    exact q
theorem okI {X : Cx} {Wx : WX} {Γ : Tab} {M : Mg} : ∀ (t : II) (tg e : Expr), Fit X Wx Γ M → chkI Γ t tg e = true → PI X tg e (TIi X Wx (denI M t) t.pl)
  | .seq t, tg, e, φ, h => by
    rw [chkI] at h
    exact pI_seq (okE t e φ h)
  | .r1 t, tg, e, φ, h => by
    rw [chkI] at h
    obtain ⟨x, pp, es, p, rfl, h⟩ := onCall_ok h
    obtain ⟨h0, h⟩ := and2 h
    obtain ⟨h1, h2⟩ := and2 h0
    obtain ⟨y, rfl, h⟩ := on1_ok h
    obtain ⟨h3, h4⟩ := and2 h
    have hx := dec1 h1
    subst hx
    obtain ⟨g1, g2, g3⟩ := blt_ok φ h2
    exact pI_rng1 g1 g3 (ns_ok h3) (okE t y φ h4)
  | .r2 a b, tg, e, φ, h => by
    rw [chkI] at h
    obtain ⟨x, pp, es, p, rfl, h⟩ := onCall_ok h
    obtain ⟨h0, h⟩ := and2 h
    obtain ⟨h1, h2⟩ := and2 h0
    obtain ⟨y, z, rfl, h⟩ := on2_ok h
    obtain ⟨h3, h4⟩ := and2 h
    obtain ⟨h5, h6⟩ := and2 h3
    obtain ⟨h7, h8⟩ := and2 h4
    have hx := dec1 h1
    subst hx
    obtain ⟨g1, g2, g3⟩ := blt_ok φ h2
    exact pI_rng2 g1 g3 (ns_ok h5) (ns_ok h6) (okE a y φ h7) (okE b z φ h8)
  | .rev t, tg, e, φ, h => by
    rw [chkI] at h
    obtain ⟨x, pp, es, p, rfl, h⟩ := onCall_ok h
    obtain ⟨h0, h⟩ := and2 h
    obtain ⟨h1, h2⟩ := and2 h0
    obtain ⟨y, rfl, h⟩ := on1_ok h
    obtain ⟨h3, h4⟩ := and2 h
    have hx := dec1 h1
    subst hx
    obtain ⟨g1, g2, g3⟩ := blt_ok φ h2
    exact pI_rev g1 g3 (ns_ok h3) (okE t y φ h4)
  | .zip a b, tg, e, φ, h => by
    rw [chkI] at h
    obtain ⟨ht, h⟩ := and2 h
    obtain ⟨es0, k0, p0, rfl, _⟩ := onTup_ok ht
    obtain ⟨x, pp, es, p, rfl, h'⟩ := onCall_ok h
    obtain ⟨h0, h⟩ := and2 h'
    obtain ⟨h1, h2⟩ := and2 h0
    obtain ⟨y, z, rfl, h⟩ := on2_ok h
    obtain ⟨h3, h4⟩ := and2 h
    obtain ⟨h5, h6⟩ := and2 h3
    obtain ⟨h7, h8⟩ := and2 h4
    have hx := dec1 h1
    subst hx
    obtain ⟨g1, g2, g3⟩ := blt_ok φ h2
    exact pI_zip g1 g3 (ns_ok h5) (ns_ok h6) (okE a y φ h7) (okE b z φ h8)
theorem okP {X : Cx} {Wx : WX} {Γ : Tab} {M : Mg} : ∀ (t : IP) (o : Option Expr), Fit X Wx Γ M → chkP Γ t o = true → PO X o (TOp X Wx (denP M t))
  | .no, o, φ, h => by
    rw [chkP] at h
    cases o with
    | none => exact pP_none
    | some _ => cases h
  | .one t, o, φ, h => by
    rw [chkP] at h
    obtain ⟨e, rfl, h⟩ := onO_ok h
    exact pP_some (okE t e φ h)
theorem okL {X : Cx} {Wx : WX} {Γ : Tab} {M : Mg} : ∀ (t : IL) (es : List Expr), Fit X Wx Γ M → chkL Γ t es = true → PA X es (TAl X Wx (denL M t))
  | .nil, es, φ, h => by
    rw [chkL] at h
    cases es with
    | nil => exact pL_nil
    | cons _ _ => cases h
  | .cons t l, es, φ, h => by
    rw [chkL] at h
    obtain ⟨e, r, rfl, h⟩ := onC_ok h
    obtain ⟨h1, h⟩ := and2 h
    obtain ⟨h2, h3⟩ := and2 h
    exact pL_cons (ns_ok h1) (okE t e φ h2) (okL l r φ h3)
theorem okD {X : Cx} {Wx : WX} {Γ : Tab} {M : Mg} : ∀ (t : IL) (ks : List Str) (keys : List (Option Expr)) (values : List Expr) (dp : Pos), Fit X Wx Γ M → keys.length = values.length → chkDK ks keys = true → chkL Γ t values = true → PDs X Wx dp keys values ks (denL M t)
  | .nil, ks, keys, values, dp, φ, hl, hk, h => by
    rw [chkL] at h
    cases values with
    | cons _ _ => cases h
    | nil =>
      cases keys with
      | cons _ _ => cases hl
      | nil =>
        cases ks with
        | nil => exact pd_nil
        | cons _ _ => cases hk
  | .cons t l, ks, keys, values, dp, φ, hl, hk, h => by
    rw [chkL] at h
    obtain ⟨e, r, rfl, h⟩ := onC_ok h
    obtain ⟨h1, h⟩ := and2 h
    obtain ⟨h2, h3⟩ := and2 h
    cases ks with
    | nil =>
      cases keys with
      | nil => cases hl
      | cons _ _ => cases hk
    | cons k ks =>
      cases keys with
      | nil => cases hk
      | cons k0 keys =>
        obtain ⟨hk1, hk2⟩ := and2 (show ((onO k0 fun x => onCst x fun c => decide (c = .str k)) && chkDK ks keys) = true from hk)
        obtain ⟨x, rfl, hk1⟩ := onO_ok hk1
        obtain ⟨c, j, kp, rfl, hk1⟩ := onCst_ok hk1
        rw [dec1 hk1]
        exact pd_cons (okE t e φ h2) (okD l ks keys r dp φ (by simpa using hl) hk2 h3)
theorem okA {X : Cx} {Wx : WX} {Γ : Tab} {M : Mg} : ∀ (t : IA) (es : List Expr), Fit X Wx Γ M → chkA Γ t es = true → PA X es (TAa X Wx (denA M t)) ∧
    (match es with | [] => True | e :: r => starEach (e :: r) X.env = (false, eval e X.env) :: starEach r X.env ∧ ∀ p, (backTo p (starEach r X.env)).any (·.1) = false)
  | .nil, es, φ, h => by
    rw [chkA] at h
    cases es with
    | nil => exact ⟨pA_nil, trivial⟩
    | cons _ _ => cases h
  | .d t l, es, φ, h => by
    rw [chkA] at h
    obtain ⟨e, r, rfl, h⟩ := onC_ok h
    obtain ⟨h1, h⟩ := and2 h
    obtain ⟨h2, h3⟩ := and2 h
    obtain ⟨q1, q2⟩ := okA l r φ h3
    refine ⟨pA_cons (ns_ok h1) (okE t e φ h2) q1, star1 (ns_ok h1) _, fun p => ?_⟩
    cases r with
    | nil => rfl
    | cons y ys =>
      rw [q2.1]
      have := q2.2 p
      simpa [backTo] using this
  | .pool i l, es, φ, h => by
    rw [chkA] at h
    obtain ⟨e, r, rfl, h⟩ := onC_ok h
    obtain ⟨h2, h3⟩ := and2 h
    obtain ⟨x, p, rfl, h2⟩ := onNm_ok h2
    obtain ⟨a, b, c, d⟩ := var_ok φ h2
    obtain ⟨q1, q2⟩ := okA l r φ h3
    refine ⟨pA_pool a b c d q1, rfl, fun p => ?_⟩
    cases r with
    | nil => rfl
    | cons y ys =>
      rw [q2.1]
      have := q2.2 p
      simpa [backTo] using this
end
end
end Ev

/-! Ev15: several names set at once. -/
namespace Ev
open PySem PySem.Spec PyProof.Rows L2
inductive VsOk (K : PySem.W.Frag) (p : Option Addr) (H0 γ H : Hp) : List V → List Sl → Prop
  | nil : VsOk K p H0 γ H [] []
  | val {v : V} {d : D} {vs : List V} {ss : List Sl} : Rep K γ v d → VsOk K p H0 γ H vs ss → VsOk K p H0 γ H (v :: vs) (.val d :: ss)
  | own {v : V} {xs : List D} {vs : List V} {ss : List Sl} : SlotR K p H0 γ H (some v) (.own xs) → (∀ (k : Nat) (ys : List D), ss[k]? = some (.own ys) → vs[k]? ≠ some v) → VsOk K p H0 γ H vs ss → VsOk K p H0 γ H (v :: vs) (.own xs :: ss)
section
variable {K : PySem.W.Frag} {p : Option Addr} {γ γ' H H' H0 : Hp}
theorem VsOk.ownAt : ∀ {vs : List V} {ss : List Sl} {k : Nat} {ys : List D} {v : V}, VsOk K p H0 γ H vs ss → ss[k]? = some (.own ys) → vs[k]? = some v → SlotR K p H0 γ H (some v) (.own ys)
  | _, _, k, ys, v, .nil, h, _ => by simp at h
  | _, _, 0, ys, v, .val r t, h, _ => by simp at h
  | _, _, k + 1, ys, v, .val r t, h, e => VsOk.ownAt t (by simpa using h) (by simpa using e)
  | _, _, 0, ys, v, .own r n t, h, e => by simp at h e; subst h e; exact r
  | _, _, k + 1, ys, v, .own r n t, h, e => VsOk.ownAt t (by simpa using h) (by simpa using e)
theorem VsOk.length : ∀ {vs : List V} {ss : List Sl}, VsOk K p H0 γ H vs ss → vs.length = ss.length
  | _, _, .nil => rfl
  | _, _, .val _ t => by simp [VsOk.length t]
  | _, _, .own _ _ t => by simp [VsOk.length t]
/-- the ground moved back -/
theorem VsOk.back {H1 : Hp} (h : ∀ a, H1 a = none → H0 a = none) : ∀ {vs : List V} {ss : List Sl}, VsOk K p H1 γ H vs ss → VsOk K p H0 γ H vs ss
  | _, _, .nil => .nil
  | _, _, .val r t => .val r (VsOk.back h t)
  | _, _, .own r n t => .own (let ⟨a, vs, e1, e2, e3, e4, e5, e6⟩ := r; ⟨a, vs, e1, e2, e3, e4, h a e5, e6⟩) n (VsOk.back h t)
theorem VsOk.ext (e : Ext K p γ H γ' H') : ∀ {vs : List V} {ss : List Sl}, VsOk K p H0 γ H vs ss → VsOk K p H0 γ' H' vs ss
  | _, _, .nil => .nil
  | _, _, .val r t => .val (r.mono e.gg) (VsOk.ext e t)
  | _, _, .own r n t => .own (SlotR.ext r e) n (VsOk.ext e t)
end
def PostV (K : PySem.W.Frag) (p : Option Addr) (γ H : Hp) (Q : List V → Hp → Prop) : List Sl → Prop := fun ss => ∀ γ' H' vs, Ext K p γ H γ' H' → VsOk K p H γ' H' vs ss → Q vs H'
abbrev TAv (X : Cx) (Wx : WX) (m : List Sl → W Exc (List Sl)) : TA := fun σ H Q => ∃ p H0 γ ρ, Stt X.K p γ H ∧ EnvR X.K p H0 γ H σ ρ ∧ (m ρ).run (PostV X.K p γ H Q) (ExW X.K X.mg Wx p γ H σ)
section
variable {X : Cx} {Wx : WX} {e : Expr} {es : List Expr} {pos : Pos} {me : List Sl → W Exc D} {mf : List Sl → W Exc (List D)} {mr : List Sl → W Exc (List Sl)}
theorem pV_nil : PA X [] (TAv X Wx fun _ => .ret []) := pa_of pa_nil fun σ H Q ⟨p, H0, γ, ρ, st, er, hm⟩ => hm γ H [] (.refl st) .nil
theorem pV_val (hs : ∀ e' p, e ≠ .Starred e' p) (ha : PE X e (TEe X Wx me)) (hr : PA X es (TAv X Wx mr)) : PA X (e :: es) (TAv X Wx fun ρ => (me ρ).bind fun d => (mr ρ).bind fun ss => .ret (.val d :: ss)) := by
  refine pa_of (pa_cons ha hr (star1 hs X.env)) fun σ H Q ⟨p, H0, γ, ρ, st, er, hm⟩ => ?_
  refine ⟨p, H0, γ, ρ, st, er, (me ρ).mono (fun d h1 γ1 H1 x e1 c1 => ?_) (fun _ q => q) hm⟩
  refine ⟨p, H0, γ1, ρ, e1.st, er.ext e1, (mr ρ).mono (fun ss h2 γ2 H2 vs e2 c2 => ?_) (fun _ q => q.ext st e1) h1⟩
  exact h2 γ2 H2 _ (Ext.trans st e1 e2) (.val (c1.mono e2.gg) (c2.back fun a n => e1.fre st n))
theorem pV_own (hs : ∀ e' p, e ≠ .Starred e' p) (ha : PE X e (TEf X Wx mf)) (hr : PA X es (TAv X Wx mr)) : PA X (e :: es) (TAv X Wx fun ρ => (mf ρ).bind fun d => (mr ρ).bind fun ss => .ret (.own d :: ss)) := by
  refine pa_of (pa_cons ha hr (star1 hs X.env)) fun σ H Q ⟨p, H0, γ, ρ, st, er, hm⟩ => ?_
  refine ⟨p, H0, γ, ρ, st, er, (mf ρ).mono (fun d h1 γ1 H1 al ws e1 n n' hq r => ?_) (fun _ q => q) hm⟩
  have hp : p ≠ some al := fun hp => by
    obtain ⟨_, _, _, _, _, _, _, f1, _⟩ := st.pool al hp
    rw [n] at f1; cases f1
  refine ⟨p, H0, γ1, ρ, e1.st, er.ext e1, (mr ρ).mono (fun ss h2 γ2 H2 vs e2 c2 => ?_) (fun _ q => q.ext st e1) h1⟩
  refine h2 γ2 H2 _ (Ext.trans st e1 e2) (.own ⟨al, ws, rfl, e2.same al _ hp hq, e2.gnone n' hq, hp, n, r.mono e2.gg⟩ (fun k ys hk hv => ?_) (c2.back fun a n => e1.fre st n))
  obtain ⟨b, us, g1, g2, g3, g4, g5, g6⟩ := c2.ownAt hk hv
  cases g1
  rw [hq] at g5; cases g5
def setS : List Nat → List Sl → List Sl → List Sl
  | i :: is, s :: ss, ρ => setS is ss (ρ.set i s)
  | _, _, ρ => ρ
/-- the names one after another -/
theorem gAllS {K : PySem.W.Frag} {p : Option Addr} {H0 Hs γ H : Hp} (hb : ∀ a, Hs a = none → H0 a = none) : ∀ {is : List Nat} {vs : List V} {ss : List Sl} {σ : St} {ρ : List Sl} {Q : St → Hp → Prop}, is.Nodup → VsOk K p Hs γ H vs ss → ss.length = is.length → EnvR K p H0 γ H σ ρ →
    (∀ (j : Nat) (ys : List D) (k : Nat) (zs : List D) (v : V), ρ[j]? = some (.own ys) → ss[k]? = some (.own zs) → vs[k]? = some v → σ[j]? ≠ some (some v)) →
    (∀ σ', EnvR K p H0 γ H σ' (setS is ss ρ) → Q σ' H) → gAll is vs σ H Q
  | [], _, _, σ, ρ, Q, _, .nil, _, er, _, h => ⟨rfl, h σ er⟩
  | [], _, _, σ, ρ, Q, _, .val _ _, hl, _, _, _ => by cases hl
  | [], _, _, σ, ρ, Q, _, .own _ _ _, hl, _, _, _ => by cases hl
  | i :: is, _, _, σ, ρ, Q, _, .nil, hl, _, _, _ => by cases hl
  | i :: is, _, _, σ, ρ, Q, nd, .val (v := v) (d := d) (vs := vs) (ss := ss) r t, hl, er, no, h => by
    refine ⟨v, vs, rfl, gAllS hb (List.nodup_cons.mp nd).2 t (by simpa using hl) (er.setVal r) (fun j ys k zs w hj hk hv z => ?_) h⟩
    by_cases hij : i = j
    · subst hij
      by_cases hlt : i < ρ.length
      · rw [List.getElem?_set_self hlt] at hj; cases hj
      · rw [List.getElem?_eq_none (by simpa using hlt)] at hj; cases hj
    · rw [List.getElem?_set_ne hij] at hj z
      exact no j ys (k + 1) zs w hj (by simpa using hk) (by simpa using hv) z
  | i :: is, _, _, σ, ρ, Q, nd, .own (v := v) (xs := xs) (vs := vs) (ss := ss) r n t, hl, er, no, h => by
    have r' : SlotR K p H0 γ H (some v) (.own xs) := let ⟨a, ws, e1, e2, e3, e4, e5, e6⟩ := r; ⟨a, ws, e1, e2, e3, e4, hb a e5, e6⟩
    refine ⟨v, vs, rfl, gAllS hb (List.nodup_cons.mp nd).2 t (by simpa using hl) (er.set r' fun xs' _ j ys hj hy => no j ys 0 xs v hy rfl rfl) (fun j ys k zs w hj hk hv z => ?_) h⟩
    by_cases hij : i = j
    · subst hij
      by_cases hlt : i < ρ.length
      · have hlt' : i < σ.length := by rw [er.len]; exact hlt
        rw [List.getElem?_set_self hlt'] at z
        cases z
        exact n k zs hk hv
      · rw [List.getElem?_eq_none (by simpa using hlt)] at hj; cases hj
    · rw [List.getElem?_set_ne hij] at hj z
      exact no j ys (k + 1) zs w hj (by simpa using hk) (by simpa using hv) z

/-! ### whether the stores are swapped -/
def nmsOf (sc : Scope) (ts : List Expr) (line : Nat) : List Str := ts.filterMap fun
    | .Name id pos => if sc.names.lookup id == some .local && pos.line == line then some id else none
    | _ => none
/-- some none: no; some (some names): yes -/
def swOf (sc : Scope) : Expr → Expr → Option (Option (List Str))
  | .Tuple ts _ _, .Tuple vs _ _ =>
    if !(ts.length == 2 || ts.length == 3) || vs.length != ts.length then some none else
    if (vs.any fun | .Starred .. => true | _ => false) then some none else
    let names := nmsOf sc ts ((ts.head?.map (·.pos.line)).getD 0)
    if names.length != ts.length || names.eraseDups.length != names.length then some none else
    if vs.all (foldedForSure 8) then some none else
    if vs.all (constantsAlone 8) then none else some (some names)
  | _, _ => none
theorem swOf_ok {env : Env} {tg v : Expr} {o : Option (List Str)} (hk : env.scope.kind = .function) (h : swOf env.scope tg v = some o) : swappedStores [tg] v env = pure o := by
  cases tg <;> first | (simp only [swOf] at h; cases h; done) | skip
  rename_i ts k1 p1
  cases v <;> first | (simp only [swOf] at h; cases h; done) | skip
  rename_i vs k2 p2
  have hb : env.blockKind = .function := by unfold Env.blockKind; rw [hk]; rfl
  have hbb : (env.blockKind != ScopeKind.function) = false := by rw [hb]; rfl
  unfold swappedStores
  simp only [hbb, Bool.or_false]
  unfold swOf at h
  dsimp only at h
  by_cases c1 : (!(ts.length == 2 || ts.length == 3) || vs.length != ts.length) = true
  · rw [if_pos c1] at h ⊢
    cases h; rfl
  rw [if_neg c1] at h ⊢
  by_cases c2 : (vs.any fun | .Starred .. => true | _ => false) = true
  · rw [if_pos c2] at h
    cases h
    exact (if_pos c2).trans rfl
  rw [if_neg c2] at h
  refine (if_neg c2).trans ?_
  by_cases c3 : ((nmsOf env.scope ts ((ts.head?.map (·.pos.line)).getD 0)).length != ts.length || (nmsOf env.scope ts ((ts.head?.map (·.pos.line)).getD 0)).eraseDups.length != (nmsOf env.scope ts ((ts.head?.map (·.pos.line)).getD 0)).length) = true
  · rw [if_pos c3] at h
    cases h
    exact (if_pos c3).trans rfl
  rw [if_neg c3] at h
  refine (if_neg c3).trans ?_
  by_cases c4 : vs.all (foldedForSure 8) = true
  · rw [if_pos c4] at h
    cases h
    exact (if_pos c4).trans rfl
  rw [if_neg c4] at h
  refine (if_neg c4).trans ?_
  by_cases c5 : vs.all (constantsAlone 8) = true
  · rw [if_pos c5] at h; cases h
  rw [if_neg c5] at h
  refine (if_neg c5).trans ?_
  cases h; rfl
theorem sw_none {env : Env} {tg v : Expr} (h : ∀ es k p, v ≠ .Tuple es k p) : swappedStores [tg] v env = pure none := by
  unfold swappedStores
  cases v <;> first
    | exact absurd rfl (h _ _ _)
    | (cases tg <;> rfl)
end
end Ev

/-! Ev16: a plain form of statements. -/
namespace Ev
open PySem PySem.Spec PyProof.Rows L2
structure FitS (X : Cx) (Wx : WX) (Γ : Tab) (M : Mg) : Prop extends Fit X Wx Γ M where
  kind : Γ.sc.kind = .function
  stk : X.stack = X.env :: X.outer
  frm : X.env.frame = some X.env.locals
  po : Γ.calm = true → PassesOwn (model X.prog X.w) X.A X.env X.xe
  exe : Γ.exs = M.exs
  exs : ∀ x ∈ M.exs, ∃ C, X.mg x = some (.ref C) ∧ PySem.W.keepIn X.K (.ref C) = true ∧ PySem.W.excIn X.K C He.veBase "ValueError.__new__" = true ∧ Raises X (.ref C)
  exm : ∀ x ∈ M.exs, ∀ y ∈ M.exs, ∀ C Cn, X.mg x = some (.ref C) → X.mg y = some (.ref Cn) → PySem.W.exmOne X.K (.ref C) (.ref Cn) = some (decide (x = y))
section
variable {X : Cx} {Wx : WX} {Γ : Tab} {M : Mg} {p : Option Addr} {γ0 H0 : Hp}
def onAsg (st : Stmt) (k : Expr → Expr → Bool) : Bool := match st with
  | .Assign [t] v _ => k t v
  | _ => false
theorem onAsg_ok {st : Stmt} {k : Expr → Expr → Bool} (h : onAsg st k = true) : ∃ t v p, st = .Assign [t] v p ∧ k t v = true := by
  unfold onAsg at h
  split at h
  · exact ⟨_, _, _, rfl, h⟩
  · cases h
def onEx (st : Stmt) (k : Expr → Bool) : Bool := match st with
  | .Expr v _ => k v
  | _ => false
theorem onEx_ok {st : Stmt} {k : Expr → Bool} (h : onEx st k = true) : ∃ v p, st = .Expr v p ∧ k v = true := by
  cases st <;> first | exact ⟨_, _, rfl, h⟩ | cases h
def nTup : Expr → Bool
  | .Tuple _ _ _ => false
  | _ => true
theorem nTup_ok {e : Expr} (h : nTup e = true) : ∀ es k p, e ≠ .Tuple es k p := by
  intro es k p z; subst z; cases h

/-! ### several names -/
abbrev parS (is : List Nat) (mv : List Sl → W Exc (List Sl)) : S := fun ρ => (lf ρ (mv ρ)).bind fun ss => (W.ask (ss.length = is.length)).bind fun _ => .ret (.nx (setS is ss ρ))
theorem rdPar {is : List Nat} {mv : List Sl → W Exc (List Sl)} (st0 : Stt X.K p γ0 H0) (hnd : is.Nodup) {E : Ends} {σ : St} {H : Hp} (h : TSs X Wx p γ0 H0 (parS is mv) E σ H) {R : List V → Hp → Prop}
    (k : ∀ vs H1, vs.length = is.length → gAll is vs σ H1 E.nx → (∀ (l : Addr) (o : HO), H1 l = none → gAll is vs σ (upd H1 l o) E.nx) → R vs H1) : TAv X Wx mv σ H R := by
  obtain ⟨γ, ρ, e0, er, hm⟩ := h
  refine ⟨p, H0, γ, ρ, e0.st, er, (mv ρ).mono (fun ss h1 γ1 H1 vs e1 c1 => ?_) (fun x q => q.toE st0 e0 er (.refl _)) hm⟩
  obtain ⟨hl, h1⟩ := h1
  have hb : ∀ a, H a = none → H0 a = none := fun a n => e0.fre st0 n
  have no : ∀ (j : Nat) (ys : List D) (k : Nat) (zs : List D) (v : V), ρ[j]? = some (.own ys) → ss[k]? = some (.own zs) → vs[k]? = some v → σ[j]? ≠ some (some v) := fun j ys k zs v hj hk hv z => by
    obtain ⟨a, ws, g1, g2, g3, g4, g5, g6⟩ := c1.ownAt hk hv
    obtain ⟨ov, f1, b, us, f2, f3, _⟩ := er.sl j _ hj
    rw [f1, f2, g1] at z
    cases z
    rw [g5] at f3; cases f3
  refine k vs H1 (by rw [c1.length]; exact hl) ?_ fun l o n => ?_
  · exact gAllS hb hnd c1 hl (er.ext e1) no fun σ' er' => h1 γ1 H1 σ' e1.gg (Ext.trans st0 e0 e1) er'
  · have e2 : Ext X.K p γ1 H1 γ1 (upd H1 l o) := .own e1.st n
    exact gAllS hb hnd (c1.ext e2) hl ((er.ext e1).ext e2) no fun σ' er' => h1 γ1 _ σ' e1.gg (Ext.trans st0 e0 (Ext.trans e0.st e1 e2)) er'
theorem pS_par0 {is : List Nat} {ts es : List Expr} {k1 k2 : Nat} {p1 p2 pos : Pos} {mv : List Sl → W Exc (List Sl)} (st0 : Stt X.K p γ0 H0) (hnd : is.Nodup) (hc : X.calm = true) (hz : is.length ≤ 100) (ha : PA X es (TAv X Wx mv)) (hg : PGs X ts (gAll is)) (hn : (assignEach ts X.env).length = is.length) (hst : (assignEach ts X.env).findIdx? (·.1) = none)
    (hw : swappedStores [.Tuple ts k1 p1] (.Tuple es k2 p2) X.env = pure none) : PS X (.Assign [.Tuple ts k1 p1] (.Tuple es k2 p2) pos) (TSs X Wx p γ0 H0 (parS is mv)) := by
  refine ps_of (ps_asg (pe_tupN ha) (pg_tup hc hg hn hst) rfl hw rfl) fun E σ H h => ?_
  exact rdPar st0 hnd h fun vs H1 hl _ q2 => ⟨by rw [hl]; exact small_of (by omega), fun l o od n => ⟨l, vs, rfl, .inl (.inr ⟨o, upd_same⟩), hl, q2 l _ n⟩⟩
theorem pS_par2 {i j : Nat} {x y : Str} {a b : Expr} {mv : List Sl → W Exc (List Sl)} {px py pt pos : Pos} {kt k2 : Nat} {pt2 : Pos} (st0 : Stt X.K p γ0 H0) (hc : X.calm = true) (hN : X.N.Nodup) (hi : X.N[i]? = some x) (hj : X.N[j]? = some y) (hij : i ≠ j)
    (hx : X.env.scope.names.lookup x = some .local) (hy : X.env.scope.names.lookup y = some .local) (ha : PA X [a, b] (TAv X Wx mv)) (hw : swappedStores [.Tuple [.Name x px, .Name y py] kt pt] (.Tuple [a, b] k2 pt2) X.env = pure (some [x, y])) :
    PS X (.Assign [.Tuple [.Name x px, .Name y py] kt pt] (.Tuple [a, b] k2 pt2) pos) (TSs X Wx p γ0 H0 (parS [i, j] mv)) := by
  refine ps_of (ps_par hc hN hi hj hij hx hy ha hw) fun E σ H h => ?_
  refine rdPar st0 (by simp [hij]) h fun vs H1 hl q _ => ?_
  obtain ⟨v, r, rfl, w, r', rfl, rfl, q⟩ := q
  exact ⟨v, w, rfl, q⟩
theorem pS_par3 {i j l : Nat} {x y z : Str} {a b c : Expr} {mv : List Sl → W Exc (List Sl)} {px py pz pt pos : Pos} {kt k2 : Nat} {pt2 : Pos} (st0 : Stt X.K p γ0 H0) (hc : X.calm = true) (hN : X.N.Nodup) (hi : X.N[i]? = some x) (hj : X.N[j]? = some y) (hl : X.N[l]? = some z) (hij : i ≠ j) (hil : i ≠ l) (hjl : j ≠ l)
    (hx : X.env.scope.names.lookup x = some .local) (hy : X.env.scope.names.lookup y = some .local) (hz : X.env.scope.names.lookup z = some .local) (ha : PA X [a, b, c] (TAv X Wx mv)) (hw : swappedStores [.Tuple [.Name x px, .Name y py, .Name z pz] kt pt] (.Tuple [a, b, c] k2 pt2) X.env = pure (some [x, y, z])) :
    PS X (.Assign [.Tuple [.Name x px, .Name y py, .Name z pz] kt pt] (.Tuple [a, b, c] k2 pt2) pos) (TSs X Wx p γ0 H0 (parS [i, j, l] mv)) := by
  refine ps_of (ps_par3 hc hN hi hj hl hij hil hjl hx hy hz ha hw) fun E σ H h => ?_
  refine rdPar st0 (by simp [hij, hil, hjl]) h fun vs H1 hl q _ => ?_
  obtain ⟨v, r, rfl, w, r', rfl, u, r'', rfl, rfl, q⟩ := q
  exact ⟨v, w, u, rfl, q⟩
def swB (Γ : Tab) (is : List Nat) (tg v : Expr) : Bool := match swOf Γ.sc tg v with
  | some none => true
  | some (some l) => decide (l.map some = is.map fun i => Γ.N[i]?) && l.all fun x => decide (Γ.sc.names.lookup x = some .local)
  | none => false
theorem len2 {α : Type} {l : List α} (h : l.length = 2) : ∃ a b, l = [a, b] := by
  match l, h with
  | [a, b], _ => exact ⟨a, b, rfl⟩
theorem len3 {α : Type} {l : List α} (h : l.length = 3) : ∃ a b c, l = [a, b, c] := by
  match l, h with
  | [a, b, c], _ => exact ⟨a, b, c, rfl⟩
theorem tgs_nm {N : List Str} {sc : Scope} {i : Nat} {e : Expr} (h : tgB N sc i e = true) : ∃ x p, e = .Name x p ∧ N[i]? = some x := by
  obtain ⟨x, p, rfl, h⟩ := onNm_ok h
  exact ⟨x, p, rfl, dec1 (and2 h).1⟩
theorem tgsB_len {N : List Str} {sc : Scope} : ∀ {is : List Nat} {es : List Expr}, tgsB N sc is es = true → es.length = is.length
  | [], [], _ => rfl
  | [], _ :: _, h => by cases h
  | _ :: _, [], h => by cases h
  | i :: is, e :: es, h => by
    have h' : (tgB N sc i e && tgsB N sc is es) = true := h
    simp [tgsB_len (and2 h').2]
theorem swOf_len {sc : Scope} {ts vs : List Expr} {k1 k2 : Nat} {p1 p2 : Pos} {l : List Str} (h : swOf sc (.Tuple ts k1 p1) (.Tuple vs k2 p2) = some (some l)) : (ts.length = 2 ∨ ts.length = 3) ∧ vs.length = ts.length := by
  unfold swOf at h
  dsimp only at h
  by_cases c1 : (!(ts.length == 2 || ts.length == 3) || vs.length != ts.length) = true
  · rw [if_pos c1] at h; cases h
  · simp at c1
    omega
theorem pS_par (φ : FitS X Wx Γ M) {is : List Nat} {ts es : List Expr} {k1 k2 : Nat} {p1 p2 pos : Pos} {mv : List Sl → W Exc (List Sl)} (st0 : Stt X.K p γ0 H0) (hnd : is.Nodup) (hc : X.calm = true) (hz : is.length ≤ 100) (ha : PA X es (TAv X Wx mv)) (hg : tgsB Γ.N Γ.ss is ts = true)
    (hw : swB Γ is (.Tuple ts k1 p1) (.Tuple es k2 p2) = true) : PS X (.Assign [.Tuple ts k1 p1] (.Tuple es k2 p2) pos) (TSs X Wx p γ0 H0 (parS is mv)) := by
  obtain ⟨g1, g2, g3⟩ := pgs_allT φ.toFit hg
  have hk : X.env.scope.kind = .function := by rw [φ.sc]; exact φ.kind
  have hN : X.N.Nodup := nd_ok φ.toFit
  unfold swB at hw
  split at hw
  · rename_i q
    rw [← φ.sc] at q
    exact pS_par0 st0 hnd hc hz ha g1 g2 g3 (swOf_ok hk q)
  · rename_i l q
    obtain ⟨h1, h2⟩ := and2 hw
    have h1 := dec1 h1
    obtain ⟨hl, hl2⟩ := swOf_len q
    rw [← φ.sc] at q
    have q := swOf_ok hk q
    have hlt := tgsB_len hg
    have lo : ∀ x ∈ l, X.env.scope.names.lookup x = some .local := fun x hx => by rw [φ.sc]; exact dec1 (List.all_eq_true.mp h2 x hx)
    rw [← φ.N] at hg h1
    rcases hl with hl | hl
    · obtain ⟨a, b, rfl⟩ := len2 (hl2.trans hl)
      obtain ⟨i, j, rfl⟩ := len2 (hlt.symm.trans hl)
      obtain ⟨t1, t2, rfl⟩ := len2 hl
      simp only [tgsB, Bool.and_true] at hg
      obtain ⟨q1, q2⟩ := and2 hg
      obtain ⟨x, px, rfl, hx⟩ := tgs_nm q1
      obtain ⟨y, py, rfl, hy⟩ := tgs_nm q2
      have el : l = [x, y] := by
        have : l.map some = [x, y].map some := by rw [h1]; simp [hx, hy]
        exact (List.map_inj_right fun _ _ e => Option.some.inj e).mp this
      subst el
      exact pS_par2 st0 hc hN hx hy (by simpa using hnd) (lo x (by simp)) (lo y (by simp)) ha q
    · obtain ⟨a, b, c, rfl⟩ := len3 (hl2.trans hl)
      obtain ⟨i, j, k, rfl⟩ := len3 (hlt.symm.trans hl)
      obtain ⟨t1, t2, t3, rfl⟩ := len3 hl
      simp only [tgsB, Bool.and_true] at hg
      obtain ⟨q1, q2⟩ := and2 hg
      obtain ⟨q2, q3⟩ := and2 q2
      obtain ⟨x, px, rfl, hx⟩ := tgs_nm q1
      obtain ⟨y, py, rfl, hy⟩ := tgs_nm q2
      obtain ⟨z, pz, rfl, hz⟩ := tgs_nm q3
      have el : l = [x, y, z] := by
        have : l.map some = [x, y, z].map some := by rw [h1]; simp [hx, hy, hz]
        exact (List.map_inj_right fun _ _ e => Option.some.inj e).mp this
      subst el
      have hnd' : (i ≠ j ∧ i ≠ k) ∧ j ≠ k := by simpa using hnd
      exact pS_par3 st0 hc hN hx hy hz hnd'.1.1 hnd'.1.2 hnd'.2 (lo x (by simp)) (lo y (by simp)) (lo z (by simp)) ha q
  · cases hw
end
/-! ### x[j], x[k] = u, v -/
section
variable {X : Cx} {Wx : WX} {Γ : Tab} {M : Mg} {p : Option Addr} {γ0 H0 : Hp} {mj mk : List Sl → W Exc D} {ml : List Sl → W Exc (List D)}
theorem sw_subs {o1 o2 j1 j2 : Expr} {ps1 ps2 p1 p2 : Pos} {k1 k2 : Nat} {es : List Expr} {env : Env} : swappedStores [.Tuple [.Subscript o1 j1 ps1, .Subscript o2 j2 ps2] k1 p1] (.Tuple es k2 p2) env = pure none := by
  unfold swappedStores
  dsimp only
  split
  · rfl
  · split
    · rfl
    · rfl
abbrev setA1 (i : Nat) (mj : List Sl → W Exc D) (v : D) : List Sl → W XS (List Sl) := fun ρ => (ownW ρ i).bind fun xs => (lf ρ (mj ρ)).bind fun d => match setAtD xs d v with
  | some ys => .ret (ρ.set i (.own ys))
  | none => .stuck
def swpK (i : Nat) (mj mk : List Sl → W Exc D) (ρ : List Sl) : List D → W XS Out
  | [u, v] => (setA1 i mj u ρ).bind fun ρ1 => (setA1 i mk v ρ1).bind fun ρ2 => .ret (.nx ρ2)
  | _ => .stuck
abbrev swpW (i : Nat) (ml : List Sl → W Exc (List D)) (mj mk : List Sl → W Exc D) : S := fun ρ => (lf ρ (ml ρ)).bind (swpK i mj mk ρ)
theorem rdSetA {i : Nat} {γ γb H : Hp} {σ : St} {ρ : List Sl} {y : V} {v : D} {R : List Sl → Prop} {Q : St → Hp → Prop} (st0 : Stt X.K p γ0 H0) (e0 : Ext X.K p γ0 H0 γ H) (er : EnvR X.K p H0 γ H σ ρ) (sb : Same γb γ) (c : Rep X.K γ y v)
    (hm : (setA1 i mj v ρ).run R (ExS X.K X.mg Wx p γ0 H0 γb)) (hk : ∀ γ1 H1 ρ1, Same γ γ1 → Ext X.K p γ0 H0 γ1 H1 → EnvR X.K p H0 γ1 H1 σ ρ1 → R ρ1 → Q σ H1) : gSub (tVar i) (TEe X Wx mj) rSetL y σ H Q := by
  obtain ⟨xs, hi, h1⟩ := ownW_run hm
  obtain ⟨ov, hσ, al, vs, ev, ha, hg, hp, h0, r⟩ := er.sl i _ hi
  subst ev
  refine ⟨.ref al, hσ, p, H0, γ, ρ, e0.st, er, (mj ρ).mono (fun d h2 γ2 H2 z e2 c2 => ?_) (fun x q => q.toE st0 e0 er sb) h1⟩
  have ha2 := e2.same al _ hp ha
  have h2' : (match setAtD xs d v with | some ys => W.ret (ρ.set i (.own ys)) | none => W.stuck : W XS (List Sl)).run R (ExS X.K X.mg Wx p γ0 H0 γb) := h2
  cases q : setAtD xs d v with
  | none => rw [q] at h2'; exact h2'.elim
  | some ys =>
    rw [q] at h2'
    cases d <;> first
      | cases q
      | skip
    rename_i k
    cases q3 : ixN xs.length k with
    | none => simp [setAtD, q3] at q
    | some jj =>
      have q' : xs.set jj v = ys := by simpa [setAtD, q3] using q
      subst q'
      obtain ⟨q1, q2⟩ := own_mut st0 (Ext.trans st0 e0 e2) (er.ext e2) hi hσ ha2 (e2.gnone hg ha) hp h0 (RepAll.set (c.mono e2.gg) jj (r.mono e2.gg))
      exact ⟨al, vs, k, jj, rfl, c2.ofInt, ha2, by rw [r.length]; exact q3, hk γ2 _ _ e2.gg q1 q2 h2'⟩
theorem pS_swp {i : Nat} {x : Str} {px px2 psub psub2 p1 p2 pos : Pos} {j k : Expr} {es : List Expr} {k1 k2 : Nat} (st0 : Stt X.K p γ0 H0) (hc : X.calm = true) (hN : X.N[i]? = some x) (hv : Vis X.env.scope x) (hd : (x == ("__debug__" : Str)) = false) (hcd : (x == ("__classdict__" : Str)) = false)
    (hj : PE X j (TEe X Wx mj)) (hns : ∀ l u s p, j ≠ .Slice l u s p) (hk : PE X k (TEe X Wx mk)) (hnk : ∀ l u s p, k ≠ .Slice l u s p) (he : PA X es (TAl X Wx ml)) :
    PS X (.Assign [.Tuple [.Subscript (.Name x px) j psub, .Subscript (.Name x px2) k psub2] k1 p1] (.Tuple es k2 p2) pos) (TSs X Wx p γ0 H0 (swpW i ml mj mk)) := by
  have g1 := pg_sub (pos := psub) (pe_var (pos := px) hN hv hd hcd) hj (set_list (X := X)) (fun v => by cases j <;> first | rfl | exact absurd rfl (hns _ _ _ _))
  have g2 := pg_sub (pos := psub2) (pe_var (pos := px2) hN hv hd hcd) hk (set_list (X := X)) (fun v => by cases k <;> first | rfl | exact absurd rfl (hnk _ _ _ _))
  refine ps_of (ps_asg (pe_tupN he) (pg_tup (n := 2) hc (pgs_cons g1 (pgs_cons g2 pgs_nil))) rfl sw_subs rfl) fun E σ H ⟨γ, ρ, e0, er, hm⟩ => ?_
  refine ⟨p, H0, γ, ρ, e0.st, er, (ml ρ).mono (fun ds h1 γ1 H1 vs e1 c1 => ?_) (fun x q => q.toE st0 e0 er (.refl _)) hm⟩
  rcases ds with _ | ⟨u, _ | ⟨v, _ | ⟨z, ds⟩⟩⟩
  · exact h1.elim
  · exact h1.elim
  · rcases vs with _ | ⟨a, _ | ⟨b, _ | ⟨z, vs⟩⟩⟩
    · cases c1.length
    · cases c1.length
    · refine ⟨small_of (by simp), fun l o od n => ⟨l, [a, b], rfl, .inl (.inr ⟨o, upd_same⟩), rfl, ?_⟩⟩
      have e2 : Ext X.K p γ1 H1 γ1 (upd H1 l (.frz o (.tup [a, b]))) := .own e1.st n
      have e02 := Ext.trans st0 e0 (Ext.trans e0.st e1 e2)
      have er2 := (er.ext e1).ext e2
      refine ⟨a, [b], rfl, ?_⟩
      refine rdSetA st0 e02 er2 (e1.gg) c1.head h1 fun γ3 H3 ρ3 s3 e3 er3 h3 => ?_
      refine ⟨b, [], rfl, ?_⟩
      refine rdSetA st0 e3 er3 (e1.gg.trans s3) (c1.tail.head.mono s3) h3 fun γ4 H4 ρ4 s4 e4 er4 h4 => ?_
      exact ⟨rfl, h4 γ4 H4 σ (e1.gg.trans (s3.trans s4)) e4 er4⟩
    · cases c1.length
  · exact h1.elim
end
end Ev

/-! Ev17: the plain form of statements. -/
namespace Ev
open PySem PySem.Spec PyProof.Rows L2
/-- values to be set at once -/
inductive IV where
  | nil | e (e : IE) (r : IV) | f (f : IF) (r : IV)
mutual
inductive IS where
  | pass | brk | cnt | ret (e : IE) | retN | drop (e : IE)
  | set (i : Nat) (e : IE) | setF (i : Nat) (f : IF) | setL (i : Nat) (f : IF) | asg (t : T) (e : IE) | par (is : List Nat) (l : IV)
  | ife (c : IC) (a b : IT) | for_ (t : T) (i : II) (b : IT) | whl (c : IC) (b : IT)
  | frz (i : Nat) (s : IS) | app (i : Nat) (e : IE) | ext (i : Nat) (e : IE) | setI (i : Nat) (j e : IE) | swp (i : Nat) (l : IL) (j k : IE) | pop (i : Nat) (j : IE) (t : T) | appPop (f i : Nat) (j : IE) | aug (i : Nat) (e : IE) | newD (i : Nat) | putD (i : Nat) (j e : IE)
  | raise_ (x : Str) (l : IL) | try_ (n : Str) (b s : IT) | bad
inductive IT where
  | nil | cons (s : IS) (t : IT)
end
/-- what must not raise -/
def noErrX {α : Type} (m : W XS α) : W XS α := ⟨fun Q _ => m.run Q fun _ => False, fun h _ q => m.mono h (fun _ z => z) q⟩
def exOf (M : Mg) (n y : Str) : Option Bool := if y ∈ M.exs then some (decide (y = n)) else none
def denV (M : Mg) : IV → List Sl → W Exc (List Sl)
  | .nil => fun _ => .ret []
  | .e e r => fun ρ => (denE M e ρ).bind fun d => (denV M r ρ).bind fun ss => .ret (.val d :: ss)
  | .f f r => fun ρ => (denF M f ρ).bind fun d => (denV M r ρ).bind fun ss => .ret (.own d :: ss)
mutual
def denS (M : Mg) : IS → S
  | .pass => fun ρ => .ret (.nx ρ)
  | .brk => fun ρ => .ret (.bk ρ)
  | .cnt => fun ρ => .ret (.ct ρ)
  | .ret e => fun ρ => (lf ρ (denE M e ρ)).bind fun d => .ret (.rt d)
  | .retN => fun _ => .ret (.rt .none)
  | .drop e => fun ρ => (lf ρ (denE M e ρ)).bind fun _ => .ret (.nx ρ)
  | .set i e => fun ρ => (lf ρ (denE M e ρ)).bind fun d => .ret (.nx (ρ.set i (.val d)))
  | .setF i f => fun ρ => (lf ρ (denF M f ρ)).bind fun xs => .ret (.nx (ρ.set i (.own xs)))
  | .setL i f => fun ρ => (lf ρ (denF M f ρ)).bind fun xs => .ret (.nx (ρ.set i (.val (.list xs))))
  | .asg t e => fun ρ => (lf ρ (denE M e ρ)).bind fun d => (lf ρ (asgT t d ρ)).bind fun ρ' => .ret (.nx ρ')
  | .par is l => parS is (denV M l)
  | .ife c a b => fun ρ => (lf ρ (denC M c ρ)).bind fun k => if k then denT M a ρ else denT M b ρ
  | .for_ t i b => forS t (denI M i) (denT M b)
  | .whl c b => whileS (denC M c) (denT M b)
  | .frz i s => fun ρ => denS M s (frzR ρ i)
  | .app i e => appW i (denE M e)
  | .ext i e => extW i (denE M e)
  | .setI i j e => setW i (denE M j) (denE M e)
  | .newD i => fun ρ => .ret (.nx (ρ.set i (.dic [])))
  | .putD i j e => putW i (denE M j) (denE M e)
  | .swp i l j k => swpW i (denL M l) (denE M j) (denE M k)
  | .pop i j t => popS i (denE M j) t
  | .appPop f i j => appPopS f i (denE M j)
  | .aug i e => fun ρ => (lf ρ (getV ρ i)).bind fun d => (lf ρ (denE M e ρ)).bind fun f => (lf ρ (iaddD d f)).bind fun z => .ret (.nx (ρ.set i (.val z)))
  | .raise_ x l => raiseW x (denL M l)
  | .try_ n b s => tryW (exOf M n) (denT M b) (fun ρ => noErrX (denT M s ρ))
  | .bad => fun _ => .stuck
def denT (M : Mg) : IT → S
  | .nil => fun ρ => .ret (.nx ρ)
  | .cons s t => seqS (denS M s) (denT M t)
end
def varB (Γ : Tab) (i : Nat) (e : Expr) : Bool := onNm e fun x => decide (Γ.N[i]? = some x) && (visB Γ.sc x && okNm x)
def chkV (Γ : Tab) : IV → List Expr → Bool
  | .nil, es => es.isEmpty
  | .e e l, es => onC es fun x r => ns x && (chkE Γ e x && chkV Γ l r)
  | .f e l, es => onC es fun x r => ns x && (chkF Γ e x && chkV Γ l r)
def onRet (st : Stmt) (k : Option Expr → Bool) : Bool := match st with
  | .Return v _ => k v
  | _ => false
theorem onRet_ok {st : Stmt} {k : Option Expr → Bool} (h : onRet st k = true) : ∃ v p, st = .Return v p ∧ k v = true := by
  cases st <;> first | exact ⟨_, _, rfl, h⟩ | cases h
def onIf (st : Stmt) (k : Expr → List Stmt → List Stmt → Bool) : Bool := match st with
  | .If c a b _ => k c a b
  | _ => false
theorem onIf_ok {st : Stmt} {k : Expr → List Stmt → List Stmt → Bool} (h : onIf st k = true) : ∃ c a b p, st = .If c a b p ∧ k c a b = true := by
  cases st <;> first | exact ⟨_, _, _, _, rfl, h⟩ | cases h
def onFor (st : Stmt) (k : Expr → Expr → List Stmt → Bool) : Bool := match st with
  | .For t i b [] _ => k t i b
  | _ => false
theorem onFor_ok {st : Stmt} {k : Expr → Expr → List Stmt → Bool} (h : onFor st k = true) : ∃ t i b p, st = .For t i b [] p ∧ k t i b = true := by
  unfold onFor at h
  split at h
  · exact ⟨_, _, _, _, rfl, h⟩
  · cases h
def onWhl (st : Stmt) (k : Expr → List Stmt → Bool) : Bool := match st with
  | .While c b [] _ => k c b
  | _ => false
theorem onWhl_ok {st : Stmt} {k : Expr → List Stmt → Bool} (h : onWhl st k = true) : ∃ c b p, st = .While c b [] p ∧ k c b = true := by
  unfold onWhl at h
  split at h
  · exact ⟨_, _, _, rfl, h⟩
  · cases h
def onAug (st : Stmt) (k : Expr → Expr → Bool) : Bool := match st with
  | .AugAssign t .Add v _ => k t v
  | _ => false
theorem onAug_ok {st : Stmt} {k : Expr → Expr → Bool} (h : onAug st k = true) : ∃ t v p, st = .AugAssign t .Add v p ∧ k t v = true := by
  unfold onAug at h
  split at h
  · exact ⟨_, _, _, rfl, h⟩
  · cases h
def onRaise (st : Stmt) (k : Expr → Bool) : Bool := match st with
  | .Raise (some e) none _ => k e
  | _ => false
theorem onRaise_ok {st : Stmt} {k : Expr → Bool} (h : onRaise st k = true) : ∃ e p, st = .Raise (some e) none p ∧ k e = true := by
  unfold onRaise at h
  split at h
  · exact ⟨_, _, rfl, h⟩
  · cases h
def onTry (st : Stmt) (k : List Stmt → Str → List Stmt → Bool) : Bool := match st with
  | .Try b [.ExceptHandler (some (.Name n _)) none s _] [] [] _ => k b n s
  | _ => false
theorem onTry_ok {st : Stmt} {k : List Stmt → Str → List Stmt → Bool} (h : onTry st k = true) : ∃ b n np s p' p, st = .Try b [.ExceptHandler (some (.Name n np)) none s p'] [] [] p ∧ k b n s = true := by
  unfold onTry at h
  split at h
  · exact ⟨_, _, _, _, _, _, rfl, h⟩
  · cases h
def Tab.quiet (Γ : Tab) : Tab := { Γ with calm := false, fns := [] }
def isPass : Stmt → Bool
  | .Pass _ => true
  | _ => false
def isBrk : Stmt → Bool
  | .Break _ => true
  | _ => false
def isCnt : Stmt → Bool
  | .Continue _ => true
  | _ => false
mutual
def chkS (Γ : Tab) : IS → Stmt → Bool
  | .pass, st => isPass st
  | .brk, st => isBrk st
  | .cnt, st => isCnt st
  | .ret e, st => onRet st fun o => onO o fun v => chkE Γ e v
  | .retN, st => onRet st fun o => o.isNone
  | .drop e, st => onEx st fun v => !isLc v && chkE Γ e v
  | .set i e, st => onAsg st fun tg v => tgB Γ.N Γ.ss i tg && (!isLc v && chkE Γ e v)
  | .setF i f, st => onAsg st fun tg v => tgB Γ.N Γ.ss i tg && chkF Γ f v
  | .setL i f, st => onAsg st fun tg v => tgB Γ.N Γ.ss i tg && chkF Γ f v
  | .asg t e, st => onAsg st fun tg v => (Γ.calm && chkTg Γ.N Γ.ss t tg) && ((!isLc v && nTup v) && chkE Γ e v)
  | .par is l, st => onAsg st fun tg v => onTup tg fun ts => onTup v fun es => (Γ.calm && (decide is.Nodup && decide (is.length ≤ 100))) && (tgsB Γ.N Γ.ss is ts && (chkV Γ l es && swB Γ is tg v))
  | .ife c a b, st => onIf st fun z x y => chkC Γ c z && (chkT Γ a x && chkT Γ b y)
  | .for_ t i b, st => onFor st fun tg it x => (Γ.calm && (nSet it && plB t i)) && (chkI Γ i tg it && (chkTg Γ.N Γ.ss t tg && chkT Γ b x))
  | .whl c b, st => onWhl st fun z x => Γ.calm && (chkC Γ c z && chkT Γ b x)
  | .frz _ s, st => chkS Γ s st
  | .app i e, st => onEx st fun v => onMet v fun o n es => decide (n = "append") && (varB Γ i o && on1 es fun x => ns x && chkE Γ e x)
  | .ext i e, st => onEx st fun v => onMet v fun o n es => decide (n = "extend") && (varB Γ i o && on1 es fun x => ns x && chkE Γ e x)
  | .setI i j e, st => onAsg st fun tg v => onIx tg fun o y => varB Γ i o && ((nSl y && chkE Γ j y) && (!isLc v && chkE Γ e v))
  | .newD i, st => onAsg st fun tg v => tgB Γ.N Γ.ss i tg && onDict v fun a b => a.isEmpty && b.isEmpty
  | .putD i j e, st => onAsg st fun tg v => onIx tg fun o y => varB Γ i o && ((nSl y && chkE Γ j y) && (!isLc v && chkE Γ e v))
  | .swp i l j k, st => onAsg st fun tg v => onTup tg fun ts => onTup v fun es => Γ.calm && (on2 ts fun a b => onIx a fun o y => onIx b fun o2 z => (varB Γ i o && varB Γ i o2) && ((nSl y && chkE Γ j y) && ((nSl z && chkE Γ k z) && chkL Γ l es)))
  | .pop i j t, st => onAsg st fun tg v => onMet v fun o n es => (Γ.calm && decide (n = "pop")) && (varB Γ i o && (chkTg Γ.N Γ.ss t tg && on1 es fun x => ns x && chkE Γ j x))
  | .appPop f i j, st => onEx st fun v => onMet v fun o n es => decide (n = "append") && (varB Γ f o && on1 es fun w => onMet w fun o2 n2 es2 => decide (n2 = "pop") && (varB Γ i o2 && on1 es2 fun x => ns x && chkE Γ j x))
  | .aug i e, st => onAug st fun tg v => tgB Γ.N Γ.ss i tg && chkE Γ e v
  | .raise_ x l, st => onRaise st fun e => onCall e fun y es => ((Γ.calm && decide (y = x)) && (decide (x ∈ Γ.exs) && gloB Γ.sc x)) && (!es.isEmpty && chkL Γ l es)
  | .try_ n b s, st => onTry st fun x m y => ((Γ.calm && decide (m = n)) && (decide (n ∈ Γ.exs) && gloB Γ.sc n)) && (chkT Γ b x && (!y.isEmpty && chkT Γ.quiet s y))
  | .bad, _ => true
def chkT (Γ : Tab) : IT → List Stmt → Bool
  | .nil, ss => ss.isEmpty
  | .cons s t, ss => onC ss fun x r => chkS Γ s x && chkT Γ t r
end
end Ev

/-! Ev18: the plain form of statements is kept. -/
namespace Ev
open PySem PySem.Spec PyProof.Rows L2
section
variable {X : Cx} {Wx : WX} {Γ : Tab} {M : Mg} {p : Option Addr} {γ0 H0 : Hp}
theorem FitS.tr (φ : FitS X Wx Γ M) {pn : List (Addr × Obj)} {xe : Value → Shared → Prop} {W : WX} (tk : Takes (X.tr pn xe) W) (po : PassesOwn (model X.prog X.w) X.A X.env xe) : FitS (X.tr pn xe) W Γ M where
  sc := φ.sc
  N := φ.N
  nd := φ.nd
  hu := φ.hu
  calm := φ.calm
  tk := tk
  sto := φ.sto
  bl := φ.bl
  cst := φ.cst
  tbl := φ.tbl
  fns := φ.fns
  kind := φ.kind
  stk := φ.stk
  frm := φ.frm
  po := fun _ => po
  exe := φ.exe
  exs := φ.exs
  exm := φ.exm
theorem FitS.suite (φ : FitS X Wx Γ M) (a : Addr) (pn : List (Addr × Obj)) : FitS (X.suite a pn) W0 Γ.quiet M where
  sc := φ.sc
  N := φ.N
  nd := φ.nd
  hu := φ.hu
  calm := fun h => by cases h
  tk := fun u s' ⟨a, B, sI, pins, σ, H, cls, d, e, I, nb, up, sky, na, os, ag, w⟩ => w.elim
  sto := φ.sto
  bl := φ.bl
  cst := φ.cst
  tbl := φ.tbl
  fns := fun n x h => by simp [Tab.quiet] at h
  kind := φ.kind
  stk := φ.stk
  frm := φ.frm
  po := fun h => by cases h
  exe := φ.exe
  exs := φ.exs
  exm := φ.exm
theorem okV : ∀ (t : IV) (es : List Expr), Fit X Wx Γ M → chkV Γ t es = true → PA X es (TAv X Wx (denV M t))
  | .nil, es, φ, h => by
    rw [chkV] at h
    cases es with
    | nil => exact pV_nil
    | cons _ _ => cases h
  | .e t l, es, φ, h => by
    rw [chkV] at h
    obtain ⟨e, r, rfl, h⟩ := onC_ok h
    obtain ⟨h1, h⟩ := and2 h
    obtain ⟨h2, h3⟩ := and2 h
    exact pV_val (ns_ok h1) (okE t e φ h2) (okV l r φ h3)
  | .f t l, es, φ, h => by
    rw [chkV] at h
    obtain ⟨e, r, rfl, h⟩ := onC_ok h
    obtain ⟨h1, h⟩ := and2 h
    obtain ⟨h2, h3⟩ := and2 h
    exact pV_own (ns_ok h1) (okF t e φ h2) (okV l r φ h3)
theorem chkL_star : ∀ (l : IL) (es : List Expr), chkL Γ l es = true → ∀ env, (match es with | [] => True | e :: r => starEach (e :: r) env = (false, eval e env) :: starEach r env ∧ ∀ p, (backTo p (starEach r env)).any (·.1) = false)
  | .nil, es, h, env => by
    rw [chkL] at h
    cases es with
    | nil => trivial
    | cons _ _ => cases h
  | .cons t l, es, h, env => by
    rw [chkL] at h
    obtain ⟨e, r, rfl, h⟩ := onC_ok h
    obtain ⟨h1, h⟩ := and2 h
    obtain ⟨h2, h3⟩ := and2 h
    have q2 := chkL_star l r h3 env
    refine ⟨star1 (ns_ok h1) _, fun p => ?_⟩
    cases r with
    | nil => rfl
    | cons y ys =>
      rw [q2.1]
      have := q2.2 p
      simpa [backTo] using this
theorem not_lc {v : Expr} (h : (!isLc v) = true) : isLc v = false := by simpa using h
theorem sw_sole {tg v : Expr} (h : isLc v = false) (l : Nat) (env : Env) : swapsWithSole [tg] v l env = pure false := sw_not h (some tg) l env
theorem sw_lcE {elt : Expr} {gs : List Comprehension} {scope : Scope} {pos py : Pos} {y : Str} {l : Nat} {env : Env} : swapsWith (.ListComp elt gs scope pos) (some (.Name y py)) l env =
    pure (env.blockKind == .function && env.kindOf y == some .local && py.line == pos.line && !(scope.names.any fun (n, k) => n == y && (k == .local || k == .cell))) := rfl
theorem rdSetF {mf : List Sl → W Exc (List D)} {i : Nat} (st0 : Stt X.K p γ0 H0) {E : Ends} {σ : St} {H : Hp} (h : TSs X Wx p γ0 H0 (fun ρ => (lf ρ (mf ρ)).bind fun xs => .ret (.nx (ρ.set i (.own xs)))) E σ H) : TEf X Wx mf σ H (fun v H1 => gName i v σ H1 E.nx) := by
  obtain ⟨γ, ρ, e0, er, hm⟩ := h
  exact ⟨p, H0, γ, ρ, e0.st, er, (mf ρ).mono (fun xs h => own_set (mf := mf) st0 e0 er h) (fun x q => q.toE st0 e0 er (.refl _)) hm⟩
theorem rdSetL {mf : List Sl → W Exc (List D)} {i : Nat} (st0 : Stt X.K p γ0 H0) {E : Ends} {σ : St} {H : Hp} (h : TSs X Wx p γ0 H0 (fun ρ => (lf ρ (mf ρ)).bind fun xs => .ret (.nx (ρ.set i (.val (.list xs))))) E σ H) : TEf X Wx mf σ H (fun v H1 => gName i v σ H1 E.nx) := by
  obtain ⟨γ, ρ, e0, er, hm⟩ := h
  refine ⟨p, H0, γ, ρ, e0.st, er, (mf ρ).mono (fun xs h γ' H' al vs e' n n' hq r => ?_) (fun x q => q.toE st0 e0 er (.refl _)) hm⟩
  have e2 : Ext X.K p γ H (upd γ' al (.lst vs)) H' := Ext.freeze e0.st e' n hq
  have sm : Same γ' (upd γ' al (.lst vs)) := fun b o z => by
    have hb : b ≠ al := fun w => by rw [w, n'] at z; cases z
    rw [upd_ne hb]; exact z
  exact h _ H' _ e2.gg (Ext.trans st0 e0 e2) ((er.ext e2).setVal (Rep.lst upd_same (r.mono sm)))
theorem okSetG (φ : Fit X Wx Γ M) (st0 : Stt X.K p γ0 H0) {ts : TS} {i : Nat} {f : IF} {tg v : Expr} {pos : Pos} (ht : tgB Γ.N Γ.ss i tg = true) (h : chkF Γ f v = true)
    (rd : ∀ E σ H, ts E σ H → TEf X Wx (denF M f) σ H (fun v H1 => gName i v σ H1 E.nx)) : PS X (.Assign [tg] v pos) ts := by
  have okf := okF f v φ h
  obtain ⟨x, px, rfl, ht⟩ := onNm_ok ht
  obtain ⟨h1, h2⟩ := and2 ht
  obtain ⟨q1, q2⟩ := φ.sto x (lokB_ok h2)
  have hi : X.N[i]? = some x := by rw [φ.N]; exact dec1 h1
  have hN := nd_ok φ
  by_cases hsw : swapsWith v (some (.Name x px)) pos.line X.env = pure false
  · exact ps_of (ps_set hN hi q1 okf hsw q2) rd
  · cases f with
    | lst l =>
      rw [chkF] at h
      obtain ⟨es, p, rfl, h⟩ := onLst_ok h
      exact absurd (sw_not rfl _ _ _) hsw
    | cat a b =>
      rw [chkF] at h
      obtain ⟨x, o', y, p, rfl, h⟩ := onBin_ok h
      exact absurd (sw_not rfl _ _ _) hsw
    | rep a b =>
      rw [chkF] at h
      obtain ⟨x, o', y, p, rfl, h⟩ := onBin_ok h
      exact absurd (sw_not rfl _ _ _) hsw
    | list a =>
      rw [chkF] at h
      obtain ⟨x, pp, es, p, rfl, h⟩ := onCall_ok h
      exact absurd (sw_not rfl _ _ _) hsw
    | srtS a =>
      rw [chkF] at h
      obtain ⟨x, pp, es, p, rfl, h⟩ := onCall_ok h
      exact absurd (sw_not rfl _ _ _) hsw
    | srtL a =>
      rw [chkF] at h
      obtain ⟨x, pp, es, p, rfl, h⟩ := onCall_ok h
      exact absurd (sw_not rfl _ _ _) hsw
    | rg1 a =>
      rw [chkF] at h
      obtain ⟨x, pp, es, p, rfl, h⟩ := onCall_ok h
      exact absurd (sw_not rfl _ _ _) hsw
    | rg2 a b =>
      rw [chkF] at h
      obtain ⟨x, pp, es, p, rfl, h⟩ := onCall_ok h
      exact absurd (sw_not rfl _ _ _) hsw
    | lc vs t i2 c e =>
      rw [chkF] at h
      obtain ⟨elt, gs, scope, p, rfl, h⟩ := onLc_ok h
      rw [sw_lcE] at hsw
      cases hb : (X.env.blockKind == .function && X.env.kindOf x == some .local && px.line == p.line && !(scope.names.any fun (n, k) => n == x && (k == .local || k == .cell))) with
      | false => exact absurd (by rw [hb]) hsw
      | true =>
        have hyl : X.env.scope.names.lookup x = some .local := by
          have := (and2 (and2 (and2 hb).1).1).2
          have e : X.env.kindOf x = some .local := by simpa using this
          exact e
        obtain ⟨tg, it, ifs, rfl, h⟩ := onG1_ok h
        obtain ⟨h0, h⟩ := and2 h
        obtain ⟨hc, h0⟩ := and2 h0
        obtain ⟨h1, h0⟩ := and2 h0
        obtain ⟨h2, h0⟩ := and2 h0
        obtain ⟨h3, h4⟩ := and2 h0
        obtain ⟨k1, h⟩ := and2 h
        obtain ⟨k2, h⟩ := and2 h
        obtain ⟨k3, k4⟩ := and2 h
        rw [← φ.sc, ← φ.N] at h3
        have hvs : (ownL X.N vs).map (·.2) = vs := ownL_snd _ _
        refine ps_of (ps_setLc (g := gT X.K t) (te := RdE X.K X.mg W0 (denE M e)) (tt := RdT X.K X.mg W0 (denQ M c)) (φ.calm hc) hN hi hyl (by rw [sw_lcE, hb]) (okI i2 tg it φ k1) (blkOk_by h3) (fun s H C cl fp => pg_TT (φ.blk s H C cl fp) (φ.calm hc) k2)
          (fun s H C cl fp => okQ c ifs (φ.blk s H C cl fp) k3) (fun s H C cl fp => okE e elt (φ.blk s H C cl fp) k4) (nSet_ok h1 _)) ?_
        rw [hvs]
        exact fun E σ H h => rdLc (all_mem h4) (pl_ok h2) _ _ _ (rd E σ H h)
    | lc2 vs t i2 c vs1 t1 i1 c1 e =>
      rw [chkF] at h
      obtain ⟨elt, gs, scope, p, rfl, h⟩ := onLc_ok h
      rw [sw_lcE] at hsw
      cases hb : (X.env.blockKind == .function && X.env.kindOf x == some .local && px.line == p.line && !(scope.names.any fun (n, k) => n == x && (k == .local || k == .cell))) with
      | false => exact absurd (by rw [hb]) hsw
      | true =>
        have hyl : X.env.scope.names.lookup x = some .local := by
          have := (and2 (and2 (and2 hb).1).1).2
          have e : X.env.kindOf x = some .local := by simpa using this
          exact e
        obtain ⟨tg, it, ifs, tg1, it1, ifs1, rfl, h⟩ := onG2_ok h
        obtain ⟨h0, h⟩ := and2 h
        obtain ⟨ha, hb1⟩ := and2 h0
        obtain ⟨hc, h0⟩ := and2 ha
        obtain ⟨h1, h0⟩ := and2 h0
        obtain ⟨h2, h0⟩ := and2 h0
        obtain ⟨h3, h4⟩ := and2 h0
        obtain ⟨b1, hb1⟩ := and2 hb1
        obtain ⟨b2, hb1⟩ := and2 hb1
        obtain ⟨b3, b4⟩ := and2 hb1
        obtain ⟨ka, kb⟩ := and2 h
        obtain ⟨k1, ka⟩ := and2 ka
        obtain ⟨k2, k3⟩ := and2 ka
        obtain ⟨k4, kb⟩ := and2 kb
        obtain ⟨k5, kb⟩ := and2 kb
        obtain ⟨k6, k7⟩ := and2 kb
        rw [← φ.sc, ← φ.N] at h3
        have hvs : (ownL X.N vs).map (·.2) = vs := ownL_snd _ _
        refine ps_of (ps_setLc2 (vs1 := vs1) (g := gT X.K t) (g1 := gT X.K t1) (te := RdE X.K X.mg W0 (denE M e)) (tt := RdT X.K X.mg W0 (denQ M c)) (tt1 := RdT X.K X.mg W0 (denQ M c1)) (wi1 := TIi X W0 (denI M i1) i1.pl) (φ.calm hc) hN hi hyl (by rw [sw_lcE, hb]) (okI i2 tg it φ k1) (blkOk_by h3) (by rw [hvs]; exact all_mem b3) (fun s H C cl fp => pg_TT (φ.blk s H C cl fp) (φ.calm hc) k2)
          (fun s H C cl fp => okQ c ifs (φ.blk s H C cl fp) k3) (fun s H C cl fp => okI i1 tg1 it1 (φ.blk s H C cl fp) k4) (fun s H C cl fp => pg_TT (φ.blk s H C cl fp) (φ.calm hc) k5)
          (fun s H C cl fp => okQ c1 ifs1 (φ.blk s H C cl fp) k6) (fun s H C cl fp => okE e elt (φ.blk s H C cl fp) k7) (nSet_ok h1 _) (nSet_ok b1)) ?_
        rw [hvs]
        exact fun E σ H h => rdLc2 (all_mem h4) (all_mem b4) (pl_ok h2) (pl_ok b2) _ _ _ (rd E σ H h)
theorem okSetF (φ : Fit X Wx Γ M) (st0 : Stt X.K p γ0 H0) {i : Nat} {f : IF} {tg v : Expr} {pos : Pos} (ht : tgB Γ.N Γ.ss i tg = true) (h : chkF Γ f v = true) :
    PS X (.Assign [tg] v pos) (TSs X Wx p γ0 H0 fun ρ => (lf ρ (denF M f ρ)).bind fun xs => .ret (.nx (ρ.set i (.own xs)))) := okSetG φ st0 ht h fun E σ H h => rdSetF st0 h
theorem okSetL (φ : Fit X Wx Γ M) (st0 : Stt X.K p γ0 H0) {i : Nat} {f : IF} {tg v : Expr} {pos : Pos} (ht : tgB Γ.N Γ.ss i tg = true) (h : chkF Γ f v = true) :
    PS X (.Assign [tg] v pos) (TSs X Wx p γ0 H0 fun ρ => (lf ρ (denF M f ρ)).bind fun xs => .ret (.nx (ρ.set i (.val (.list xs))))) := okSetG φ st0 ht h fun E σ H h => rdSetL st0 h
theorem varB_ok (φ : Fit X Wx Γ M) {i : Nat} {e : Expr} (h : varB Γ i e = true) : ∃ x p, e = .Name x p ∧ X.N[i]? = some x ∧ Vis X.env.scope x ∧ (x == ("__debug__" : Str)) = false ∧ (x == ("__classdict__" : Str)) = false := by
  obtain ⟨x, p, rfl, h⟩ := onNm_ok h
  exact ⟨x, p, rfl, var_ok φ h⟩
end
mutual
theorem okS {X : Cx} {Wx : WX} {Γ : Tab} {M : Mg} {p : Option Addr} {γ0 H0 : Hp} : ∀ (t : IS) (st : Stmt), FitS X Wx Γ M → Stt X.K p γ0 H0 → chkS Γ t st = true → PS X st (TSs X Wx p γ0 H0 (denS M t))
  | .pass, st, φ, st0, h => by
    rw [chkS] at h
    cases st <;> first | exact pS_pass | cases h
  | .brk, st, φ, st0, h => by
    rw [chkS] at h
    cases st <;> first | exact pS_brk | cases h
  | .cnt, st, φ, st0, h => by
    rw [chkS] at h
    cases st <;> first | exact pS_cnt | cases h
  | .ret e, st, φ, st0, h => by
    rw [chkS] at h
    obtain ⟨o, pos, rfl, h⟩ := onRet_ok h
    obtain ⟨v, rfl, h⟩ := onO_ok h
    exact pS_ret st0 (okE e v φ.toFit h)
  | .retN, st, φ, st0, h => by
    rw [chkS] at h
    obtain ⟨o, pos, rfl, h⟩ := onRet_ok h
    cases o with
    | none => exact pS_retN st0
    | some _ => cases h
  | .drop e, st, φ, st0, h => by
    rw [chkS] at h
    obtain ⟨v, pos, rfl, h⟩ := onEx_ok h
    obtain ⟨h1, h2⟩ := and2 h
    exact pS_drop st0 (okE e v φ.toFit h2) (sw_not (not_lc h1) _ _ _)
  | .set i e, st, φ, st0, h => by
    rw [chkS] at h
    obtain ⟨tg, v, pos, rfl, h⟩ := onAsg_ok h
    obtain ⟨ht, h⟩ := and2 h
    obtain ⟨h3, h4⟩ := and2 h
    obtain ⟨x, px, rfl, ht⟩ := onNm_ok ht
    obtain ⟨h1, h2⟩ := and2 ht
    obtain ⟨q1, q2⟩ := φ.sto x (lokB_ok h2)
    exact pS_set st0 (nd_ok φ.toFit) (by rw [φ.N]; exact dec1 h1) q1 q2 (okE e v φ.toFit h4) (sw_not (not_lc h3) _ _ _)
  | .setF i f, st, φ, st0, h => by
    rw [chkS] at h
    obtain ⟨tg, v, pos, rfl, h⟩ := onAsg_ok h
    obtain ⟨ht, h⟩ := and2 h
    exact okSetF φ.toFit st0 ht h
  | .setL i f, st, φ, st0, h => by
    rw [chkS] at h
    obtain ⟨tg, v, pos, rfl, h⟩ := onAsg_ok h
    obtain ⟨ht, h⟩ := and2 h
    exact okSetL φ.toFit st0 ht h
  | .asg t e, st, φ, st0, h => by
    rw [chkS] at h
    obtain ⟨tg, v, pos, rfl, h⟩ := onAsg_ok h
    obtain ⟨h1, h⟩ := and2 h
    obtain ⟨hc, ht⟩ := and2 h1
    obtain ⟨h2, h3⟩ := and2 h
    obtain ⟨h4, h5⟩ := and2 h2
    exact pS_asg st0 (pg_TT φ.toFit (φ.calm hc) ht) (okE e v φ.toFit h3) (sw_not (not_lc h4) _ _ _) (sw_none (nTup_ok h5)) (tg_plain _ ht)
  | .par is l, st, φ, st0, h => by
    rw [chkS] at h
    obtain ⟨tg, v, pos, rfl, h⟩ := onAsg_ok h
    obtain ⟨ts, k1, p1, rfl, h⟩ := onTup_ok h
    obtain ⟨es, k2, p2, rfl, h⟩ := onTup_ok h
    obtain ⟨h1, h⟩ := and2 h
    obtain ⟨hc, h1⟩ := and2 h1
    obtain ⟨h2, h3⟩ := and2 h1
    obtain ⟨h4, h⟩ := and2 h
    obtain ⟨h5, h6⟩ := and2 h
    exact pS_par φ st0 (dec1 h2) (φ.calm hc) (dec1 h3) (okV l es φ.toFit h5) h4 h6
  | .ife c a b, st, φ, st0, h => by
    rw [chkS] at h
    obtain ⟨z, x, y, pos, rfl, h⟩ := onIf_ok h
    obtain ⟨h1, h⟩ := and2 h
    obtain ⟨h2, h3⟩ := and2 h
    exact pS_if st0 (okC c z φ.toFit h1) (okT a x φ st0 h2) (okT b y φ st0 h3)
  | .for_ t i b, st, φ, st0, h => by
    rw [chkS] at h
    obtain ⟨tg, it, x, pos, rfl, h⟩ := onFor_ok h
    obtain ⟨h1, h⟩ := and2 h
    obtain ⟨hc, h1⟩ := and2 h1
    obtain ⟨h2, h3⟩ := and2 h1
    obtain ⟨h4, h⟩ := and2 h
    obtain ⟨h5, h6⟩ := and2 h
    exact pS_for st0 (φ.po hc) (φ.calm hc) (pl_ok h3) (okI i tg it φ.toFit h4) (pg_TT φ.toFit (φ.calm hc) h5) (okT b x φ st0 h6) (nSet_ok h2 _)
  | .whl c b, st, φ, st0, h => by
    rw [chkS] at h
    obtain ⟨z, x, pos, rfl, h⟩ := onWhl_ok h
    obtain ⟨hc, h⟩ := and2 h
    obtain ⟨h1, h2⟩ := and2 h
    exact pS_while st0 (φ.po hc) (okC c z φ.toFit h1) (okT b x φ st0 h2)
  | .frz i s, st, φ, st0, h => by
    rw [chkS] at h
    exact pS_frz st0 (okS s st φ st0 h)
  | .app i e, st, φ, st0, h => by
    rw [chkS] at h
    obtain ⟨v, pos2, rfl, h⟩ := onEx_ok h
    obtain ⟨o, n, ap, es, pos, rfl, hl, h⟩ := onMet_ok h
    obtain ⟨h0, h⟩ := and2 h
    obtain ⟨h1, h⟩ := and2 h
    obtain ⟨x, rfl, h⟩ := on1_ok h
    obtain ⟨h2, h3⟩ := and2 h
    obtain ⟨y, py, rfl, a, b, c, d⟩ := varB_ok φ.toFit h1
    have hx := dec1 h0
    subst hx
    exact pS_app st0 a b c d (ns_ok h2) hl (okE e x φ.toFit h3)
  | .ext i e, st, φ, st0, h => by
    rw [chkS] at h
    obtain ⟨v, pos2, rfl, h⟩ := onEx_ok h
    obtain ⟨o, n, ap, es, pos, rfl, hl, h⟩ := onMet_ok h
    obtain ⟨h0, h⟩ := and2 h
    obtain ⟨h1, h⟩ := and2 h
    obtain ⟨x, rfl, h⟩ := on1_ok h
    obtain ⟨h2, h3⟩ := and2 h
    obtain ⟨y, py, rfl, a, b, c, d⟩ := varB_ok φ.toFit h1
    have hx := dec1 h0
    subst hx
    exact pS_ext st0 a b c d (ns_ok h2) hl (okE e x φ.toFit h3)
  | .setI i j e, st, φ, st0, h => by
    rw [chkS] at h
    obtain ⟨tg, v, pos, rfl, h⟩ := onAsg_ok h
    obtain ⟨o, y, psub, rfl, h⟩ := onIx_ok h
    obtain ⟨h1, h⟩ := and2 h
    obtain ⟨h2, h3⟩ := and2 h
    obtain ⟨h4, h5⟩ := and2 h2
    obtain ⟨h6, h7⟩ := and2 h3
    obtain ⟨x, px, rfl, a, b, c, d⟩ := varB_ok φ.toFit h1
    exact pS_setI st0 a b c d (okE j y φ.toFit h5) (nSl_ok h4) (okE e v φ.toFit h7) (sw_sole (not_lc h6) _ _) rfl
  | .newD i, st, φ, st0, h => by
    rw [chkS] at h
    obtain ⟨tg, v, pos, e0, h'⟩ := onAsg_ok h
    clear h
    subst e0
    obtain ⟨ht, hd⟩ := and2 h'
    clear h'
    obtain ⟨ks, vs, dp, e1, h⟩ := onDict_ok hd
    clear hd
    subst e1
    obtain ⟨h3, h4⟩ := and2 h
    obtain ⟨x, px, e2, ht⟩ := onNm_ok ht
    subst e2
    obtain ⟨h1, h2⟩ := and2 ht
    obtain ⟨q1, q2⟩ := φ.sto x (lokB_ok h2)
    cases ks with
    | cons _ _ => cases h3
    | nil =>
      cases vs with
      | cons _ _ => cases h4
      | nil => exact pS_newD st0 (nd_ok φ.toFit) (by rw [φ.N]; exact dec1 h1) q1 q2 (sw_not rfl _ _ _)
  | .putD i j e, st, φ, st0, h => by
    rw [chkS] at h
    obtain ⟨tg, v, pos, rfl, h⟩ := onAsg_ok h
    obtain ⟨o, y, psub, rfl, h⟩ := onIx_ok h
    obtain ⟨h1, h⟩ := and2 h
    obtain ⟨h2, h3⟩ := and2 h
    obtain ⟨h4, h5⟩ := and2 h2
    obtain ⟨h6, h7⟩ := and2 h3
    obtain ⟨x, px, rfl, a, b, c, d⟩ := varB_ok φ.toFit h1
    exact pS_put (by have := φ.toFit.hu; omega) st0 a b c d (okE j y φ.toFit h5) (okE e v φ.toFit h7) (sw_not (not_lc h6) _ _ _)
  | .swp i l j k, st, φ, st0, h => by
    rw [chkS] at h
    obtain ⟨tg, v, pos, rfl, h⟩ := onAsg_ok h
    obtain ⟨ts, k1, p1, rfl, h⟩ := onTup_ok h
    obtain ⟨es, k2, p2, rfl, h⟩ := onTup_ok h
    obtain ⟨hc, h⟩ := and2 h
    obtain ⟨a, b, rfl, h⟩ := on2_ok h
    obtain ⟨o, y, q1, rfl, h⟩ := onIx_ok h
    obtain ⟨o2, z, q2, rfl, h⟩ := onIx_ok h
    obtain ⟨h1, h⟩ := and2 h
    obtain ⟨h2, h3⟩ := and2 h1
    obtain ⟨h4, h⟩ := and2 h
    obtain ⟨h5, h6⟩ := and2 h4
    obtain ⟨h7, h8⟩ := and2 h
    obtain ⟨h9, h10⟩ := and2 h7
    obtain ⟨x, px, rfl, a, b, c, d⟩ := varB_ok φ.toFit h2
    obtain ⟨x2, px2, rfl, a2, _, _, _⟩ := varB_ok φ.toFit h3
    have e : x2 = x := by rw [a] at a2; exact (Option.some.inj a2).symm
    subst e
    exact pS_swp st0 (φ.calm hc) a b c d (okE j y φ.toFit h6) (nSl_ok h5) (okE k z φ.toFit h10) (nSl_ok h9) (okL l es φ.toFit h8)
  | .pop i j t, st, φ, st0, h => by
    rw [chkS] at h
    obtain ⟨tg, v, pos, rfl, h⟩ := onAsg_ok h
    obtain ⟨o, n, ap, es, cp, rfl, hl, h⟩ := onMet_ok h
    obtain ⟨h0, h⟩ := and2 h
    obtain ⟨hc, h0⟩ := and2 h0
    obtain ⟨h1, h⟩ := and2 h
    obtain ⟨ht, h⟩ := and2 h
    obtain ⟨x, rfl, h⟩ := on1_ok h
    obtain ⟨h2, h3⟩ := and2 h
    obtain ⟨y, py, rfl, a, b, c, d⟩ := varB_ok φ.toFit h1
    have hx := dec1 h0
    subst hx
    exact pS_pop st0 a b c d (ns_ok h2) hl (okE j x φ.toFit h3) (pg_TT φ.toFit (φ.calm hc) ht) (sw_sole rfl _ _) (sw_none (fun _ _ _ z => by cases z)) (tg_plain _ ht)
  | .appPop f i j, st, φ, st0, h => by
    rw [chkS] at h
    obtain ⟨v, pos2, rfl, h⟩ := onEx_ok h
    obtain ⟨o, n, ap, es, pos, rfl, hl, h⟩ := onMet_ok h
    obtain ⟨h0, h⟩ := and2 h
    obtain ⟨h1, h⟩ := and2 h
    obtain ⟨w, rfl, h⟩ := on1_ok h
    obtain ⟨o2, n2, ap2, es2, cp, rfl, hl2, h⟩ := onMet_ok h
    obtain ⟨h4, h⟩ := and2 h
    obtain ⟨h5, h⟩ := and2 h
    obtain ⟨x, rfl, h⟩ := on1_ok h
    obtain ⟨h2, h3⟩ := and2 h
    obtain ⟨y, py, rfl, a, b, c, d⟩ := varB_ok φ.toFit h1
    obtain ⟨y2, py2, rfl, a2, b2, c2, d2⟩ := varB_ok φ.toFit h5
    have hx := dec1 h0
    subst hx
    have hy := dec1 h4
    subst hy
    exact pS_appPop st0 a b c d a2 b2 c2 d2 (ns_ok h2) hl2 hl (okE j x φ.toFit h3)
  | .aug i e, st, φ, st0, h => by
    rw [chkS] at h
    obtain ⟨tg, v, pos, rfl, h⟩ := onAug_ok h
    obtain ⟨ht, h4⟩ := and2 h
    obtain ⟨x, px, rfl, ht⟩ := onNm_ok ht
    obtain ⟨h1, h2⟩ := and2 ht
    obtain ⟨q1, q2⟩ := φ.sto x (lokB_ok h2)
    exact pS_aug st0 (nd_ok φ.toFit) (by rw [φ.N]; exact dec1 h1) q1 q2 (okE e v φ.toFit h4)
  | .raise_ x l, st, φ, st0, h => by
    rw [chkS] at h
    obtain ⟨v, pos, rfl, h⟩ := onRaise_ok h
    obtain ⟨y, pp, es, cp, rfl, h⟩ := onCall_ok h
    obtain ⟨h1, h⟩ := and2 h
    obtain ⟨h2, h3⟩ := and2 h1
    obtain ⟨hc, h4⟩ := and2 h2
    obtain ⟨h5, h6⟩ := and2 h3
    obtain ⟨h7, h8⟩ := and2 h
    have hy := dec1 h4
    subst hy
    have h5 := dec1 h5
    rw [φ.exe] at h5
    obtain ⟨C, q1, q2, q3, q4⟩ := φ.exs _ h5
    rw [← φ.sc] at h6
    obtain ⟨g1, g2⟩ := gloB_ok h6
    have hs := chkL_star l es h8 X.env
    have hl := okL l es φ.toFit h8
    obtain ⟨e0, r, rfl⟩ := ne_ok h7
    exact pS_raise st0 (φ.calm hc) φ.tk q3 q1 q2 q4 g1 hl g2 hs.1 (hs.2 _)
  | .try_ n b s, st, φ, st0, h => by
    rw [chkS] at h
    obtain ⟨x, m, np, y, p', pos, rfl, h⟩ := onTry_ok h
    obtain ⟨h1, h⟩ := and2 h
    obtain ⟨h2, h3⟩ := and2 h1
    obtain ⟨hc, h4⟩ := and2 h2
    obtain ⟨h5, h6⟩ := and2 h3
    obtain ⟨h7, h⟩ := and2 h
    obtain ⟨h8, h9⟩ := and2 h
    have hy := dec1 h4
    subst hy
    have h5 := dec1 h5
    rw [φ.exe] at h5
    obtain ⟨C, q1, q2, q3, q4⟩ := φ.exs _ h5
    rw [← φ.sc] at h6
    obtain ⟨g1, g2⟩ := gloB_ok h6
    have hsu : ∀ (al : Addr) (oe : Obj) (pn : List (Addr × Obj)), PSs (X.suite al ((al, oe) :: pn)) y (RdS X.K X.mg W0 p γ0 H0 fun ρ => noErrX (denT M s ρ)) := fun al oe pn =>
      pss_of (okT s y (φ.suite al ((al, oe) :: pn)) st0 h9) fun E σ H ⟨γ, ρ, e0, er, hm⟩ => ⟨γ, ρ, e0, er, (denT M s ρ).mono (fun _ q => q) (fun _ z => z.elim) hm⟩
    obtain ⟨b0, r, rfl⟩ : ∃ b0 r, y = b0 :: r := by
      cases y with
      | nil => cases h8
      | cons b0 r => exact ⟨_, _, rfl⟩
    refine pS_try (ex := exOf M m) (Cn := C) st0 φ.stk φ.frm ⟨g1, g2, .inl q1⟩ φ.tk (fun y bb Cy hy hm => ?_) (fun W pn xe tk po => okT b x (φ.tr tk po) st0 h7) (fun al oe cls d pn _ _ => hsu al oe pn) (fun ρ Q XX hr => hr)
    unfold exOf at hy
    split at hy
    · rename_i hin
      cases hy
      exact φ.exm y hin m h5 Cy C hm q1
    · cases hy
  | .bad, st, φ, st0, h => ⟨fun _ _ _ _ _ _ ⟨_, _, _, _, z⟩ => z.elim⟩
theorem okT {X : Cx} {Wx : WX} {Γ : Tab} {M : Mg} {p : Option Addr} {γ0 H0 : Hp} : ∀ (t : IT) (ss : List Stmt), FitS X Wx Γ M → Stt X.K p γ0 H0 → chkT Γ t ss = true → PSs X ss (TSs X Wx p γ0 H0 (denT M t))
  | .nil, ss, φ, st0, h => by
    rw [chkT] at h
    cases ss with
    | nil => exact pS_nil
    | cons _ _ => cases h
  | .cons s t, ss, φ, st0, h => by
    rw [chkT] at h
    obtain ⟨x, r, rfl, h⟩ := onC_ok h
    obtain ⟨h1, h2⟩ := and2 h
    exact pS_cons (okS s x φ st0 h1) (okT t r φ st0 h2)
end
end Ev

/-! Ev19: a def of the text keeps what its plain form means. -/
namespace Ev
open PySem PySem.Spec PyProof.Rows L2
/-- a def of ours that is known -/
def FnAt (P : Program) (w : World) (K : PySem.W.Frag) (mg : Str → Option Value) (base : Heap) (k : Nat) (x : Str) (F : List Ar → W Exc D) : Prop :=
  ∃ f fd ps, mg x = some (.ref f) ∧ PySem.W.keepIn K (.ref f) = true ∧ Binds K fd ps [] ∧ FnOk P w K mg base (L2.CX P w) k f fd ps (spD K mg ps.length F) ∧ ∀ as Q XX, (F as).run Q XX → as.length = ps.length
theorem FnAt.up {P : Program} {w : World} {K : PySem.W.Frag} {mg : Str → Option Value} {base : Heap} {j k : Nat} {x : Str} {F : List Ar → W Exc D} (h : FnAt P w K mg base j x F) (e : j ≤ k) : FnAt P w K mg base k x F := by
  obtain ⟨f, fd, ps, h1, h2, h3, h4, h5⟩ := h
  exact ⟨f, fd, ps, h1, h2, h3, h4.mono e, h5⟩
def noF : List Ar → W Exc D := fun _ => .stuck
/-- what a module gives to a def -/
structure Md (P : Program) (w : World) (K : PySem.W.Frag) (mg : Str → Option Value) (base : Heap) (k : Nat) (Γ : Tab) (M : Mg) : Prop where
  bl : ∀ x ∈ Γ.bl, mg x = none
  cst : ∀ (j : Nat) (x : Str), Γ.cst[j]? = some x → ∃ v u, mg x = some u ∧ RelV v u ∧ ∀ γ, Rep K γ v (M.C j)
  tbl : ∀ x t, (x, t) ∈ Γ.tbl → TblAt K w mg x t
  fns : ∀ (n : Nat) (x : Str), Γ.fns[n]? = some x → FnAt P w K mg base k x (M.Φ n)
  exe : Γ.exs = M.exs
  exs : ∀ x ∈ M.exs, ∃ C, mg x = some (.ref C) ∧ PySem.W.keepIn K (.ref C) = true ∧ PySem.W.excIn K C He.veBase "ValueError.__new__" = true ∧ PySem.W.subIn K (.ref C) (.type "BaseException") = some true ∧ PySem.W.typeIn K (.ref C) = some (.type "type")
  exm : ∀ x ∈ M.exs, ∀ y ∈ M.exs, ∀ C Cn, mg x = some (.ref C) → mg y = some (.ref Cn) → PySem.W.exmOne K (.ref C) (.ref Cn) = some (decide (x = y))
def Ar.sl : Ar → Sl
  | .d x => .val x
  | .pool => .pool
def outD : Out → W Exc D
  | .rt d => .ret d
  | .nx _ => .ret .none
  | _ => .stuck
/-- what a def means -/
def denD (M : Mg) (np n : Nat) (b : IT) : List Ar → W Exc D := fun as => (W.ask (as.length = np)).bind fun _ => ((denT M b (as.map Ar.sl ++ List.replicate (n - np) .un)).mapErr (·.1)).bind outD
theorem paired_get {α β : Type} {R : α → β → Prop} : ∀ {xs : List α} {ys : List β} {i : Nat} {y : β}, Paired R xs ys → ys[i]? = some y → ∃ x, xs[i]? = some x ∧ R x y
  | _, _, i, y, .nil, h => by simp at h
  | _, _, 0, y, .cons r t, h => by simp at h; subst h; exact ⟨_, rfl, r⟩
  | _, _, i + 1, y, .cons r t, h => by
    obtain ⟨x, e, q⟩ := paired_get (i := i) t (by simpa using h)
    exact ⟨x, by simpa using e, q⟩
theorem envR_start {K : PySem.W.Frag} {p : Option Addr} {γ H : Hp} {vs : List V} {as : List Ar} {N : List Str} (h : ArAll K p γ vs as) (hl : as.length ≤ N.length) : EnvR K p H γ H (L2.start N vs) (as.map Ar.sl ++ List.replicate (N.length - as.length) .un) := by
  have hlen : vs.length = as.length := Paired.length h
  refine ⟨by unfold L2.start; simp; omega, fun i s hs => ?_, fun i j xs ys hij h1 h2 => ?_, fun i j xs ys hij h1 h2 => ?_⟩
  · unfold L2.start
    by_cases hi : i < as.length
    · rw [List.getElem?_append_left (by simpa using hi), List.getElem?_map] at hs
      cases e : as[i]? with
      | none => rw [e] at hs; cases hs
      | some a =>
        rw [e] at hs
        cases hs
        obtain ⟨v, e1, r⟩ := paired_get h e
        refine ⟨some v, by rw [List.getElem?_append_left (by simp; omega), List.getElem?_map, e1]; rfl, ?_⟩
        cases a with
        | d x => exact ⟨v, rfl, r⟩
        | pool =>
          obtain ⟨al, e2, e3⟩ := r
          exact ⟨al, by rw [e2], e3⟩
    · have hi' : as.length ≤ i := by omega
      rw [List.getElem?_append_right (by simpa using hi')] at hs
      rw [List.getElem?_append_right (by simp; omega)]
      rw [List.getElem?_replicate] at hs
      split at hs
      · rename_i hlt
        cases hs
        exact ⟨none, by rw [List.getElem?_replicate, if_pos (by simp at hlt ⊢; omega)], trivial⟩
      · cases hs
  · exfalso
    by_cases hi : i < as.length
    · rw [List.getElem?_append_left (by simpa using hi), List.getElem?_map] at h1
      cases e : as[i]? with
      | none => rw [e] at h1; cases h1
      | some a => rw [e] at h1; cases a <;> cases h1
    · have hi' : as.length ≤ i := by omega
      rw [List.getElem?_append_right (by simpa using hi'), List.getElem?_replicate] at h1
      split at h1 <;> cases h1
  · exfalso
    by_cases hi : i < as.length
    · rw [List.getElem?_append_left (by simpa using hi), List.getElem?_map] at h1
      cases e : as[i]? with
      | none => rw [e] at h1; cases h1
      | some a => rw [e] at h1; cases a <;> cases h1
    · have hi' : as.length ≤ i := by omega
      rw [List.getElem?_append_right (by simpa using hi'), List.getElem?_replicate] at h1
      split at h1 <;> cases h1
section
variable {P : Program} {w : World} {K : PySem.W.Frag} {mg : Str → Option Value} {base : Heap} {k : Nat} {Γ : Tab} {M : Mg}
theorem fit_of (md : Md P w K mg base k Γ M) {N ps : List Str} {qual : Str} {scope : Scope} {f : Addr} {cdv : Value} {A : Around} {outer : List Env} {s : Shared} {H : Hp} {E : XK} (S : FnScope N ps scope)
    (hr : Room k (A.deeper (envOfC qual scope s.heap.objs.size f cdv))) (hN : Γ.N = N) (hsc : Γ.sc = scope) (hss : Γ.ss = scope) : FitS (cxOf (L2.CX P w) P w K mg base N qual scope f cdv A outer s H E) (fun cls d _ H' => E cls d H') Γ M where
  sc := hsc.symm
  N := hN.symm
  nd := by rw [hN]; exact S.nd
  hu := by
    have := hr.un
    show (A.deeper (envOfC qual scope s.heap.objs.size f cdv)).units + 65 < cLine
    omega
  calm := fun _ => rfl
  tk := takes_of rfl rfl rfl rfl
  sto := fun x hx => by
    rw [hss] at hx
    exact ⟨hx, .inl rfl⟩
  bl := md.bl
  cst := md.cst
  tbl := md.tbl
  fns := fun n x h => by
    obtain ⟨f', fd, ps', h1, h2, h3, h4, h5⟩ := md.fns n x h
    exact ⟨k, f', fd, ps', hr, h1, h2, h3, h4, h5⟩
  kind := by rw [hsc]; exact S.kind
  stk := rfl
  frm := rfl
  po := fun _ => passes_of rfl
  exe := md.exe
  exs := fun x hx => by
    obtain ⟨C, h1, h2, h3, h4, h5⟩ := md.exs x hx
    exact ⟨C, h1, h2, h3, raises_own h4 h5⟩
  exm := md.exm
theorem denD_len {np n : Nat} {b : IT} (as : List Ar) (Q : D → Prop) (XX : Exc → Prop) (h : (denD M np n b as).run Q XX) : as.length = np := h.1
/-- a def keeps what its plain form means -/
theorem def_ok (md : Md P w K mg base k Γ M) {x nam qual : Str} {params : Arguments} {body : List Stmt} {scope : Scope} {dvs : List V} {kws : List (Str × V)} {f : Addr} {fd : FuncData} {N ps : List Str} {b : IT} {np n : Nat} (F : FunD K nam qual params body scope dvs kws f fd) (hg : mg x = some (.ref f)) (S : FnScope N ps scope)
    (hN : Γ.N = N) (hsc : Γ.sc = scope) (hss : Γ.ss = scope) (hb : Binds K fd ps []) (hz : ps.length ≤ N.length) (hnp : ps.length = np) (hn : N.length = n) (hc : chkT Γ b body = true) : FnAt P w K mg base (k + 1) x (denD M np n b) := by
  subst hnp hn
  refine ⟨f, fd, ps, hg, F.kp, hb, ?_, fun as Q XX h => h.1⟩
  refine F.ok S (fun vs H Q E h => h.1) (fun cdv A outer s H vs Q E hr ⟨hl, p, γ, as, st, ha, hm⟩ => ?_)
  have φ := fit_of (E := E) (H := H) (outer := outer) md S hr hN hsc hss
  have er : EnvR K p H γ H (L2.start N vs) (as.map Ar.sl ++ List.replicate (N.length - as.length) .un) := envR_start ha (by rw [← Paired.length ha, hl]; exact hz)
  refine ⟨_, okT b body φ st hc, γ, as.map Ar.sl ++ List.replicate (N.length - as.length) Sl.un, .refl st, er, ?_⟩
  obtain ⟨hlen, hm⟩ := hm
  rw [hlen]
  refine (denT M b _).mono (fun o q => ?_) (fun xx q => ?_) hm
  · cases o with
    | rt d => exact fun γ' H' v _ e r => q γ' H' v e r
    | nx ρ => exact fun γ' H' σ' _ e er => q γ' H' .non e .non
    | bk ρ => exact False.elim q
    | ct ρ => exact False.elim q
  · exact fun γ' H' σ' cc dd _ e _ r => q γ' H' cc dd e r
end
end Ev

/-! Ev20: plain readings of a few forms, for the helpers that change the pool. -/
namespace Ev
open PySem PySem.Spec PyProof.Rows L2
abbrev Grow (H H' : Hp) : Prop := ∀ a o, H a = some o → H' a = some o
def rAO (K : PySem.W.Frag) : AO → R2
  | .add => rInt (· + ·)
  | .sub => rInt (· - ·)
  | .mul => rI CMul fun i j => .int (i * j)
  | .mod => rI (fun _ j => 0 < j) fun i j => .int (i % j)
  | .div => rI CDiv fun i j => .int (i / j)
def rCO : CO → R2
  | .lt => rI0 fun i j => .bl (decide (i < j))
  | .le => rI0 fun i j => .bl (decide (i ≤ j))
  | _ => fun _ _ _ _ => False
def rInt1 : List V → Hp → VK → Prop := fun xs H Q => (∃ i, xs = [.int i] ∧ Q (.int i) H) ∨ ∃ k, xs = [.bl k] ∧ Q (.int (if k then 1 else 0)) H
def rListL (K : PySem.W.Frag) : List V → Hp → VK → Prop := fun xs H Q => ∃ p ys, xs = [.ref p] ∧ SqL K H p ys ∧ ∀ l, H l = none → Q (.ref l) (upd H l (.lst ys))
theorem call_list_ofL {X : Cx} : CallR X (.type "list") (rListL X.K) := by
  intro pins s σ H xs us Q I r ⟨p, ys, e, hq, q⟩
  exact call_list_of pins s σ H xs us Q I r ⟨p, ys, e, .inl hq, q⟩
mutual
def rawE (K : PySem.W.Frag) : IE → TE
  | .v i => tVar i
  | .i n => tC (.int n)
  | .ix a b => tOp (rIx K) (rawO K a) (rawO K b)
  | .sl a lo hi => fun σ H Q => rawO K a σ H fun x H1 => rawP K lo σ H1 fun l H2 => rawP K hi σ H2 fun u H3 => ∃ p xs, x = .ref p ∧ SqL K H3 p xs ∧ ∀ l', H3 l' = none → Q (.ref l') (upd H3 l' (.lst (cutV xs l u)))
  | .bin o a b => tOp (rAO K o) (rawO K a) (rawO K b)
  | .f1 .len a => tCB (rLenG K) (tCons (rawO K a) tNil)
  | .f1 .int a => tCB rInt1 (tCons (rawO K a) tNil)
  | .call _ (.d e .nil) => fun σ H Q => rawE K e σ H fun x H1 => ∃ i, [x] = [V.int i] ∧ ∀ (j : Int) H', Grow H1 H' → Q (.int j) H'
  | .fr f => rawF K f
  | _ => fun _ _ _ => False
def rawO (K : PySem.W.Frag) : IO → TE
  | .e e => rawE K e
  | .own i => tVar i
def rawF (K : PySem.W.Frag) : IF → TE
  | .lst l => fun σ H Q => rawL K l σ H fun vs H1 => vs.length ≤ sizeLine ∧ ∀ a, H1 a = none → Q (.ref a) (upd H1 a (.lst vs))
  | .list a => tCB (rListL K) (tCons (rawO K a) tNil)
  | _ => fun _ _ _ => False
def rawL (K : PySem.W.Frag) : IL → TA
  | .nil => tNil
  | .cons e l => tCons (rawE K e) (rawL K l)
def rawP (K : PySem.W.Frag) : IP → TO
  | .no => fun σ H Q => Q none H
  | .one e => fun σ H Q => rawE K e σ H fun x H1 => ∃ i, x = .int i ∧ Q (some i) H1
end
mutual
def rawC (K : PySem.W.Frag) : IC → TT
  | .cmp o a b => tTest (tOp (rCO o) (rawO K a) (rawO K b))
  | .and x => rawK K x
  | _ => fun _ _ _ => False
def rawK (K : PySem.W.Frag) : IK → TT
  | .one c => rawC K c
  | .more c x => tAnd (rawC K c) (rawK K x)
end
/-- the calls are of helpers that take an int and give an int -/
def IntF (M : Mg) (Γ : Tab) : Prop := ∀ (n : Nat) (x : Str), Γ.fns[n]? = some x → ∀ (i : Int) (Q : D → Prop) (XX : Exc → Prop), (∀ j : Int, Q (.int j)) → (M.Φ n [.d (.int i)]).run Q XX
theorem pe_False {X : Cx} {e : Expr} : PE X e (fun _ _ _ => False) := ⟨fun _ _ _ _ _ _ h => h.elim⟩
theorem pt_False {X : Cx} {e : Expr} : PT X e (fun _ _ _ => False) := ⟨fun _ _ _ _ _ _ h => h.elim⟩
theorem pw_False {X : Cx} {e : Expr} : PW X e (fun _ _ _ => False) := ⟨fun _ _ _ _ _ _ _ h => h.elim⟩
theorem okRAO {X : Cx} (o : AO) : OpR X (binaryOp o.ast) (rAO X.K o) := by
  cases o
  · exact op_add
  · exact op_sub
  · exact op_mul
  · exact op_mod
  · exact op_fdiv
theorem okRCO {X : Cx} (o : CO) : OpR X (compareOp o.ast) (rCO o) := by
  cases o <;> first
    | exact op_lt
    | exact op_le
    | exact fun _ _ _ _ _ _ _ _ _ _ _ _ h => h.elim
mutual
theorem okRE {X : Cx} {Wx : WX} {Γ : Tab} {M : Mg} : ∀ (t : IE) (e : Expr), Fit X Wx Γ M → IntF M Γ → chkE Γ t e = true → PE X e (rawE X.K t)
  | .v i, e, φ, ι, h => by
    rw [chkE] at h
    obtain ⟨x, p, rfl, h⟩ := onNm_ok h
    obtain ⟨a, b, c, d⟩ := var_ok φ h
    exact pe_var a b c d
  | .i n, e, φ, ι, h => by
    rw [chkE] at h
    obtain ⟨c, j, p, rfl, h⟩ := onCst_ok h
    rw [dec1 h]
    exact pe_int
  | .ix a b, e, φ, ι, h => by
    rw [chkE] at h
    obtain ⟨x, y, p, rfl, h⟩ := onIx_ok h
    obtain ⟨h0, h⟩ := and2 h
    obtain ⟨h1, h2⟩ := and2 h
    exact pe_ix ix_seq (okRO a x φ ι h1) (okRO b y φ ι h2) (plainIx_of (nSl_ok h0))
  | .sl a lo hi, e, φ, ι, h => by
    rw [chkE] at h
    obtain ⟨x, y, p, rfl, h⟩ := onIx_ok h
    obtain ⟨h0, h⟩ := and2 h
    obtain ⟨l, u, p2, rfl, h⟩ := onSl_ok h
    obtain ⟨h1, h2⟩ := and2 h
    exact pe_slice sl_list (okRO a x φ ι h0) (okRP lo l φ ι h1) (okRP hi u φ ι h2)
  | .bin o a b, e, φ, ι, h => by
    rw [chkE] at h
    obtain ⟨x, o', y, p, rfl, h⟩ := onBin_ok h
    obtain ⟨h0, h⟩ := and2 h
    obtain ⟨h1, h2⟩ := and2 h
    rw [dec1 h0]
    exact pe_op (okRAO o) (okRO a x φ ι h1) (okRO b y φ ι h2)
  | .f1 f a, e, φ, ι, h => by
    rw [chkE] at h
    obtain ⟨x, pp, es, p, rfl, h⟩ := onCall_ok h
    obtain ⟨h0, h⟩ := and2 h
    obtain ⟨hc, h0⟩ := and2 h0
    obtain ⟨h1, h2⟩ := and2 h0
    obtain ⟨y, rfl, h⟩ := on1_ok h
    obtain ⟨h3, h4⟩ := and2 h
    have hx := dec1 h1
    subst hx
    obtain ⟨g1, g2, g3⟩ := blt_ok φ h2
    cases f <;> first
      | exact pe_callB call_lenG g1 g3 boot_len' (pa_cons (okRO a y φ ι h4) pa_nil (star1 (ns_ok h3) X.env)) (by decide +kernel) g2 (star1 (ns_ok h3) X.env) (back0 _ _)
      | exact pe_callTy call_int1 g1 g3 (by decide +kernel) (pa_cons (okRO a y φ ι h4) pa_nil (star1 (ns_ok h3) X.env)) (by decide +kernel) g2 (star1 (ns_ok h3) X.env) (back0 _ _)
      | exact pe_False
  | .call n (.d t .nil), e, φ, ι, h => by
    rw [chkE] at h
    obtain ⟨x, pp, es, p, rfl, h⟩ := onCall_ok h
    obtain ⟨h0, h⟩ := and2 h
    obtain ⟨h1, h2⟩ := and2 h0
    rw [← φ.sc] at h2
    obtain ⟨g1, g2⟩ := gloB_ok h2
    obtain ⟨k, f, fd, ps, r1, r2, r3, r4, r5, r6⟩ := φ.fns n x (dec1 h1)
    rw [chkA] at h
    obtain ⟨y, r, rfl, h⟩ := onC_ok h
    obtain ⟨h3, h⟩ := and2 h
    obtain ⟨h4, h5⟩ := and2 h
    rw [chkA] at h5
    cases r with
    | cons _ _ => cases h5
    | nil =>
      have hl : ps.length = 1 := (r6 [.d (.int 0)] (fun _ => True) (fun _ => True) (ι n x (dec1 h1) 0 _ _ fun _ => trivial)).symm
      have r5' := FnOk.imp (sp' := fun vs H Q E => ∃ i, vs = [V.int i] ∧ ∀ (j : Int) H', Grow H H' → Q (.int j) H') r5 fun vs H Q E ⟨i, e1, q⟩ => by
        subst e1
        refine ⟨hl.symm, none, fun _ => none, [.d (.int i)], ⟨fun a o z => (nomatch z), fun a z => (nomatch z)⟩, .cons Rep.int .nil, ι n x (dec1 h1) i _ _ fun j γ' H' v e r => ?_⟩
        rw [r.ofInt]
        exact q j H' fun a o z => e.same a o (fun w => nomatch w) z
      exact pe_callS (CX := L2.CX X.prog X.w) (E := WE Wx) r5' r1 g1 r2 r3 r4 (fun σ => passAt φ.tk σ) (pa_cons (okRE t y φ ι h4) pa_nil (star1 (ns_ok h3) X.env)) g2 (star1 (ns_ok h3) X.env) (back0 _ _)
  | .call _ .nil, e, φ, ι, h => pe_False
  | .call _ (.pool _ _), e, φ, ι, h => pe_False
  | .call _ (.d _ (.d _ _)), e, φ, ι, h => pe_False
  | .call _ (.d _ (.pool _ _)), e, φ, ι, h => pe_False
  | .fr f, e, φ, ι, h => by
    rw [chkE] at h
    exact okRF f e φ ι h
  | .none, e, φ, ι, h => pe_False
  | .b _, e, φ, ι, h => pe_False
  | .s _, e, φ, ι, h => pe_False
  | .g _, e, φ, ι, h => pe_False
  | .tup _, e, φ, ι, h => pe_False
  | .cmp _ _ _, e, φ, ι, h => pe_False
  | .chn _ _ _ _ _, e, φ, ι, h => pe_False
  | .not _, e, φ, ι, h => pe_False
  | .and _, e, φ, ι, h => pe_False
  | .or _, e, φ, ι, h => pe_False
  | .ife _ _ _, e, φ, ι, h => pe_False
  | .neg _, e, φ, ι, h => pe_False
  | .f2 _ _ _, e, φ, ι, h => pe_False
  | .isi _ _, e, φ, ι, h => pe_False
  | .idx _ _, e, φ, ι, h => pe_False
  | .rvt _, e, φ, ι, h => pe_False
  | .bad, e, φ, ι, h => pe_False
  | .kix _ _ _, e, φ, ι, h => pe_False
  | .dget _ _, e, φ, ι, h => pe_False
  | .dget2 _ _ _, e, φ, ι, h => pe_False
  | .dsub _ _ _, e, φ, ι, h => pe_False
  | .dct _ _, e, φ, ι, h => pe_False
  | .cnt _ _, e, φ, ι, h => pe_False
theorem okRO {X : Cx} {Wx : WX} {Γ : Tab} {M : Mg} : ∀ (t : IO) (e : Expr), Fit X Wx Γ M → IntF M Γ → chkO Γ t e = true → PE X e (rawO X.K t)
  | .e t, e, φ, ι, h => by
    rw [chkO] at h
    exact okRE t e φ ι h
  | .own i, e, φ, ι, h => by
    rw [chkO] at h
    obtain ⟨x, p, rfl, h⟩ := onNm_ok h
    obtain ⟨a, b, c, d⟩ := var_ok φ h
    exact pe_var a b c d
theorem okRF {X : Cx} {Wx : WX} {Γ : Tab} {M : Mg} : ∀ (t : IF) (e : Expr), Fit X Wx Γ M → IntF M Γ → chkF Γ t e = true → PE X e (rawF X.K t)
  | .lst l, e, φ, ι, h => by
    rw [chkF] at h
    obtain ⟨es, p, rfl, h⟩ := onLst_ok h
    exact pe_lst (okRL l es φ ι h)
  | .list a, e, φ, ι, h => by
    rw [chkF] at h
    obtain ⟨x, pp, es, p, rfl, h⟩ := onCall_ok h
    obtain ⟨h0, h⟩ := and2 h
    obtain ⟨hc, h0⟩ := and2 h0
    obtain ⟨h1, h2⟩ := and2 h0
    obtain ⟨y, rfl, h⟩ := on1_ok h
    obtain ⟨h3, h4⟩ := and2 h
    have hx := dec1 h1
    subst hx
    obtain ⟨g1, g2, g3⟩ := blt_ok φ h2
    exact pe_callTy call_list_ofL g1 g3 (by decide +kernel) (pa_cons (okRO a y φ ι h4) pa_nil (star1 (ns_ok h3) X.env)) (by decide +kernel) g2 (star1 (ns_ok h3) X.env) (back0 _ _)
  | .cat _ _, e, φ, ι, h => pe_False
  | .rep _ _, e, φ, ι, h => pe_False
  | .srtS _, e, φ, ι, h => pe_False
  | .srtL _, e, φ, ι, h => pe_False
  | .rg1 _, e, φ, ι, h => pe_False
  | .rg2 _ _, e, φ, ι, h => pe_False
  | .lc _ _ _ _ _, e, φ, ι, h => pe_False
  | .lc2 _ _ _ _ _ _ _ _ _, e, φ, ι, h => pe_False
theorem okRL {X : Cx} {Wx : WX} {Γ : Tab} {M : Mg} : ∀ (t : IL) (es : List Expr), Fit X Wx Γ M → IntF M Γ → chkL Γ t es = true → PA X es (rawL X.K t)
  | .nil, es, φ, ι, h => by
    rw [chkL] at h
    cases es with
    | nil => exact pa_nil
    | cons _ _ => cases h
  | .cons t l, es, φ, ι, h => by
    rw [chkL] at h
    obtain ⟨e, r, rfl, h⟩ := onC_ok h
    obtain ⟨h1, h⟩ := and2 h
    obtain ⟨h2, h3⟩ := and2 h
    exact pa_cons (okRE t e φ ι h2) (okRL l r φ ι h3) (star1 (ns_ok h1) _)
theorem okRP {X : Cx} {Wx : WX} {Γ : Tab} {M : Mg} : ∀ (t : IP) (o : Option Expr), Fit X Wx Γ M → IntF M Γ → chkP Γ t o = true → PO X o (rawP X.K t)
  | .no, o, φ, ι, h => by
    rw [chkP] at h
    cases o with
    | none => exact po_none
    | some _ => cases h
  | .one t, o, φ, ι, h => by
    rw [chkP] at h
    obtain ⟨e, rfl, h⟩ := onO_ok h
    exact po_of (po_some (okRE t e φ ι h)) fun σ H Q q => q
theorem okRC {X : Cx} {Wx : WX} {Γ : Tab} {M : Mg} : ∀ (t : IC) (e : Expr), Fit X Wx Γ M → IntF M Γ → chkC Γ t e = true → PT X e (rawC X.K t)
  | .cmp o a b, e, φ, ι, h => by
    rw [chkC] at h
    obtain ⟨x, o', y, p, rfl, h⟩ := onCmp_ok h
    obtain ⟨h0, h⟩ := and2 h
    obtain ⟨h3, h⟩ := and2 h
    obtain ⟨h1, h2⟩ := and2 h
    rw [dec1 h0]
    exact pt_cmpR (okRCO o) (okRO a x φ ι h1) (okRO b y φ ι h2) (nSet_mark h3 _)
  | .and x, e, φ, ι, h => by
    rw [chkC] at h
    obtain ⟨o, es, p, rfl, h⟩ := onBo_ok h
    obtain ⟨h0, h⟩ := and2 h
    rw [dec1 h0]
    exact (okRK x es p φ ι h).pt
  | .tru _, e, φ, ι, h => pt_False
  | .chn _ _ _ _ _, e, φ, ι, h => pt_False
  | .kin _ _ _ _, e, φ, ι, h => pt_False
  | .not _, e, φ, ι, h => pt_False
  | .or _, e, φ, ι, h => pt_False
theorem okRK {X : Cx} {Wx : WX} {Γ : Tab} {M : Mg} : ∀ (t : IK) (es : List Expr) (p : Pos), Fit X Wx Γ M → IntF M Γ → chkK Γ t es = true → PW X (.BoolOp .And es p) (rawK X.K t)
  | .one c, es, p, φ, ι, h => by
    rw [chkK] at h
    obtain ⟨e, rfl, h⟩ := on1_ok h
    exact pw_and1 (okRC c e φ ι h)
  | .more c x, es, p, φ, ι, h => by
    rw [chkK] at h
    obtain ⟨e, r, rfl, h⟩ := onC_ok h
    obtain ⟨h1, h⟩ := and2 h
    obtain ⟨h2, h3⟩ := and2 h
    have hx := okRK x r p φ ι h3
    obtain ⟨b, r', rfl⟩ := ne_ok h2
    exact pw_and (okRC c e φ ι h1) hx
end
end Ev

/-! Ev21: the pool's helpers. -/
namespace Ev
open PySem PySem.Spec PyProof.Rows L2
mutual
def rawS (K : PySem.W.Frag) : IS → TS
  | .ret e => tRet (rawE K e)
  | .set i e => tAsg (rawE K e) (gName i)
  | .setI i j e => tAsg (rawE K e) (gSub (tVar i) (rawE K j) rSetL)
  | .ife c a b => tIfS (rawC K c) (rawT K a) (rawT K b)
  | .for_ (.nm i) (.seq e) b => tFor (iList K (rawE K e)) (gName i) (rawT K b)
  | _ => fun _ _ _ => False
def rawT (K : PySem.W.Frag) : IT → TS
  | .nil => tNext
  | .cons s t => tSeq (rawS K s) (rawT K t)
end
theorem ps_False {X : Cx} {st : Stmt} : PS X st (fun _ _ _ => False) := ⟨fun _ _ _ _ _ _ h => h.elim⟩
mutual
theorem okRS {X : Cx} {Wx : WX} {Γ : Tab} {M : Mg} : ∀ (t : IS) (st : Stmt), FitS X Wx Γ M → IntF M Γ → chkS Γ t st = true → PS X st (rawS X.K t)
  | .ret e, st, φ, ι, h => by
    rw [chkS] at h
    obtain ⟨o, pos, rfl, h⟩ := onRet_ok h
    obtain ⟨v, rfl, h⟩ := onO_ok h
    exact ps_ret (okRE e v φ.toFit ι h)
  | .set i e, st, φ, ι, h => by
    rw [chkS] at h
    obtain ⟨tg, v, pos, rfl, h⟩ := onAsg_ok h
    obtain ⟨ht, h⟩ := and2 h
    obtain ⟨h3, h4⟩ := and2 h
    obtain ⟨x, px, rfl, ht⟩ := onNm_ok ht
    obtain ⟨h1, h2⟩ := and2 ht
    obtain ⟨q1, q2⟩ := φ.sto x (lokB_ok h2)
    exact ps_set (nd_ok φ.toFit) (by rw [φ.N]; exact dec1 h1) q1 (okRE e v φ.toFit ι h4) (sw_not (not_lc h3) _ _ _) q2
  | .setI i j e, st, φ, ι, h => by
    rw [chkS] at h
    obtain ⟨tg, v, pos, rfl, h⟩ := onAsg_ok h
    obtain ⟨o, y, psub, rfl, h⟩ := onIx_ok h
    obtain ⟨h1, h⟩ := and2 h
    obtain ⟨h2, h3⟩ := and2 h
    obtain ⟨h4, h5⟩ := and2 h2
    obtain ⟨h6, h7⟩ := and2 h3
    obtain ⟨x, px, rfl, a, b, c, d⟩ := varB_ok φ.toFit h1
    exact ps_asg (okRE e v φ.toFit ι h7) (pg_sub (pe_var a b c d) (okRE j y φ.toFit ι h5) set_list (fun v => by cases y <;> first | rfl | exact absurd rfl (nSl_ok h4 _ _ _ _))) (sw_sole (not_lc h6) _ _) rfl rfl
  | .ife c a b, st, φ, ι, h => by
    rw [chkS] at h
    obtain ⟨z, x, y, pos, rfl, h⟩ := onIf_ok h
    obtain ⟨h1, h⟩ := and2 h
    obtain ⟨h2, h3⟩ := and2 h
    exact ps_if (okRC c z φ.toFit ι h1) (okRT a x φ ι h2) (okRT b y φ ι h3)
  | .for_ (.nm k) (.seq e) b, st, φ, ι, h => by
    rw [chkS] at h
    obtain ⟨tg, it, x, pos, rfl, h⟩ := onFor_ok h
    obtain ⟨h1, h⟩ := and2 h
    obtain ⟨hc, h1⟩ := and2 h1
    obtain ⟨h2, h3⟩ := and2 h1
    obtain ⟨h4, h⟩ := and2 h
    obtain ⟨h5, h6⟩ := and2 h
    rw [chkI] at h4
    exact ps_for (φ.po hc) (φ.calm hc) (pi_list (okRE e it φ.toFit ι h4)) (pg_nmT (N := Γ.N) φ.toFit h5) (okRT b x φ ι h6) (nSet_ok h2 _)
  | .for_ (.tup _) _ _, st, φ, ι, h => ps_False
  | .for_ (.nm _) (.r1 _) _, st, φ, ι, h => ps_False
  | .for_ (.nm _) (.r2 _ _) _, st, φ, ι, h => ps_False
  | .for_ (.nm _) (.rev _) _, st, φ, ι, h => ps_False
  | .for_ (.nm _) (.zip _ _) _, st, φ, ι, h => ps_False
  | .pass, st, φ, ι, h => ps_False
  | .brk, st, φ, ι, h => ps_False
  | .cnt, st, φ, ι, h => ps_False
  | .retN, st, φ, ι, h => ps_False
  | .drop _, st, φ, ι, h => ps_False
  | .setF _ _, st, φ, ι, h => ps_False
  | .setL _ _, st, φ, ι, h => ps_False
  | .asg _ _, st, φ, ι, h => ps_False
  | .par _ _, st, φ, ι, h => ps_False
  | .whl _ _, st, φ, ι, h => ps_False
  | .frz _ _, st, φ, ι, h => ps_False
  | .app _ _, st, φ, ι, h => ps_False
  | .ext _ _, st, φ, ι, h => ps_False
  | .swp _ _ _ _, st, φ, ι, h => ps_False
  | .pop _ _ _, st, φ, ι, h => ps_False
  | .appPop _ _ _, st, φ, ι, h => ps_False
  | .aug _ _, st, φ, ι, h => ps_False
  | .newD _, st, φ, ι, h => ps_False
  | .putD _ _ _, st, φ, ι, h => ps_False
  | .raise_ _ _, st, φ, ι, h => ps_False
  | .try_ _ _ _, st, φ, ι, h => ps_False
  | .bad, st, φ, ι, h => ps_False
theorem okRT {X : Cx} {Wx : WX} {Γ : Tab} {M : Mg} : ∀ (t : IT) (ss : List Stmt), FitS X Wx Γ M → IntF M Γ → chkT Γ t ss = true → PSs X ss (rawT X.K t)
  | .nil, ss, φ, ι, h => by
    rw [chkT] at h
    cases ss with
    | nil => exact pss_nil
    | cons _ _ => cases h
  | .cons s t, ss, φ, ι, h => by
    rw [chkT] at h
    obtain ⟨x, r, rfl, h⟩ := onC_ok h
    obtain ⟨h1, h2⟩ := and2 h
    exact pss_cons (okRS s x φ ι h1) (okRT t r φ ι h2)
end

/-! ### the helpers' plain forms (pool 0, many 1, cell 2, mixed 3, value 4) -/
abbrev iV (k : Nat) : IO := .e (.v k)
abbrev iI (k : Int) : IO := .e (.i k)
abbrev iP (k : Int) : IE := .ix (iV 0) (iI k)
def drawIR : IT :=
  .cons (.ife (.and (.more (.cmp .le (.e (iP 2)) (iI 0)) (.one (.cmp .lt (.e (iP 1)) (.e (.f1 .len (.e (iP 0))))))))
    (.cons (.set 2 (.ix (.e (iP 0)) (.e (iP 1)))) (.cons (.setI 0 (.i 1) (.bin .add (.e (iP 1)) (iI 1))) (.cons (.setI 0 (.i 2) (.v 2))
      (.cons (.ife (.cmp .lt (iV 2) (iI 1000000000000000000)) (.cons (.setI 0 (.i 2) (.call 0 (.d (.v 2) .nil))) .nil) .nil) .nil)))) .nil)
  (.cons (.setI 0 (.i 3) (.bin .add (.e (iP 3)) (iI 1)))
  (.cons (.ife (.cmp .le (.e (iP 2)) (iI 0))
    (.cons (.set 3 (.bin .mod (.e (.f1 .int (.e (.bin .add (.e (.bin .add (.e (.bin .mul (.e (iP 4)) (iI 48271))) (.e (.bin .mul (.e (iP 3)) (iI 69621))))) (iI 1))))) (iI 2147483647)))
    (.cons (.set 3 (.bin .mod (.e (.f1 .int (.e (.bin .add (.e (.bin .mul (iV 3) (iI 16807))) (.e (iP 3)))))) (iI 2147483629)))
    (.cons (.ret (.bin .mod (.e (.bin .div (iV 3) (iI 5))) (iV 1))) .nil))) .nil)
  (.cons (.set 4 (.bin .mod (.e (.f1 .int (.e (iP 2)))) (iV 1)))
  (.cons (.setI 0 (.i 2) (.bin .div (.e (iP 2)) (iV 1)))
  (.cons (.ret (.v 4)) .nil)))))
/-- script 0, salt 1, cell 2 -/
def poolIR : IT :=
  .cons (.set 1 (.i 7))
  (.cons (.for_ (.nm 2) (.seq (.sl (iV 0) .no (.one (.i 63)))) (.cons (.set 1 (.bin .mod (.e (.f1 .int (.e (.bin .add (.e (.bin .mul (iV 1) (iI 31))) (iV 2))))) (iI 1000003))) .nil))
  (.cons (.ret (.fr (.lst (.cons (.fr (.list (iV 0))) (.cons (.i 0) (.cons (.i 0) (.cons (.i 0) (.cons (.v 1) .nil)))))))) .nil))
end Ev

/-! Ev22: a draw gives any number below; the pool is made. -/
namespace Ev
open PySem PySem.Spec PyProof.Rows L2
def F_draw : List Ar → W Exc D
  | [.pool, .d (.int n)] => (W.ask (n < 1073741824)).bind fun _ => (W.draw n).bind fun v => .ret (.int v)
  | _ => .stuck
section
variable {K : PySem.W.Frag} {a c : Addr} {ns : List Int} {H0 : Hp} {σ : St} {H : Hp} {n : Int} {γ : Hp}
abbrev pl5 (c : Addr) (i j k l : Int) : List V := [.ref c, .int i, .int j, .int k, .int l]
/-- the pool as it stands, all else kept -/
structure PJ (K : PySem.W.Frag) (γ H0 : Hp) (a c : Addr) (ns : List Int) (H : Hp) : Prop where
  keep : ∀ b o, b ≠ a → H0 b = some o → H b = some o
  at_ : ∃ i j k l, H a = some (.lst (pl5 c i j k l)) ∧ 0 ≤ i
theorem rP {Q : VK} {i j k l m : Int} {v : V} (h0 : σ[0]? = some (some (.ref a))) (hH : H a = some (.lst (pl5 c i j k l))) (hv : atI (pl5 c i j k l) m = some v) (q : Q v H) : rawE K (iP m) σ H Q :=
  ⟨_, h0, .inl ⟨a, _, m, v, rfl, rfl, .of hH, hv, q⟩⟩
theorem sP {e : IE} {m : Int} {D : Ends} {i j k l : Int} {t : Nat} (h0 : σ[0]? = some (some (.ref a))) (ht : ixN 5 m = some t)
    (h : rawE K e σ H fun x H1 => ∃ i j k l, H1 a = some (.lst (pl5 c i j k l)) ∧ D.nx σ (upd H1 a (.lst ((pl5 c i j k l).set t x)))) (mono : ∀ Q Q' : VK, (∀ x H', Q x H' → Q' x H') → rawE K e σ H Q → rawE K e σ H Q') : rawS K (.setI 0 (.i m) e) D σ H := by
  refine mono _ _ (fun x H1 q => ?_) h
  obtain ⟨i, j, k, l, e1, q⟩ := q
  exact ⟨.ref a, h0, a, _, m, t, rfl, rfl, e1, ht, q⟩
theorem PJ.set (J : PJ K γ H0 a c ns H) {i j k l : Int} (hi : 0 ≤ i) : PJ K γ H0 a c ns (upd H a (.lst (pl5 c i j k l))) :=
  ⟨fun b o hb q => by rw [upd_ne hb]; exact J.keep b o hb q, i, j, k, l, upd_same, hi⟩
theorem PJ.grow (J : PJ K γ H0 a c ns H) {H' : Hp} (g : Grow H H') : PJ K γ H0 a c ns H' :=
  ⟨fun b o hb q => g b o (J.keep b o hb q), let ⟨i, j, k, l, e, h⟩ := J.at_; ⟨i, j, k, l, g _ _ e, h⟩⟩
theorem cmul_r {i j : Int} (h : -(2 ^ 64) < j ∧ j < 2 ^ 64) : CMul i j := .inr h
def tailIR : IT :=
  .cons (.setI 0 (.i 3) (.bin .add (.e (iP 3)) (iI 1)))
  (.cons (.ife (.cmp .le (.e (iP 2)) (iI 0))
    (.cons (.set 3 (.bin .mod (.e (.f1 .int (.e (.bin .add (.e (.bin .add (.e (.bin .mul (.e (iP 4)) (iI 48271))) (.e (.bin .mul (.e (iP 3)) (iI 69621))))) (iI 1))))) (iI 2147483647)))
    (.cons (.set 3 (.bin .mod (.e (.f1 .int (.e (.bin .add (.e (.bin .mul (iV 3) (iI 16807))) (.e (iP 3)))))) (iI 2147483629)))
    (.cons (.ret (.bin .mod (.e (.bin .div (iV 3) (iI 5))) (iV 1))) .nil))) .nil)
  (.cons (.set 4 (.bin .mod (.e (.f1 .int (.e (iP 2)))) (iV 1)))
  (.cons (.setI 0 (.i 2) (.bin .div (.e (iP 2)) (iV 1)))
  (.cons (.ret (.v 4)) .nil))))
theorem get_set_ne {σ : St} {i j : Nat} {x : Option V} (h : i ≠ j) : (σ.set i x)[j]? = σ[j]? := List.getElem?_set_ne h
theorem tail_ok {D : Ends} (hn0 : 0 < n) (hn : n < 1073741824) (hl : σ.length = 5) (h0 : σ[0]? = some (some (.ref a))) (h1 : σ[1]? = some (some (.int n))) (J : PJ K γ H0 a c ns H)
    (fin : ∀ H' v, PJ K γ H0 a c ns H' → 0 ≤ v → v < n → D.rt (.int v) H') : rawT K tailIR D σ H := by
  obtain ⟨i, j, k, l, e, hi⟩ := J.at_
  -- pool[3] = pool[3] + 1
  refine ⟨_, h0, .inl ⟨a, _, 3, .int k, rfl, rfl, .of e, rfl, k, 1, rfl, rfl, .ref a, h0, a, _, 3, 3, rfl, rfl, e, rfl, ?_⟩⟩
  have J1 : PJ K γ H0 a c ns (upd H a (.lst (pl5 c i j (k + 1) l))) := J.set hi
  show tSeq _ _ D σ (upd H a (.lst (pl5 c i j (k + 1) l)))
  have e1 : upd H a (.lst (pl5 c i j (k + 1) l)) a = some (.lst (pl5 c i j (k + 1) l)) := upd_same
  -- if pool[2] <= 0
  refine ⟨_, h0, .inl ⟨a, _, 2, .int j, rfl, rfl, .of e1, rfl, j, 0, rfl, rfl, _, rfl, ?_⟩⟩
  by_cases hj : j ≤ 0
  · rw [show decide (j ≤ 0) = true from by simpa using hj]
    refine ⟨_, h0, .inl ⟨a, _, 4, .int l, rfl, rfl, .of e1, rfl, l, 48271, rfl, rfl, cmul_r (by decide), _, h0, .inl ⟨a, _, 3, .int (k + 1), rfl, rfl, .of e1, rfl, (k + 1), 69621, rfl, rfl, cmul_r (by decide), ?_⟩⟩⟩
    refine ⟨_, _, rfl, rfl, _, _, rfl, rfl, .inl ⟨_, rfl, _, _, rfl, rfl, (show (0 : Int) < 2147483647 by decide), ?_⟩⟩
    have g1 : ∀ x : V, (σ.set 3 (some x))[3]? = some (some x) := fun x => List.getElem?_set_self (by omega)
    refine ⟨_, g1 _, _, _, rfl, rfl, cmul_r (by decide), _, (get_set_ne (by decide)).trans h0, .inl ⟨a, _, 3, .int (k + 1), rfl, rfl, .of e1, rfl, _, _, rfl, rfl, .inl ⟨_, rfl, _, _, rfl, rfl, (show (0 : Int) < 2147483629 by decide), ?_⟩⟩⟩
    have g2 : ∀ x y : V, ((σ.set 3 (some x)).set 3 (some y))[3]? = some (some y) := fun x y => List.getElem?_set_self (by simp; omega)
    refine ⟨_, g2 _ _, _, _, rfl, rfl, ⟨by decide, by decide⟩, _, (get_set_ne (by decide)).trans ((get_set_ne (by decide)).trans h1), _, _, rfl, rfl, hn0, ?_⟩
    exact fin _ _ J1 (Int.emod_nonneg _ (by omega)) (Int.emod_lt_of_pos _ hn0)
  · rw [show decide (j ≤ 0) = false from by simpa using hj]
    refine ⟨_, h0, .inl ⟨a, _, 2, .int j, rfl, rfl, .of e1, rfl, .inl ⟨_, rfl, _, h1, _, _, rfl, rfl, hn0, ?_⟩⟩⟩
    have g0 : (σ.set 4 (some (V.int (j % n))))[0]? = some (some (.ref a)) := (get_set_ne (by decide)).trans h0
    have g1 : (σ.set 4 (some (V.int (j % n))))[1]? = some (some (.int n)) := (get_set_ne (by decide)).trans h1
    refine ⟨_, g0, .inl ⟨a, _, 2, .int j, rfl, rfl, .of e1, rfl, _, g1, _, _, rfl, rfl, ⟨hn0, hn⟩, _, g0, a, _, 2, 2, rfl, rfl, e1, rfl, ?_⟩⟩
    refine ⟨_, List.getElem?_set_self (by omega), ?_⟩
    exact fin _ _ (J1.set hi) (Int.emod_nonneg _ (by omega)) (Int.emod_lt_of_pos _ hn0)
theorem draw_pure {D : Ends} (hn0 : 0 < n) (hn : n < 1073741824) (hl : σ.length = 5) (h0 : σ[0]? = some (some (.ref a))) (h1 : σ[1]? = some (some (.int n))) (J : PJ K γ H0 a c ns H) (hs : ∀ H', PJ K γ H0 a c ns H' → SqL K H' c (ns.map V.int))
    (fin : ∀ H' v, PJ K γ H0 a c ns H' → 0 ≤ v → v < n → D.rt (.int v) H') : rawT K drawIR D σ H := by
  obtain ⟨i, j, k, l, e, hi⟩ := J.at_
  have tl : ∀ σ' H', σ'.length = 5 → σ'[0]? = some (some (.ref a)) → σ'[1]? = some (some (.int n)) → PJ K γ H0 a c ns H' → rawT K tailIR D σ' H' := fun σ' H' q1 q2 q3 q4 => tail_ok hn0 hn q1 q2 q3 q4 fin
  refine ⟨_, h0, .inl ⟨a, _, 2, .int j, rfl, rfl, .of e, rfl, j, 0, rfl, rfl, _, rfl, ?_⟩⟩
  have go : ∀ b : Bool, (b = true → i < ns.length) → (if b = true then rawT K _ { D with nx := rawT K tailIR D } σ H else rawT K .nil { D with nx := rawT K tailIR D } σ H) := fun b hb => by
    cases b with
    | false => exact tl σ H hl h0 h1 J
    | true =>
      have hi2 := hb rfl
      rw [if_pos rfl]
      refine (?_ : rawT K (.cons (.set 2 (.ix (.e (iP 0)) (.e (iP 1)))) (.cons (.setI 0 (.i 1) (.bin .add (.e (iP 1)) (iI 1))) (.cons (.setI 0 (.i 2) (.v 2))
        (.cons (.ife (.cmp .lt (iV 2) (iI 1000000000000000000)) (.cons (.setI 0 (.i 2) (.call 0 (.d (.v 2) .nil))) .nil) .nil) .nil)))) { D with nx := rawT K tailIR D } σ H)
      obtain ⟨m, rfl⟩ : ∃ m : Nat, i = m := ⟨i.toNat, by omega⟩
      have hm : m < ns.length := by omega
      have ha : atI (ns.map V.int) (m : Int) = some (.int ns[m]) := by
        have : ixN (ns.map V.int).length (m : Int) = some m := by
          unfold ixN
          rw [if_pos (by omega), if_pos (by simp; omega)]
          simp
        unfold atI
        rw [this]
        simp [hm]
      refine ⟨_, h0, .inl ⟨a, _, 0, .ref c, rfl, rfl, .of e, rfl, _, h0, .inl ⟨a, _, 1, .int m, rfl, rfl, .of e, rfl, .inl ⟨c, _, (m : Int), .int ns[m], rfl, rfl, hs H J, ha, ?_⟩⟩⟩⟩
      have g0 : (σ.set 2 (some (V.int ns[m])))[0]? = some (some (.ref a)) := (get_set_ne (by decide)).trans h0
      have g1 : (σ.set 2 (some (V.int ns[m])))[1]? = some (some (.int n)) := (get_set_ne (by decide)).trans h1
      have g2 : (σ.set 2 (some (V.int ns[m])))[2]? = some (some (.int ns[m])) := List.getElem?_set_self (by omega)
      have gl : (σ.set 2 (some (V.int ns[m]))).length = 5 := by rw [List.length_set]; exact hl
      refine ⟨_, g0, .inl ⟨a, _, 1, .int m, rfl, rfl, .of e, rfl, (m : Int), 1, rfl, rfl, _, g0, a, _, 1, 1, rfl, rfl, e, rfl, ?_⟩⟩
      have J1 : PJ K γ H0 a c ns (upd H a (.lst (pl5 c (m + 1) j k l))) := J.set (by omega)
      refine ⟨_, g2, _, g0, a, _, 2, 2, rfl, rfl, upd_same, rfl, ?_⟩
      have J2 : PJ K γ H0 a c ns (upd (upd H a (.lst (pl5 c (m + 1) j k l))) a (.lst (pl5 c (m + 1) ns[m] k l))) := J1.set (by omega)
      refine ⟨_, g2, _, _, rfl, rfl, _, rfl, ?_⟩
      by_cases hc : ns[m] < 1000000000000000000
      · rw [show decide (ns[m] < 1000000000000000000) = true from by simpa using hc]
        refine ⟨_, g2, _, rfl, fun w H' g => ?_⟩
        have J3 := J2.grow g
        obtain ⟨i', j', k', l', e', hi'⟩ := J3.at_
        refine ⟨_, g0, a, _, 2, 2, rfl, rfl, e', rfl, ?_⟩
        exact tl _ _ gl g0 g1 (J3.set hi')
      · rw [show decide (ns[m] < 1000000000000000000) = false from by simpa using hc]
        exact tl _ _ gl g0 g1 J2
  by_cases hj : j ≤ 0
  · rw [show decide (j ≤ 0) = true from by simpa using hj]
    refine ⟨_, h0, .inl ⟨a, _, 1, .int i, rfl, rfl, .of e, rfl, _, h0, .inl ⟨a, _, 0, .ref c, rfl, rfl, .of e, rfl, .inl ⟨c, _, rfl, .inl (hs H J), fun hz => ⟨i, _, rfl, rfl, _, rfl, ?_⟩⟩⟩⟩⟩
    exact go _ fun hb => by simpa using hb
  · rw [show decide (j ≤ 0) = false from by simpa using hj]
    exact go false (fun z => nomatch z)
theorem cutV_ints (ns : List Int) (lo hi : Option Int) : ∃ ms : List Int, cutV (ns.map V.int) lo hi = ms.map V.int := by
  unfold cutV
  rw [← List.map_drop, ← List.map_take]
  exact ⟨_, rfl⟩
theorem pool_pure {D : Ends} {s : Addr} (hl : σ.length = 3) (h0 : σ[0]? = some (some (.ref s))) (hs : SqL K H s (ns.map V.int))
    (fin : ∀ (q c p : Addr) (xs : List V) (l : Int), H q = none → (upd H q (.lst xs)) c = none → (upd (upd H q (.lst xs)) c (.lst (ns.map V.int))) p = none → D.rt (.ref p) (upd (upd (upd H q (.lst xs)) c (.lst (ns.map V.int))) p (.lst (pl5 c 0 0 0 l)))) : rawT K poolIR D σ H := by
  have g0 : (σ.set 1 (some (V.int 7)))[0]? = some (some (.ref s)) := (get_set_ne (by decide)).trans h0
  have g1 : (σ.set 1 (some (V.int 7)))[1]? = some (some (.int 7)) := List.getElem?_set_self (by omega)
  refine ⟨_, g0, 63, rfl, s, _, rfl, hs, fun q hq => ⟨q, rfl, ⟨_, .of upd_same⟩, ?_⟩⟩
  obtain ⟨ms, hms⟩ := cutV_ints ns none (some 63)
  rw [hms]
  have rest : ∀ (σ' : St) (l : Int), σ'.length = 3 → σ'[0]? = some (some (.ref s)) → σ'[1]? = some (some (.int l)) →
      rawT K (.cons (.ret (.fr (.lst (.cons (.fr (.list (iV 0))) (.cons (.i 0) (.cons (.i 0) (.cons (.i 0) (.cons (.v 1) .nil)))))))) .nil) D σ' (upd H q (.lst (ms.map V.int))) := fun σ' l e0 e1 e2 => by
    have hs' : SqL K (upd H q (.lst (ms.map V.int))) s (ns.map V.int) := by
      rcases hs with (h | ⟨o, h⟩) | h
      · exact .inl (.inl (by rw [upd_ne (fun z => by rw [z, hq] at h; cases h)]; exact h))
      · exact .inl (.inr ⟨o, by rw [upd_ne (fun z => by rw [z, hq] at h; cases h)]; exact h⟩)
      · exact .inr h
    exact ⟨_, e1, s, _, rfl, hs', fun c hc => ⟨_, e2, small_of (n := 5) (by decide), fun p hp => fin q c p _ l hq hc hp⟩⟩
  refine ⟨fun i m σ' H' => m = ms.length - i ∧ i ≤ ms.length ∧ H' = upd H q (.lst (ms.map V.int)) ∧ σ'.length = 3 ∧ σ'[0]? = some (some (.ref s)) ∧ ∃ l : Int, σ'[1]? = some (some (.int l)), ⟨ms.length, by simp, Nat.zero_le _, rfl, by rw [List.length_set]; exact hl, g0, 7, g1⟩, ?_⟩
  rintro i m σ' H' ⟨rfl, hi, rfl, e0, e1, l, e2⟩
  by_cases hlt : i < ms.length
  · refine .inr ⟨⟨_, .int ms[i], .of upd_same, by simp [hlt]⟩, fun σ'' H'' => H'' = upd H q (.lst (ms.map V.int)) ∧ σ''.length = 3 ∧ σ''[0]? = some (some (.ref s)) ∧ ∃ l : Int, σ''[1]? = some (some (.int l)), fun σ'' H'' z => ⟨ms.length - (i + 1), by omega, rfl, hlt, z⟩, fun x H'' ⟨eH, hx⟩ => ?_⟩
    subst eH
    have hx' := hx _ (.of upd_same)
    rw [List.getElem?_map, List.getElem?_eq_getElem hlt] at hx'
    cases hx'
    have f1 : (σ'.set 2 (some (V.int ms[i])))[1]? = some (some (.int l)) := (get_set_ne (by decide)).trans e2
    have f2 : (σ'.set 2 (some (V.int ms[i])))[2]? = some (some (.int ms[i])) := List.getElem?_set_self (by omega)
    have f0 : (σ'.set 2 (some (V.int ms[i])))[0]? = some (some (.ref s)) := (get_set_ne (by decide)).trans e1
    refine ⟨_, f1, _, _, rfl, rfl, cmul_r (by decide), _, f2, _, _, rfl, rfl, .inl ⟨_, rfl, _, _, rfl, rfl, (show (0 : Int) < 1000003 by decide), ?_⟩⟩
    exact ⟨rfl, by simp; omega, (get_set_ne (by decide)).trans f0, _, List.getElem?_set_self (by simp; omega)⟩
  · have ei : i = ms.length := by omega
    exact .inl ⟨⟨_, .of upd_same, by simp; omega⟩, rest σ' l e0 e1 e2⟩
end
section
variable {P : Program} {w : World} {K : PySem.W.Frag} {mg : Str → Option Value} {base : Heap} {k : Nat} {Γ : Tab} {M : Mg}
theorem draw_ok (md : Md P w K mg base k Γ M) (ι : IntF M Γ) {x qual : Str} {params : Arguments} {body : List Stmt} {scope : Scope} {kws : List (Str × V)} {f : Addr} {fd : FuncData} {N ps : List Str} (F : FunD K x qual params body scope [] kws f fd) (hg : mg x = some (.ref f)) (S : FnScope N ps scope)
    (hN : Γ.N = N) (hsc : Γ.sc = scope) (hss : Γ.ss = scope) (hb : Binds K fd ps []) (hz : ps.length = 2) (hn5 : N.length = 5) (hc : chkT Γ drawIR body = true) : FnAt P w K mg base (k + 1) x F_draw := by
  have hlen : ∀ as Q XX, (F_draw as).run Q XX → as.length = 2 := fun as Q XX h => by
    match as, h with
    | [.pool, .d (.int n)], _ => rfl
  refine ⟨f, fd, ps, hg, F.kp, hb, ?_, fun as Q XX h => by rw [hz]; exact hlen as Q XX h⟩
  refine F.ok S (fun vs H Q E h => h.1) (fun cdv A outer s H vs Q E hr ⟨hl, p, γ, as, st, ha, hm⟩ => ?_)
  have φ := fit_of (E := E) (H := H) (outer := outer) md S hr hN hsc hss
  refine ⟨_, okRT drawIR body φ ι hc, ?_⟩
  match as, ha, hm with
  | [.pool, .d (.int n)], ha, hm =>
    cases ha with
    | cons r1 r =>
      cases r with
      | cons r2 r =>
        cases r
        obtain ⟨a, rfl, hp⟩ := r1
        have e2 := Rep.ofInt r2
        subst e2
        obtain ⟨hn, hn0, hm⟩ := hm
        obtain ⟨ga, c, ns, i, j, kk, l, e1, hq, hi⟩ := st.pool a hp
        have sub : ∀ H', PJ K γ H a c ns H' → Same γ H' := fun H' J b o q => J.keep b o (fun z => by rw [z, ga] at q; cases q) (st.sub b o q)
        refine draw_pure (a := a) (c := c) (ns := ns) (γ := γ) (H0 := H) hn0 hn (by unfold L2.start; simp; omega) rfl rfl ⟨fun _ _ _ q => q, i, j, kk, l, e1, hi⟩ (fun H' J => (sub H' J).seq hq) fun H' v J h0 h1 => ?_
        refine hm v h0 h1 γ H' _ ⟨Same.refl _, fun _ _ q => .inl q, fun b o hb q => J.keep b o (fun z => hb (by rw [z]; exact hp)) q, sub H' J, fun b hb => ?_⟩ .int
        rw [hp] at hb
        cases hb
        obtain ⟨i', j', k', l', e', hi'⟩ := J.at_
        exact ⟨ga, c, ns, i', j', k', l', e', hq, hi'⟩
/-- the pool's maker -/
def spPool (K : PySem.W.Frag) : Sp := fun vs H Q _ => ∃ (s : Addr) (ns : List Int), vs = [.ref s] ∧ SqL K H s (ns.map V.int) ∧ ∀ (q c p : Addr) (xs : List V) (l : Int), H q = none → (upd H q (.lst xs)) c = none → (upd (upd H q (.lst xs)) c (.lst (ns.map V.int))) p = none →
  Q (.ref p) (upd (upd (upd H q (.lst xs)) c (.lst (ns.map V.int))) p (.lst (pl5 c 0 0 0 l)))
theorem pool_ok (md : Md P w K mg base k Γ M) (ι : IntF M Γ) {x qual : Str} {params : Arguments} {body : List Stmt} {scope : Scope} {kws : List (Str × V)} {f : Addr} {fd : FuncData} {N ps : List Str} (F : FunD K x qual params body scope [] kws f fd) (S : FnScope N ps scope)
    (hN : Γ.N = N) (hsc : Γ.sc = scope) (hss : Γ.ss = scope) (hz : ps.length = 1) (hn3 : N.length = 3) (hc : chkT Γ poolIR body = true) : FnOk P w K mg base (L2.CX P w) (k + 1) f fd ps (spPool K) := by
  refine F.ok S (fun vs H Q E ⟨s, ns, e, _⟩ => by rw [e, hz]; rfl) (fun cdv A outer s H vs Q E hr ⟨sa, ns, e, hs, q⟩ => ?_)
  have φ := fit_of (E := E) (H := H) (outer := outer) md S hr hN hsc hss
  subst e
  exact ⟨_, okRT poolIR body φ ι hc, pool_pure (by unfold L2.start; simp; omega) rfl hs q⟩
end
end Ev

/-! Ev23: the law's own def. -/
namespace Ev
open PySem PySem.Spec PyProof.Rows L2
def spLaw (K : PySem.W.Frag) : Sp := fun vs H Q _ => ∃ (a : Addr) (ns : List Int), vs = [.ref a] ∧ SqL K H a (ns.map V.int) ∧ ∀ H', Q (.bl true) H'
def lawQ : Out → Prop
  | .rt d => d = .bool true
  | _ => False
def chkPool (Γ : Tab) (ip : Nat) (st : Stmt) : Bool := onAsg st fun tg v => tgB Γ.N Γ.ss ip tg && onCall v fun x es => (decide (x = "_law_pool") && gloB Γ.sc x) && on1 es fun y => ns y && varB Γ 0 y
section
variable {P : Program} {w : World} {K : PySem.W.Frag} {mg : Str → Option Value} {base : Heap} {k : Nat} {Γ : Tab} {M : Mg}
def PoolFn (P : Program) (w : World) (K : PySem.W.Frag) (mg : Str → Option Value) (base : Heap) (k : Nat) : Prop :=
  ∃ f fd ps, mg "_law_pool" = some (.ref f) ∧ PySem.W.keepIn K (.ref f) = true ∧ Binds K fd ps [] ∧ FnOk P w K mg base (L2.CX P w) k f fd ps (spPool K)
theorem un_rep {σ : St} {n ip : Nat} {s : Sl} {γ H H0 : Hp} {p : Option Addr} {x : V} (hl : σ.length = n) (hs : SlotR K p H0 γ H (some x) s) (no : ∀ xs, s ≠ .own xs) (nod : ∀ xs, s ≠ .dic xs := by intro _ e; cases e) : EnvR K p H0 γ H (σ.set ip (some x)) ((List.replicate n Sl.un).set ip s) := by
  have e0 : EnvR K p H0 γ H σ (List.replicate n Sl.un) := by
    refine ⟨by simp [hl], fun i t q => ?_, fun i j xs ys hij q1 q2 => ?_, fun i j xs ys hij q1 q2 => ?_⟩
    · rw [List.getElem?_replicate] at q
      split at q
      · rename_i hi
        cases q
        exact ⟨σ[i]'(by omega), List.getElem?_eq_getElem (by omega), trivial⟩
      · cases q
    · rw [List.getElem?_replicate] at q1
      split at q1 <;> cases q1
    · rw [List.getElem?_replicate] at q1
      split at q1 <;> cases q1
  exact e0.set hs (fun xs e => absurd e (no xs)) (fun xs e => absurd e (nod xs))
theorem law_ok (md : Md P w K mg base k Γ M) (pf : PoolFn P w K mg base k) {qual : Str} {params : Arguments} {st : Stmt} {rest : List Stmt} {scope : Scope} {kws : List (Str × V)} {f : Addr} {fd : FuncData} {N : List Str} {b : IT} {ip n : Nat} {x : Str} (F : FunD K x qual params (st :: rest) scope [] kws f fd)
    (S : FnScope N ["script"] scope) (hN : Γ.N = N) (hsc : Γ.sc = scope) (hss : Γ.ss = scope) (hn : N.length = n) (h0 : 1 ≤ n) (hip : ip ≠ 0) (hipn : ip < n) (hp : chkPool Γ ip st = true) (hc : chkT Γ b rest = true)
    (hrun : (denT M b ((List.replicate n Sl.un).set ip .pool)).run lawQ (fun _ => False)) : FnOk P w K mg base (L2.CX P w) (k + 1) f fd ["script"] (spLaw K) := by
  refine F.ok S (fun vs H Q E ⟨a, ns, e, _⟩ => by rw [e]; rfl) (fun cdv A outer s H vs Q E hr ⟨a, ns, e, hs, q⟩ => ?_)
  subst e
  have φ := fit_of (E := E) (H := H) (outer := outer) md S hr hN hsc hss
  obtain ⟨tg, v, pos, rfl, hp⟩ := onAsg_ok hp
  obtain ⟨ht, hp⟩ := and2 hp
  obtain ⟨y, pp, es, cp, rfl, hp⟩ := onCall_ok hp
  obtain ⟨h1, hp⟩ := and2 hp
  obtain ⟨h2, h3⟩ := and2 h1
  obtain ⟨z, rfl, hp⟩ := on1_ok hp
  obtain ⟨h4, h5⟩ := and2 hp
  obtain ⟨x0, p0, rfl, v1, v2, v3, v4⟩ := varB_ok φ.toFit h5
  have hx := dec1 h2
  subst hx
  rw [← φ.sc] at h3
  obtain ⟨g1, g2⟩ := gloB_ok h3
  obtain ⟨tx, px, rfl, ht⟩ := onNm_ok ht
  obtain ⟨t1, t2⟩ := and2 ht
  obtain ⟨q1, q2⟩ := φ.sto tx (lokB_ok t2)
  obtain ⟨fP, fdP, psP, r1, r2, r3, r4⟩ := pf
  have hS1 := ps_set (pos := pos) (pos' := px) (nd_ok φ.toFit) (by rw [φ.N]; exact dec1 t1) q1 (pe_callS (p := pp) (pos := cp) (CX := L2.CX P w) (E := WE fun cls d _ H' => E cls d H') r4 hr g1 r1 r2 r3 (fun σ => passAt φ.tk σ) (pa_cons (pe_var (pos := p0) v1 v2 v3 v4) pa_nil rfl) g2 rfl rfl) rfl q2
  have hS2 : PSs (cxOf (L2.CX P w) P w K mg base N qual scope f cdv A outer s H E) rest (fun En σ H1 => ∃ p γ0 H0, Stt K p γ0 H0 ∧ TSs (cxOf (L2.CX P w) P w K mg base N qual scope f cdv A outer s H E) (fun cls d _ H' => E cls d H') p γ0 H0 (denT M b) En σ H1) :=
    ⟨fun pins s1 σ H1 D I ⟨p, γ0, H0, st0, h⟩ => (okT b rest φ st0 hc).run pins s1 σ H1 D I h⟩
  refine ⟨_, pss_cons hS1 hS2, ?_⟩
  have hN0 : 0 < N.length := by omega
  refine ⟨.ref a, by unfold L2.start; simp, a, ns, rfl, hs, fun qa c p xs l n1 n2 n3 => ?_⟩
  have hpc : p ≠ c := fun z => by subst z; rw [upd_same] at n3; cases n3
  have eP : (upd (upd (upd H qa (.lst xs)) c (.lst (ns.map V.int))) p (.lst (pl5 c 0 0 0 l))) p = some (.lst (pl5 c 0 0 0 l)) := upd_same
  have eC : (upd (upd (upd H qa (.lst xs)) c (.lst (ns.map V.int))) p (.lst (pl5 c 0 0 0 l))) c = some (.lst (ns.map V.int)) := by rw [upd_ne (Ne.symm hpc)]; exact upd_same
  have gC : (upd (fun _ => none) c (HO.lst (ns.map V.int)) : Hp) c = some (.lst (ns.map V.int)) := upd_same
  have gP : (upd (fun _ => none) c (HO.lst (ns.map V.int)) : Hp) p = none := by rw [upd_ne hpc]
  have st0 : Stt K (some p) (upd (fun _ => none) c (HO.lst (ns.map V.int))) (upd (upd (upd H qa (.lst xs)) c (.lst (ns.map V.int))) p (.lst (pl5 c 0 0 0 l))) := by
    refine ⟨fun d o hd => ?_, fun d hd => ?_⟩
    · by_cases hdc : d = c
      · subst hdc; rw [gC] at hd; cases hd; exact eC
      · rw [upd_ne hdc] at hd; cases hd
    · cases hd
      exact ⟨gP, c, ns, 0, 0, 0, l, eP, .of gC, Int.le_refl 0⟩
  refine ⟨some p, _, _, st0, _, (List.replicate n Sl.un).set ip .pool, .refl st0, un_rep (by unfold L2.start; simp; omega) ⟨p, rfl, rfl⟩ (fun _ z => by cases z), ?_⟩
  refine (denT M b _).mono (fun o h => ?_) (fun _ z => z.elim) hrun
  cases o with
  | rt d =>
    have hd : d = .bool true := h
    subst hd
    exact fun γ' H' v _ _ r => by rw [r.ofBool]; exact q H'
  | nx _ => exact h.elim
  | bk _ => exact h.elim
  | ct _ => exact h.elim
end
theorem noEsc (P : Program) (w : World) (H : Hp) (s : Shared) (e : Value) (s' : Shared) : L2.CX P w [] H s (fun _ _ _ => False) e s' → False := fun ⟨_, _, _, _, _, _, _, _, _, _, _, _, z⟩ => z
end Ev

/-! Ev24: what a head tells, put together. -/
namespace Ev
open PySem PySem.Spec PyProof.Rows L2
section
variable {P : Program} {w : World} {K : PySem.W.Frag} {mg : Str → Option Value} {base h : Heap} {k : Nat}
def AllN (mg : Str → Option Value) : List Str → Prop
  | [] => True
  | x :: xs => mg x = none ∧ AllN mg xs
theorem AllN.get : ∀ {l : List Str}, AllN mg l → ∀ x ∈ l, mg x = none
  | [], _, x, hx => by cases hx
  | y :: l, ⟨a, b⟩, x, hx => by
    rcases List.mem_cons.mp hx with e | e
    · rw [e]; exact a
    · exact AllN.get b x e
def AllF (P : Program) (w : World) (K : PySem.W.Frag) (mg : Str → Option Value) (base : Heap) (k : Nat) : List Str → (Nat → List Ar → W Exc D) → Prop
  | [], _ => True
  | x :: xs, Φ => FnAt P w K mg base k x (Φ 0) ∧ AllF P w K mg base k xs fun n => Φ (n + 1)
theorem AllF.get : ∀ {l : List Str} {Φ : Nat → List Ar → W Exc D}, AllF P w K mg base k l Φ → ∀ (n : Nat) (x : Str), l[n]? = some x → FnAt P w K mg base k x (Φ n)
  | [], _, _, n, x, h => by simp at h
  | y :: l, _, ⟨a, b⟩, 0, x, h => by simp at h; subst h; exact a
  | y :: l, _, ⟨a, b⟩, n + 1, x, h => AllF.get b n x (by simpa using h)
def CstAt (K : PySem.W.Frag) (mg : Str → Option Value) (x : Str) (d : D) : Prop := ∃ v u, mg x = some u ∧ RelV v u ∧ ∀ γ, Rep K γ v d
def AllC (K : PySem.W.Frag) (mg : Str → Option Value) : List Str → (Nat → D) → Prop
  | [], _ => True
  | x :: xs, C => CstAt K mg x (C 0) ∧ AllC K mg xs fun n => C (n + 1)
theorem AllC.get : ∀ {l : List Str} {C : Nat → D}, AllC K mg l C → ∀ (n : Nat) (x : Str), l[n]? = some x → CstAt K mg x (C n)
  | [], _, _, n, x, h => by simp at h
  | y :: l, _, ⟨a, b⟩, 0, x, h => by simp at h; subst h; exact a
  | y :: l, _, ⟨a, b⟩, n + 1, x, h => AllC.get b n x (by simpa using h)
/-! ### constants, looked at -/
/-- the tables of the module -/
def AllT (K : PySem.W.Frag) (w : World) (mg : Str → Option Value) : List (Str × Tb) → Prop
  | [] => True
  | t :: ts => TblAt K w mg t.1 t.2 ∧ AllT K w mg ts
theorem AllT.get : ∀ {l : List (Str × Tb)} {x : Str} {t : Tb}, AllT K w mg l → (x, t) ∈ l → TblAt K w mg x t
  | [], _, _, _, h => by cases h
  | q :: l, x, t, ⟨a, b⟩, h => by
    rcases List.mem_cons.mp h with e | h
    · rw [← e] at a; exact a
    · exact AllT.get b h
def keysB (K : PySem.W.Frag) (a : Addr) (t : Tb) : Bool := match List.lookup a K with
  | some { cls := _, dict := _, data := Data.dict es _, slots := _ } => es.toList.all fun e => !e.refKey && t.any fun q => e.key.isStr q.1
  | _ => false
def tblB (K : PySem.W.Frag) (x : Str) (t : Tb) : Bool := (He.Fa.glo x).ok K && (keysB K (He.ga K x) t && t.all fun e => entB K (PySem.W.nsIn K (He.ga K x) e.1) e.2)
theorem keysB_ok {K : PySem.W.Frag} {a : Addr} {t : Tb} (c : keysB K a t = true) {z : Str} (h : t.lookup z = none) : PySem.W.nsIn K a z = some none := by
  unfold keysB at c
  unfold PySem.W.nsIn
  split at c
  · rename_i _ _ es ep _ hl
    rw [hl]
    have c := List.all_eq_true.mp c
    have h1 : es.toList.find? (fun x => x.key.isStr z) = none := by
      rw [List.find?_eq_none]
      intro e he hz
      obtain ⟨_, c2⟩ := and2 (c e he)
      obtain ⟨q, hq, hs⟩ := List.any_eq_true.mp c2
      cases hk : e.key with
      | str s tok =>
        rw [hk] at hz hs
        have e1 : s = z := by simpa [Value.isStr] using hz
        have e2 : s = q.1 := by simpa [Value.isStr] using hs
        subst e1
        have := List.lookup_eq_none_iff.mp h q hq
        rw [← e2] at this
        simp at this
      | _ => rw [hk] at hz; cases hz
    have h2 : ¬ (es.toList.any fun x => x.refKey) = true := by
      intro hh
      obtain ⟨e, he, hr⟩ := List.any_eq_true.mp hh
      obtain ⟨c1, _⟩ := and2 (c e he)
      rw [hr] at c1
      cases c1
    simp only [h1]
    rw [if_neg h2]
  · cases c
theorem tblB_ok (X : K.In h) (G : h.Ns mainGlobals mg) {w : World} {x : Str} {t : Tb} (hD : ∃ es n, KDict K w (He.ga K x) es n) (c : tblB K x t = true) : TblAt K w mg x t := by
  obtain ⟨c1, c2⟩ := and2 c
  obtain ⟨c3, c2⟩ := and2 c2
  obtain ⟨es, n, hD⟩ := hD
  refine ⟨_, es, n, He.glo_ok X G c1, hD, fun z => ?_⟩
  unfold tbo
  cases hz : t.lookup z with
  | none => rw [keysB_ok c3 hz]; rfl
  | some o =>
    have hm : (z, o) ∈ t := lookup_mem hz
    exact List.all_eq_true.mp c2 _ hm
def cstB (K : PySem.W.Frag) (x : Str) (d : D) : Bool := match PySem.W.nsIn K mainGlobals x with
  | some (some u) => repB K d u
  | _ => false
theorem cstB_ok (X : K.In h) (G : h.Ns mainGlobals mg) {x : Str} {d : D} (c : cstB K x d = true) : CstAt K mg x d := by
  unfold cstB at c
  cases e : PySem.W.nsIn K mainGlobals x with
  | none => rw [e] at c; cases c
  | some o =>
    cases o with
    | none => rw [e] at c; cases c
    | some u =>
      rw [e] at c
      obtain ⟨v, r1, r2⟩ := repB_ok K d u c
      exact ⟨v, u, PySem.W.mg_of X G e, r1, r2⟩
/-! ### exceptions -/
def excB (K : PySem.W.Frag) (xs : List Str) : Bool := (xs.all fun x => (He.Fa.glo x).ok K && (He.Fa.exc x).ok K) && xs.all fun x => xs.all fun y => (He.Fa.exm x y (decide (x = y))).ok K
theorem excB_exs (X : K.In h) (G : h.Ns mainGlobals mg) {xs : List Str} (c : excB K xs = true) : ∀ x ∈ xs, ∃ C, mg x = some (.ref C) ∧ PySem.W.keepIn K (.ref C) = true ∧ PySem.W.excIn K C He.veBase "ValueError.__new__" = true ∧ PySem.W.subIn K (.ref C) (.type "BaseException") = some true ∧ PySem.W.typeIn K (.ref C) = some (.type "type") := by
  intro x hx
  obtain ⟨c1, _⟩ := and2 c
  obtain ⟨c2, c3⟩ := and2 (List.all_eq_true.mp c1 x hx)
  have c3 : (PySem.W.excIn K (He.ga K x) He.veBase "ValueError.__new__" && (PySem.W.keepIn K (.ref (He.ga K x)) && (decide (PySem.W.subIn K (.ref (He.ga K x)) (.type "BaseException") = some true) && decide (PySem.W.typeIn K (.ref (He.ga K x)) = some (.type "type"))))) = true := c3
  obtain ⟨c4, c5⟩ := and2 c3
  obtain ⟨c6, c7⟩ := and2 c5
  obtain ⟨c8, c9⟩ := and2 c7
  exact ⟨_, He.glo_ok X G c2, c6, c4, dec1 c8, dec1 c9⟩
theorem excB_exm (X : K.In h) (G : h.Ns mainGlobals mg) {xs : List Str} (c : excB K xs = true) : ∀ x ∈ xs, ∀ y ∈ xs, ∀ C Cn, mg x = some (.ref C) → mg y = some (.ref Cn) → PySem.W.exmOne K (.ref C) (.ref Cn) = some (decide (x = y)) := by
  intro x hx y hy C Cn hC hCn
  obtain ⟨c1, c2⟩ := and2 c
  have e1 := He.glo_ok X G (and2 (List.all_eq_true.mp c1 x hx)).1
  have e2 := He.glo_ok X G (and2 (List.all_eq_true.mp c1 y hy)).1
  rw [e1] at hC
  rw [e2] at hCn
  cases hC
  cases hCn
  have c3 : decide (PySem.W.exmOne K (.ref (He.ga K x)) (.ref (He.ga K y)) = some (decide (x = y))) = true := List.all_eq_true.mp (List.all_eq_true.mp c2 x hx) y hy
  exact dec1 c3
theorem md_mk (X : K.In h) (G : h.Ns mainGlobals mg) {Γ : Tab} {M : Mg} (hb : AllN mg Γ.bl) (hc : AllC K mg Γ.cst M.C) (hf : AllF P w K mg base k Γ.fns M.Φ) (ht : AllT K w mg Γ.tbl) (he : Γ.exs = M.exs) (hx : excB K M.exs = true) : Md P w K mg base k Γ M where
  bl := hb.get
  cst := hc.get
  tbl := fun x t h => ht.get h
  fns := hf.get
  exe := he
  exs := excB_exs X G hx
  exm := excB_exm X G hx
/-! ### a def by its datum -/
theorem def_okX (X : K.In h) (G : h.Ns mainGlobals mg) {Γ : Tab} {M : Mg} (md : Md P w K mg base k Γ M) {x nam qual : Str} {params : Arguments} {body : List Stmt} {scope : Scope} {ps N : List Str} {np n : Nat} {b : IT}
    (F : ∃ fd, FunD K nam qual params body scope [] [] (He.ga K x) fd) (hg : (He.Fa.glo x).ok K = true) (S : FnScope N ps scope) (hΓ : Γ.N = N ∧ Γ.sc = scope ∧ Γ.ss = scope)
    (hb : ∀ (kV doc pm : Value) (an : Option Addr) (cdv ct : Value) (us : List Value), us.length = ps.length → bindArgs (PySem.W.fnOf nam qual params body scope .none kV doc pm an cdv ct) ⟨us, []⟩ = pure (ps.zip us))
    (hn : ps.length = np ∧ N.length = n ∧ np ≤ n) (hc : chkT Γ b body = true) : FnAt P w K mg base (k + 1) x (denD M np n b) := by
  obtain ⟨fd, F⟩ := F
  exact def_ok md F (He.glo_ok X G hg) S hΓ.1 hΓ.2.1 hΓ.2.2 (F.bindsN hb) (by omega) hn.1 hn.2.1 hc
/-- .. with defaults, called with all its arguments -/
theorem def_okD (X : K.In h) (G : h.Ns mainGlobals mg) {Γ : Tab} {M : Mg} (md : Md P w K mg base k Γ M) {x nam qual : Str} {params : Arguments} {body : List Stmt} {scope : Scope} {dvs : List V} {ps N : List Str} {np n : Nat} {b : IT}
    (F : ∃ fd, FunD K nam qual params body scope dvs [] (He.ga K x) fd) (hg : (He.Fa.glo x).ok K = true) (S : FnScope N ps scope) (hΓ : Γ.N = N ∧ Γ.sc = scope ∧ Γ.ss = scope) (hd : dvs ≠ [])
    (hb : ∀ (T : Addr) (kV doc pm : Value) (an : Option Addr) (cdv ct : Value) (us its : List Value), us.length = ps.length → its.length = dvs.length → ∃ k, bindArgs (PySem.W.fnOf nam qual params body scope (.ref T) kV doc pm an cdv ct) ⟨us, []⟩ = seqItems? (.ref T) >>= k ∧ k (some its.toArray) = pure (ps.zip us))
    (hn : ps.length = np ∧ N.length = n ∧ np ≤ n) (hc : chkT Γ b body = true) : FnAt P w K mg base (k + 1) x (denD M np n b) := by
  obtain ⟨fd, F⟩ := F
  obtain ⟨ds, rv, hbn⟩ := F.binds1 (ps := ps) ps.length dvs.length hd (by omega) fun T kV doc pm an cdv ct us its h1 h2 => by
    obtain ⟨k, e1, e2⟩ := hb T kV doc pm an cdv ct us its h1 h2
    refine ⟨k, e1, ?_⟩
    rw [← h2, List.drop_length, List.append_nil]
    exact e2
  rw [List.drop_length] at rv
  cases rv
  exact def_ok md F (He.glo_ok X G hg) S hΓ.1 hΓ.2.1 hΓ.2.2 hbn (by omega) hn.1 hn.2.1 hc
theorem draw_okX (X : K.In h) (G : h.Ns mainGlobals mg) {Γ : Tab} {M : Mg} (md : Md P w K mg base k Γ M) (ι : IntF M Γ) {x qual : Str} {params : Arguments} {body : List Stmt} {scope : Scope} {ps N : List Str}
    (F : ∃ fd, FunD K x qual params body scope [] [] (He.ga K x) fd) (hg : (He.Fa.glo x).ok K = true) (S : FnScope N ps scope) (hΓ : Γ.N = N ∧ Γ.sc = scope ∧ Γ.ss = scope)
    (hb : ∀ (kV doc pm : Value) (an : Option Addr) (cdv ct : Value) (us : List Value), us.length = ps.length → bindArgs (PySem.W.fnOf x qual params body scope .none kV doc pm an cdv ct) ⟨us, []⟩ = pure (ps.zip us))
    (hn : ps.length = 2 ∧ N.length = 5) (hc : chkT Γ drawIR body = true) : FnAt P w K mg base (k + 1) x F_draw := by
  obtain ⟨fd, F⟩ := F
  exact draw_ok md ι F (He.glo_ok X G hg) S hΓ.1 hΓ.2.1 hΓ.2.2 (F.bindsN hb) hn.1 hn.2 hc
theorem pool_okX (X : K.In h) (G : h.Ns mainGlobals mg) {Γ : Tab} {M : Mg} (md : Md P w K mg base k Γ M) (ι : IntF M Γ) {qual : Str} {params : Arguments} {body : List Stmt} {scope : Scope} {ps N : List Str}
    (F : ∃ fd, FunD K "_law_pool" qual params body scope [] [] (He.ga K "_law_pool") fd) (hg : (He.Fa.glo "_law_pool").ok K = true) (S : FnScope N ps scope) (hΓ : Γ.N = N ∧ Γ.sc = scope ∧ Γ.ss = scope)
    (hb : ∀ (kV doc pm : Value) (an : Option Addr) (cdv ct : Value) (us : List Value), us.length = ps.length → bindArgs (PySem.W.fnOf "_law_pool" qual params body scope .none kV doc pm an cdv ct) ⟨us, []⟩ = pure (ps.zip us))
    (hn : ps.length = 1 ∧ N.length = 3) (hc : chkT Γ poolIR body = true) : PoolFn P w K mg base (k + 1) := by
  obtain ⟨fd, F⟩ := F
  exact ⟨_, fd, ps, He.glo_ok X G hg, F.kp, F.bindsN hb, pool_ok md ι F S hΓ.1 hΓ.2.1 hΓ.2.2 hn.1 hn.2 hc⟩
/-- a def that is never come to -/
theorem never_okX (X : K.In h) (G : h.Ns mainGlobals mg) {x qual : Str} {params : Arguments} {body : List Stmt} {scope : Scope} {ps : List Str} (F : ∃ fd, FunD K x qual params body scope [] [] (He.ga K x) fd) (hg : (He.Fa.glo x).ok K = true)
    (hb : ∀ (kV doc pm : Value) (an : Option Addr) (cdv ct : Value) (us : List Value), us.length = ps.length → bindArgs (PySem.W.fnOf x qual params body scope .none kV doc pm an cdv ct) ⟨us, []⟩ = pure (ps.zip us)) : FnAt P w K mg base k x noF := by
  obtain ⟨fd, F⟩ := F
  exact ⟨_, fd, ps, He.glo_ok X G hg, F.kp, F.bindsN hb, ⟨fun vs H Q E h => h.1, fun A outer s H args us vs Q E hr e0 hb r ⟨_, _, _, _, _, _, h⟩ => h.elim⟩, fun as Q XX h => h.elim⟩
theorem intF0 {M : Mg} {Γ : Tab} (h : Γ.fns = []) : IntF M Γ := fun n x hx => by rw [h] at hx; simp at hx
theorem intF1 {M : Mg} {Γ : Tab} {x : Str} (h : Γ.fns = [x]) (hF : ∀ (i : Int) (Q : D → Prop) (XX : Exc → Prop), (∀ j : Int, Q (.int j)) → (M.Φ 0 [.d (.int i)]).run Q XX) : IntF M Γ := fun n y hy => by
  rw [h] at hy
  cases n with
  | zero => exact hF
  | succ n => simp at hy
end
end Ev

/-! Ev25: loops over data; the law's end. -/
namespace Ev
open PySem PySem.Spec PyProof.Rows L2
/-! ### the monad's laws -/
theorem W.ext {ε α : Type} {m m' : W ε α} (h : ∀ Q X, m.run Q X ↔ m'.run Q X) : m = m' := by
  cases m with
  | mk r1 m1 =>
    cases m' with
    | mk r2 m2 =>
      have e : r1 = r2 := funext fun Q => funext fun X => propext (h Q X)
      subst e; rfl
theorem ret_bind {ε α β : Type} (a : α) (f : α → W ε β) : (W.ret a).bind f = f a := rfl
theorem bind_assoc' {ε α β γ : Type} (m : W ε α) (f : α → W ε β) (g : β → W ε γ) : (m.bind f).bind g = m.bind fun a => (f a).bind g := rfl
theorem ask_true {ε : Type} {p : Prop} (h : p) : (W.ask p : W ε Unit) = .ret () := W.ext fun Q X => ⟨fun q => q.2, fun q => ⟨h, q⟩⟩
theorem given_true {ε : Type} {p : Prop} (h : p) : (W.given p : W ε Unit) = .ret () := W.ext fun Q X => ⟨fun q => q h, fun q _ => q⟩
theorem lf_ret {α : Type} (ρ : List Sl) (a : α) : lf ρ (W.ret a) = .ret a := rfl
theorem mapErr_ret {ε ε' α : Type} (g : ε → ε') (a : α) : (W.ret a : W ε α).mapErr g = .ret a := rfl
theorem noErr_ret {α : Type} (a : α) : noErr (W.ret a : W Exc α) = .ret a := rfl
theorem seqS_ret {m1 m2 : S} {ρ ρ' : List Sl} (h : m1 ρ = .ret (.nx ρ')) : seqS m1 m2 ρ = m2 ρ' := by unfold seqS; rw [h]; rfl
theorem seqS_rt {m1 m2 : S} {ρ : List Sl} {d : D} (h : m1 ρ = .ret (.rt d)) : seqS m1 m2 ρ = .ret (.rt d) := by unfold seqS; rw [h]; rfl

/-! ### loops -/
def stepQ (I : List Sl → Prop) (Q : Out → Prop) : Out → Prop
  | .nx ρ => I ρ
  | .ct ρ => I ρ
  | .bk ρ => Q (.nx ρ)
  | .rt d => Q (.rt d)
theorem forD_run {t : T} {body : S} {Q : Out → Prop} {XX : XS → Prop} : ∀ {xs : List D} {ρ : List Sl} (I : Nat → List Sl → Prop), I 0 ρ →
    (∀ (i : Nat) (x : D) (ρ : List Sl), xs[i]? = some x → I i ρ → (asgT t x ρ).run (fun ρ1 => (body ρ1).run (stepQ (I (i + 1)) Q) XX) (fun e => XX (e, ρ))) → (∀ ρ, I xs.length ρ → Q (.nx ρ)) → (forD t body xs ρ).run Q XX
  | [], ρ, I, h0, hs, hd => hd ρ h0
  | x :: xs, ρ, I, h0, hs, hd => by
    refine (asgT t x ρ).mono (fun ρ1 h1 => ?_) (fun _ q => q) (hs 0 x ρ rfl h0)
    refine (body ρ1).mono (fun o h2 => ?_) (fun _ q => q) h1
    have hrec : ∀ ρ', I 1 ρ' → (forD t body xs ρ').run Q XX := fun ρ' hI => forD_run (fun i => I (i + 1)) hI (fun i y ρ'' hy hI' => hs (i + 1) y ρ'' (by simpa using hy) hI') (fun ρ'' q => hd ρ'' q)
    cases o with
    | nx ρ' => exact hrec ρ' h2
    | ct ρ' => exact hrec ρ' h2
    | bk ρ' => exact h2
    | rt d => exact h2
/-- a comprehension whose turns are told -/
theorem lcD_ret {body : D → W Exc (Option D)} {f : D → Option D} : ∀ {xs acc : List D}, (∀ x ∈ xs, body x = .ret (f x)) → lcD body xs acc = .ret (acc ++ xs.filterMap f)
  | [], acc, h => by simp [lcD]
  | x :: xs, acc, h => by
    unfold lcD
    rw [h x List.mem_cons_self, ret_bind]
    have ih := fun acc' => lcD_ret (body := body) (f := f) (xs := xs) (acc := acc') fun y hy => h y (List.mem_cons_of_mem _ hy)
    cases e : f x with
    | none => simp only [ih, List.filterMap_cons, e]
    | some y => simp only [ih, List.filterMap_cons, e, List.append_assoc, List.singleton_append]

/-! ### the helper spread -/
def spreadIR : IT := (.cons (.set 1 (.bin .mod (.e (.f1 .int (.e (.v 0)))) (.e (.i 2147483647)))) (.cons (.set 2 (.i 1)) (.cons (.for_ (.nm 3) (.r1 (.i 4)) (.cons (.set 1 (.bin .mod (.e (.f1 .int (.e (.bin .add (.e (.bin .add (.e (.bin .mul (.e (.v 1)) (.e (.i 48271)))) (.e (.i 12345)))) (.e (.v 3)))))) (.e (.i 2147483647)))) (.cons (.set 2 (.bin .add (.e (.bin .mul (.e (.v 2)) (.e (.i 2147483647)))) (.e (.v 1)))) .nil))) (.cons (.ret (.v 2)) .nil))))
theorem spread_any {M : Mg} {i : Int} {Q : D → Prop} {XX : Exc → Prop} (hQ : ∀ j : Int, Q (.int j)) : (denD M 1 4 spreadIR [.d (.int i)]).run Q XX := by
  refine ⟨rfl, ?_⟩
  refine ⟨(by decide : (0 : Int) < 2147483647), ⟨by decide, by decide⟩, ?_⟩
  simp only [W.ret_run]
  refine forD_run (fun _ ρ => ∃ (a b : Int) (s : Sl), ρ = [.val (.int i), .val (.int a), .val (.int b), s]) ⟨i % 2147483647, 1, .un, rfl⟩ ?_ ?_
  · rintro j x ρ hx ⟨a, b, s, rfl⟩
    obtain ⟨k, rfl⟩ : ∃ k : Int, x = .int k := by
      have hx' := List.mem_of_getElem? hx
      simp only [upto, List.mem_map] at hx'
      obtain ⟨q, _, e⟩ := hx'
      exact ⟨_, e.symm⟩
    refine ⟨cmul_r (by decide), (by decide : (0 : Int) < 2147483647), cmul_r (by decide), ?_⟩
    exact ⟨_, _, _, rfl⟩
  · rintro ρ ⟨a, b, s, rfl⟩
    exact hQ b

/-! ### the law's end -/
theorem excB_sub {K : PySem.W.Frag} {xs ys : List Str} (h : excB K xs = true) (hs : (ys.all fun y => decide (y ∈ xs)) = true) : excB K ys = true := by
  obtain ⟨h1, h2⟩ := and2 h
  have m : ∀ y ∈ ys, y ∈ xs := fun y hy => by have := List.all_eq_true.mp hs y hy; simpa using this
  unfold excB
  rw [Bool.and_eq_true]
  exact ⟨List.all_eq_true.mpr fun y hy => List.all_eq_true.mp h1 y (m y hy), List.all_eq_true.mpr fun y hy => List.all_eq_true.mpr fun z hz => List.all_eq_true.mp (List.all_eq_true.mp h2 y (m y hy)) z (m z hz)⟩
section
variable {P : Program} {w : World} {K : PySem.W.Frag} {mg : Str → Option Value} {base h : Heap} {k j : Nat}
theorem poolUp (p : PoolFn P w K mg base j) (e : j ≤ k) : PoolFn P w K mg base k := by
  obtain ⟨f, fd, ps, h1, h2, h3, h4⟩ := p
  exact ⟨f, fd, ps, h1, h2, h3, h4.mono e⟩
theorem law_okX {Γ : Tab} {M : Mg} (md : Md P w K mg base k Γ M) (pf : PoolFn P w K mg base k) {qual : Str} {params : Arguments} {body : List Stmt} {scope : Scope} {kws : List (Str × V)} {f : Addr} {fd : FuncData} {N : List Str} {b : IT} {ip n : Nat} {x : Str} (F : FunD K x qual params body scope [] kws f fd)
    (S : FnScope N ["script"] scope) (hΓ : Γ.N = N ∧ Γ.sc = scope ∧ Γ.ss = scope) (hn : N.length = n ∧ 1 ≤ n ∧ ip ≠ 0 ∧ ip < n) (h0 : onC body (fun st _ => chkPool Γ ip st) = true) (hc : chkT Γ b (body.drop 1) = true)
    (hrun : (denT M b ((List.replicate n Sl.un).set ip .pool)).run lawQ (fun _ => False)) : FnOk P w K mg base (L2.CX P w) (k + 1) f fd ["script"] (spLaw K) := by
  obtain ⟨st, rest, rfl, h0⟩ := onC_ok h0
  exact law_ok md pf F S hΓ.1 hΓ.2.1 hΓ.2.2 hn.1 hn.2.1 hn.2.2.1 hn.2.2.2 h0 hc hrun
end
theorem walk_ev {l : PySem.W.OpenLaw} {k : Nat} {q : Program} {loose : List Str} {XP : (Str → Option Value) → Heap → Prop} {YP : World → Heap → Prop} {d : DefRec} (hn : l.most = some 63) (hdf : d.params.defaults = []) (hr : Room k callerA)
    (F : ∀ (w : World) (mg : Str → Option Value) (fa : Addr) (h : Heap), YP w h → h.Ns mainGlobals mg → mg d.name = some (.ref fa) → ∃ (K : PySem.W.Frag) (fd : FuncData), K.In h ∧ (∀ (s : Shared) (u : Value), BindsTo s fd ⟨[u], []⟩ [("script", u)]) ∧
      ∀ base : Heap, K.In base → base.Ns mainGlobals mg → FnOk l.prog w K mg base (L2.CX l.prog w) k fa fd ["script"] (spLaw K)) :
    PySem.W.WalkO q loose XP YP l.row.toRowW d [] (fun f vs => PySem.call f vs) := by
  refine Att.attach_call hn hdf fun w s0 s1 mg mb fa o pm cd doc a vs ns G Y e1 e2 e3 e4 e5 e6 e7 e8 => ?_
  obtain ⟨K, fd, KX, hb, hF⟩ := F w mg fa _ Y G.T.g e4
  exact law_call KX G.T.g G.T.b G.T.builtins G.T.nolimit e8 e5 e6 (Nat.le_trans e7 (by decide)) hr hF hb (fun H _ hS => ⟨a, ns, rfl, hS, fun _ => rfl⟩) fun H e s' z => noEsc _ w H s1 e s' z
end Ev

/-! Ev26: a def that calls what a table of the module holds. -/
namespace Ev
open PySem PySem.Spec PyProof.Rows L2
def F_disp (tbl : List (Str × (List Ar → W Exc D))) : List Ar → W Exc D
  | .d (.str z) :: as => (W.ask (as.length = 3)).bind fun _ => optW (tbl.lookup z) fun F => F as
  | _ => .stuck
section
variable {X : Cx} {fe e : Expr} {es : List Expr} {pos : Pos} {tf : TE} {t : TA} {Wx : WX}
def tCallV (X : Cx) (Wx : WX) (tf : TE) (t : TA) : TE := fun σ H Q => tf σ H fun x H1 => ∃ f k fd ps sp, x = V.ref f ∧ FnOk X.prog X.w X.K X.mg X.base (L2.CX X.prog X.w) k f fd ps sp ∧ Room k X.A ∧ PySem.W.keepIn X.K (.ref f) = true ∧ Binds X.K fd ps [] ∧ t σ H1 fun vs H2 => sp vs H2 Q (WE Wx σ)
theorem pe_callV (tk : Takes X Wx) (arm : eval (.Call fe (e :: es) [] pos) X.env = (do callWith pos (← eval fe X.env) [] (backTo pos (starEach (e :: es) X.env)) (backToKw pos (keywordEach [] X.env)))) (hf : PE X fe tf) (ha : PA X (e :: es) t)
    (he : starEach (e :: es) X.env = (false, eval e X.env) :: starEach es X.env) (hpl : (backTo pos (starEach es X.env)).any (·.1) = false) : PE X (.Call fe (e :: es) [] pos) (tCallV X Wx tf t) := by
  refine ⟨fun pins s σ H Q I h => ?_⟩
  rw [arm]
  refine wpAny_bind (thn (hf.run pins s σ H _ I h) fun v s1 hh => ?_)
  obtain ⟨x, H1, I1, r1, f, k, fd, ps, sp, e1, F, hr, hk, hb, q⟩ := hh
  subst e1
  obtain rfl : v = Value.ref f := r1
  refine PySem.W.callWith_K (h₀ := X.base) I1.ok.mod.kin hk (thn (ha.run pos pins s1 σ H1 _ I1 q) fun us s2 ⟨vs, H2, I2, r, q2⟩ => ⟨I2.kIn, ?_⟩) he hpl
  exact run_fnS F hr hb (passAt tk σ) I2 r q2
end
/-- return T[x0](x1, x2, x3) -/
def chkDisp (Γ : Tab) (T : Str) (ss : List Stmt) : Bool := on1S ss fun st => onRet st fun o => onO o fun v => onCallS v fun a b es => (onNm a fun x => decide (x = T) && gloB Γ.sc x) && (varB Γ 0 b && on3 es fun x y z => varB Γ 1 x && (varB Γ 2 y && varB Γ 3 z))
where
  on1S (ss : List Stmt) (k : Stmt → Bool) : Bool := match ss with
    | [s] => k s
    | _ => false
  onCallS (e : Expr) (k : Expr → Expr → List Expr → Bool) : Bool := match e with
    | .Call (.Subscript a b _) es [] _ => k a b es
    | _ => false
  on3 (es : List Expr) (k : Expr → Expr → Expr → Bool) : Bool := match es with
    | [a, b, c] => k a b c
    | _ => false
theorem on1S_ok {ss : List Stmt} {k : Stmt → Bool} (h : chkDisp.on1S ss k = true) : ∃ s, ss = [s] ∧ k s = true := by
  unfold chkDisp.on1S at h
  split at h
  · exact ⟨_, rfl, h⟩
  · cases h
theorem onCallS_ok {e : Expr} {k : Expr → Expr → List Expr → Bool} (h : chkDisp.onCallS e k = true) : ∃ a b p es p', e = .Call (.Subscript a b p) es [] p' ∧ k a b es = true := by
  unfold chkDisp.onCallS at h
  split at h
  · exact ⟨_, _, _, _, _, rfl, h⟩
  · cases h
theorem on3_ok {es : List Expr} {k : Expr → Expr → Expr → Bool} (h : chkDisp.on3 es k = true) : ∃ a b c, es = [a, b, c] ∧ k a b c = true := by
  unfold chkDisp.on3 at h
  split at h
  · exact ⟨_, _, _, rfl, h⟩
  · cases h
section
variable {P : Program} {w : World} {K : PySem.W.Frag} {mg : Str → Option Value} {base h : Heap} {k : Nat} {Γ : Tab} {M : Mg}
/-- an entry of the table -/
def EntAt (P : Program) (w : World) (K : PySem.W.Frag) (mg : Str → Option Value) (base : Heap) (k : Nat) (d : Addr) (z nm : Str) (F : List Ar → W Exc D) : Prop := FnAt P w K mg base k nm F ∧ ∃ f, mg nm = some (.ref f) ∧ KDct K w d z (.ref f)
def AllE (P : Program) (w : World) (K : PySem.W.Frag) (mg : Str → Option Value) (base : Heap) (k : Nat) (d : Addr) : List (Str × Str × (List Ar → W Exc D)) → Prop
  | [] => True
  | t :: ts => EntAt P w K mg base k d t.1 t.2.1 t.2.2 ∧ AllE P w K mg base k d ts
theorem AllE.get {d : Addr} : ∀ {ts : List (Str × Str × (List Ar → W Exc D))} {z : Str} {F : List Ar → W Exc D}, AllE P w K mg base k d ts → (ts.map fun t => (t.1, t.2.2)).lookup z = some F → ∃ nm, EntAt P w K mg base k d z nm F
  | [], z, F, _, h => by simp at h
  | t :: ts, z, F, ⟨a, b⟩, h => by
    cases e : z == t.1 with
    | true =>
      simp only [List.map_cons, List.lookup_cons, e] at h
      cases h
      have e' : z = t.1 := by simpa using e
      exact ⟨t.2.1, by rw [e']; exact a⟩
    | false =>
      simp only [List.map_cons, List.lookup_cons, e] at h
      exact AllE.get b h
theorem disp_okX (X : K.In h) (G : h.Ns mainGlobals mg) (md : Md P w K mg base k Γ M) {T x qual : Str} {params : Arguments} {body : List Stmt} {scope : Scope} {ps N : List Str} {d : Addr} {ts : List (Str × Str × (List Ar → W Exc D))}
    (F : ∃ fd, FunD K x qual params body scope [] [] (He.ga K x) fd) (hg : (He.Fa.glo x).ok K = true) (S : FnScope N ps scope) (hΓ : Γ.N = N ∧ Γ.sc = scope ∧ Γ.ss = scope)
    (hb : ∀ (kV doc pm : Value) (an : Option Addr) (cdv ct : Value) (us : List Value), us.length = ps.length → bindArgs (PySem.W.fnOf x qual params body scope .none kV doc pm an cdv ct) ⟨us, []⟩ = pure (ps.zip us))
    (hn : ps.length = 4 ∧ N.length = 4) (hT : mg T = some (.ref d)) (ht : AllE P w K mg base k d ts) (hc : chkDisp Γ T body = true) : FnAt P w K mg base (k + 1) x (F_disp (ts.map fun t => (t.1, t.2.2))) := by
  obtain ⟨fd, F⟩ := F
  have hlen : ∀ as Q XX, (F_disp (ts.map fun t => (t.1, t.2.2)) as).run Q XX → as.length = 4 := fun as Q XX h => by
    match as, h with
    | .d (.str z) :: as, h => simp [h.1]
  refine ⟨_, fd, ps, He.glo_ok X G hg, F.kp, F.bindsN hb, ?_, fun as Q XX h => by rw [hn.1]; exact hlen as Q XX h⟩
  refine F.ok S (fun vs H Q E h => h.1) (fun cdv A outer s H vs Q E hr ⟨hl, p, γ, as, st, ha, hm⟩ => ?_)
  have φ := fit_of (E := E) (H := H) (outer := outer) md S hr hΓ.1 hΓ.2.1 hΓ.2.2
  obtain ⟨sst, rfl, hc⟩ := on1S_ok hc
  obtain ⟨o, rp, rfl, hc⟩ := onRet_ok hc
  obtain ⟨v, rfl, hc⟩ := onO_ok hc
  obtain ⟨a, b, p1, es, p2, rfl, hc⟩ := onCallS_ok hc
  obtain ⟨h1, hc⟩ := and2 hc
  obtain ⟨h2, h3⟩ := and2 hc
  obtain ⟨nx, np, rfl, h1⟩ := onNm_ok h1
  obtain ⟨h4, h5⟩ := and2 h1
  have hx := dec1 h4
  subst hx
  rw [← φ.sc] at h5
  obtain ⟨g1, g2⟩ := gloB_ok h5
  obtain ⟨e1, e2, e3, rfl, h3⟩ := on3_ok h3
  obtain ⟨h6, h7⟩ := and2 h3
  obtain ⟨h7, h8⟩ := and2 h7
  obtain ⟨x0, q0, rfl, a1, a2, a3, a4⟩ := varB_ok φ.toFit h2
  obtain ⟨x1, q1, rfl, b1, b2, b3, b4⟩ := varB_ok φ.toFit h6
  obtain ⟨x2, q2, rfl, c1, c2, c3, c4⟩ := varB_ok φ.toFit h7
  obtain ⟨x3, q3, rfl, d1, d2, d3, d4⟩ := varB_ok φ.toFit h8
  refine ⟨_, pss_one (ps_ret (pe_callV φ.tk rfl (pe_ix ix_kdict (pe_glob (v := .ref d) g1 hT rfl g2) (pe_var a1 a2 a3 a4) (plainIx_of fun _ _ _ _ z => by cases z)) (pa_cons (pe_var b1 b2 b3 b4) (pa_cons (pe_var c1 c2 c3 c4) (pa_cons (pe_var d1 d2 d3 d4) pa_nil rfl) rfl) rfl) rfl rfl)), ?_⟩
  match as, ha, hm with
  | .d (.str z) :: [r1, r2, r3], ha, hm =>
    cases ha with
    | cons s0 ha =>
      cases ha with
      | cons s1 ha =>
        cases ha with
        | cons s2 ha =>
          cases ha with
          | cons s3 ha =>
            cases ha
            rename_i v0 v1 v2 v3
            have ev := Rep.ofStr s0
            subst ev
            obtain ⟨_, hm⟩ := hm
            obtain ⟨F0, hlk, hm⟩ := optW_run hm
            obtain ⟨nm, ⟨f, fd', ps', f1, f2, f3, f4, f5⟩, f', g1', kd⟩ := ht.get hlk
            rw [f1] at g1'
            cases g1'
            refine ⟨_, rfl, d, z, .ref f, rfl, rfl, kd, f, k, fd', ps', _, rfl, f4, hr, f2, f3, _, rfl, _, rfl, _, rfl, ?_⟩
            exact ⟨(f5 _ _ _ hm).symm ▸ rfl, p, γ, [r1, r2, r3], st, .cons s1 (.cons s2 (.cons s3 .nil)), hm⟩
end
end Ev

/-! Ev27: the plain form unfolded, by simp. -/
namespace Ev
open PySem PySem.Spec PyProof.Rows L2
section
variable {M : Mg} {ρ : List Sl}
@[simp] theorem dE_v {i : Nat} : denE M (.v i) ρ = getV ρ i := rfl
@[simp] theorem dE_none : denE M .none ρ = .ret .none := rfl
@[simp] theorem dE_b {k : Bool} : denE M (.b k) ρ = .ret (.bool k) := rfl
@[simp] theorem dE_i {n : Int} : denE M (.i n) ρ = .ret (.int n) := rfl
@[simp] theorem dE_s {z : Str} : denE M (.s z) ρ = .ret (.str z) := rfl
@[simp] theorem dE_g {j : Nat} : denE M (.g j) ρ = .ret (M.C j) := rfl
@[simp] theorem dE_tup {l : IL} : denE M (.tup l) ρ = (denL M l ρ).bind fun ds => (W.ask (ds.length ≤ sizeLine)).bind fun _ => .ret (.tuple ds) := rfl
@[simp] theorem dE_ix {a b : IO} : denE M (.ix a b) ρ = (denO M a ρ).bind fun d => (denO M b ρ).bind fun e => ixD d e := rfl
@[simp] theorem dE_sl {a : IO} {lo hi : IP} : denE M (.sl a lo hi) ρ = (denO M a ρ).bind fun d => (denP M lo ρ).bind fun l => (denP M hi ρ).bind fun h => slD d l h := rfl
@[simp] theorem dE_bin {o : AO} {a b : IO} : denE M (.bin o a b) ρ = (denO M a ρ).bind fun d => (denO M b ρ).bind fun e => o.op d e := rfl
@[simp] theorem dE_cmp {o : CO} {a b : IO} : denE M (.cmp o a b) ρ = (denO M a ρ).bind fun d => (denO M b ρ).bind fun e => (o.op d e).bind fun b => .ret (.bool b) := rfl
@[simp] theorem dE_not {a : IO} : denE M (.not a) ρ = (denO M a ρ).bind fun d => (truthD d).bind fun k => .ret (.bool (!k)) := rfl
@[simp] theorem dE_and {x : IB} : denE M (.and x) ρ = denB M true x ρ := rfl
@[simp] theorem dE_or {x : IB} : denE M (.or x) ρ = denB M false x ρ := rfl
@[simp] theorem dE_ife {c : IC} {a b : IE} : denE M (.ife c a b) ρ = (denC M c ρ).bind fun k => if k then denE M a ρ else denE M b ρ := rfl
@[simp] theorem dE_neg {a : IE} : denE M (.neg a) ρ = (denE M a ρ).bind negD := rfl
@[simp] theorem dE_f1 {f : BI} {a : IO} : denE M (.f1 f a) ρ = (denO M a ρ).bind f.op := rfl
@[simp] theorem dE_f2 {f : B2} {a b : IO} : denE M (.f2 f a b) ρ = (denO M a ρ).bind fun d => (denO M b ρ).bind fun e => f.op d e := rfl
@[simp] theorem dE_isi {t : Ty} {a : IO} : denE M (.isi t a) ρ = (denO M a ρ).bind fun d => .ret (.bool (isiB (tyName d) t.s)) := rfl
@[simp] theorem dE_call {n : Nat} {a : IA} : denE M (.call n a) ρ = (denA M a ρ).bind (M.Φ n) := rfl
@[simp] theorem dE_fr {f : IF} : denE M (.fr f) ρ = (denF M f ρ).bind fun xs => .ret (.list xs) := rfl
@[simp] theorem dE_idx {a b : IO} : denE M (.idx a b) ρ = (denO M a ρ).bind fun d => (seqOnly d).bind fun _ => (denO M b ρ).bind fun e => indexD d e := rfl
@[simp] theorem dE_cnt {a b : IO} : denE M (.cnt a b) ρ = (denO M a ρ).bind fun d => (lstOnly d).bind fun ds => (denO M b ρ).bind fun e => cntD ds e := rfl
@[simp] theorem dE_rvt {a : IO} : denE M (.rvt a) ρ = (denO M a ρ).bind rvtD := rfl
@[simp] theorem dE_dct {ks : List Str} {l : IL} : denE M (.dct ks l) ρ = (denL M l ρ).bind fun ds => (W.ask (ks.length = ds.length)).bind fun _ => .ret (.dict (dkv ks ds)) := rfl
@[simp] theorem dE_dsub {ks : List Str} {l : IL} {k : IE} : denE M (.dsub ks l k) ρ = (denL M l ρ).bind fun ds => (denE M k ρ).bind fun d => dsubD ks ds d := rfl
@[simp] theorem dE_kix {x : Str} {t : Tb} {a : IO} : denE M (.kix x t a) ρ = (denO M a ρ).bind (kixD t) := rfl
@[simp] theorem dE_dget {i : Nat} {k : IE} : denE M (.dget i k) ρ = (getDc ρ i).bind fun kvs => (denE M k ρ).bind (lookD kvs) := rfl
@[simp] theorem dE_dget2 {i : Nat} {k z : IE} : denE M (.dget2 i k z) ρ = (getDc ρ i).bind fun kvs => (denE M k ρ).bind fun d => (denE M z ρ).bind fun f => lookD2 kvs d f := rfl
@[simp] theorem dS_newD {i : Nat} : denS M (.newD i) ρ = .ret (.nx (ρ.set i (.dic []))) := rfl
@[simp] theorem dS_putD {i : Nat} {j e : IE} : denS M (.putD i j e) ρ = putW i (denE M j) (denE M e) ρ := rfl
@[simp] theorem putW_run {i : Nat} {mk me : List Sl → W Exc D} {Q : Out → Prop} {XX : XS → Prop} : (putW i mk me ρ).run Q XX = (me ρ).run (fun v => (dicW ρ i).run (fun kvs => (mk ρ).run (fun d => (optW (keyD d) W.ret : W Exc Key).run (fun k => kvs.length < sizeLine ∧ Q (.nx (ρ.set i (.dic (putKD kvs k v))))) fun x => XX (x, ρ)) fun x => XX (x, ρ)) XX) fun x => XX (x, ρ) := rfl
@[simp] theorem optK_i {α : Type} {k : Int} {f : Key → W Exc α} : optW (keyD (.int k)) f = f (.inl k) := rfl
@[simp] theorem optK_s {α : Type} {k : Str} {f : Key → W Exc α} : optW (keyD (.str k)) f = f (.inr k) := rfl
theorem look_i {kvs : List (Key × D)} {k : Int} {d : D} {Q : D → Prop} {X : Exc → Prop} (h : getKD kvs (.inl k) = some d) (q : Q d) : (lookD kvs (.int k)).run Q X := by
  show (optW (getKD kvs (.inl k)) W.ret : W Exc D).run Q X
  rw [h]; exact q
theorem look2_i {kvs : List (Key × D)} {k : Int} {z : D} {Q : D → Prop} {X : Exc → Prop} (q : Q ((getKD kvs (.inl k)).getD z)) : (lookD2 kvs (.int k) z).run Q X := q
theorem getKD_map {α : Type} (f : α → Key) (g : α → D) (hf : ∀ a b, f a = f b → a = b) {l : List α} {a : α} (h : a ∈ l) : getKD (l.map fun x => (f x, g x)) (f a) = some (g a) := by
  induction l with
  | nil => cases h
  | cons x l ih =>
    by_cases e : f x = f a
    · have := hf _ _ e
      subst this
      simp [getKD, List.find?_cons]
    · have hx : a ∈ l := by
        rcases List.mem_cons.mp h with rfl | h
        · exact absurd rfl e
        · exact h
      have := ih hx
      simp only [getKD, List.map_cons, List.find?_cons, e, decide_false] at this ⊢
      exact this
theorem getKD_no {α : Type} (f : α → Key) (g : α → D) {l : List α} {k : Key} (h : ∀ a ∈ l, f a ≠ k) : getKD (l.map fun x => (f x, g x)) k = none := by
  induction l with
  | nil => rfl
  | cons x l ih =>
    have := ih fun a ha => h a (List.mem_cons_of_mem _ ha)
    simp only [getKD, List.map_cons, List.find?_cons, h x List.mem_cons_self, decide_false] at this ⊢
    exact this
theorem putKD_new {α : Type} (f : α → Key) (g : α → D) {l : List α} {k : Key} {d : D} (h : ∀ a ∈ l, f a ≠ k) : putKD (l.map fun x => (f x, g x)) k d = (l.map fun x => (f x, g x)) ++ [(k, d)] := by
  unfold putKD
  rw [if_neg]
  intro hc
  obtain ⟨z, hz, e⟩ := List.any_eq_true.mp hc
  obtain ⟨a, ha, rfl⟩ := List.mem_map.mp hz
  exact h a ha (by simpa using e)
@[simp] theorem dC_kin {neg : Bool} {x : Str} {t : Tb} {a : IO} : denC M (.kin neg x t a) ρ = (denO M a ρ).bind (kinD neg t) := rfl
@[simp] theorem dO_e {e : IE} : denO M (.e e) ρ = denE M e ρ := rfl
@[simp] theorem dO_own {i : Nat} : denO M (.own i) ρ = getO ρ i := rfl
@[simp] theorem dF_lst {l : IL} : denF M (.lst l) ρ = (denL M l ρ).bind fun ds => (W.ask (ds.length ≤ sizeLine)).bind fun _ => .ret ds := rfl
@[simp] theorem dF_rep {a b : IO} : denF M (.rep a b) ρ = (denO M a ρ).bind fun d => (denO M b ρ).bind fun e => repF d e := rfl
@[simp] theorem dF_cat {a b : IO} : denF M (.cat a b) ρ = (denO M a ρ).bind fun d => (denO M b ρ).bind fun e => catF d e := rfl
@[simp] theorem dF_list {a : IO} : denF M (.list a) ρ = (denO M a ρ).bind listF := rfl
@[simp] theorem dF_srtS {a : IO} : denF M (.srtS a) ρ = (denO M a ρ).bind srtSetD := rfl
@[simp] theorem dF_srtL {a : IO} : denF M (.srtL a) ρ = (denO M a ρ).bind srtD := rfl
@[simp] theorem dF_rg1 {e : IE} : denF M (.rg1 e) ρ = (denE M e ρ).bind rgL1 := rfl
@[simp] theorem dF_rg2 {a b : IE} : denF M (.rg2 a b) ρ = (denE M a ρ).bind fun d => (denE M b ρ).bind fun f => rgL2 d f := rfl
@[simp] theorem dF_lc {vs : List Nat} {t : T} {i : II} {c : IQ} {e : IE} : denF M (.lc vs t i c e) ρ = (denI M i ρ).bind fun xs => (W.ask (xs.length ≤ sizeLine)).bind fun _ => lcD (turnB t (denQ M c) (denE M e) (wipeR ρ vs)) xs [] := rfl
@[simp] theorem dC_tru {a : IO} : denC M (.tru a) ρ = (denO M a ρ).bind truthD := rfl
@[simp] theorem dC_cmp {o : CO} {a b : IO} : denC M (.cmp o a b) ρ = (denO M a ρ).bind fun d => (denO M b ρ).bind fun e => o.op d e := rfl
@[simp] theorem dC_not {c : IC} : denC M (.not c) ρ = (denC M c ρ).bind fun k => .ret (!k) := rfl
@[simp] theorem dC_and {x : IK} : denC M (.and x) ρ = denK M true x ρ := rfl
@[simp] theorem dC_or {x : IK} : denC M (.or x) ρ = denK M false x ρ := rfl
@[simp] theorem dQ_no : denQ M .no ρ = .ret true := rfl
@[simp] theorem dQ_one {c : IC} : denQ M (.one c) ρ = denC M c ρ := rfl
@[simp] theorem dK_one {o : Bool} {c : IC} : denK M o (.one c) ρ = denC M c ρ := rfl
@[simp] theorem dK_more {o : Bool} {c : IC} {x : IK} : denK M o (.more c x) ρ = (denC M c ρ).bind fun k => if k = o then denK M o x ρ else .ret k := rfl
@[simp] theorem dB_one {o : Bool} {e : IE} : denB M o (.one e) ρ = denE M e ρ := rfl
@[simp] theorem dB_more {o : Bool} {e : IE} {x : IB} : denB M o (.more e x) ρ = (denE M e ρ).bind fun d => (truthD d).bind fun k => if k = o then denB M o x ρ else .ret d := rfl
@[simp] theorem dI_seq {e : IE} : denI M (.seq e) ρ = (denE M e ρ).bind iterD := rfl
@[simp] theorem dI_r1 {e : IE} : denI M (.r1 e) ρ = (denE M e ρ).bind rng1D := rfl
@[simp] theorem dI_r2 {a b : IE} : denI M (.r2 a b) ρ = (denE M a ρ).bind fun d => (denE M b ρ).bind fun f => rng2D d f := rfl
@[simp] theorem dP_no : denP M .no ρ = .ret .none := rfl
@[simp] theorem dP_one {e : IE} : denP M (.one e) ρ = (denE M e ρ).bind intW := rfl
@[simp] theorem dL_nil : denL M .nil ρ = .ret [] := rfl
@[simp] theorem dL_cons {e : IE} {l : IL} : denL M (.cons e l) ρ = (denE M e ρ).bind fun d => (denL M l ρ).bind fun ds => .ret (d :: ds) := rfl
@[simp] theorem dA_nil : denA M .nil ρ = .ret [] := rfl
@[simp] theorem dA_d {e : IE} {l : IA} : denA M (.d e l) ρ = (denE M e ρ).bind fun d => (denA M l ρ).bind fun ds => .ret (.d d :: ds) := rfl
@[simp] theorem dA_pool {i : Nat} {l : IA} : denA M (.pool i l) ρ = (getP ρ i).bind fun _ => (denA M l ρ).bind fun ds => .ret (.pool :: ds) := rfl
@[simp] theorem dT_nil : denT M .nil ρ = .ret (.nx ρ) := rfl
@[simp] theorem dT_cons {s : IS} {t : IT} : denT M (.cons s t) ρ = seqS (denS M s) (denT M t) ρ := rfl
@[simp] theorem dS_ret {e : IE} : denS M (.ret e) ρ = (lf ρ (denE M e ρ)).bind fun d => .ret (.rt d) := rfl
@[simp] theorem dS_set {i : Nat} {e : IE} : denS M (.set i e) ρ = (lf ρ (denE M e ρ)).bind fun d => .ret (.nx (ρ.set i (.val d))) := rfl
@[simp] theorem dS_setF {i : Nat} {e : IF} : denS M (.setF i e) ρ = (lf ρ (denF M e ρ)).bind fun d => .ret (.nx (ρ.set i (.own d))) := rfl
@[simp] theorem dS_setL {i : Nat} {e : IF} : denS M (.setL i e) ρ = (lf ρ (denF M e ρ)).bind fun d => .ret (.nx (ρ.set i (.val (.list d)))) := rfl
@[simp] theorem dS_asg {t : T} {e : IE} : denS M (.asg t e) ρ = (lf ρ (denE M e ρ)).bind fun d => (lf ρ (asgT t d ρ)).bind fun ρ' => .ret (.nx ρ') := rfl
@[simp] theorem dS_par {is : List Nat} {l : IV} : denS M (.par is l) ρ = (lf ρ (denV M l ρ)).bind fun ss => (W.ask (ss.length = is.length)).bind fun _ => .ret (.nx (setS is ss ρ)) := rfl
@[simp] theorem dS_ife {c : IC} {a b : IT} : denS M (.ife c a b) ρ = (lf ρ (denC M c ρ)).bind fun k => if k then denT M a ρ else denT M b ρ := rfl
@[simp] theorem dS_for {t : T} {i : II} {b : IT} : denS M (.for_ t i b) ρ = (lf ρ (denI M i ρ)).bind fun xs => forD t (denT M b) xs ρ := rfl
@[simp] theorem dS_frz {i : Nat} {s : IS} : denS M (.frz i s) ρ = denS M s (frzR ρ i) := rfl
@[simp] theorem dS_swp {i : Nat} {l : IL} {j k : IE} : denS M (.swp i l j k) ρ = (lf ρ (denL M l ρ)).bind (swpK i (denE M j) (denE M k) ρ) := rfl
@[simp] theorem dS_app {i : Nat} {e : IE} : denS M (.app i e) ρ = appW i (denE M e) ρ := rfl
@[simp] theorem dV_nil : denV M .nil ρ = .ret [] := rfl
@[simp] theorem dV_e {e : IE} {r : IV} : denV M (.e e r) ρ = (denE M e ρ).bind fun d => (denV M r ρ).bind fun ss => .ret (.val d :: ss) := rfl
@[simp] theorem dV_f {e : IF} {r : IV} : denV M (.f e r) ρ = (denF M e ρ).bind fun d => (denV M r ρ).bind fun ss => .ret (.own d :: ss) := rfl
@[simp] theorem seqS_run {m1 m2 : S} {Q : Out → Prop} {XX : XS → Prop} : (seqS m1 m2 ρ).run Q XX = (m1 ρ).run (fun o => match o with | .nx ρ' => (m2 ρ').run Q XX | .rt d => Q (.rt d) | .bk ρ' => Q (.bk ρ') | .ct ρ' => Q (.ct ρ')) XX := by
  show (m1 ρ).run _ _ = _
  congr 1
  funext o
  cases o <;> rfl
end
@[simp] theorem getV_0 {d : D} {ρ : List Sl} : getV (.val d :: ρ) 0 = .ret d := rfl
@[simp] theorem getV_s {s : Sl} {ρ : List Sl} {n : Nat} : getV (s :: ρ) (n + 1) = getV ρ n := rfl
@[simp] theorem getO_0 {d : D} {ρ : List Sl} : getO (.val d :: ρ) 0 = .ret d := rfl
@[simp] theorem getO_w {d : List D} {ρ : List Sl} : getO (.own d :: ρ) 0 = .ret (.list d) := rfl
@[simp] theorem getO_s {s : Sl} {ρ : List Sl} {n : Nat} : getO (s :: ρ) (n + 1) = getO ρ n := rfl
@[simp] theorem getDc_0 {d : List (Key × D)} {ρ : List Sl} : getDc (.dic d :: ρ) 0 = .ret d := rfl
@[simp] theorem getDc_s {s : Sl} {ρ : List Sl} {n : Nat} : getDc (s :: ρ) (n + 1) = getDc ρ n := rfl
@[simp] theorem dicW_0 {d : List (Key × D)} {ρ : List Sl} : dicW (.dic d :: ρ) 0 = .ret d := rfl
@[simp] theorem dicW_s {s : Sl} {ρ : List Sl} {n : Nat} : dicW (s :: ρ) (n + 1) = dicW ρ n := rfl
@[simp] theorem getP_0 {ρ : List Sl} : getP (.pool :: ρ) 0 = .ret () := rfl
@[simp] theorem getP_s {s : Sl} {ρ : List Sl} {n : Nat} : getP (s :: ρ) (n + 1) = getP ρ n := rfl
@[simp] theorem denD_run {M : Mg} {np n : Nat} {b : IT} {as : List Ar} {Q : D → Prop} {XX : Exc → Prop} : (denD M np n b as).run Q XX = (as.length = np ∧ (denT M b (as.map Ar.sl ++ List.replicate (n - np) .un)).run (fun o => (outD o).run Q XX) (fun x => XX x.1)) := rfl
@[simp] theorem sl_d {d : D} : Ar.sl (.d d) = .val d := rfl
@[simp] theorem sl_p : Ar.sl .pool = .pool := rfl
@[simp] theorem outD_rt {d : D} : outD (.rt d) = .ret d := rfl
@[simp] theorem outD_nx {ρ : List Sl} : outD (.nx ρ) = .ret .none := rfl
@[simp] theorem co_eq : CO.op .eq = eqD false := rfl
@[simp] theorem co_ne : CO.op .ne = eqD true := rfl
@[simp] theorem eqD_run {n : Bool} {d e : D} {Q : Bool → Prop} {XX : Exc → Prop} : (eqD n d e).run Q XX = ((sh d = true ∧ sh e = true) ∧ Q (if n then !PyData.eqv d e else PyData.eqv d e)) := rfl
@[simp] theorem sh_int {i : Int} : sh (.int i) = true := rfl
@[simp] theorem sh_str {i : Str} : sh (.str i) = true := rfl
@[simp] theorem sh_bool {i : Bool} : sh (.bool i) = true := rfl
@[simp] theorem sh_none : sh .none = true := rfl
@[simp] theorem ite_run {ε α : Type} {c : Prop} [Decidable c] {a b : W ε α} {Q : α → Prop} {X : ε → Prop} : (if c then a else b).run Q X = if c then a.run Q X else b.run Q X := by split <;> rfl
@[simp] theorem retb {ε α β : Type} {a : α} {f : α → W ε β} : (W.ret a).bind f = f a := rfl
@[simp] theorem eqv_str {x y : Str} : PyData.eqv (.str x) (.str y) = (x == y) := rfl
@[simp] theorem eqv_int {x y : Int} : PyData.eqv (.int x) (.int y) = (x == y) := rfl
@[simp] theorem eqv_bool {x y : Bool} : PyData.eqv (.bool x) (.bool y) = (x == y) := rfl
@[simp] theorem F_draw_run {n : Int} {Q : D → Prop} {X : Exc → Prop} : (F_draw [.pool, .d (.int n)]).run Q X = (n < 1073741824 ∧ 0 < n ∧ ∀ v, 0 ≤ v → v < n → Q (.int v)) := rfl
@[simp] theorem rvt_t {xs : List D} : rvtD (.tuple xs) = .ret (.tuple xs.reverse) := rfl
@[simp] theorem bi_len : BI.op .len = lenD := rfl
@[simp] theorem bi_int : BI.op .int = intD := rfl
@[simp] theorem bi_tup : BI.op .tup = tupleD := rfl
@[simp] theorem len_l {xs : List D} {Q : D → Prop} {X : Exc → Prop} : (lenD (.list xs)).run Q X = (xs.length ≤ sizeLine → Q (.int xs.length)) := rfl
@[simp] theorem len_t {xs : List D} {Q : D → Prop} {X : Exc → Prop} : (lenD (.tuple xs)).run Q X = (xs.length ≤ sizeLine → Q (.int xs.length)) := rfl
theorem le_line {n : Nat} (h : n ≤ 1000) : n ≤ sizeLine := small_of h
@[simp] theorem truth_b {b : Bool} : truthD (.bool b) = .ret b := rfl
theorem ix_t {xs : List D} {i : Int} {d : D} {Q : D → Prop} {X : Exc → Prop} (h : atI xs i = some d) (q : Q d) : (ixD (.tuple xs) (.int i)).run Q X := by
  show (match atI xs i with | some d => W.ret d | none => W.stuck : W Exc D).run Q X
  rw [h]; exact q
theorem ix_l {xs : List D} {i : Int} {d : D} {Q : D → Prop} {X : Exc → Prop} (h : atI xs i = some d) (q : Q d) : (ixD (.list xs) (.int i)).run Q X := by
  show (match atI xs i with | some d => W.ret d | none => W.stuck : W Exc D).run Q X
  rw [h]; exact q
theorem atI_nat {α : Type} {xs : List α} {n : Nat} {d : α} (h : xs[n]? = some d) : atI xs (n : Int) = some d := by
  have hl : n < xs.length := (List.getElem?_eq_some_iff.mp h).1
  have : ixN xs.length (n : Int) = some n := by
    unfold ixN
    rw [if_pos (by omega), if_pos (by omega)]
    simp
  unfold atI
  rw [this]
  exact h
@[simp] theorem co_is : CO.op .is = isD false := rfl
@[simp] theorem co_isn : CO.op .isn = isD true := rfl
@[simp] theorem co_in : CO.op .inn = inD false := rfl
@[simp] theorem co_nin : CO.op .nin = inD true := rfl
@[simp] theorem co_lt : CO.op .lt = ltD fun i j => decide (i < j) := rfl
@[simp] theorem co_le : CO.op .le = ltD fun i j => decide (i ≤ j) := rfl
@[simp] theorem co_gt : CO.op .gt = ltD fun i j => decide (j < i) := rfl
@[simp] theorem co_ge : CO.op .ge = ltD fun i j => decide (j ≤ i) := rfl
@[simp] theorem ltD_i {f : Int → Int → Bool} {i j : Int} : ltD f (.int i) (.int j) = .ret (f i j) := rfl
@[simp] theorem isD_n {n : Bool} {d : D} : isD n d .none = .ret (if n then !isNon d else isNon d) := by cases d <;> rfl
@[simp] theorem nn_0 : isNon .none = true := rfl
@[simp] theorem nn_1 {x : Int} : isNon (.int x) = false := rfl
@[simp] theorem nn_2 {x : Str} : isNon (.str x) = false := rfl
@[simp] theorem nn_3 {x : Bool} : isNon (.bool x) = false := rfl
@[simp] theorem nn_4 {x : List D} : isNon (.list x) = false := rfl
@[simp] theorem nn_5 {x : List D} : isNon (.tuple x) = false := rfl
@[simp] theorem ao_add : AO.op .add = addD := rfl
@[simp] theorem ao_sub : AO.op .sub = subD := rfl
@[simp] theorem add_i {i j : Int} : addD (.int i) (.int j) = .ret (.int (i + j)) := rfl
@[simp] theorem sub_i {i j : Int} : subD (.int i) (.int j) = .ret (.int (i - j)) := rfl
@[simp] theorem int_i {i : Int} : intD (.int i) = .ret (.int i) := rfl
@[simp] theorem neg_i {i : Int} : negD (.int i) = .ret (.int (-i)) := rfl
def inR (j : Int) : Prop := -(2 ^ 62) ≤ j ∧ j < 2 ^ 62
theorem inR_len {n : Nat} (h : n ≤ sizeLine) : inR (n : Int) := by
  have : sizeLine < 2 ^ 62 := by decide
  unfold inR
  omega
theorem inR_small {n : Int} (h : 0 ≤ n) (h2 : n ≤ 100000) : inR n := by unfold inR; omega
@[simp] theorem rng1_run {j : Int} {Q : List D → Prop} {X : Exc → Prop} : (rng1D (.int j)).run Q X = (inR j ∧ Q (upto 0 j.toNat)) := rfl
@[simp] theorem iter_l {xs : List D} {Q : List D → Prop} {X : Exc → Prop} : (iterD (.list xs)).run Q X = (xs.length ≤ sizeLine → Q xs) := rfl
@[simp] theorem iter_t {xs : List D} {Q : List D → Prop} {X : Exc → Prop} : (iterD (.tuple xs)).run Q X = (xs.length ≤ sizeLine → Q xs) := rfl
@[simp] theorem asg_nm {i : Nat} {d : D} {ρ : List Sl} : asgT (.nm i) d ρ = .ret (ρ.set i (.val d)) := rfl
@[simp] theorem asg_t {is : List Nat} {ds : List D} {ρ : List Sl} {Q : List Sl → Prop} {X : Exc → Prop} : (asgT (.tup is) (.tuple ds) ρ).run Q X = (ds.length = is.length ∧ Q (setAll is ds ρ)) := rfl
@[simp] theorem setAll_c {i : Nat} {is : List Nat} {d : D} {ds : List D} {ρ : List Sl} : setAll (i :: is) (d :: ds) ρ = setAll is ds (ρ.set i (.val d)) := rfl
@[simp] theorem setAll_n {ρ : List Sl} : setAll [] [] ρ = ρ := rfl
@[simp] theorem setS_c {i : Nat} {is : List Nat} {d : Sl} {ds : List Sl} {ρ : List Sl} : setS (i :: is) (d :: ds) ρ = setS is ds (ρ.set i d) := rfl
@[simp] theorem setS_n {ρ : List Sl} : setS [] [] ρ = ρ := rfl
end Ev

/-! Ev28: comprehensions over what is not told; the law's comparison of a value with itself. -/
namespace Ev
open PySem PySem.Spec PyProof.Rows L2
theorem lcD_none {body : D → W Exc (Option D)} {Q : List D → Prop} {X : Exc → Prop} : ∀ {xs acc : List D}, (∀ x ∈ xs, ∀ R : Option D → Prop, R none → (body x).run R X) → Q acc → (lcD body xs acc).run Q X
  | [], acc, h, q => q
  | x :: xs, acc, h, q => h x List.mem_cons_self _ (lcD_none (fun y hy => h y (List.mem_cons_of_mem _ hy)) q)
theorem lcD_all {body : D → W Exc (Option D)} (P : D → Prop) {Q : List D → Prop} {X : Exc → Prop} : ∀ {xs acc : List D}, (∀ x ∈ xs, ∀ R : Option D → Prop, (∀ y, P y → R (some y)) → (body x).run R X) → (∀ ys, ys.length = xs.length → (∀ y ∈ ys, P y) → Q (acc ++ ys)) → (lcD body xs acc).run Q X
  | [], acc, h, q => by have := q [] rfl (fun _ z => nomatch z); rwa [List.append_nil] at this
  | x :: xs, acc, h, q => h x List.mem_cons_self _ fun y hy => by
    refine lcD_all P (acc := acc ++ [y]) (fun z hz => h z (List.mem_cons_of_mem _ hz)) fun ys hl hp => ?_
    have := q (y :: ys) (by simp [hl]) (fun z hz => by
      rcases List.mem_cons.mp hz with e | e
      · rw [e]; exact hy
      · exact hp z e)
    simpa using this
/-- a comprehension that is told -/
theorem lcD_map {body : D → W Exc (Option D)} (f : D → Option D) {Q : List D → Prop} {X : Exc → Prop} : ∀ {xs acc : List D}, (∀ x ∈ xs, ∀ R : Option D → Prop, R (f x) → (body x).run R X) → Q (acc ++ xs.filterMap f) → (lcD body xs acc).run Q X
  | [], acc, h, q => by
    show Q acc
    simpa using q
  | x :: xs, acc, h, q => h x List.mem_cons_self _ (by
    cases e : f x with
    | none => exact lcD_map f (fun y hy => h y (List.mem_cons_of_mem _ hy)) (by simpa [e] using q)
    | some y => exact lcD_map f (acc := acc ++ [y]) (fun y hy => h y (List.mem_cons_of_mem _ hy)) (by simpa [e] using q))
def sameIR : IT := .cons (.ife (.or (.more (.tru (.e (.isi .tuple (.e (.v 1))))) (.one (.tru (.e (.isi .list (.e (.v 1)))))))) (.cons (.ife (.or (.more (.cmp .ne (.e (.isi .tuple (.e (.v 1)))) (.e (.isi .tuple (.e (.v 0))))) (.more (.cmp .ne (.e (.isi .list (.e (.v 1)))) (.e (.isi .list (.e (.v 0))))) (.one (.cmp .ne (.e (.f1 .len (.e (.v 0)))) (.e (.f1 .len (.e (.v 1))))))))) (.cons (.ret (.b false)) .nil) .nil) (.cons (.ret (.cmp .eq (.e (.f1 .len (.e (.fr (.lc [2] (.nm 2) (.r1 (.f1 .len (.e (.v 1)))) (.one (.not (.tru (.e (.call 0 (.d (.ix (.e (.v 0)) (.e (.v 2))) (.d (.ix (.e (.v 1)) (.e (.v 2))) .nil))))))) (.v 2)))))) (.e (.i 0)))) .nil)) .nil) (.cons (.ife (.cmp .is (.e (.v 1)) (.e .none)) (.cons (.ret (.cmp .is (.e (.v 0)) (.e .none))) .nil) .nil) (.cons (.ife (.or (.more (.tru (.e (.isi .bool (.e (.v 1))))) (.one (.tru (.e (.isi .bool (.e (.v 0)))))))) (.cons (.ret (.and (.more (.isi .bool (.e (.v 1))) (.more (.isi .bool (.e (.v 0))) (.one (.cmp .eq (.e (.v 0)) (.e (.v 1)))))))) .nil) .nil) (.cons (.ife (.tru (.e (.isi .int (.e (.v 1))))) (.cons (.ret (.and (.more (.isi .int (.e (.v 0))) (.one (.cmp .eq (.e (.v 0)) (.e (.v 1))))))) .nil) .nil) (.cons (.ret (.and (.more (.isi .str (.e (.v 0))) (.more (.isi .str (.e (.v 1))) (.one (.cmp .eq (.e (.v 0)) (.e (.v 1)))))))) .nil))))
def good : Nat → D → Prop
  | 0, _ => False
  | n + 1, .list xs => ∀ x ∈ xs, good n x
  | n + 1, .tuple xs => ∀ x ∈ xs, good n x
  | _ + 1, .dict _ => False
  | _ + 1, _ => True
theorem upto_mem {lo : Int} {n : Nat} {x : D} (h : x ∈ upto lo n) : ∃ i : Nat, i < n ∧ x = .int (lo + i) := by
  unfold upto at h
  obtain ⟨i, hi, e⟩ := List.mem_map.mp h
  exact ⟨i, List.mem_range.mp hi, e.symm⟩
theorem line_62 {n : Nat} (h : n ≤ sizeLine) : (n : Int) < 2 ^ 62 := by
  have : sizeLine < 2 ^ 62 := by decide
  omega
theorem same_run {M : Mg} {n : Nat} {d : D} (hF : ∀ e, good n e → ∀ (Q : D → Prop) (X : Exc → Prop), Q (.bool true) → (M.Φ 0 [.d e, .d e]).run Q X) (h : good (n + 1) d) {Q : D → Prop} {X : Exc → Prop} (q : Q (.bool true)) : (denD M 2 3 sameIR [.d d, .d d]).run Q X := by
  cases d with
  | list xs =>
    simp [sameIR, isiB, tyName, Ty.s]
    intro hz
    have e1 : (upto 0 xs.length).length = xs.length := by simp [upto]
    refine ⟨inR_len hz, ?_⟩
    refine ⟨by rw [e1]; exact hz, lcD_none (fun x hx R hR => ?_) (fun _ => by simpa using q)⟩
    obtain ⟨i, hi, rfl⟩ := upto_mem hx
    have hi' : i < xs.length := by simpa using hi
    have ei : (0 : Int) + (i : Int) = (i : Int) := by omega
    rw [ei]
    have ea : atI xs (i : Int) = some xs[i] := Ev.atI_nat (List.getElem?_eq_getElem hi')
    simp [turnB, asgT, wipeR]
    exact ix_l ea (ix_l ea (hF _ (h _ (List.getElem_mem hi')) _ _ (by simpa using hR)))
  | tuple xs =>
    simp [sameIR, isiB, tyName, Ty.s]
    intro hz
    have e1 : (upto 0 xs.length).length = xs.length := by simp [upto]
    refine ⟨inR_len hz, ?_⟩
    refine ⟨by rw [e1]; exact hz, lcD_none (fun x hx R hR => ?_) (fun _ => by simpa using q)⟩
    obtain ⟨i, hi, rfl⟩ := upto_mem hx
    have hi' : i < xs.length := by simpa using hi
    have ei : (0 : Int) + (i : Int) = (i : Int) := by omega
    rw [ei]
    have ea : atI xs (i : Int) = some xs[i] := Ev.atI_nat (List.getElem?_eq_getElem hi')
    simp [turnB, asgT, wipeR]
    exact ix_t ea (ix_t ea (hF _ (h _ (List.getElem_mem hi')) _ _ (by simpa using hR)))
  | dict _ => exact h.elim
  | none => simpa [sameIR, isiB, tyName, Ty.s] using q
  | bool b => simpa [sameIR, isiB, tyName, Ty.s] using q
  | int b => simpa [sameIR, isiB, tyName, Ty.s] using q
  | str b => simpa [sameIR, isiB, tyName, Ty.s] using q
end Ev

/-! Ev29: tuples and lists of ints. -/
namespace Ev
open PySem PySem.Spec PyProof.Rows L2
theorem depth_ints : ∀ l : List Int, PyData.depthAll (l.map .int) = 0
  | [] => by simp [PyData.depthAll]
  | i :: l => by simp [PyData.depthAll, PyData.depth, depth_ints l]
theorem ndAll_ints (l : List Int) : ndAll (l.map .int) = true := by induction l <;> simp_all [ndAll, nd]
@[simp] theorem sh_tints (l : List Int) : sh (.tuple (l.map .int)) = true := by simp [sh, PyData.depth, depth_ints, ndAll_ints]
@[simp] theorem sh_lints (l : List Int) : sh (.list (l.map .int)) = true := by simp [sh, PyData.depth, depth_ints, ndAll_ints]
theorem eqvAll_ints : ∀ l m : List Int, PyData.eqvAll (l.map .int) (m.map .int) = decide (l = m)
  | [], [] => by simp [PyData.eqvAll]
  | [], _ :: _ => by simp [PyData.eqvAll]
  | _ :: _, [] => by simp [PyData.eqvAll]
  | i :: l, j :: m => by
    rw [List.map_cons, List.map_cons, PyData.eqvAll, eqvAll_ints l m]
    simp [PyData.eqv, Bool.and_comm]
    by_cases h : i = j <;> simp [h]
@[simp] theorem eqv_tints (l m : List Int) : PyData.eqv (.tuple (l.map .int)) (.tuple (m.map .int)) = decide (l = m) := by rw [PyData.eqv]; exact eqvAll_ints l m
@[simp] theorem eqv_lints (l m : List Int) : PyData.eqv (.list (l.map .int)) (.list (m.map .int)) = decide (l = m) := by rw [PyData.eqv]; exact eqvAll_ints l m
@[simp] theorem add_t {xs ys : List D} {Q : D → Prop} {X : Exc → Prop} : (addD (.tuple xs) (.tuple ys)).run Q X = (xs.length + ys.length ≤ sizeLine ∧ Q (.tuple (xs ++ ys))) := rfl
@[simp] theorem sl_t {xs : List D} {lo hi : Option Int} : slD (.tuple xs) lo hi = .ret (.tuple (cutD xs lo hi)) := rfl
@[simp] theorem sl_l {xs : List D} {lo hi : Option Int} : slD (.list xs) lo hi = .ret (.list (cutD xs lo hi)) := rfl
@[simp] theorem intW_i {i : Int} : intW (.int i) = .ret (some i) := rfl
end Ev

/-! Ev30: comprehensions over ranges and over typed lists. -/
namespace Ev
open PySem PySem.Spec PyProof.Rows L2
theorem upto_zero (lo : Int) : upto lo 0 = [] := rfl
theorem upto_eq (lo : Int) (n : Nat) : upto lo n = (List.range n).map fun (i : Nat) => PyData.int (lo + i) := rfl
theorem upto_len (lo : Int) (n : Nat) : (upto lo n).length = n := by simp [upto]
/-- a comprehension over a typed list -/
theorem lcD_enc {α : Type} {enc : α → D} {body : D → W Exc (Option D)} (f : α → Option D) {Q : List D → Prop} {X : Exc → Prop} : ∀ {xs : List α} {acc : List D}, (∀ x ∈ xs, ∀ R : Option D → Prop, R (f x) → (body (enc x)).run R X) → Q (acc ++ xs.filterMap f) → (lcD body (xs.map enc) acc).run Q X
  | [], acc, h, q => by
    show Q acc
    simpa using q
  | x :: xs, acc, h, q => h x List.mem_cons_self _ (by
    cases e : f x with
    | none => exact lcD_enc f (fun y hy => h y (List.mem_cons_of_mem _ hy)) (by simpa [e] using q)
    | some y => exact lcD_enc f (acc := acc ++ [y]) (fun y hy => h y (List.mem_cons_of_mem _ hy)) (by simpa [e] using q))
theorem lcD_upto {body : D → W Exc (Option D)} {lo : Int} (f : Nat → Option D) {Q : List D → Prop} {X : Exc → Prop} {n : Nat} {acc : List D} (h : ∀ i, i < n → ∀ R : Option D → Prop, R (f i) → (body (.int (lo + i))).run R X) (q : Q (acc ++ (List.range n).filterMap f)) : (lcD body (upto lo n) acc).run Q X := by
  rw [upto_eq]
  exact lcD_enc (enc := fun (i : Nat) => PyData.int (lo + i)) f (fun i hi => h i (List.mem_range.mp hi)) q
theorem cut_take (xs : List D) (n : Nat) : Ev.cutD xs none (some (n : Int)) = xs.take n := by
  unfold Ev.cutD
  rw [HT.sIx_none, HT.sIx_nat, List.drop_zero, Nat.sub_zero]
  rcases Nat.le_total n xs.length with h | h
  · rw [Nat.min_eq_left h]
  · rw [Nat.min_eq_right h, List.take_length, List.take_of_length_le h]
theorem cut_drop (xs : List D) (n : Nat) : Ev.cutD xs (some (n : Int)) none = xs.drop n := by
  unfold Ev.cutD
  rw [HT.sIx_none, HT.sIx_nat]
  rcases Nat.le_total n xs.length with h | h
  · rw [Nat.min_eq_left h, List.take_of_length_le (by simp)]
  · rw [Nat.min_eq_right h, Nat.sub_self, List.take_zero, List.drop_of_length_le h]
/-- .., each turn gives one -/
theorem filterMap_some {α β : Type} (f : α → β) (l : List α) : l.filterMap (fun x => some (f x)) = l.map f := by induction l <;> simp [*]
theorem filterMap_enc {α β : Type} (p : α → Bool) (f : α → β) (enc : β → D) (l : List α) : (l.filterMap fun x => if p x = true then some (enc (f x)) else none) = ((l.filter p).map f).map enc := by
  induction l with
  | nil => rfl
  | cons x l ih =>
    rw [List.filterMap_cons, ih]
    cases h : p x <;> simp [h]
end Ev

/-! Ev31: in, sorted over ints. -/
namespace Ev
open PySem PySem.Spec PyProof.Rows L2
@[simp] theorem int_b {b : Bool} : Ev.intD (.bool b) = .ret (.int (if b then 1 else 0)) := rfl
@[simp] theorem tuple_l {xs : List D} : tupleD (.list xs) = .ret (.tuple xs) := rfl
@[simp] theorem tuple_t {xs : List D} : tupleD (.tuple xs) = .ret (.tuple xs) := rfl
theorem any_ints (a : Int) : ∀ l : List Int, ((l.map PyData.int).any fun z => PyData.eqv z (.int a)) = decide (a ∈ l)
  | [] => by simp
  | i :: l => by
    rw [List.map_cons, List.any_cons, any_ints a l]
    by_cases h : i = a
    · subst h; simp
    · have h' : ¬ a = i := fun e => h e.symm
      simp [h, h']
@[simp] theorem in_ti {n : Bool} {a : Int} {l : List Int} {Q : Bool → Prop} {X : Exc → Prop} : (inD n (.int a) (.tuple (l.map .int))).run Q X = Q (if n then !decide (a ∈ l) else decide (a ∈ l)) := by
  show ((sh (.int a) = true ∧ sh (.tuple (l.map .int)) = true) ∧ Q _) = _
  rw [any_ints]
  simp
@[simp] theorem in_li {n : Bool} {a : Int} {l : List Int} {Q : Bool → Prop} {X : Exc → Prop} : (inD n (.int a) (.list (l.map .int))).run Q X = Q (if n then !decide (a ∈ l) else decide (a ∈ l)) := by
  show ((sh (.int a) = true ∧ sh (.list (l.map .int)) = true) ∧ Q _) = _
  rw [any_ints]
  simp
/-- ints, sorted -/
def srtI (l : List Int) : List Int := l.mergeSort fun a b => decide (a ≤ b)
theorem srtI_len (l : List Int) : (srtI l).length = l.length := List.length_mergeSort _
theorem srtI_mem {l : List Int} {x : Int} : x ∈ srtI l ↔ x ∈ l := List.mem_mergeSort
theorem srtOk_ints (l : List Int) : srtOk (l.map .int) :=
  ⟨ndAll_ints l, PySem.W.AllAlike.of fun _ _ => by simp [PySem.W.alike], PySem.W.Sortable.others fun _ => ⟨by simp, fun _ => by simp⟩, fun d hd => by
    obtain ⟨i, _, rfl⟩ := List.mem_map.mp hd
    simp [PyData.depth]⟩
theorem srt_ints (l : List Int) : (l.map PyData.int).mergeSort leD = (srtI l).map .int := by
  unfold srtI
  refine (map_srt PyData.int _ leD (fun a b => ?_)).symm
  have := congrFun (congrFun (PySem.W.dataLe_int (β := Int) id) a) b
  exact this.symm
@[simp] theorem srt_ti {l : List Int} {Q : List D → Prop} {X : Exc → Prop} : (srtD (.tuple (l.map .int))).run Q X = Q ((srtI l).map .int) := by
  show (srtOk (l.map .int) ∧ Q _) = _
  rw [srt_ints]
  simp [srtOk_ints]
@[simp] theorem srt_li {l : List Int} {Q : List D → Prop} {X : Exc → Prop} : (srtD (.list (l.map .int))).run Q X = Q ((srtI l).map .int) := by
  show (srtOk (l.map .int) ∧ Q _) = _
  rw [srt_ints]
  simp [srtOk_ints]
end Ev

namespace K06
open PySem PySem.Spec PyProof.Rows L2 Ev
def top (i : Nat) : Stmt := PySem.Challenge.pw_everyhistory_k06_whole_rings.main.body.getD i (.Pass ⟨0, 0, 0, 0⟩)
/-! ### the defs: names, plain forms -/
def v_KEYS : D := .int 4
def v_RINGS : D := .tuple [(.str "any"), (.str "apart"), (.str "circle"), (.str "overwrite"), (.str "single")]
abbrev s_l_pool : Stmt := top 20
def n_l_pool : List Str := ["script", "salt", "cell"]
def p_l_pool : List Str := ["script"]
def g_l_pool : Tab := ⟨n_l_pool, defScope s_l_pool, defScope s_l_pool, true, [], [], ["int", "list"], [], []⟩
def m_l_pool : Mg := ⟨fun | _ => noF, fun | _ => .none, []⟩
abbrev s_l_spread : Stmt := top 21
def n_l_spread : List Str := ["cell", "mixed", "total", "k"]
def p_l_spread : List Str := ["cell"]
def g_l_spread : Tab := ⟨n_l_spread, defScope s_l_spread, defScope s_l_spread, true, [], [], ["int", "range"], [], []⟩
def b_l_spread : IT := .cons (.set 1 (.bin .mod (.e (.f1 .int (.e (.v 0)))) (.e (.i 2147483647)))) (.cons (.set 2 (.i 1)) (.cons (.for_ (.nm 3) (.r1 (.i 4)) (.cons (.set 1 (.bin .mod (.e (.f1 .int (.e (.bin .add (.e (.bin .add (.e (.bin .mul (.e (.v 1)) (.e (.i 48271)))) (.e (.i 12345)))) (.e (.v 3)))))) (.e (.i 2147483647)))) (.cons (.set 2 (.bin .add (.e (.bin .mul (.e (.v 2)) (.e (.i 2147483647)))) (.e (.v 1)))) .nil))) (.cons (.ret (.v 2)) .nil)))
def m_l_spread : Mg := ⟨fun | _ => noF, fun | _ => .none, []⟩
def f_l_spread : List Ar → W Exc D := denD m_l_spread 1 4 b_l_spread
abbrev s_l_draw : Stmt := top 22
def n_l_draw : List Str := ["pool", "many", "cell", "mixed", "value"]
def p_l_draw : List Str := ["pool", "many"]
def g_l_draw : Tab := ⟨n_l_draw, defScope s_l_draw, defScope s_l_draw, true, ["_law_spread"], [], ["int", "len"], [], []⟩
def m_l_draw : Mg := ⟨fun | 0 => f_l_spread | _ => noF, fun | _ => .none, []⟩
abbrev f_l_draw : List Ar → W Exc D := F_draw
abbrev s_l_pick : Stmt := top 23
def n_l_pick : List Str := ["pool", "items"]
def p_l_pick : List Str := ["pool", "items"]
def g_l_pick : Tab := ⟨n_l_pick, defScope s_l_pick, defScope s_l_pick, true, ["_law_draw"], [], ["len"], [], []⟩
def b_l_pick : IT := .cons (.ret (.ix (.e (.v 1)) (.e (.call 0 (.pool 0 (.d (.f1 .len (.e (.v 1))) .nil)))))) .nil
def m_l_pick : Mg := ⟨fun | 0 => f_l_draw | _ => noF, fun | _ => .none, []⟩
def f_l_pick : List Ar → W Exc D := denD m_l_pick 2 2 b_l_pick
abbrev s_l_some_edges : Stmt := top 38
def n_l_some_edges : List Str := ["pool", "most", "many", "found", "k", "a", "b"]
def p_l_some_edges : List Str := ["pool", "most"]
def g_l_some_edges : Tab := ⟨n_l_some_edges, defScope s_l_some_edges, defScope s_l_some_edges, true, ["_law_draw", "_law_pick"], [], ["range", "sorted", "set"], [], []⟩
def b_l_some_edges : IT := .cons (.set 2 (.bin .add (.e (.i 2)) (.e (.call 0 (.pool 0 (.d (.v 1) .nil)))))) (.cons (.setF 3 (.lst .nil)) (.cons (.for_ (.nm 4) (.r1 (.call 0 (.pool 0 (.d (.bin .mul (.e (.i 3)) (.e (.v 2))) .nil)))) (.cons (.par [5, 6] (.e (.bin .add (.e (.i 1)) (.e (.call 0 (.pool 0 (.d (.v 2) .nil))))) (.e (.bin .add (.e (.i 1)) (.e (.call 0 (.pool 0 (.d (.v 2) .nil))))) .nil))) (.cons (.ife (.cmp .ne (.e (.v 5)) (.e (.v 6))) (.cons (.app 3 (.tup (.cons (.call 1 (.pool 0 (.d (.fr (.lst (.cons (.s "rw") (.cons (.s "rw") (.cons (.s "wr") (.cons (.s "ww") .nil)))))) .nil))) (.cons (.v 5) (.cons (.v 6) (.cons (.call 0 (.pool 0 (.d (.i 2) .nil))) .nil)))))) .nil) .nil) .nil))) (.cons (.ret (.fr (.srtS (.own 3)))) .nil)))
def m_l_some_edges : Mg := ⟨fun | 0 => f_l_draw | 1 => f_l_pick | _ => noF, fun | _ => .none, []⟩
def f_l_some_edges : List Ar → W Exc D := denD m_l_some_edges 2 7 b_l_some_edges
abbrev s_committed : Stmt := top 5
def n_committed : List Str := ["rows", "deed"]
def p_committed : List Str := ["rows"]
def g_committed : Tab := ⟨n_committed, defScope s_committed, defScope s_committed, true, [], [], ["sorted"], [], []⟩
def b_committed : IT := .cons (.ret (.fr (.srtL (.e (.fr (.lc [1] (.nm 1) (.seq (.v 0)) (.one (.cmp .eq (.e (.ix (.e (.v 1)) (.e (.i 0)))) (.e (.s "commit")))) (.ix (.e (.v 1)) (.e (.i 1))))))))) .nil
def m_committed : Mg := ⟨fun | _ => noF, fun | _ => .none, []⟩
def f_committed : List Ar → W Exc D := denD m_committed 1 2 b_committed
abbrev s_deeds_of : Stmt := top 6
def n_deeds_of : List Str := ["rows", "work", "deed"]
def p_deeds_of : List Str := ["rows", "work"]
def g_deeds_of : Tab := ⟨n_deeds_of, defScope s_deeds_of, defScope s_deeds_of, true, [], [], ["tuple"], [], []⟩
def b_deeds_of : IT := .cons (.ret (.f1 .tup (.e (.fr (.lc [2] (.nm 2) (.seq (.v 0)) (.one (.and (.more (.cmp .eq (.e (.ix (.e (.v 2)) (.e (.i 1)))) (.e (.v 1))) (.one (.cmp .inn (.e (.ix (.e (.v 2)) (.e (.i 0)))) (.e (.tup (.cons (.s "read") (.cons (.s "write") .nil))))))))) (.v 2)))))) .nil
def m_deeds_of : Mg := ⟨fun | _ => noF, fun | _ => .none, []⟩
def f_deeds_of : List Ar → W Exc D := denD m_deeds_of 2 3 b_deeds_of
abbrev s_outer_reads : Stmt := top 7
def n_outer_reads : List Str := ["rows", "work", "deed"]
def p_outer_reads : List Str := ["rows", "work"]
def g_outer_reads : Tab := ⟨n_outer_reads, defScope s_outer_reads, defScope s_outer_reads, true, ["deeds_of"], [], [], [], []⟩
def b_outer_reads : IT := .cons (.ret (.fr (.lc [2] (.nm 2) (.seq (.call 0 (.d (.v 0) (.d (.v 1) .nil)))) (.one (.and (.more (.cmp .eq (.e (.ix (.e (.v 2)) (.e (.i 0)))) (.e (.s "read"))) (.one (.cmp .ne (.e (.ix (.e (.v 2)) (.e (.i 3)))) (.e (.v 1))))))) (.sl (.e (.v 2)) (.one (.i 2)) .no)))) .nil
def m_outer_reads : Mg := ⟨fun | 0 => f_deeds_of | _ => noF, fun | _ => .none, []⟩
def f_outer_reads : List Ar → W Exc D := denD m_outer_reads 2 3 b_outer_reads
abbrev s_next_writer : Stmt := top 9
def n_next_writer : List Str := ["history", "key", "writer", "order"]
def p_next_writer : List Str := ["history", "key", "writer"]
def g_next_writer : Tab := ⟨n_next_writer, defScope s_next_writer, defScope s_next_writer, true, [], [], [], [], []⟩
def b_next_writer : IT := .cons (.set 3 (.ix (.e (.ix (.e (.v 0)) (.e (.i 1)))) (.e (.v 1)))) (.cons (.ife (.or (.more (.cmp .nin (.e (.v 2)) (.e (.v 3))) (.one (.cmp .eq (.e (.v 2)) (.e (.ix (.e (.v 3)) (.e (.neg (.i 1))))))))) (.cons (.ret .none) .nil) .nil) (.cons (.ret (.ix (.e (.v 3)) (.e (.bin .add (.e (.idx (.e (.v 3)) (.e (.v 2)))) (.e (.i 1)))))) .nil))
def m_next_writer : Mg := ⟨fun | _ => noF, fun | _ => .none, []⟩
def f_next_writer : List Ar → W Exc D := denD m_next_writer 3 4 b_next_writer
abbrev s_edges : Stmt := top 10
def n_edges : List Str := ["history", "done", "found", "key", "work", "rows", "orders", "writer", "_", "after", "a", "b"]
def p_edges : List Str := ["history"]
def g_edges : Tab := ⟨n_edges, defScope s_edges, defScope s_edges, true, ["committed", "outer_reads", "next_writer"], ["KEYS"], ["range", "zip", "sorted", "set"], [], []⟩
def b_edges : IT := .cons (.asg (.tup [5, 6]) (.v 0)) (.cons (.set 1 (.call 0 (.d (.v 5) .nil))) (.cons (.setF 2 (.lst .nil)) (.cons (.for_ (.nm 3) (.r1 (.g 0)) (.cons (.ext 2 (.fr (.lc [10, 11] (.tup [10, 11]) (.zip (.ix (.e (.v 6)) (.e (.v 3))) (.sl (.e (.ix (.e (.v 6)) (.e (.v 3)))) (.one (.i 1)) .no)) (.one (.cmp .gt (.e (.v 10)) (.e (.i 0)))) (.tup (.cons (.s "ww") (.cons (.v 10) (.cons (.v 11) (.cons (.v 3) .nil)))))))) .nil)) (.cons (.for_ (.nm 4) (.seq (.v 1)) (.cons (.for_ (.tup [3, 7, 8]) (.seq (.call 1 (.d (.v 5) (.d (.v 4) .nil)))) (.cons (.ife (.cmp .inn (.e (.v 7)) (.e (.v 1))) (.cons (.app 2 (.tup (.cons (.s "wr") (.cons (.v 7) (.cons (.v 4) (.cons (.v 3) .nil)))))) .nil) .nil) (.cons (.set 9 (.call 2 (.d (.v 0) (.d (.v 3) (.d (.v 7) .nil))))) (.cons (.ife (.cmp .nin (.e (.v 9)) (.e (.tup (.cons .none (.cons (.v 4) .nil))))) (.cons (.app 2 (.tup (.cons (.s "rw") (.cons (.v 4) (.cons (.v 9) (.cons (.v 3) .nil)))))) .nil) .nil) .nil)))) .nil)) (.cons (.ret (.fr (.srtS (.own 2)))) .nil)))))
def m_edges : Mg := ⟨fun | 0 => f_committed | 1 => f_outer_reads | 2 => f_next_writer | _ => noF, fun | 0 => v_KEYS | _ => .none, []⟩
def f_edges : List Ar → W Exc D := denD m_edges 1 12 b_edges
abbrev s_l_count : Stmt := top 25
def n_l_count : List Str := ["rows", "place", "work", "key", "deed"]
def p_l_count : List Str := ["rows", "place", "work", "key"]
def g_l_count : Tab := ⟨n_l_count, defScope s_l_count, defScope s_l_count, true, [], [], ["len"], [], []⟩
def b_l_count : IT := .cons (.ret (.f1 .len (.e (.fr (.lc [4] (.nm 4) (.seq (.sl (.e (.v 0)) .no (.one (.v 1)))) (.one (.cmp .eq (.e (.v 4)) (.e (.tup (.cons (.s "write") (.cons (.v 2) (.cons (.v 3) .nil))))))) (.v 4)))))) .nil
def m_l_count : Mg := ⟨fun | _ => noF, fun | _ => .none, []⟩
def f_l_count : List Ar → W Exc D := denD m_l_count 4 5 b_l_count
abbrev s_l_version : Stmt := top 26
def n_l_version : List Str := ["pool", "rows", "work", "key", "mode", "own", "place", "done", "writes", "every", "other", "deed", "version", "k"]
def p_l_version : List Str := ["pool", "rows", "work", "key", "mode"]
def g_l_version : Tab := ⟨n_l_version, defScope s_l_version, defScope s_l_version, true, ["_law_count", "_law_draw", "_law_pick"], [], ["len", "sorted", "set", "range"], [], []⟩
def b_l_version : IT := .cons (.set 5 (.call 0 (.d (.v 1) (.d (.f1 .len (.e (.v 1))) (.d (.v 2) (.d (.v 3) .nil)))))) (.cons (.ife (.cmp .gt (.e (.v 5)) (.e (.i 0))) (.cons (.ret (.tup (.cons (.v 2) (.cons (.v 5) .nil)))) .nil) .nil) (.cons (.set 6 (.ife (.cmp .eq (.e (.v 4)) (.e (.i 2))) (.idx (.e (.v 1)) (.e (.tup (.cons (.s "begin") (.cons (.v 2) .nil))))) (.f1 .len (.e (.v 1))))) (.cons (.setL 7 (.lc [11] (.nm 11) (.seq (.sl (.e (.v 1)) .no (.one (.v 6)))) (.one (.cmp .eq (.e (.ix (.e (.v 11)) (.e (.i 0)))) (.e (.s "commit")))) (.ix (.e (.v 11)) (.e (.i 1))))) (.cons (.setL 7 (.lc [10] (.nm 10) (.seq (.v 7)) (.one (.cmp .gt (.e (.call 0 (.d (.v 1) (.d (.f1 .len (.e (.v 1))) (.d (.v 10) (.d (.v 3) .nil)))))) (.e (.i 0)))) (.v 10))) (.cons (.ife (.cmp .inn (.e (.v 4)) (.e (.tup (.cons (.i 2) (.cons (.i 3) .nil))))) (.cons (.ret (.ife (.cmp .ne (.e (.v 7)) (.e (.fr (.lst .nil)))) (.tup (.cons (.ix (.e (.v 7)) (.e (.neg (.i 1)))) (.cons (.call 0 (.d (.v 1) (.d (.f1 .len (.e (.v 1))) (.d (.ix (.e (.v 7)) (.e (.neg (.i 1)))) (.d (.v 3) .nil))))) .nil))) (.tup (.cons (.i 0) (.cons (.i 0) .nil))))) .nil) .nil) (.cons (.setL 8 (.lc [11] (.nm 11) (.seq (.v 1)) (.one (.and (.more (.cmp .eq (.e (.ix (.e (.v 11)) (.e (.i 0)))) (.e (.s "write"))) (.one (.cmp .eq (.e (.ix (.e (.v 11)) (.e (.i 2)))) (.e (.v 3))))))) (.ix (.e (.v 11)) (.e (.i 1))))) (.cons (.ife (.cmp .eq (.e (.v 4)) (.e (.i 1))) (.cons (.ret (.ife (.cmp .ne (.e (.v 8)) (.e (.fr (.lst .nil)))) (.tup (.cons (.ix (.e (.v 8)) (.e (.neg (.i 1)))) (.cons (.call 0 (.d (.v 1) (.d (.f1 .len (.e (.v 1))) (.d (.ix (.e (.v 8)) (.e (.neg (.i 1)))) (.d (.v 3) .nil))))) .nil))) (.tup (.cons (.i 0) (.cons (.i 0) .nil))))) .nil) .nil) (.cons (.set 9 (.fr (.lst (.cons (.tup (.cons (.i 0) (.cons (.i 0) .nil))) .nil)))) (.cons (.for_ (.nm 10) (.seq (.fr (.srtS (.e (.v 8))))) (.cons (.set 9 (.fr (.cat (.e (.v 9)) (.e (.fr (.lc [13] (.nm 13) (.r1 (.call 0 (.d (.v 1) (.d (.f1 .len (.e (.v 1))) (.d (.v 10) (.d (.v 3) .nil)))))) .no (.tup (.cons (.v 10) (.cons (.bin .add (.e (.v 13)) (.e (.i 1))) .nil))))))))) .nil)) (.cons (.setL 7 (.lc [12] (.nm 12) (.seq (.v 9)) (.one (.or (.more (.cmp .eq (.e (.ix (.e (.v 12)) (.e (.i 0)))) (.e (.i 0))) (.one (.cmp .inn (.e (.tup (.cons (.s "commit") (.cons (.ix (.e (.v 12)) (.e (.i 0))) .nil)))) (.e (.v 1))))))) (.v 12))) (.cons (.ret (.ife (.cmp .eq (.e (.call 1 (.pool 0 (.d (.i 3) .nil)))) (.e (.i 0))) (.call 2 (.pool 0 (.d (.v 9) .nil))) (.call 2 (.pool 0 (.d (.v 7) .nil))))) .nil)))))))))))
def m_l_version : Mg := ⟨fun | 0 => f_l_count | 1 => f_l_draw | 2 => f_l_pick | _ => noF, fun | _ => .none, []⟩
def f_l_version : List Ar → W Exc D := denD m_l_version 5 14 b_l_version
abbrev s_l_row : Stmt := top 27
def n_l_row : List Str := ["pool", "most", "mode", "many", "keys", "left", "rows", "over", "turn", "work", "free", "k", "key"]
def p_l_row : List Str := ["pool", "most", "mode"]
def g_l_row : Tab := ⟨n_l_row, defScope s_l_row, defScope s_l_row, true, ["_law_draw", "_law_pick", "_law_version"], [], ["range"], [], []⟩
def b_l_row : IT := .cons (.set 3 (.bin .add (.e (.i 1)) (.e (.call 0 (.pool 0 (.d (.v 1) .nil)))))) (.cons (.set 4 (.bin .add (.e (.i 1)) (.e (.call 0 (.pool 0 (.d (.i 3) .nil)))))) (.cons (.setF 5 (.cat (.e (.fr (.lst (.cons (.i 0) .nil)))) (.e (.fr (.lc [11] (.nm 11) (.r1 (.v 3)) .no (.bin .add (.e (.i 1)) (.e (.call 0 (.pool 0 (.d (.i 4) .nil)))))))))) (.cons (.set 6 (.tup .nil)) (.cons (.setF 7 (.lst .nil)) (.cons (.for_ (.nm 8) (.r1 (.i 60)) (.cons (.setL 10 (.lc [9] (.nm 9) (.r2 (.i 1) (.bin .add (.e (.v 3)) (.e (.i 1)))) (.one (.cmp .nin (.e (.v 9)) (.own 7))) (.v 9))) (.cons (.ife (.cmp .eq (.e (.v 10)) (.e (.fr (.lst .nil)))) (.cons (.ret (.v 6)) .nil) .nil) (.cons (.set 9 (.ife (.cmp .lt (.e (.v 8)) (.e (.i 50))) (.call 1 (.pool 0 (.d (.v 10) .nil))) (.ix (.e (.v 10)) (.e (.i 0))))) (.cons (.ife (.cmp .nin (.e (.tup (.cons (.s "begin") (.cons (.v 9) .nil)))) (.e (.v 6))) (.cons (.set 6 (.bin .add (.e (.v 6)) (.e (.tup (.cons (.tup (.cons (.s "begin") (.cons (.v 9) .nil))) .nil))))) .nil) (.cons (.ife (.cmp .eq (.e (.ix (.own 5) (.e (.v 9)))) (.e (.i 0))) (.cons (.set 6 (.bin .add (.e (.v 6)) (.e (.tup (.cons (.tup (.cons (.ife (.cmp .eq (.e (.call 0 (.pool 0 (.d (.i 8) .nil)))) (.e (.i 0))) (.s "abort") (.s "commit")) (.cons (.v 9) .nil))) .nil))))) (.cons (.app 7 (.v 9)) .nil)) (.cons (.setI 5 (.v 9) (.bin .sub (.e (.ix (.own 5) (.e (.v 9)))) (.e (.i 1)))) (.cons (.set 12 (.call 0 (.pool 0 (.d (.v 4) .nil)))) (.cons (.ife (.cmp .eq (.e (.call 0 (.pool 0 (.d (.i 2) .nil)))) (.e (.i 0))) (.cons (.set 6 (.bin .add (.e (.v 6)) (.e (.tup (.cons (.tup (.cons (.s "write") (.cons (.v 9) (.cons (.v 12) .nil)))) .nil))))) .nil) (.cons (.set 6 (.bin .add (.e (.v 6)) (.e (.tup (.cons (.bin .add (.e (.tup (.cons (.s "read") (.cons (.v 9) (.cons (.v 12) .nil))))) (.e (.call 2 (.pool 0 (.d (.v 6) (.d (.v 9) (.d (.v 12) (.d (.v 2) .nil)))))))) .nil))))) .nil)) .nil)))) .nil)) .nil))))) (.cons (.for_ (.nm 9) (.r2 (.i 1) (.bin .add (.e (.v 3)) (.e (.i 1)))) (.cons (.ife (.and (.more (.cmp .nin (.e (.v 9)) (.own 7)) (.one (.cmp .inn (.e (.tup (.cons (.s "begin") (.cons (.v 9) .nil)))) (.e (.v 6)))))) (.cons (.set 6 (.bin .add (.e (.v 6)) (.e (.tup (.cons (.tup (.cons (.s "commit") (.cons (.v 9) .nil))) .nil))))) .nil) .nil) .nil)) (.cons (.ret (.v 6)) .nil)))))))
def m_l_row : Mg := ⟨fun | 0 => f_l_draw | 1 => f_l_pick | 2 => f_l_version | _ => noF, fun | _ => .none, []⟩
def f_l_row : List Ar → W Exc D := denD m_l_row 3 13 b_l_row
abbrev s_l_rows : Stmt := top 28
def n_l_rows : List Str := ["pool"]
def p_l_rows : List Str := ["pool"]
def g_l_rows : Tab := ⟨n_l_rows, defScope s_l_rows, defScope s_l_rows, true, ["_law_row", "_law_draw"], [], [], [], []⟩
def b_l_rows : IT := .cons (.ret (.call 0 (.pool 0 (.d (.i 4) (.d (.call 1 (.pool 0 (.d (.i 4) .nil))) .nil))))) .nil
def m_l_rows : Mg := ⟨fun | 0 => f_l_row | 1 => f_l_draw | _ => noF, fun | _ => .none, []⟩
def f_l_rows : List Ar → W Exc D := denD m_l_rows 1 1 b_l_rows
abbrev s_l_last : Stmt := top 29
def n_l_last : List Str := ["rows", "work", "key"]
def p_l_last : List Str := ["rows", "work", "key"]
def g_l_last : Tab := ⟨n_l_last, defScope s_l_last, defScope s_l_last, true, ["_law_count"], [], ["len"], [], []⟩
def b_l_last : IT := .cons (.ret (.call 0 (.d (.v 0) (.d (.f1 .len (.e (.v 0))) (.d (.v 1) (.d (.v 2) .nil)))))) .nil
def m_l_last : Mg := ⟨fun | 0 => f_l_count | _ => noF, fun | _ => .none, []⟩
def f_l_last : List Ar → W Exc D := denD m_l_last 3 3 b_l_last
abbrev s_l_writers : Stmt := top 30
def n_l_writers : List Str := ["rows", "key", "deed"]
def p_l_writers : List Str := ["rows", "key"]
def g_l_writers : Tab := ⟨n_l_writers, defScope s_l_writers, defScope s_l_writers, true, ["_law_last"], [], [], [], []⟩
def b_l_writers : IT := .cons (.ret (.fr (.lc [2] (.nm 2) (.seq (.v 0)) (.one (.and (.more (.cmp .eq (.e (.ix (.e (.v 2)) (.e (.i 0)))) (.e (.s "commit"))) (.one (.cmp .gt (.e (.call 0 (.d (.v 0) (.d (.ix (.e (.v 2)) (.e (.i 1))) (.d (.v 1) .nil))))) (.e (.i 0))))))) (.ix (.e (.v 2)) (.e (.i 1)))))) .nil
def m_l_writers : Mg := ⟨fun | 0 => f_l_last | _ => noF, fun | _ => .none, []⟩
def f_l_writers : List Ar → W Exc D := denD m_l_writers 2 3 b_l_writers
abbrev s_l_by_commits : Stmt := top 31
def n_l_by_commits : List Str := ["rows", "key"]
def p_l_by_commits : List Str := ["rows"]
def g_l_by_commits : Tab := ⟨n_l_by_commits, defScope s_l_by_commits, defScope s_l_by_commits, true, ["_law_writers"], [], ["tuple", "range"], [], []⟩
def b_l_by_commits : IT := .cons (.ret (.tup (.cons (.v 0) (.cons (.f1 .tup (.e (.fr (.lc [1] (.nm 1) (.r1 (.i 4)) .no (.bin .add (.e (.tup (.cons (.i 0) .nil))) (.e (.f1 .tup (.e (.call 0 (.d (.v 0) (.d (.v 1) .nil))))))))))) .nil)))) .nil
def m_l_by_commits : Mg := ⟨fun | 0 => f_l_writers | _ => noF, fun | _ => .none, []⟩
def f_l_by_commits : List Ar → W Exc D := denD m_l_by_commits 1 2 b_l_by_commits
abbrev s_l_shuffled : Stmt := top 24
def n_l_shuffled : List Str := ["pool", "items", "left", "found"]
def p_l_shuffled : List Str := ["pool", "items"]
def g_l_shuffled : Tab := ⟨n_l_shuffled, defScope s_l_shuffled, defScope s_l_shuffled, true, ["_law_draw"], [], ["list", "len"], [], []⟩
def b_l_shuffled : IT := .cons (.setF 2 (.list (.e (.v 1)))) (.cons (.setF 3 (.lst .nil)) (.cons (.whl (.cmp .ne (.own 2) (.e (.fr (.lst .nil)))) (.cons (.appPop 3 2 (.call 0 (.pool 0 (.d (.f1 .len (.own 2)) .nil)))) .nil)) (.cons (.frz 3 (.ret (.v 3))) .nil)))
def m_l_shuffled : Mg := ⟨fun | 0 => f_l_draw | _ => noF, fun | _ => .none, []⟩
def f_l_shuffled : List Ar → W Exc D := denD m_l_shuffled 2 4 b_l_shuffled
abbrev s_l_history : Stmt := top 32
def n_l_history : List Str := ["pool", "rows", "key"]
def p_l_history : List Str := ["pool"]
def g_l_history : Tab := ⟨n_l_history, defScope s_l_history, defScope s_l_history, true, ["_law_rows", "_law_draw", "_law_by_commits", "_law_shuffled", "_law_writers"], [], ["tuple", "range"], [], []⟩
def b_l_history : IT := .cons (.set 1 (.call 0 (.pool 0 .nil))) (.cons (.ife (.cmp .gt (.e (.call 1 (.pool 0 (.d (.i 3) .nil)))) (.e (.i 0))) (.cons (.ret (.call 2 (.d (.v 1) .nil))) .nil) .nil) (.cons (.ret (.tup (.cons (.v 1) (.cons (.f1 .tup (.e (.fr (.lc [2] (.nm 2) (.r1 (.i 4)) .no (.bin .add (.e (.tup (.cons (.i 0) .nil))) (.e (.f1 .tup (.e (.call 3 (.pool 0 (.d (.call 4 (.d (.v 1) (.d (.v 2) .nil))) .nil))))))))))) .nil)))) .nil))
def m_l_history : Mg := ⟨fun | 0 => f_l_rows | 1 => f_l_draw | 2 => f_l_by_commits | 3 => f_l_shuffled | 4 => f_l_writers | _ => noF, fun | _ => .none, []⟩
def f_l_history : List Ar → W Exc D := denD m_l_history 1 3 b_l_history
abbrev s_is_let : Stmt := top 13
def n_is_let : List Str := ["word", "state", "edge"]
def p_is_let : List Str := ["word", "state", "edge"]
def g_is_let : Tab := ⟨n_is_let, defScope s_is_let, defScope s_is_let, true, [], [], ["min"], [], []⟩
def b_is_let : IT := .cons (.ife (.cmp .ne (.e (.ix (.e (.v 2)) (.e (.i 0)))) (.e (.s "rw"))) (.cons (.ife (.and (.more (.cmp .eq (.e (.v 0)) (.e (.s "overwrite"))) (.one (.cmp .ne (.e (.ix (.e (.v 2)) (.e (.i 0)))) (.e (.s "ww")))))) (.cons (.ret .none) .nil) .nil) (.cons (.ret (.tup (.cons (.ix (.e (.v 1)) (.e (.i 0))) (.cons (.ix (.e (.v 1)) (.e (.i 1))) (.cons (.s "plain") .nil))))) .nil)) .nil) (.cons (.ife (.or (.more (.cmp .inn (.e (.v 0)) (.e (.tup (.cons (.s "overwrite") (.cons (.s "circle") .nil))))) (.one (.and (.more (.cmp .eq (.e (.v 0)) (.e (.s "single"))) (.one (.cmp .eq (.e (.ix (.e (.v 1)) (.e (.i 0)))) (.e (.i 1))))))))) (.cons (.ret .none) .nil) .nil) (.cons (.ife (.and (.more (.cmp .eq (.e (.v 0)) (.e (.s "apart"))) (.one (.cmp .eq (.e (.ix (.e (.v 1)) (.e (.i 2)))) (.e (.s "rw")))))) (.cons (.ret .none) .nil) .nil) (.cons (.ret (.tup (.cons (.f2 .min (.e (.bin .add (.e (.ix (.e (.v 1)) (.e (.i 0)))) (.e (.i 1)))) (.e (.i 2))) (.cons (.or (.more (.ix (.e (.v 1)) (.e (.i 1))) (.one (.cmp .eq (.e (.ix (.e (.v 1)) (.e (.i 2)))) (.e (.s "")))))) (.cons (.s "rw") .nil))))) .nil)))
def m_is_let : Mg := ⟨fun | _ => noF, fun | _ => .none, []⟩
def f_is_let : List Ar → W Exc D := denD m_is_let 3 3 b_is_let
abbrev s_is_done : Stmt := top 14
def n_is_done : List Str := ["word", "state"]
def p_is_done : List Str := ["word", "state"]
def g_is_done : Tab := ⟨n_is_done, defScope s_is_done, defScope s_is_done, true, [], [], [], [], []⟩
def b_is_done : IT := .cons (.ife (.cmp .eq (.e (.v 0)) (.e (.s "single"))) (.cons (.ret (.cmp .eq (.e (.ix (.e (.v 1)) (.e (.i 0)))) (.e (.i 1)))) .nil) .nil) (.cons (.ife (.cmp .eq (.e (.v 0)) (.e (.s "any"))) (.cons (.ret (.cmp .gt (.e (.ix (.e (.v 1)) (.e (.i 0)))) (.e (.i 0)))) .nil) .nil) (.cons (.ret (.or (.more (.cmp .ne (.e (.v 0)) (.e (.s "apart"))) (.one (.and (.more (.cmp .gt (.e (.ix (.e (.v 1)) (.e (.i 0)))) (.e (.i 0))) (.one (.not (.e (.and (.more (.ix (.e (.v 1)) (.e (.i 1))) (.one (.cmp .eq (.e (.ix (.e (.v 1)) (.e (.i 2)))) (.e (.s "rw"))))))))))))))) .nil))
def m_is_done : Mg := ⟨fun | _ => noF, fun | _ => .none, []⟩
def f_is_done : List Ar → W Exc D := denD m_is_done 2 2 b_is_done
abbrev s_ring_from : Stmt := top 15
def n_ring_from : List Str := ["all_edges", "word", "start", "waiting", "seen", "edge", "way", "here", "state", "after"]
def p_ring_from : List Str := ["all_edges", "word", "start"]
def g_ring_from : Tab := ⟨n_ring_from, defScope s_ring_from, defScope s_ring_from, true, ["is_let", "is_done"], [], ["len"], [], []⟩
def b_ring_from : IT := .cons (.setF 3 (.lst (.cons (.tup (.cons (.tup .nil) (.cons (.v 2) (.cons (.tup (.cons (.i 0) (.cons (.b false) (.cons (.s "") .nil)))) .nil)))) .nil))) (.cons (.setF 4 (.lst .nil)) (.cons (.whl (.cmp .gt (.e (.f1 .len (.own 3))) (.e (.i 0))) (.cons (.pop 3 (.i 0) (.tup [6, 7, 8])) (.cons (.for_ (.nm 5) (.seq (.v 0)) (.cons (.set 9 (.ife (.cmp .eq (.e (.ix (.e (.v 5)) (.e (.i 1)))) (.e (.v 7))) (.call 0 (.d (.v 1) (.d (.v 8) (.d (.v 5) .nil)))) .none)) (.cons (.ife (.cmp .isn (.e (.v 9)) (.e .none)) (.cons (.ife (.and (.more (.cmp .eq (.e (.ix (.e (.v 5)) (.e (.i 2)))) (.e (.v 2))) (.one (.tru (.e (.call 1 (.d (.v 1) (.d (.v 9) .nil)))))))) (.cons (.ret (.bin .add (.e (.v 6)) (.e (.tup (.cons (.v 5) .nil))))) .nil) .nil) (.cons (.ife (.cmp .nin (.e (.tup (.cons (.ix (.e (.v 5)) (.e (.i 2))) (.cons (.v 9) .nil)))) (.own 4)) (.cons (.app 4 (.tup (.cons (.ix (.e (.v 5)) (.e (.i 2))) (.cons (.v 9) .nil)))) (.cons (.app 3 (.tup (.cons (.bin .add (.e (.v 6)) (.e (.tup (.cons (.v 5) .nil)))) (.cons (.ix (.e (.v 5)) (.e (.i 2))) (.cons (.v 9) .nil))))) .nil)) .nil) .nil)) .nil) .nil))) .nil))) (.cons (.ret .none) .nil)))
def m_ring_from : Mg := ⟨fun | 0 => f_is_let | 1 => f_is_done | _ => noF, fun | _ => .none, []⟩
def f_ring_from : List Ar → W Exc D := denD m_ring_from 3 10 b_ring_from
abbrev s_shortest_ring : Stmt := top 16
def n_shortest_ring : List Str := ["all_edges", "word", "starts", "rings", "least", "start", "ring", "edge"]
def p_shortest_ring : List Str := ["all_edges", "word"]
def g_shortest_ring : Tab := ⟨n_shortest_ring, defScope s_shortest_ring, defScope s_shortest_ring, true, ["ring_from"], ["RINGS"], ["sorted", "set", "len", "min"], ["NotAllowed"], []⟩
def b_shortest_ring : IT := .cons (.ife (.cmp .nin (.e (.v 1)) (.e (.g 0))) (.cons (.raise_ "NotAllowed" (.cons (.v 1) .nil)) .nil) .nil) (.cons (.set 2 (.fr (.srtS (.e (.fr (.lc [7] (.nm 7) (.seq (.v 0)) .no (.ix (.e (.v 7)) (.e (.i 1))))))))) (.cons (.setL 3 (.lc [5] (.nm 5) (.seq (.v 2)) .no (.call 0 (.d (.v 0) (.d (.v 1) (.d (.v 5) .nil)))))) (.cons (.setL 3 (.lc [6] (.nm 6) (.seq (.v 3)) (.one (.cmp .isn (.e (.v 6)) (.e .none))) (.v 6))) (.cons (.ife (.cmp .eq (.e (.f1 .len (.e (.v 3)))) (.e (.i 0))) (.cons (.ret .none) .nil) .nil) (.cons (.set 4 (.f1 .min (.e (.fr (.lc [6] (.nm 6) (.seq (.v 3)) .no (.f1 .len (.e (.v 6)))))))) (.cons (.ret (.ix (.e (.fr (.lc [6] (.nm 6) (.seq (.v 3)) (.one (.cmp .eq (.e (.f1 .len (.e (.v 6)))) (.e (.v 4)))) (.v 6)))) (.e (.i 0)))) .nil))))))
def m_shortest_ring : Mg := ⟨fun | 0 => f_ring_from | _ => noF, fun | 0 => v_RINGS | _ => .none, ["NotAllowed"]⟩
def f_shortest_ring : List Ar → W Exc D := denD m_shortest_ring 2 8 b_shortest_ring
abbrev s_l_next : Stmt := top 33
def n_l_next : List Str := ["word", "state", "edge", "rw", "first", "last"]
def p_l_next : List Str := ["word", "state", "edge"]
def g_l_next : Tab := ⟨n_l_next, defScope s_l_next, defScope s_l_next, true, [], [], ["min"], [], []⟩
def b_l_next : IT := .cons (.asg (.tup [3, 4, 5]) (.v 1)) (.cons (.ife (.cmp .ne (.e (.ix (.e (.v 2)) (.e (.i 0)))) (.e (.s "rw"))) (.cons (.ret (.ife (.and (.more (.cmp .eq (.e (.v 0)) (.e (.s "overwrite"))) (.one (.cmp .ne (.e (.ix (.e (.v 2)) (.e (.i 0)))) (.e (.s "ww")))))) .none (.tup (.cons (.v 3) (.cons (.v 4) (.cons (.s "plain") .nil)))))) .nil) .nil) (.cons (.ife (.or (.more (.cmp .inn (.e (.v 0)) (.e (.tup (.cons (.s "overwrite") (.cons (.s "circle") .nil))))) (.more (.and (.more (.cmp .eq (.e (.v 0)) (.e (.s "single"))) (.one (.cmp .eq (.e (.v 3)) (.e (.i 1)))))) (.one (.and (.more (.cmp .eq (.e (.v 0)) (.e (.s "apart"))) (.one (.cmp .eq (.e (.v 5)) (.e (.s "rw")))))))))) (.cons (.ret .none) .nil) .nil) (.cons (.ret (.tup (.cons (.f2 .min (.e (.i 2)) (.e (.bin .add (.e (.v 3)) (.e (.i 1))))) (.cons (.or (.more (.v 4) (.one (.cmp .eq (.e (.v 5)) (.e (.s "")))))) (.cons (.s "rw") .nil))))) .nil)))
def m_l_next : Mg := ⟨fun | _ => noF, fun | _ => .none, []⟩
def f_l_next : List Ar → W Exc D := denD m_l_next 3 6 b_l_next
abbrev s_l_closes : Stmt := top 34
def n_l_closes : List Str := ["word", "state", "rw", "first", "last"]
def p_l_closes : List Str := ["word", "state"]
def g_l_closes : Tab := ⟨n_l_closes, defScope s_l_closes, defScope s_l_closes, true, [], [], [], [], []⟩
def b_l_closes : IT := .cons (.asg (.tup [2, 3, 4]) (.v 1)) (.cons (.ife (.or (.more (.cmp .eq (.e (.v 0)) (.e (.s "single"))) (.one (.cmp .eq (.e (.v 0)) (.e (.s "any")))))) (.cons (.ret (.ife (.cmp .eq (.e (.v 0)) (.e (.s "single"))) (.cmp .eq (.e (.v 2)) (.e (.i 1))) (.cmp .gt (.e (.v 2)) (.e (.i 0))))) .nil) .nil) (.cons (.ret (.or (.more (.cmp .ne (.e (.v 0)) (.e (.s "apart"))) (.one (.and (.more (.cmp .gt (.e (.v 2)) (.e (.i 0))) (.one (.not (.e (.and (.more (.v 3) (.one (.cmp .eq (.e (.v 4)) (.e (.s "rw"))))))))))))))) .nil))
def m_l_closes : Mg := ⟨fun | _ => noF, fun | _ => .none, []⟩
def f_l_closes : List Ar → W Exc D := denD m_l_closes 2 5 b_l_closes
abbrev s_l_any : Stmt := top 39
def n_l_any : List Str := ["lines", "word", "length", "starts", "start", "level", "k", "later", "here", "state", "edge", "after"]
def p_l_any : List Str := ["lines", "word", "length"]
def g_l_any : Tab := ⟨n_l_any, defScope s_l_any, defScope s_l_any, true, ["_law_next", "_law_closes"], [], ["sorted", "set", "range", "len"], [], []⟩
def b_l_any : IT := .cons (.set 3 (.fr (.srtS (.e (.fr (.lc [10] (.nm 10) (.seq (.v 0)) .no (.ix (.e (.v 10)) (.e (.i 1))))))))) (.cons (.for_ (.nm 4) (.seq (.v 3)) (.cons (.set 5 (.fr (.lst (.cons (.tup (.cons (.v 4) (.cons (.tup (.cons (.i 0) (.cons (.b false) (.cons (.s "") .nil)))) .nil))) .nil)))) (.cons (.for_ (.nm 6) (.r1 (.v 2)) (.cons (.setF 7 (.lst .nil)) (.cons (.for_ (.tup [8, 9]) (.seq (.v 5)) (.cons (.for_ (.nm 10) (.seq (.v 0)) (.cons (.set 11 (.ife (.cmp .eq (.e (.ix (.e (.v 10)) (.e (.i 1)))) (.e (.v 8))) (.call 0 (.d (.v 1) (.d (.v 9) (.d (.v 10) .nil)))) .none)) (.cons (.ife (.and (.more (.cmp .isn (.e (.v 11)) (.e .none)) (.one (.cmp .nin (.e (.tup (.cons (.ix (.e (.v 10)) (.e (.i 2))) (.cons (.v 11) .nil)))) (.own 7))))) (.cons (.app 7 (.tup (.cons (.ix (.e (.v 10)) (.e (.i 2))) (.cons (.v 11) .nil)))) .nil) .nil) .nil))) .nil)) (.cons (.frz 7 (.set 5 (.v 7))) (.cons (.ife (.cmp .gt (.e (.f1 .len (.e (.fr (.lc [8, 9] (.tup [8, 9]) (.seq (.v 5)) (.one (.and (.more (.cmp .eq (.e (.v 8)) (.e (.v 4))) (.one (.tru (.e (.call 1 (.d (.v 1) (.d (.v 9) .nil))))))))) (.i 1)))))) (.e (.i 0))) (.cons (.ret (.b true)) .nil) .nil) .nil))))) .nil))) (.cons (.ret (.b false)) .nil))
def m_l_any : Mg := ⟨fun | 0 => f_l_next | 1 => f_l_closes | _ => noF, fun | _ => .none, []⟩
def f_l_any : List Ar → W Exc D := denD m_l_any 3 12 b_l_any
abbrev s_l_same : Stmt := top 19
def n_l_same : List Str := ["actual", "due", "k"]
def p_l_same : List Str := ["actual", "due"]
def g_l_same : Tab := ⟨n_l_same, defScope s_l_same, defScope s_l_same, true, ["_law_same"], [], ["isinstance", "list", "tuple", "len", "range", "bool", "int", "str"], [], []⟩
def b_l_same : IT := .cons (.ife (.or (.more (.tru (.e (.isi .tuple (.e (.v 1))))) (.one (.tru (.e (.isi .list (.e (.v 1)))))))) (.cons (.ife (.or (.more (.cmp .ne (.e (.isi .tuple (.e (.v 1)))) (.e (.isi .tuple (.e (.v 0))))) (.more (.cmp .ne (.e (.isi .list (.e (.v 1)))) (.e (.isi .list (.e (.v 0))))) (.one (.cmp .ne (.e (.f1 .len (.e (.v 0)))) (.e (.f1 .len (.e (.v 1))))))))) (.cons (.ret (.b false)) .nil) .nil) (.cons (.ret (.cmp .eq (.e (.f1 .len (.e (.fr (.lc [2] (.nm 2) (.r1 (.f1 .len (.e (.v 1)))) (.one (.not (.tru (.e (.call 0 (.d (.ix (.e (.v 0)) (.e (.v 2))) (.d (.ix (.e (.v 1)) (.e (.v 2))) .nil))))))) (.v 2)))))) (.e (.i 0)))) .nil)) .nil) (.cons (.ife (.cmp .is (.e (.v 1)) (.e .none)) (.cons (.ret (.cmp .is (.e (.v 0)) (.e .none))) .nil) .nil) (.cons (.ife (.or (.more (.tru (.e (.isi .bool (.e (.v 1))))) (.one (.tru (.e (.isi .bool (.e (.v 0)))))))) (.cons (.ret (.and (.more (.isi .bool (.e (.v 1))) (.more (.isi .bool (.e (.v 0))) (.one (.cmp .eq (.e (.v 0)) (.e (.v 1)))))))) .nil) .nil) (.cons (.ife (.tru (.e (.isi .int (.e (.v 1))))) (.cons (.ret (.and (.more (.isi .int (.e (.v 0))) (.one (.cmp .eq (.e (.v 0)) (.e (.v 1))))))) .nil) .nil) (.cons (.ret (.and (.more (.isi .str (.e (.v 0))) (.more (.isi .str (.e (.v 1))) (.one (.cmp .eq (.e (.v 0)) (.e (.v 1)))))))) .nil))))
def m_l_same (F : List Ar → W Exc D) : Mg := ⟨fun | 0 => F | _ => noF, fun | _ => .none, []⟩
def f_l_same : Nat → List Ar → W Exc D
  | 0 => noF
  | n + 1 => denD (m_l_same (f_l_same n)) 2 3 b_l_same
abbrev s_l_ring_from : Stmt := top 35
def n_l_ring_from : List Str := ["lines", "word", "start", "ways", "seen", "k", "edge", "way", "here", "state", "after"]
def p_l_ring_from : List Str := ["lines", "word", "start"]
def g_l_ring_from : Tab := ⟨n_l_ring_from, defScope s_l_ring_from, defScope s_l_ring_from, true, ["_law_next", "_law_closes"], [], ["len"], [], []⟩
def b_l_ring_from : IT := .cons (.setF 3 (.lst (.cons (.tup (.cons (.tup .nil) (.cons (.v 2) (.cons (.tup (.cons (.i 0) (.cons (.b false) (.cons (.s "") .nil)))) .nil)))) .nil))) (.cons (.setF 4 (.lst .nil)) (.cons (.set 5 (.i 0)) (.cons (.whl (.cmp .lt (.e (.v 5)) (.e (.f1 .len (.own 3)))) (.cons (.asg (.tup [7, 8, 9]) (.ix (.own 3) (.e (.v 5)))) (.cons (.set 5 (.bin .add (.e (.v 5)) (.e (.i 1)))) (.cons (.for_ (.nm 6) (.seq (.v 0)) (.cons (.set 10 (.ife (.cmp .eq (.e (.ix (.e (.v 6)) (.e (.i 1)))) (.e (.v 8))) (.call 0 (.d (.v 1) (.d (.v 9) (.d (.v 6) .nil)))) .none)) (.cons (.ife (.and (.more (.cmp .isn (.e (.v 10)) (.e .none)) (.more (.cmp .eq (.e (.ix (.e (.v 6)) (.e (.i 2)))) (.e (.v 2))) (.one (.tru (.e (.call 1 (.d (.v 1) (.d (.v 10) .nil))))))))) (.cons (.ret (.bin .add (.e (.v 7)) (.e (.tup (.cons (.v 6) .nil))))) .nil) .nil) (.cons (.ife (.and (.more (.cmp .isn (.e (.v 10)) (.e .none)) (.one (.cmp .nin (.e (.tup (.cons (.ix (.e (.v 6)) (.e (.i 2))) (.cons (.v 10) .nil)))) (.own 4))))) (.cons (.app 4 (.tup (.cons (.ix (.e (.v 6)) (.e (.i 2))) (.cons (.v 10) .nil)))) (.cons (.app 3 (.tup (.cons (.bin .add (.e (.v 7)) (.e (.tup (.cons (.v 6) .nil)))) (.cons (.ix (.e (.v 6)) (.e (.i 2))) (.cons (.v 10) .nil))))) .nil)) .nil) .nil)))) .nil)))) (.cons (.ret .none) .nil))))
def m_l_ring_from : Mg := ⟨fun | 0 => f_l_next | 1 => f_l_closes | _ => noF, fun | _ => .none, []⟩
def f_l_ring_from : List Ar → W Exc D := denD m_l_ring_from 3 11 b_l_ring_from
abbrev s_l_ring : Stmt := top 36
def n_l_ring : List Str := ["lines", "word", "found", "least", "start", "ring", "edge"]
def p_l_ring : List Str := ["lines", "word"]
def g_l_ring : Tab := ⟨n_l_ring, defScope s_l_ring, defScope s_l_ring, true, ["_law_ring_from"], [], ["sorted", "set", "min", "len"], [], []⟩
def b_l_ring : IT := .cons (.setL 2 (.lc [4] (.nm 4) (.seq (.fr (.srtS (.e (.fr (.lc [6] (.nm 6) (.seq (.v 0)) .no (.ix (.e (.v 6)) (.e (.i 1))))))))) .no (.call 0 (.d (.v 0) (.d (.v 1) (.d (.v 4) .nil)))))) (.cons (.setL 2 (.lc [5] (.nm 5) (.seq (.v 2)) (.one (.cmp .isn (.e (.v 5)) (.e .none))) (.v 5))) (.cons (.set 3 (.ife (.cmp .ne (.e (.v 2)) (.e (.fr (.lst .nil)))) (.f1 .min (.e (.fr (.lc [5] (.nm 5) (.seq (.v 2)) .no (.f1 .len (.e (.v 5))))))) (.i 0))) (.cons (.ret (.ife (.cmp .ne (.e (.v 2)) (.e (.fr (.lst .nil)))) (.ix (.e (.fr (.lc [5] (.nm 5) (.seq (.v 2)) (.one (.cmp .eq (.e (.f1 .len (.e (.v 5)))) (.e (.v 3)))) (.v 5)))) (.e (.i 0))) .none)) .nil)))
def m_l_ring : Mg := ⟨fun | 0 => f_l_ring_from | _ => noF, fun | _ => .none, []⟩
def f_l_ring : List Ar → W Exc D := denD m_l_ring 2 7 b_l_ring
abbrev s_l_is_ring : Stmt := top 37
def n_l_is_ring : List Str := ["lines", "word", "value", "rws", "k", "edge"]
def p_l_is_ring : List Str := ["lines", "word", "value"]
def g_l_is_ring : Tab := ⟨n_l_is_ring, defScope s_l_is_ring, defScope s_l_is_ring, true, [], [], ["len", "isinstance", "tuple", "range"], [], []⟩
def b_l_is_ring : IT := .cons (.ife (.or (.more (.not (.tru (.e (.isi .tuple (.e (.v 2)))))) (.more (.cmp .eq (.e (.v 2)) (.e (.tup .nil))) (.one (.cmp .gt (.e (.f1 .len (.e (.fr (.lc [5] (.nm 5) (.seq (.v 2)) (.one (.cmp .nin (.e (.v 5)) (.e (.v 0)))) (.v 5)))))) (.e (.i 0))))))) (.cons (.ret (.b false)) .nil) .nil) (.cons (.ife (.cmp .gt (.e (.f1 .len (.e (.fr (.lc [4] (.nm 4) (.r1 (.f1 .len (.e (.v 2)))) (.one (.cmp .ne (.e (.ix (.e (.ix (.e (.v 2)) (.e (.v 4)))) (.e (.i 2)))) (.e (.ix (.e (.ix (.e (.v 2)) (.e (.bin .mod (.e (.bin .add (.e (.v 4)) (.e (.i 1)))) (.e (.f1 .len (.e (.v 2)))))))) (.e (.i 1)))))) (.v 4)))))) (.e (.i 0))) (.cons (.ret (.b false)) .nil) .nil) (.cons (.setL 3 (.lc [4] (.nm 4) (.r1 (.f1 .len (.e (.v 2)))) (.one (.cmp .eq (.e (.ix (.e (.ix (.e (.v 2)) (.e (.v 4)))) (.e (.i 0)))) (.e (.s "rw")))) (.v 4))) (.cons (.ife (.cmp .eq (.e (.v 1)) (.e (.s "overwrite"))) (.cons (.ret (.cmp .eq (.e (.f1 .len (.e (.fr (.lc [5] (.nm 5) (.seq (.v 2)) (.one (.cmp .ne (.e (.ix (.e (.v 5)) (.e (.i 0)))) (.e (.s "ww")))) (.v 5)))))) (.e (.i 0)))) .nil) .nil) (.cons (.ife (.or (.more (.cmp .eq (.e (.v 1)) (.e (.s "circle"))) (.one (.cmp .eq (.e (.v 1)) (.e (.s "single")))))) (.cons (.ret (.cmp .eq (.e (.f1 .len (.e (.v 3)))) (.e (.ife (.cmp .eq (.e (.v 1)) (.e (.s "circle"))) (.i 0) (.i 1))))) .nil) .nil) (.cons (.ife (.cmp .eq (.e (.v 1)) (.e (.s "any"))) (.cons (.ret (.cmp .gt (.e (.f1 .len (.e (.v 3)))) (.e (.i 0)))) .nil) .nil) (.cons (.ret (.and (.more (.cmp .gt (.e (.f1 .len (.e (.v 3)))) (.e (.i 0))) (.one (.cmp .eq (.e (.f1 .len (.e (.fr (.lc [4] (.nm 4) (.seq (.v 3)) (.one (.cmp .eq (.e (.ix (.e (.ix (.e (.v 2)) (.e (.bin .mod (.e (.bin .add (.e (.v 4)) (.e (.i 1)))) (.e (.f1 .len (.e (.v 2)))))))) (.e (.i 0)))) (.e (.s "rw")))) (.v 4)))))) (.e (.i 0))))))) .nil))))))
def m_l_is_ring : Mg := ⟨fun | _ => noF, fun | _ => .none, []⟩
def f_l_is_ring : List Ar → W Exc D := denD m_l_is_ring 3 6 b_l_is_ring
abbrev s_is_ring : Stmt := top 17
def n_is_ring : List Str := ["all_edges", "word", "value", "state", "edge", "k"]
def p_is_ring : List Str := ["all_edges", "word", "value"]
def g_is_ring : Tab := ⟨n_is_ring, defScope s_is_ring, defScope s_is_ring, true, ["is_let", "is_done"], ["RINGS"], ["all", "len", "isinstance", "tuple", "any", "range"], ["NotAllowed"], []⟩
def b_is_ring : IT := .cons (.ife (.cmp .nin (.e (.v 1)) (.e (.g 0))) (.cons (.raise_ "NotAllowed" (.cons (.v 1) .nil)) .nil) .nil) (.cons (.ife (.or (.more (.not (.tru (.e (.isi .tuple (.e (.v 2)))))) (.more (.cmp .eq (.e (.f1 .len (.e (.v 2)))) (.e (.i 0))) (.one (.not (.tru (.e (.f1 .all (.e (.fr (.lc [4] (.nm 4) (.seq (.v 2)) .no (.cmp .inn (.e (.v 4)) (.e (.v 0)))))))))))))) (.cons (.ret (.b false)) .nil) .nil) (.cons (.ife (.tru (.e (.f1 .any (.e (.fr (.lc [5] (.nm 5) (.r1 (.f1 .len (.e (.v 2)))) .no (.cmp .ne (.e (.ix (.e (.ix (.e (.v 2)) (.e (.v 5)))) (.e (.i 2)))) (.e (.ix (.e (.ix (.e (.v 2)) (.e (.bin .mod (.e (.bin .add (.e (.v 5)) (.e (.i 1)))) (.e (.f1 .len (.e (.v 2)))))))) (.e (.i 1))))))))))) (.cons (.ret (.b false)) .nil) .nil) (.cons (.set 3 (.tup (.cons (.i 0) (.cons (.b false) (.cons (.s "") .nil))))) (.cons (.for_ (.nm 4) (.seq (.v 2)) (.cons (.set 3 (.call 0 (.d (.v 1) (.d (.v 3) (.d (.v 4) .nil))))) (.cons (.ife (.cmp .is (.e (.v 3)) (.e .none)) (.cons (.ret (.b false)) .nil) .nil) .nil))) (.cons (.ret (.call 1 (.d (.v 1) (.d (.v 3) .nil)))) .nil)))))
def m_is_ring : Mg := ⟨fun | 0 => f_is_let | 1 => f_is_done | _ => noF, fun | 0 => v_RINGS | _ => .none, ["NotAllowed"]⟩
def f_is_ring : List Ar → W Exc D := denD m_is_ring 3 6 b_is_ring
abbrev s_l_refused : Stmt := top 40
def n_l_refused : List Str := ["word", "found", "k"]
def p_l_refused : List Str := ["word"]
def g_l_refused : Tab := ⟨n_l_refused, defScope s_l_refused, defScope s_l_refused, true, ["shortest_ring", "is_ring"], [], ["range"], ["NotAllowed"], []⟩
def b_l_refused : IT := .cons (.set 1 (.i 0)) (.cons (.for_ (.nm 2) (.r1 (.i 2)) (.cons (.try_ "NotAllowed" (.cons (.ife (.cmp .eq (.e (.v 2)) (.e (.i 0))) (.cons (.drop (.call 0 (.d (.fr (.lst .nil)) (.d (.v 0) .nil)))) .nil) (.cons (.drop (.call 1 (.d (.fr (.lst .nil)) (.d (.v 0) (.d (.tup .nil) .nil))))) .nil)) .nil) (.cons (.set 1 (.bin .add (.e (.v 1)) (.e (.i 1)))) .nil)) .nil)) (.cons (.ret (.cmp .eq (.e (.v 1)) (.e (.i 2)))) .nil))
def m_l_refused : Mg := ⟨fun | 0 => f_shortest_ring | 1 => f_is_ring | _ => noF, fun | _ => .none, ["NotAllowed"]⟩
def f_l_refused : List Ar → W Exc D := denD m_l_refused 1 3 b_l_refused
abbrev s_law : Stmt := top 41
def n_law : List Str := ["script", "pool", "turn", "every", "word", "ring", "rings", "value", "other", "one"]
def p_law : List Str := ["script"]
def g_law : Tab := ⟨n_law, defScope s_law, defScope s_law, true, ["_law_some_edges", "edges", "_law_history", "shortest_ring", "_law_any", "_law_same", "_law_ring", "_law_is_ring", "is_ring", "_law_refused"], [], ["range", "len", "list"], [], []⟩
def b_law : IT := .cons (.for_ (.nm 2) (.r1 (.i 4)) (.cons (.set 3 (.ife (.cmp .lt (.e (.v 2)) (.e (.i 3))) (.call 0 (.pool 1 (.d (.i 5) .nil))) (.call 1 (.d (.call 2 (.pool 1 .nil)) .nil)))) (.cons (.for_ (.nm 4) (.seq (.tup (.cons (.s "any") (.cons (.s "apart") (.cons (.s "circle") (.cons (.s "overwrite") (.cons (.s "single") .nil))))))) (.cons (.set 5 (.call 3 (.d (.v 3) (.d (.v 4) .nil)))) (.cons (.ife (.or (.more (.not (.tru (.e (.call 5 (.d (.v 5) (.d (.call 6 (.d (.v 3) (.d (.v 4) .nil))) .nil)))))) (.one (.cmp .ne (.e (.cmp .isn (.e (.v 5)) (.e .none))) (.e (.call 4 (.d (.v 3) (.d (.v 4) (.d (.i 14) .nil))))))))) (.cons (.ret (.b false)) .nil) .nil) (.cons (.ife (.and (.more (.cmp .isn (.e (.v 5)) (.e .none)) (.one (.or (.more (.not (.tru (.e (.call 7 (.d (.v 3) (.d (.v 4) (.d (.v 5) .nil))))))) (.one (.and (.more (.cmp .gt (.e (.f1 .len (.e (.v 5)))) (.e (.i 1))) (.one (.tru (.e (.call 4 (.d (.v 3) (.d (.v 4) (.d (.bin .sub (.e (.f1 .len (.e (.v 5)))) (.e (.i 1))) .nil))))))))))))))) (.cons (.ret (.b false)) .nil) .nil) (.cons (.setL 6 (.lc [8] (.nm 8) (.seq (.tup (.cons (.s "any") (.cons (.s "apart") (.cons (.s "circle") (.cons (.s "overwrite") (.cons (.s "single") .nil))))))) .no (.call 3 (.d (.v 3) (.d (.v 8) .nil))))) (.cons (.for_ (.nm 7) (.seq (.fr (.cat (.e (.fr (.cat (.e (.fr (.lc [9] (.nm 9) (.seq (.v 6)) (.one (.cmp .isn (.e (.v 9)) (.e .none))) (.v 9)))) (.e (.ife (.cmp .isn (.e (.v 5)) (.e .none)) (.fr (.lst (.cons (.bin .add (.e (.sl (.e (.v 5)) (.one (.i 1)) .no)) (.e (.sl (.e (.v 5)) .no (.one (.i 1))))) (.cons (.sl (.e (.v 5)) .no (.one (.neg (.i 1)))) (.cons (.bin .add (.e (.v 5)) (.e (.v 5))) (.cons (.fr (.list (.e (.v 5)))) .nil)))))) (.fr (.lst .nil))))))) (.e (.fr (.lst (.cons (.tup .nil) (.cons .none (.cons (.tup (.cons (.tup (.cons (.i 1) (.cons (.i 2) .nil))) .nil)) .nil))))))))) (.cons (.ife (.not (.tru (.e (.call 5 (.d (.call 8 (.d (.v 3) (.d (.v 4) (.d (.v 7) .nil)))) (.d (.call 7 (.d (.v 3) (.d (.v 4) (.d (.v 7) .nil)))) .nil)))))) (.cons (.ret (.b false)) .nil) .nil) .nil)) .nil)))))) (.cons (.ife (.or (.more (.not (.tru (.e (.call 9 (.d (.s "ring") .nil))))) (.more (.not (.tru (.e (.call 9 (.d (.s "Any") .nil))))) (.one (.tru (.e (.call 9 (.d (.s "any") .nil)))))))) (.cons (.ret (.b false)) .nil) .nil) .nil)))) (.cons (.ret (.b true)) .nil)
def m_law : Mg := ⟨fun | 0 => f_l_some_edges | 1 => f_edges | 2 => f_l_history | 3 => f_shortest_ring | 4 => f_l_any | 5 => f_l_same 8 | 6 => f_l_ring | 7 => f_l_is_ring | 8 => f_is_ring | 9 => f_l_refused | _ => noF, fun | _ => .none, []⟩
/-! ### they are the text -/
theorem sc_l_pool : FnScope n_l_pool p_l_pool (defScope s_l_pool) := ⟨rfl, rfl, rfl, by decide +kernel, rfl, by decide +kernel, by decide +kernel⟩
theorem c_l_pool : chkT g_l_pool poolIR (defBody s_l_pool) = true := by decide +kernel
theorem sc_l_spread : FnScope n_l_spread p_l_spread (defScope s_l_spread) := ⟨rfl, rfl, rfl, by decide +kernel, rfl, by decide +kernel, by decide +kernel⟩
theorem c_l_spread : chkT g_l_spread b_l_spread (defBody s_l_spread) = true := by decide +kernel
theorem sc_l_draw : FnScope n_l_draw p_l_draw (defScope s_l_draw) := ⟨rfl, rfl, rfl, by decide +kernel, rfl, by decide +kernel, by decide +kernel⟩
theorem c_l_draw : chkT g_l_draw drawIR (defBody s_l_draw) = true := by decide +kernel
theorem sc_l_pick : FnScope n_l_pick p_l_pick (defScope s_l_pick) := ⟨rfl, rfl, rfl, by decide +kernel, rfl, by decide +kernel, by decide +kernel⟩
theorem c_l_pick : chkT g_l_pick b_l_pick (defBody s_l_pick) = true := by decide +kernel
theorem sc_l_some_edges : FnScope n_l_some_edges p_l_some_edges (defScope s_l_some_edges) := ⟨rfl, rfl, rfl, by decide +kernel, rfl, by decide +kernel, by decide +kernel⟩
theorem c_l_some_edges : chkT g_l_some_edges b_l_some_edges (defBody s_l_some_edges) = true := by decide +kernel
theorem sc_committed : FnScope n_committed p_committed (defScope s_committed) := ⟨rfl, rfl, rfl, by decide +kernel, rfl, by decide +kernel, by decide +kernel⟩
theorem c_committed : chkT g_committed b_committed (defBody s_committed) = true := by decide +kernel
theorem sc_deeds_of : FnScope n_deeds_of p_deeds_of (defScope s_deeds_of) := ⟨rfl, rfl, rfl, by decide +kernel, rfl, by decide +kernel, by decide +kernel⟩
theorem c_deeds_of : chkT g_deeds_of b_deeds_of (defBody s_deeds_of) = true := by decide +kernel
theorem sc_outer_reads : FnScope n_outer_reads p_outer_reads (defScope s_outer_reads) := ⟨rfl, rfl, rfl, by decide +kernel, rfl, by decide +kernel, by decide +kernel⟩
theorem c_outer_reads : chkT g_outer_reads b_outer_reads (defBody s_outer_reads) = true := by decide +kernel
theorem sc_next_writer : FnScope n_next_writer p_next_writer (defScope s_next_writer) := ⟨rfl, rfl, rfl, by decide +kernel, rfl, by decide +kernel, by decide +kernel⟩
theorem c_next_writer : chkT g_next_writer b_next_writer (defBody s_next_writer) = true := by decide +kernel
theorem sc_edges : FnScope n_edges p_edges (defScope s_edges) := ⟨rfl, rfl, rfl, by decide +kernel, rfl, by decide +kernel, by decide +kernel⟩
theorem c_edges : chkT g_edges b_edges (defBody s_edges) = true := by decide +kernel
theorem sc_l_count : FnScope n_l_count p_l_count (defScope s_l_count) := ⟨rfl, rfl, rfl, by decide +kernel, rfl, by decide +kernel, by decide +kernel⟩
theorem c_l_count : chkT g_l_count b_l_count (defBody s_l_count) = true := by decide +kernel
theorem sc_l_version : FnScope n_l_version p_l_version (defScope s_l_version) := ⟨rfl, rfl, rfl, by decide +kernel, rfl, by decide +kernel, by decide +kernel⟩
theorem c_l_version : chkT g_l_version b_l_version (defBody s_l_version) = true := by decide +kernel
theorem sc_l_row : FnScope n_l_row p_l_row (defScope s_l_row) := ⟨rfl, rfl, rfl, by decide +kernel, rfl, by decide +kernel, by decide +kernel⟩
theorem c_l_row : chkT g_l_row b_l_row (defBody s_l_row) = true := by decide +kernel
theorem sc_l_rows : FnScope n_l_rows p_l_rows (defScope s_l_rows) := ⟨rfl, rfl, rfl, by decide +kernel, rfl, by decide +kernel, by decide +kernel⟩
theorem c_l_rows : chkT g_l_rows b_l_rows (defBody s_l_rows) = true := by decide +kernel
theorem sc_l_last : FnScope n_l_last p_l_last (defScope s_l_last) := ⟨rfl, rfl, rfl, by decide +kernel, rfl, by decide +kernel, by decide +kernel⟩
theorem c_l_last : chkT g_l_last b_l_last (defBody s_l_last) = true := by decide +kernel
theorem sc_l_writers : FnScope n_l_writers p_l_writers (defScope s_l_writers) := ⟨rfl, rfl, rfl, by decide +kernel, rfl, by decide +kernel, by decide +kernel⟩
theorem c_l_writers : chkT g_l_writers b_l_writers (defBody s_l_writers) = true := by decide +kernel
theorem sc_l_by_commits : FnScope n_l_by_commits p_l_by_commits (defScope s_l_by_commits) := ⟨rfl, rfl, rfl, by decide +kernel, rfl, by decide +kernel, by decide +kernel⟩
theorem c_l_by_commits : chkT g_l_by_commits b_l_by_commits (defBody s_l_by_commits) = true := by decide +kernel
theorem sc_l_shuffled : FnScope n_l_shuffled p_l_shuffled (defScope s_l_shuffled) := ⟨rfl, rfl, rfl, by decide +kernel, rfl, by decide +kernel, by decide +kernel⟩
theorem c_l_shuffled : chkT g_l_shuffled b_l_shuffled (defBody s_l_shuffled) = true := by decide +kernel
theorem sc_l_history : FnScope n_l_history p_l_history (defScope s_l_history) := ⟨rfl, rfl, rfl, by decide +kernel, rfl, by decide +kernel, by decide +kernel⟩
theorem c_l_history : chkT g_l_history b_l_history (defBody s_l_history) = true := by decide +kernel
theorem sc_is_let : FnScope n_is_let p_is_let (defScope s_is_let) := ⟨rfl, rfl, rfl, by decide +kernel, rfl, by decide +kernel, by decide +kernel⟩
theorem c_is_let : chkT g_is_let b_is_let (defBody s_is_let) = true := by decide +kernel
theorem sc_is_done : FnScope n_is_done p_is_done (defScope s_is_done) := ⟨rfl, rfl, rfl, by decide +kernel, rfl, by decide +kernel, by decide +kernel⟩
theorem c_is_done : chkT g_is_done b_is_done (defBody s_is_done) = true := by decide +kernel
theorem sc_ring_from : FnScope n_ring_from p_ring_from (defScope s_ring_from) := ⟨rfl, rfl, rfl, by decide +kernel, rfl, by decide +kernel, by decide +kernel⟩
theorem c_ring_from : chkT g_ring_from b_ring_from (defBody s_ring_from) = true := by decide +kernel
theorem sc_shortest_ring : FnScope n_shortest_ring p_shortest_ring (defScope s_shortest_ring) := ⟨rfl, rfl, rfl, by decide +kernel, rfl, by decide +kernel, by decide +kernel⟩
theorem c_shortest_ring : chkT g_shortest_ring b_shortest_ring (defBody s_shortest_ring) = true := by decide +kernel
theorem sc_l_next : FnScope n_l_next p_l_next (defScope s_l_next) := ⟨rfl, rfl, rfl, by decide +kernel, rfl, by decide +kernel, by decide +kernel⟩
theorem c_l_next : chkT g_l_next b_l_next (defBody s_l_next) = true := by decide +kernel
theorem sc_l_closes : FnScope n_l_closes p_l_closes (defScope s_l_closes) := ⟨rfl, rfl, rfl, by decide +kernel, rfl, by decide +kernel, by decide +kernel⟩
theorem c_l_closes : chkT g_l_closes b_l_closes (defBody s_l_closes) = true := by decide +kernel
theorem sc_l_any : FnScope n_l_any p_l_any (defScope s_l_any) := ⟨rfl, rfl, rfl, by decide +kernel, rfl, by decide +kernel, by decide +kernel⟩
theorem c_l_any : chkT g_l_any b_l_any (defBody s_l_any) = true := by decide +kernel
theorem sc_l_same : FnScope n_l_same p_l_same (defScope s_l_same) := ⟨rfl, rfl, rfl, by decide +kernel, rfl, by decide +kernel, by decide +kernel⟩
theorem c_l_same : chkT g_l_same b_l_same (defBody s_l_same) = true := by decide +kernel
theorem sc_l_ring_from : FnScope n_l_ring_from p_l_ring_from (defScope s_l_ring_from) := ⟨rfl, rfl, rfl, by decide +kernel, rfl, by decide +kernel, by decide +kernel⟩
theorem c_l_ring_from : chkT g_l_ring_from b_l_ring_from (defBody s_l_ring_from) = true := by decide +kernel
theorem sc_l_ring : FnScope n_l_ring p_l_ring (defScope s_l_ring) := ⟨rfl, rfl, rfl, by decide +kernel, rfl, by decide +kernel, by decide +kernel⟩
theorem c_l_ring : chkT g_l_ring b_l_ring (defBody s_l_ring) = true := by decide +kernel
theorem sc_l_is_ring : FnScope n_l_is_ring p_l_is_ring (defScope s_l_is_ring) := ⟨rfl, rfl, rfl, by decide +kernel, rfl, by decide +kernel, by decide +kernel⟩
theorem c_l_is_ring : chkT g_l_is_ring b_l_is_ring (defBody s_l_is_ring) = true := by decide +kernel
theorem sc_is_ring : FnScope n_is_ring p_is_ring (defScope s_is_ring) := ⟨rfl, rfl, rfl, by decide +kernel, rfl, by decide +kernel, by decide +kernel⟩
theorem c_is_ring : chkT g_is_ring b_is_ring (defBody s_is_ring) = true := by decide +kernel
theorem sc_l_refused : FnScope n_l_refused p_l_refused (defScope s_l_refused) := ⟨rfl, rfl, rfl, by decide +kernel, rfl, by decide +kernel, by decide +kernel⟩
theorem c_l_refused : chkT g_l_refused b_l_refused (defBody s_l_refused) = true := by decide +kernel
theorem sc_law : FnScope n_law p_law (defScope s_law) := ⟨rfl, rfl, rfl, by decide +kernel, rfl, by decide +kernel, by decide +kernel⟩
theorem c_law : chkT g_law b_law ((defBody s_law).drop 1) = true := by decide +kernel
theorem c0_law : onC (defBody s_law) (fun st _ => chkPool g_law 1 st) = true := by decide +kernel
/-! ### the head -/
def d_l_pool : He.DefD := ⟨("_law_pool", none), "_law_pool", "_law_pool", defArgs s_l_pool, defBody s_l_pool, defScope s_l_pool, [], []⟩
def d_l_spread : He.DefD := ⟨("_law_spread", none), "_law_spread", "_law_spread", defArgs s_l_spread, defBody s_l_spread, defScope s_l_spread, [], []⟩
def d_l_draw : He.DefD := ⟨("_law_draw", none), "_law_draw", "_law_draw", defArgs s_l_draw, defBody s_l_draw, defScope s_l_draw, [], []⟩
def d_l_pick : He.DefD := ⟨("_law_pick", none), "_law_pick", "_law_pick", defArgs s_l_pick, defBody s_l_pick, defScope s_l_pick, [], []⟩
def d_l_some_edges : He.DefD := ⟨("_law_some_edges", none), "_law_some_edges", "_law_some_edges", defArgs s_l_some_edges, defBody s_l_some_edges, defScope s_l_some_edges, [], []⟩
def d_committed : He.DefD := ⟨("committed", none), "committed", "committed", defArgs s_committed, defBody s_committed, defScope s_committed, [], []⟩
def d_deeds_of : He.DefD := ⟨("deeds_of", none), "deeds_of", "deeds_of", defArgs s_deeds_of, defBody s_deeds_of, defScope s_deeds_of, [], []⟩
def d_outer_reads : He.DefD := ⟨("outer_reads", none), "outer_reads", "outer_reads", defArgs s_outer_reads, defBody s_outer_reads, defScope s_outer_reads, [], []⟩
def d_next_writer : He.DefD := ⟨("next_writer", none), "next_writer", "next_writer", defArgs s_next_writer, defBody s_next_writer, defScope s_next_writer, [], []⟩
def d_edges : He.DefD := ⟨("edges", none), "edges", "edges", defArgs s_edges, defBody s_edges, defScope s_edges, [], []⟩
def d_l_count : He.DefD := ⟨("_law_count", none), "_law_count", "_law_count", defArgs s_l_count, defBody s_l_count, defScope s_l_count, [], []⟩
def d_l_version : He.DefD := ⟨("_law_version", none), "_law_version", "_law_version", defArgs s_l_version, defBody s_l_version, defScope s_l_version, [], []⟩
def d_l_row : He.DefD := ⟨("_law_row", none), "_law_row", "_law_row", defArgs s_l_row, defBody s_l_row, defScope s_l_row, [], []⟩
def d_l_rows : He.DefD := ⟨("_law_rows", none), "_law_rows", "_law_rows", defArgs s_l_rows, defBody s_l_rows, defScope s_l_rows, [], []⟩
def d_l_last : He.DefD := ⟨("_law_last", none), "_law_last", "_law_last", defArgs s_l_last, defBody s_l_last, defScope s_l_last, [], []⟩
def d_l_writers : He.DefD := ⟨("_law_writers", none), "_law_writers", "_law_writers", defArgs s_l_writers, defBody s_l_writers, defScope s_l_writers, [], []⟩
def d_l_by_commits : He.DefD := ⟨("_law_by_commits", none), "_law_by_commits", "_law_by_commits", defArgs s_l_by_commits, defBody s_l_by_commits, defScope s_l_by_commits, [], []⟩
def d_l_shuffled : He.DefD := ⟨("_law_shuffled", none), "_law_shuffled", "_law_shuffled", defArgs s_l_shuffled, defBody s_l_shuffled, defScope s_l_shuffled, [], []⟩
def d_l_history : He.DefD := ⟨("_law_history", none), "_law_history", "_law_history", defArgs s_l_history, defBody s_l_history, defScope s_l_history, [], []⟩
def d_is_let : He.DefD := ⟨("is_let", none), "is_let", "is_let", defArgs s_is_let, defBody s_is_let, defScope s_is_let, [], []⟩
def d_is_done : He.DefD := ⟨("is_done", none), "is_done", "is_done", defArgs s_is_done, defBody s_is_done, defScope s_is_done, [], []⟩
def d_ring_from : He.DefD := ⟨("ring_from", none), "ring_from", "ring_from", defArgs s_ring_from, defBody s_ring_from, defScope s_ring_from, [], []⟩
def d_shortest_ring : He.DefD := ⟨("shortest_ring", none), "shortest_ring", "shortest_ring", defArgs s_shortest_ring, defBody s_shortest_ring, defScope s_shortest_ring, [], []⟩
def d_l_next : He.DefD := ⟨("_law_next", none), "_law_next", "_law_next", defArgs s_l_next, defBody s_l_next, defScope s_l_next, [], []⟩
def d_l_closes : He.DefD := ⟨("_law_closes", none), "_law_closes", "_law_closes", defArgs s_l_closes, defBody s_l_closes, defScope s_l_closes, [], []⟩
def d_l_any : He.DefD := ⟨("_law_any", none), "_law_any", "_law_any", defArgs s_l_any, defBody s_l_any, defScope s_l_any, [], []⟩
def d_l_same : He.DefD := ⟨("_law_same", none), "_law_same", "_law_same", defArgs s_l_same, defBody s_l_same, defScope s_l_same, [], []⟩
def d_l_ring_from : He.DefD := ⟨("_law_ring_from", none), "_law_ring_from", "_law_ring_from", defArgs s_l_ring_from, defBody s_l_ring_from, defScope s_l_ring_from, [], []⟩
def d_l_ring : He.DefD := ⟨("_law_ring", none), "_law_ring", "_law_ring", defArgs s_l_ring, defBody s_l_ring, defScope s_l_ring, [], []⟩
def d_l_is_ring : He.DefD := ⟨("_law_is_ring", none), "_law_is_ring", "_law_is_ring", defArgs s_l_is_ring, defBody s_l_is_ring, defScope s_l_is_ring, [], []⟩
def d_is_ring : He.DefD := ⟨("is_ring", none), "is_ring", "is_ring", defArgs s_is_ring, defBody s_is_ring, defScope s_is_ring, [], []⟩
def d_l_refused : He.DefD := ⟨("_law_refused", none), "_law_refused", "_law_refused", defArgs s_l_refused, defBody s_l_refused, defScope s_l_refused, [], []⟩
def d_law : He.DefD := ⟨("law", none), "law", "law", defArgs s_law, defBody s_law, defScope s_law, [], []⟩
def fn : List He.DefD := [d_l_pool, d_l_spread, d_l_draw, d_l_pick, d_l_some_edges, d_committed, d_deeds_of, d_outer_reads, d_next_writer, d_edges, d_l_count, d_l_version, d_l_row, d_l_rows, d_l_last, d_l_writers, d_l_by_commits, d_l_shuffled, d_l_history, d_is_let, d_is_done, d_ring_from, d_shortest_ring, d_l_next, d_l_closes, d_l_any, d_l_same, d_l_ring_from, d_l_ring, d_l_is_ring, d_is_ring, d_l_refused, d_law]
def fa : List He.Fa := [.glo "_law_pool", .glo "_law_spread", .glo "_law_draw", .glo "_law_pick", .glo "_law_some_edges", .glo "committed", .glo "deeds_of", .glo "outer_reads", .glo "next_writer", .glo "edges", .glo "_law_count", .glo "_law_version", .glo "_law_row", .glo "_law_rows", .glo "_law_last", .glo "_law_writers", .glo "_law_by_commits", .glo "_law_shuffled", .glo "_law_history", .glo "is_let", .glo "is_done", .glo "ring_from", .glo "shortest_ring", .glo "_law_next", .glo "_law_closes", .glo "_law_any", .glo "_law_same", .glo "_law_ring_from", .glo "_law_ring", .glo "_law_is_ring", .glo "is_ring", .glo "_law_refused", .glo "law", .free "int", .free "list", .free "range", .free "len", .free "sorted", .free "set", .free "tuple", .free "zip", .free "min", .free "isinstance", .free "bool", .free "str", .free "all", .free "any"]
def tbs : List He.Tab := []
def ex (K : PySem.W.Frag) : Bool := cstB K "KEYS" v_KEYS && (cstB K "RINGS" v_RINGS && (excB K ["NotAllowed"]))
abbrev R : PySem.W.OpenRow := PySem.W.OpenLaw.row PySem.Challenge.rw_everyhistory_k06_whole_rings
abbrev hk : PySem.W.Hook := He.hookX 4 fa fn tbs [] ex
def ob (s : PySem.W.SharedT) : He.AlX := He.obsX 4 fa fn tbs [] ex (HandSHeadRun.getT s)
theorem ob_eq (s : PySem.W.SharedT) : ob s = hk.obs s.abs := He.obsX_eq (HandSHeadRun.getT_eq s)
def loose : List Str := [(PySem.Str.ofString "HistoryError"), (PySem.Str.ofString "NotAllowed"), (PySem.Str.ofString "KEYS"), (PySem.Str.ofString "committed"), (PySem.Str.ofString "deeds_of"), (PySem.Str.ofString "outer_reads"), (PySem.Str.ofString "next_writer"), (PySem.Str.ofString "edges"), (PySem.Str.ofString "RINGS"), (PySem.Str.ofString "is_let"), (PySem.Str.ofString "is_done"), (PySem.Str.ofString "ring_from"), (PySem.Str.ofString "shortest_ring"), (PySem.Str.ofString "is_ring"), (PySem.Str.ofString "_law_same"), (PySem.Str.ofString "_law_pool"), (PySem.Str.ofString "_law_spread"), (PySem.Str.ofString "_law_draw"), (PySem.Str.ofString "_law_pick"), (PySem.Str.ofString "_law_shuffled"), (PySem.Str.ofString "_law_count"), (PySem.Str.ofString "_law_version"), (PySem.Str.ofString "_law_row"), (PySem.Str.ofString "_law_rows"), (PySem.Str.ofString "_law_last"), (PySem.Str.ofString "_law_writers"), (PySem.Str.ofString "_law_by_commits"), (PySem.Str.ofString "_law_history"), (PySem.Str.ofString "_law_next"), (PySem.Str.ofString "_law_closes"), (PySem.Str.ofString "_law_ring_from"), (PySem.Str.ofString "_law_ring"), (PySem.Str.ofString "_law_is_ring"), (PySem.Str.ofString "_law_some_edges"), (PySem.Str.ofString "_law_any"), (PySem.Str.ofString "_law_refused")]
theorem run (w : World) : HandSHeadRun.RunEq R (PySem.W.view R.prog [41]) hk ob 2520 [(PySem.Str.ofString "HistoryError"), (PySem.Str.ofString "NotAllowed"), (PySem.Str.ofString "KEYS"), (PySem.Str.ofString "committed"), (PySem.Str.ofString "deeds_of"), (PySem.Str.ofString "outer_reads"), (PySem.Str.ofString "next_writer"), (PySem.Str.ofString "edges"), (PySem.Str.ofString "RINGS"), (PySem.Str.ofString "is_let"), (PySem.Str.ofString "is_done"), (PySem.Str.ofString "ring_from"), (PySem.Str.ofString "shortest_ring"), (PySem.Str.ofString "is_ring"), (PySem.Str.ofString "_law_same"), (PySem.Str.ofString "_law_pool"), (PySem.Str.ofString "_law_spread"), (PySem.Str.ofString "_law_draw"), (PySem.Str.ofString "_law_pick"), (PySem.Str.ofString "_law_shuffled"), (PySem.Str.ofString "_law_count"), (PySem.Str.ofString "_law_version"), (PySem.Str.ofString "_law_row"), (PySem.Str.ofString "_law_rows"), (PySem.Str.ofString "_law_last"), (PySem.Str.ofString "_law_writers"), (PySem.Str.ofString "_law_by_commits"), (PySem.Str.ofString "_law_history"), (PySem.Str.ofString "_law_next"), (PySem.Str.ofString "_law_closes"), (PySem.Str.ofString "_law_ring_from"), (PySem.Str.ofString "_law_ring"), (PySem.Str.ofString "_law_is_ring"), (PySem.Str.ofString "_law_some_edges"), (PySem.Str.ofString "_law_any"), (PySem.Str.ofString "_law_refused")] w := by
  intro os
  kernel_rfl
section
variable {P : Program} {w : World} {K : PySem.W.Frag} {h : Heap} {mg : Str → Option Value} {base : Heap}
theorem ok_l_pool (X : K.In h) (G : h.Ns mainGlobals mg) (c : He.SaysX fa fn tbs [] ex w h K) : PoolFn P w K mg base 1 := pool_okX X G (md_mk (k := 0) (Γ := g_l_pool) (M := m_l_pool) X G ⟨He.free_ok X G (c.t.d.fact 33 (f := .free "int") rfl), ⟨He.free_ok X G (c.t.d.fact 34 (f := .free "list") rfl), trivial⟩⟩ trivial trivial trivial rfl (excB_sub (ys := []) (and2 (and2 c.more).2).2 (by decide +kernel))) (intF0 rfl) (c.t.d.def_ 0 (d := d_l_pool) rfl) (c.t.d.fact 0 (f := .glo "_law_pool") rfl) sc_l_pool ⟨rfl, rfl, rfl⟩ (fun _ _ _ _ _ _ us hl => match us, hl with | [_], _ => rfl) ⟨rfl, rfl⟩ c_l_pool
theorem ok_l_spread (X : K.In h) (G : h.Ns mainGlobals mg) (c : He.SaysX fa fn tbs [] ex w h K) : FnAt P w K mg base 1 "_law_spread" f_l_spread := def_okX X G (md_mk (k := 0) (Γ := g_l_spread) (M := m_l_spread) X G ⟨He.free_ok X G (c.t.d.fact 33 (f := .free "int") rfl), ⟨He.free_ok X G (c.t.d.fact 35 (f := .free "range") rfl), trivial⟩⟩ trivial trivial trivial rfl (excB_sub (ys := []) (and2 (and2 c.more).2).2 (by decide +kernel))) (c.t.d.def_ 1 (d := d_l_spread) rfl) (c.t.d.fact 1 (f := .glo "_law_spread") rfl) sc_l_spread ⟨rfl, rfl, rfl⟩ (fun _ _ _ _ _ _ us hl => match us, hl with | [_], _ => rfl) ⟨rfl, rfl, by decide⟩ c_l_spread
theorem spread_int (i : Int) (Q : D → Prop) (XX : Exc → Prop) (hQ : ∀ j : Int, Q (.int j)) : (m_l_draw.Φ 0 [.d (.int i)]).run Q XX := spread_any (M := m_l_spread) hQ
theorem ok_l_draw (X : K.In h) (G : h.Ns mainGlobals mg) (c : He.SaysX fa fn tbs [] ex w h K) : FnAt P w K mg base 2 "_law_draw" F_draw := draw_okX X G (md_mk (k := 1) (Γ := g_l_draw) (M := m_l_draw) X G ⟨He.free_ok X G (c.t.d.fact 33 (f := .free "int") rfl), ⟨He.free_ok X G (c.t.d.fact 36 (f := .free "len") rfl), trivial⟩⟩ trivial ⟨((ok_l_spread X G c).up (by decide)), trivial⟩ trivial rfl (excB_sub (ys := []) (and2 (and2 c.more).2).2 (by decide +kernel))) (intF1 rfl spread_int) (c.t.d.def_ 2 (d := d_l_draw) rfl) (c.t.d.fact 2 (f := .glo "_law_draw") rfl) sc_l_draw ⟨rfl, rfl, rfl⟩ (fun _ _ _ _ _ _ us hl => match us, hl with | [_, _], _ => rfl) ⟨rfl, rfl⟩ c_l_draw
theorem ok_l_pick (X : K.In h) (G : h.Ns mainGlobals mg) (c : He.SaysX fa fn tbs [] ex w h K) : FnAt P w K mg base 3 "_law_pick" f_l_pick := def_okX X G (md_mk (k := 2) (Γ := g_l_pick) (M := m_l_pick) X G ⟨He.free_ok X G (c.t.d.fact 36 (f := .free "len") rfl), trivial⟩ trivial ⟨((ok_l_draw X G c).up (by decide)), trivial⟩ trivial rfl (excB_sub (ys := []) (and2 (and2 c.more).2).2 (by decide +kernel))) (c.t.d.def_ 3 (d := d_l_pick) rfl) (c.t.d.fact 3 (f := .glo "_law_pick") rfl) sc_l_pick ⟨rfl, rfl, rfl⟩ (fun _ _ _ _ _ _ us hl => match us, hl with | [_, _], _ => rfl) ⟨rfl, rfl, by decide⟩ c_l_pick
theorem ok_l_some_edges (X : K.In h) (G : h.Ns mainGlobals mg) (c : He.SaysX fa fn tbs [] ex w h K) : FnAt P w K mg base 4 "_law_some_edges" f_l_some_edges := def_okX X G (md_mk (k := 3) (Γ := g_l_some_edges) (M := m_l_some_edges) X G ⟨He.free_ok X G (c.t.d.fact 35 (f := .free "range") rfl), ⟨He.free_ok X G (c.t.d.fact 37 (f := .free "sorted") rfl), ⟨He.free_ok X G (c.t.d.fact 38 (f := .free "set") rfl), trivial⟩⟩⟩ trivial ⟨((ok_l_draw X G c).up (by decide)), ⟨((ok_l_pick X G c).up (by decide)), trivial⟩⟩ trivial rfl (excB_sub (ys := []) (and2 (and2 c.more).2).2 (by decide +kernel))) (c.t.d.def_ 4 (d := d_l_some_edges) rfl) (c.t.d.fact 4 (f := .glo "_law_some_edges") rfl) sc_l_some_edges ⟨rfl, rfl, rfl⟩ (fun _ _ _ _ _ _ us hl => match us, hl with | [_, _], _ => rfl) ⟨rfl, rfl, by decide⟩ c_l_some_edges
theorem ok_committed (X : K.In h) (G : h.Ns mainGlobals mg) (c : He.SaysX fa fn tbs [] ex w h K) : FnAt P w K mg base 1 "committed" f_committed := def_okX X G (md_mk (k := 0) (Γ := g_committed) (M := m_committed) X G ⟨He.free_ok X G (c.t.d.fact 37 (f := .free "sorted") rfl), trivial⟩ trivial trivial trivial rfl (excB_sub (ys := []) (and2 (and2 c.more).2).2 (by decide +kernel))) (c.t.d.def_ 5 (d := d_committed) rfl) (c.t.d.fact 5 (f := .glo "committed") rfl) sc_committed ⟨rfl, rfl, rfl⟩ (fun _ _ _ _ _ _ us hl => match us, hl with | [_], _ => rfl) ⟨rfl, rfl, by decide⟩ c_committed
theorem ok_deeds_of (X : K.In h) (G : h.Ns mainGlobals mg) (c : He.SaysX fa fn tbs [] ex w h K) : FnAt P w K mg base 1 "deeds_of" f_deeds_of := def_okX X G (md_mk (k := 0) (Γ := g_deeds_of) (M := m_deeds_of) X G ⟨He.free_ok X G (c.t.d.fact 39 (f := .free "tuple") rfl), trivial⟩ trivial trivial trivial rfl (excB_sub (ys := []) (and2 (and2 c.more).2).2 (by decide +kernel))) (c.t.d.def_ 6 (d := d_deeds_of) rfl) (c.t.d.fact 6 (f := .glo "deeds_of") rfl) sc_deeds_of ⟨rfl, rfl, rfl⟩ (fun _ _ _ _ _ _ us hl => match us, hl with | [_, _], _ => rfl) ⟨rfl, rfl, by decide⟩ c_deeds_of
theorem ok_outer_reads (X : K.In h) (G : h.Ns mainGlobals mg) (c : He.SaysX fa fn tbs [] ex w h K) : FnAt P w K mg base 2 "outer_reads" f_outer_reads := def_okX X G (md_mk (k := 1) (Γ := g_outer_reads) (M := m_outer_reads) X G trivial trivial ⟨((ok_deeds_of X G c).up (by decide)), trivial⟩ trivial rfl (excB_sub (ys := []) (and2 (and2 c.more).2).2 (by decide +kernel))) (c.t.d.def_ 7 (d := d_outer_reads) rfl) (c.t.d.fact 7 (f := .glo "outer_reads") rfl) sc_outer_reads ⟨rfl, rfl, rfl⟩ (fun _ _ _ _ _ _ us hl => match us, hl with | [_, _], _ => rfl) ⟨rfl, rfl, by decide⟩ c_outer_reads
theorem ok_next_writer (X : K.In h) (G : h.Ns mainGlobals mg) (c : He.SaysX fa fn tbs [] ex w h K) : FnAt P w K mg base 1 "next_writer" f_next_writer := def_okX X G (md_mk (k := 0) (Γ := g_next_writer) (M := m_next_writer) X G trivial trivial trivial trivial rfl (excB_sub (ys := []) (and2 (and2 c.more).2).2 (by decide +kernel))) (c.t.d.def_ 8 (d := d_next_writer) rfl) (c.t.d.fact 8 (f := .glo "next_writer") rfl) sc_next_writer ⟨rfl, rfl, rfl⟩ (fun _ _ _ _ _ _ us hl => match us, hl with | [_, _, _], _ => rfl) ⟨rfl, rfl, by decide⟩ c_next_writer
theorem ok_edges (X : K.In h) (G : h.Ns mainGlobals mg) (c : He.SaysX fa fn tbs [] ex w h K) : FnAt P w K mg base 3 "edges" f_edges := def_okX X G (md_mk (k := 2) (Γ := g_edges) (M := m_edges) X G ⟨He.free_ok X G (c.t.d.fact 35 (f := .free "range") rfl), ⟨He.free_ok X G (c.t.d.fact 40 (f := .free "zip") rfl), ⟨He.free_ok X G (c.t.d.fact 37 (f := .free "sorted") rfl), ⟨He.free_ok X G (c.t.d.fact 38 (f := .free "set") rfl), trivial⟩⟩⟩⟩ ⟨cstB_ok X G (and2 c.more).1, trivial⟩ ⟨((ok_committed X G c).up (by decide)), ⟨((ok_outer_reads X G c).up (by decide)), ⟨((ok_next_writer X G c).up (by decide)), trivial⟩⟩⟩ trivial rfl (excB_sub (ys := []) (and2 (and2 c.more).2).2 (by decide +kernel))) (c.t.d.def_ 9 (d := d_edges) rfl) (c.t.d.fact 9 (f := .glo "edges") rfl) sc_edges ⟨rfl, rfl, rfl⟩ (fun _ _ _ _ _ _ us hl => match us, hl with | [_], _ => rfl) ⟨rfl, rfl, by decide⟩ c_edges
theorem ok_l_count (X : K.In h) (G : h.Ns mainGlobals mg) (c : He.SaysX fa fn tbs [] ex w h K) : FnAt P w K mg base 1 "_law_count" f_l_count := def_okX X G (md_mk (k := 0) (Γ := g_l_count) (M := m_l_count) X G ⟨He.free_ok X G (c.t.d.fact 36 (f := .free "len") rfl), trivial⟩ trivial trivial trivial rfl (excB_sub (ys := []) (and2 (and2 c.more).2).2 (by decide +kernel))) (c.t.d.def_ 10 (d := d_l_count) rfl) (c.t.d.fact 10 (f := .glo "_law_count") rfl) sc_l_count ⟨rfl, rfl, rfl⟩ (fun _ _ _ _ _ _ us hl => match us, hl with | [_, _, _, _], _ => rfl) ⟨rfl, rfl, by decide⟩ c_l_count
theorem ok_l_version (X : K.In h) (G : h.Ns mainGlobals mg) (c : He.SaysX fa fn tbs [] ex w h K) : FnAt P w K mg base 4 "_law_version" f_l_version := def_okX X G (md_mk (k := 3) (Γ := g_l_version) (M := m_l_version) X G ⟨He.free_ok X G (c.t.d.fact 36 (f := .free "len") rfl), ⟨He.free_ok X G (c.t.d.fact 37 (f := .free "sorted") rfl), ⟨He.free_ok X G (c.t.d.fact 38 (f := .free "set") rfl), ⟨He.free_ok X G (c.t.d.fact 35 (f := .free "range") rfl), trivial⟩⟩⟩⟩ trivial ⟨((ok_l_count X G c).up (by decide)), ⟨((ok_l_draw X G c).up (by decide)), ⟨((ok_l_pick X G c).up (by decide)), trivial⟩⟩⟩ trivial rfl (excB_sub (ys := []) (and2 (and2 c.more).2).2 (by decide +kernel))) (c.t.d.def_ 11 (d := d_l_version) rfl) (c.t.d.fact 11 (f := .glo "_law_version") rfl) sc_l_version ⟨rfl, rfl, rfl⟩ (fun _ _ _ _ _ _ us hl => match us, hl with | [_, _, _, _, _], _ => rfl) ⟨rfl, rfl, by decide⟩ c_l_version
theorem ok_l_row (X : K.In h) (G : h.Ns mainGlobals mg) (c : He.SaysX fa fn tbs [] ex w h K) : FnAt P w K mg base 5 "_law_row" f_l_row := def_okX X G (md_mk (k := 4) (Γ := g_l_row) (M := m_l_row) X G ⟨He.free_ok X G (c.t.d.fact 35 (f := .free "range") rfl), trivial⟩ trivial ⟨((ok_l_draw X G c).up (by decide)), ⟨((ok_l_pick X G c).up (by decide)), ⟨((ok_l_version X G c).up (by decide)), trivial⟩⟩⟩ trivial rfl (excB_sub (ys := []) (and2 (and2 c.more).2).2 (by decide +kernel))) (c.t.d.def_ 12 (d := d_l_row) rfl) (c.t.d.fact 12 (f := .glo "_law_row") rfl) sc_l_row ⟨rfl, rfl, rfl⟩ (fun _ _ _ _ _ _ us hl => match us, hl with | [_, _, _], _ => rfl) ⟨rfl, rfl, by decide⟩ c_l_row
theorem ok_l_rows (X : K.In h) (G : h.Ns mainGlobals mg) (c : He.SaysX fa fn tbs [] ex w h K) : FnAt P w K mg base 6 "_law_rows" f_l_rows := def_okX X G (md_mk (k := 5) (Γ := g_l_rows) (M := m_l_rows) X G trivial trivial ⟨((ok_l_row X G c).up (by decide)), ⟨((ok_l_draw X G c).up (by decide)), trivial⟩⟩ trivial rfl (excB_sub (ys := []) (and2 (and2 c.more).2).2 (by decide +kernel))) (c.t.d.def_ 13 (d := d_l_rows) rfl) (c.t.d.fact 13 (f := .glo "_law_rows") rfl) sc_l_rows ⟨rfl, rfl, rfl⟩ (fun _ _ _ _ _ _ us hl => match us, hl with | [_], _ => rfl) ⟨rfl, rfl, by decide⟩ c_l_rows
theorem ok_l_last (X : K.In h) (G : h.Ns mainGlobals mg) (c : He.SaysX fa fn tbs [] ex w h K) : FnAt P w K mg base 2 "_law_last" f_l_last := def_okX X G (md_mk (k := 1) (Γ := g_l_last) (M := m_l_last) X G ⟨He.free_ok X G (c.t.d.fact 36 (f := .free "len") rfl), trivial⟩ trivial ⟨((ok_l_count X G c).up (by decide)), trivial⟩ trivial rfl (excB_sub (ys := []) (and2 (and2 c.more).2).2 (by decide +kernel))) (c.t.d.def_ 14 (d := d_l_last) rfl) (c.t.d.fact 14 (f := .glo "_law_last") rfl) sc_l_last ⟨rfl, rfl, rfl⟩ (fun _ _ _ _ _ _ us hl => match us, hl with | [_, _, _], _ => rfl) ⟨rfl, rfl, by decide⟩ c_l_last
theorem ok_l_writers (X : K.In h) (G : h.Ns mainGlobals mg) (c : He.SaysX fa fn tbs [] ex w h K) : FnAt P w K mg base 3 "_law_writers" f_l_writers := def_okX X G (md_mk (k := 2) (Γ := g_l_writers) (M := m_l_writers) X G trivial trivial ⟨((ok_l_last X G c).up (by decide)), trivial⟩ trivial rfl (excB_sub (ys := []) (and2 (and2 c.more).2).2 (by decide +kernel))) (c.t.d.def_ 15 (d := d_l_writers) rfl) (c.t.d.fact 15 (f := .glo "_law_writers") rfl) sc_l_writers ⟨rfl, rfl, rfl⟩ (fun _ _ _ _ _ _ us hl => match us, hl with | [_, _], _ => rfl) ⟨rfl, rfl, by decide⟩ c_l_writers
theorem ok_l_by_commits (X : K.In h) (G : h.Ns mainGlobals mg) (c : He.SaysX fa fn tbs [] ex w h K) : FnAt P w K mg base 4 "_law_by_commits" f_l_by_commits := def_okX X G (md_mk (k := 3) (Γ := g_l_by_commits) (M := m_l_by_commits) X G ⟨He.free_ok X G (c.t.d.fact 39 (f := .free "tuple") rfl), ⟨He.free_ok X G (c.t.d.fact 35 (f := .free "range") rfl), trivial⟩⟩ trivial ⟨((ok_l_writers X G c).up (by decide)), trivial⟩ trivial rfl (excB_sub (ys := []) (and2 (and2 c.more).2).2 (by decide +kernel))) (c.t.d.def_ 16 (d := d_l_by_commits) rfl) (c.t.d.fact 16 (f := .glo "_law_by_commits") rfl) sc_l_by_commits ⟨rfl, rfl, rfl⟩ (fun _ _ _ _ _ _ us hl => match us, hl with | [_], _ => rfl) ⟨rfl, rfl, by decide⟩ c_l_by_commits
theorem ok_l_shuffled (X : K.In h) (G : h.Ns mainGlobals mg) (c : He.SaysX fa fn tbs [] ex w h K) : FnAt P w K mg base 3 "_law_shuffled" f_l_shuffled := def_okX X G (md_mk (k := 2) (Γ := g_l_shuffled) (M := m_l_shuffled) X G ⟨He.free_ok X G (c.t.d.fact 34 (f := .free "list") rfl), ⟨He.free_ok X G (c.t.d.fact 36 (f := .free "len") rfl), trivial⟩⟩ trivial ⟨((ok_l_draw X G c).up (by decide)), trivial⟩ trivial rfl (excB_sub (ys := []) (and2 (and2 c.more).2).2 (by decide +kernel))) (c.t.d.def_ 17 (d := d_l_shuffled) rfl) (c.t.d.fact 17 (f := .glo "_law_shuffled") rfl) sc_l_shuffled ⟨rfl, rfl, rfl⟩ (fun _ _ _ _ _ _ us hl => match us, hl with | [_, _], _ => rfl) ⟨rfl, rfl, by decide⟩ c_l_shuffled
theorem ok_l_history (X : K.In h) (G : h.Ns mainGlobals mg) (c : He.SaysX fa fn tbs [] ex w h K) : FnAt P w K mg base 7 "_law_history" f_l_history := def_okX X G (md_mk (k := 6) (Γ := g_l_history) (M := m_l_history) X G ⟨He.free_ok X G (c.t.d.fact 39 (f := .free "tuple") rfl), ⟨He.free_ok X G (c.t.d.fact 35 (f := .free "range") rfl), trivial⟩⟩ trivial ⟨((ok_l_rows X G c).up (by decide)), ⟨((ok_l_draw X G c).up (by decide)), ⟨((ok_l_by_commits X G c).up (by decide)), ⟨((ok_l_shuffled X G c).up (by decide)), ⟨((ok_l_writers X G c).up (by decide)), trivial⟩⟩⟩⟩⟩ trivial rfl (excB_sub (ys := []) (and2 (and2 c.more).2).2 (by decide +kernel))) (c.t.d.def_ 18 (d := d_l_history) rfl) (c.t.d.fact 18 (f := .glo "_law_history") rfl) sc_l_history ⟨rfl, rfl, rfl⟩ (fun _ _ _ _ _ _ us hl => match us, hl with | [_], _ => rfl) ⟨rfl, rfl, by decide⟩ c_l_history
theorem ok_is_let (X : K.In h) (G : h.Ns mainGlobals mg) (c : He.SaysX fa fn tbs [] ex w h K) : FnAt P w K mg base 1 "is_let" f_is_let := def_okX X G (md_mk (k := 0) (Γ := g_is_let) (M := m_is_let) X G ⟨He.free_ok X G (c.t.d.fact 41 (f := .free "min") rfl), trivial⟩ trivial trivial trivial rfl (excB_sub (ys := []) (and2 (and2 c.more).2).2 (by decide +kernel))) (c.t.d.def_ 19 (d := d_is_let) rfl) (c.t.d.fact 19 (f := .glo "is_let") rfl) sc_is_let ⟨rfl, rfl, rfl⟩ (fun _ _ _ _ _ _ us hl => match us, hl with | [_, _, _], _ => rfl) ⟨rfl, rfl, by decide⟩ c_is_let
theorem ok_is_done (X : K.In h) (G : h.Ns mainGlobals mg) (c : He.SaysX fa fn tbs [] ex w h K) : FnAt P w K mg base 1 "is_done" f_is_done := def_okX X G (md_mk (k := 0) (Γ := g_is_done) (M := m_is_done) X G trivial trivial trivial trivial rfl (excB_sub (ys := []) (and2 (and2 c.more).2).2 (by decide +kernel))) (c.t.d.def_ 20 (d := d_is_done) rfl) (c.t.d.fact 20 (f := .glo "is_done") rfl) sc_is_done ⟨rfl, rfl, rfl⟩ (fun _ _ _ _ _ _ us hl => match us, hl with | [_, _], _ => rfl) ⟨rfl, rfl, by decide⟩ c_is_done
theorem ok_ring_from (X : K.In h) (G : h.Ns mainGlobals mg) (c : He.SaysX fa fn tbs [] ex w h K) : FnAt P w K mg base 2 "ring_from" f_ring_from := def_okX X G (md_mk (k := 1) (Γ := g_ring_from) (M := m_ring_from) X G ⟨He.free_ok X G (c.t.d.fact 36 (f := .free "len") rfl), trivial⟩ trivial ⟨((ok_is_let X G c).up (by decide)), ⟨((ok_is_done X G c).up (by decide)), trivial⟩⟩ trivial rfl (excB_sub (ys := []) (and2 (and2 c.more).2).2 (by decide +kernel))) (c.t.d.def_ 21 (d := d_ring_from) rfl) (c.t.d.fact 21 (f := .glo "ring_from") rfl) sc_ring_from ⟨rfl, rfl, rfl⟩ (fun _ _ _ _ _ _ us hl => match us, hl with | [_, _, _], _ => rfl) ⟨rfl, rfl, by decide⟩ c_ring_from
theorem ok_shortest_ring (X : K.In h) (G : h.Ns mainGlobals mg) (c : He.SaysX fa fn tbs [] ex w h K) : FnAt P w K mg base 3 "shortest_ring" f_shortest_ring := def_okX X G (md_mk (k := 2) (Γ := g_shortest_ring) (M := m_shortest_ring) X G ⟨He.free_ok X G (c.t.d.fact 37 (f := .free "sorted") rfl), ⟨He.free_ok X G (c.t.d.fact 38 (f := .free "set") rfl), ⟨He.free_ok X G (c.t.d.fact 36 (f := .free "len") rfl), ⟨He.free_ok X G (c.t.d.fact 41 (f := .free "min") rfl), trivial⟩⟩⟩⟩ ⟨cstB_ok X G (and2 (and2 c.more).2).1, trivial⟩ ⟨((ok_ring_from X G c).up (by decide)), trivial⟩ trivial rfl (excB_sub (ys := ["NotAllowed"]) (and2 (and2 c.more).2).2 (by decide +kernel))) (c.t.d.def_ 22 (d := d_shortest_ring) rfl) (c.t.d.fact 22 (f := .glo "shortest_ring") rfl) sc_shortest_ring ⟨rfl, rfl, rfl⟩ (fun _ _ _ _ _ _ us hl => match us, hl with | [_, _], _ => rfl) ⟨rfl, rfl, by decide⟩ c_shortest_ring
theorem ok_l_next (X : K.In h) (G : h.Ns mainGlobals mg) (c : He.SaysX fa fn tbs [] ex w h K) : FnAt P w K mg base 1 "_law_next" f_l_next := def_okX X G (md_mk (k := 0) (Γ := g_l_next) (M := m_l_next) X G ⟨He.free_ok X G (c.t.d.fact 41 (f := .free "min") rfl), trivial⟩ trivial trivial trivial rfl (excB_sub (ys := []) (and2 (and2 c.more).2).2 (by decide +kernel))) (c.t.d.def_ 23 (d := d_l_next) rfl) (c.t.d.fact 23 (f := .glo "_law_next") rfl) sc_l_next ⟨rfl, rfl, rfl⟩ (fun _ _ _ _ _ _ us hl => match us, hl with | [_, _, _], _ => rfl) ⟨rfl, rfl, by decide⟩ c_l_next
theorem ok_l_closes (X : K.In h) (G : h.Ns mainGlobals mg) (c : He.SaysX fa fn tbs [] ex w h K) : FnAt P w K mg base 1 "_law_closes" f_l_closes := def_okX X G (md_mk (k := 0) (Γ := g_l_closes) (M := m_l_closes) X G trivial trivial trivial trivial rfl (excB_sub (ys := []) (and2 (and2 c.more).2).2 (by decide +kernel))) (c.t.d.def_ 24 (d := d_l_closes) rfl) (c.t.d.fact 24 (f := .glo "_law_closes") rfl) sc_l_closes ⟨rfl, rfl, rfl⟩ (fun _ _ _ _ _ _ us hl => match us, hl with | [_, _], _ => rfl) ⟨rfl, rfl, by decide⟩ c_l_closes
theorem ok_l_any (X : K.In h) (G : h.Ns mainGlobals mg) (c : He.SaysX fa fn tbs [] ex w h K) : FnAt P w K mg base 2 "_law_any" f_l_any := def_okX X G (md_mk (k := 1) (Γ := g_l_any) (M := m_l_any) X G ⟨He.free_ok X G (c.t.d.fact 37 (f := .free "sorted") rfl), ⟨He.free_ok X G (c.t.d.fact 38 (f := .free "set") rfl), ⟨He.free_ok X G (c.t.d.fact 35 (f := .free "range") rfl), ⟨He.free_ok X G (c.t.d.fact 36 (f := .free "len") rfl), trivial⟩⟩⟩⟩ trivial ⟨((ok_l_next X G c).up (by decide)), ⟨((ok_l_closes X G c).up (by decide)), trivial⟩⟩ trivial rfl (excB_sub (ys := []) (and2 (and2 c.more).2).2 (by decide +kernel))) (c.t.d.def_ 25 (d := d_l_any) rfl) (c.t.d.fact 25 (f := .glo "_law_any") rfl) sc_l_any ⟨rfl, rfl, rfl⟩ (fun _ _ _ _ _ _ us hl => match us, hl with | [_, _, _], _ => rfl) ⟨rfl, rfl, by decide⟩ c_l_any
theorem ok_l_same (X : K.In h) (G : h.Ns mainGlobals mg) (c : He.SaysX fa fn tbs [] ex w h K) : ∀ n : Nat, FnAt P w K mg base (0 + n) "_law_same" (f_l_same n)
  | 0 => never_okX (ps := p_l_same) X G (c.t.d.def_ 26 (d := d_l_same) rfl) (c.t.d.fact 26 (f := .glo "_law_same") rfl) (fun _ _ _ _ _ _ us hl => match us, hl with | [_, _], _ => rfl)
  | n + 1 => by
    have ih := ok_l_same X G c n
    exact def_okX (k := 0 + n) (Γ := g_l_same) (M := m_l_same (f_l_same n)) X G (md_mk X G ⟨He.free_ok X G (c.t.d.fact 42 (f := .free "isinstance") rfl), ⟨He.free_ok X G (c.t.d.fact 34 (f := .free "list") rfl), ⟨He.free_ok X G (c.t.d.fact 39 (f := .free "tuple") rfl), ⟨He.free_ok X G (c.t.d.fact 36 (f := .free "len") rfl), ⟨He.free_ok X G (c.t.d.fact 35 (f := .free "range") rfl), ⟨He.free_ok X G (c.t.d.fact 43 (f := .free "bool") rfl), ⟨He.free_ok X G (c.t.d.fact 33 (f := .free "int") rfl), ⟨He.free_ok X G (c.t.d.fact 44 (f := .free "str") rfl), trivial⟩⟩⟩⟩⟩⟩⟩⟩ trivial ⟨ih, trivial⟩ trivial rfl (excB_sub (ys := []) (and2 (and2 c.more).2).2 (by decide +kernel))) (c.t.d.def_ 26 (d := d_l_same) rfl) (c.t.d.fact 26 (f := .glo "_law_same") rfl) sc_l_same ⟨rfl, rfl, rfl⟩ (fun _ _ _ _ _ _ us hl => match us, hl with | [_, _], _ => rfl) ⟨rfl, rfl, by decide⟩ c_l_same
theorem ok_l_ring_from (X : K.In h) (G : h.Ns mainGlobals mg) (c : He.SaysX fa fn tbs [] ex w h K) : FnAt P w K mg base 2 "_law_ring_from" f_l_ring_from := def_okX X G (md_mk (k := 1) (Γ := g_l_ring_from) (M := m_l_ring_from) X G ⟨He.free_ok X G (c.t.d.fact 36 (f := .free "len") rfl), trivial⟩ trivial ⟨((ok_l_next X G c).up (by decide)), ⟨((ok_l_closes X G c).up (by decide)), trivial⟩⟩ trivial rfl (excB_sub (ys := []) (and2 (and2 c.more).2).2 (by decide +kernel))) (c.t.d.def_ 27 (d := d_l_ring_from) rfl) (c.t.d.fact 27 (f := .glo "_law_ring_from") rfl) sc_l_ring_from ⟨rfl, rfl, rfl⟩ (fun _ _ _ _ _ _ us hl => match us, hl with | [_, _, _], _ => rfl) ⟨rfl, rfl, by decide⟩ c_l_ring_from
theorem ok_l_ring (X : K.In h) (G : h.Ns mainGlobals mg) (c : He.SaysX fa fn tbs [] ex w h K) : FnAt P w K mg base 3 "_law_ring" f_l_ring := def_okX X G (md_mk (k := 2) (Γ := g_l_ring) (M := m_l_ring) X G ⟨He.free_ok X G (c.t.d.fact 37 (f := .free "sorted") rfl), ⟨He.free_ok X G (c.t.d.fact 38 (f := .free "set") rfl), ⟨He.free_ok X G (c.t.d.fact 41 (f := .free "min") rfl), ⟨He.free_ok X G (c.t.d.fact 36 (f := .free "len") rfl), trivial⟩⟩⟩⟩ trivial ⟨((ok_l_ring_from X G c).up (by decide)), trivial⟩ trivial rfl (excB_sub (ys := []) (and2 (and2 c.more).2).2 (by decide +kernel))) (c.t.d.def_ 28 (d := d_l_ring) rfl) (c.t.d.fact 28 (f := .glo "_law_ring") rfl) sc_l_ring ⟨rfl, rfl, rfl⟩ (fun _ _ _ _ _ _ us hl => match us, hl with | [_, _], _ => rfl) ⟨rfl, rfl, by decide⟩ c_l_ring
theorem ok_l_is_ring (X : K.In h) (G : h.Ns mainGlobals mg) (c : He.SaysX fa fn tbs [] ex w h K) : FnAt P w K mg base 1 "_law_is_ring" f_l_is_ring := def_okX X G (md_mk (k := 0) (Γ := g_l_is_ring) (M := m_l_is_ring) X G ⟨He.free_ok X G (c.t.d.fact 36 (f := .free "len") rfl), ⟨He.free_ok X G (c.t.d.fact 42 (f := .free "isinstance") rfl), ⟨He.free_ok X G (c.t.d.fact 39 (f := .free "tuple") rfl), ⟨He.free_ok X G (c.t.d.fact 35 (f := .free "range") rfl), trivial⟩⟩⟩⟩ trivial trivial trivial rfl (excB_sub (ys := []) (and2 (and2 c.more).2).2 (by decide +kernel))) (c.t.d.def_ 29 (d := d_l_is_ring) rfl) (c.t.d.fact 29 (f := .glo "_law_is_ring") rfl) sc_l_is_ring ⟨rfl, rfl, rfl⟩ (fun _ _ _ _ _ _ us hl => match us, hl with | [_, _, _], _ => rfl) ⟨rfl, rfl, by decide⟩ c_l_is_ring
theorem ok_is_ring (X : K.In h) (G : h.Ns mainGlobals mg) (c : He.SaysX fa fn tbs [] ex w h K) : FnAt P w K mg base 2 "is_ring" f_is_ring := def_okX X G (md_mk (k := 1) (Γ := g_is_ring) (M := m_is_ring) X G ⟨He.free_ok X G (c.t.d.fact 45 (f := .free "all") rfl), ⟨He.free_ok X G (c.t.d.fact 36 (f := .free "len") rfl), ⟨He.free_ok X G (c.t.d.fact 42 (f := .free "isinstance") rfl), ⟨He.free_ok X G (c.t.d.fact 39 (f := .free "tuple") rfl), ⟨He.free_ok X G (c.t.d.fact 46 (f := .free "any") rfl), ⟨He.free_ok X G (c.t.d.fact 35 (f := .free "range") rfl), trivial⟩⟩⟩⟩⟩⟩ ⟨cstB_ok X G (and2 (and2 c.more).2).1, trivial⟩ ⟨((ok_is_let X G c).up (by decide)), ⟨((ok_is_done X G c).up (by decide)), trivial⟩⟩ trivial rfl (excB_sub (ys := ["NotAllowed"]) (and2 (and2 c.more).2).2 (by decide +kernel))) (c.t.d.def_ 30 (d := d_is_ring) rfl) (c.t.d.fact 30 (f := .glo "is_ring") rfl) sc_is_ring ⟨rfl, rfl, rfl⟩ (fun _ _ _ _ _ _ us hl => match us, hl with | [_, _, _], _ => rfl) ⟨rfl, rfl, by decide⟩ c_is_ring
theorem ok_l_refused (X : K.In h) (G : h.Ns mainGlobals mg) (c : He.SaysX fa fn tbs [] ex w h K) : FnAt P w K mg base 4 "_law_refused" f_l_refused := def_okX X G (md_mk (k := 3) (Γ := g_l_refused) (M := m_l_refused) X G ⟨He.free_ok X G (c.t.d.fact 35 (f := .free "range") rfl), trivial⟩ trivial ⟨((ok_shortest_ring X G c).up (by decide)), ⟨((ok_is_ring X G c).up (by decide)), trivial⟩⟩ trivial rfl (excB_sub (ys := ["NotAllowed"]) (and2 (and2 c.more).2).2 (by decide +kernel))) (c.t.d.def_ 31 (d := d_l_refused) rfl) (c.t.d.fact 31 (f := .glo "_law_refused") rfl) sc_l_refused ⟨rfl, rfl, rfl⟩ (fun _ _ _ _ _ _ us hl => match us, hl with | [_], _ => rfl) ⟨rfl, rfl, by decide⟩ c_l_refused
theorem ok_law (X : K.In h) (G : h.Ns mainGlobals mg) (c : He.SaysX fa fn tbs [] ex w h K) (hrun : (denT m_law b_law ((List.replicate 10 Sl.un).set 1 .pool)).run lawQ fun _ => False) : ∃ fd, (∀ (s : Shared) (v : Value), BindsTo s fd ⟨[v], []⟩ [("script", v)]) ∧ ∀ base : Heap, FnOk P w K mg base (L2.CX P w) 9 (He.ga K "law") fd ["script"] (spLaw K) := by
  obtain ⟨fd, F⟩ := (c.t.d.def_ 32 (d := d_law) rfl)
  exact ⟨fd, fun s v => FunD.bindsA (ps := ["script"]) F (fun _ _ _ _ _ _ us hl => match us, hl with | [_], _ => rfl) s [v] rfl, fun base => law_okX (md_mk (k := 8) (Γ := g_law) (M := m_law) X G ⟨He.free_ok X G (c.t.d.fact 35 (f := .free "range") rfl), ⟨He.free_ok X G (c.t.d.fact 36 (f := .free "len") rfl), ⟨He.free_ok X G (c.t.d.fact 34 (f := .free "list") rfl), trivial⟩⟩⟩ trivial ⟨((ok_l_some_edges X G c).up (by decide)), ⟨((ok_edges X G c).up (by decide)), ⟨((ok_l_history X G c).up (by decide)), ⟨((ok_shortest_ring X G c).up (by decide)), ⟨((ok_l_any X G c).up (by decide)), ⟨((ok_l_same X G c 8).up (by decide)), ⟨((ok_l_ring X G c).up (by decide)), ⟨((ok_l_is_ring X G c).up (by decide)), ⟨((ok_is_ring X G c).up (by decide)), ⟨((ok_l_refused X G c).up (by decide)), trivial⟩⟩⟩⟩⟩⟩⟩⟩⟩⟩ trivial rfl (excB_sub (ys := []) (and2 (and2 c.more).2).2 (by decide +kernel))) (poolUp (ok_l_pool X G c) (by decide)) F sc_law ⟨rfl, rfl, rfl⟩ ⟨rfl, by decide, by decide, by decide⟩ c0_law c_law hrun⟩
end
@[simp] theorem m_l_draw_f0 : (m_l_draw).Φ 0 = f_l_spread := rfl
@[simp] theorem m_l_pick_f0 : (m_l_pick).Φ 0 = f_l_draw := rfl
@[simp] theorem m_l_some_edges_f0 : (m_l_some_edges).Φ 0 = f_l_draw := rfl
@[simp] theorem m_l_some_edges_f1 : (m_l_some_edges).Φ 1 = f_l_pick := rfl
@[simp] theorem m_outer_reads_f0 : (m_outer_reads).Φ 0 = f_deeds_of := rfl
@[simp] theorem m_edges_f0 : (m_edges).Φ 0 = f_committed := rfl
@[simp] theorem m_edges_f1 : (m_edges).Φ 1 = f_outer_reads := rfl
@[simp] theorem m_edges_f2 : (m_edges).Φ 2 = f_next_writer := rfl
@[simp] theorem m_edges_c0 : (m_edges).C 0 = v_KEYS := rfl
@[simp] theorem m_l_version_f0 : (m_l_version).Φ 0 = f_l_count := rfl
@[simp] theorem m_l_version_f1 : (m_l_version).Φ 1 = f_l_draw := rfl
@[simp] theorem m_l_version_f2 : (m_l_version).Φ 2 = f_l_pick := rfl
@[simp] theorem m_l_row_f0 : (m_l_row).Φ 0 = f_l_draw := rfl
@[simp] theorem m_l_row_f1 : (m_l_row).Φ 1 = f_l_pick := rfl
@[simp] theorem m_l_row_f2 : (m_l_row).Φ 2 = f_l_version := rfl
@[simp] theorem m_l_rows_f0 : (m_l_rows).Φ 0 = f_l_row := rfl
@[simp] theorem m_l_rows_f1 : (m_l_rows).Φ 1 = f_l_draw := rfl
@[simp] theorem m_l_last_f0 : (m_l_last).Φ 0 = f_l_count := rfl
@[simp] theorem m_l_writers_f0 : (m_l_writers).Φ 0 = f_l_last := rfl
@[simp] theorem m_l_by_commits_f0 : (m_l_by_commits).Φ 0 = f_l_writers := rfl
@[simp] theorem m_l_shuffled_f0 : (m_l_shuffled).Φ 0 = f_l_draw := rfl
@[simp] theorem m_l_history_f0 : (m_l_history).Φ 0 = f_l_rows := rfl
@[simp] theorem m_l_history_f1 : (m_l_history).Φ 1 = f_l_draw := rfl
@[simp] theorem m_l_history_f2 : (m_l_history).Φ 2 = f_l_by_commits := rfl
@[simp] theorem m_l_history_f3 : (m_l_history).Φ 3 = f_l_shuffled := rfl
@[simp] theorem m_l_history_f4 : (m_l_history).Φ 4 = f_l_writers := rfl
@[simp] theorem m_ring_from_f0 : (m_ring_from).Φ 0 = f_is_let := rfl
@[simp] theorem m_ring_from_f1 : (m_ring_from).Φ 1 = f_is_done := rfl
@[simp] theorem m_shortest_ring_f0 : (m_shortest_ring).Φ 0 = f_ring_from := rfl
@[simp] theorem m_shortest_ring_c0 : (m_shortest_ring).C 0 = v_RINGS := rfl
@[simp] theorem m_l_any_f0 : (m_l_any).Φ 0 = f_l_next := rfl
@[simp] theorem m_l_any_f1 : (m_l_any).Φ 1 = f_l_closes := rfl
@[simp] theorem m_l_same_f0 {F : List Ar → W Exc D} : (m_l_same F).Φ 0 = F := rfl
@[simp] theorem m_l_ring_from_f0 : (m_l_ring_from).Φ 0 = f_l_next := rfl
@[simp] theorem m_l_ring_from_f1 : (m_l_ring_from).Φ 1 = f_l_closes := rfl
@[simp] theorem m_l_ring_f0 : (m_l_ring).Φ 0 = f_l_ring_from := rfl
@[simp] theorem m_is_ring_f0 : (m_is_ring).Φ 0 = f_is_let := rfl
@[simp] theorem m_is_ring_f1 : (m_is_ring).Φ 1 = f_is_done := rfl
@[simp] theorem m_is_ring_c0 : (m_is_ring).C 0 = v_RINGS := rfl
@[simp] theorem m_l_refused_f0 : (m_l_refused).Φ 0 = f_shortest_ring := rfl
@[simp] theorem m_l_refused_f1 : (m_l_refused).Φ 1 = f_is_ring := rfl
@[simp] theorem m_law_f0 : (m_law).Φ 0 = f_l_some_edges := rfl
@[simp] theorem m_law_f1 : (m_law).Φ 1 = f_edges := rfl
@[simp] theorem m_law_f2 : (m_law).Φ 2 = f_l_history := rfl
@[simp] theorem m_law_f3 : (m_law).Φ 3 = f_shortest_ring := rfl
@[simp] theorem m_law_f4 : (m_law).Φ 4 = f_l_any := rfl
@[simp] theorem m_law_f5 : (m_law).Φ 5 = f_l_same 8 := rfl
@[simp] theorem m_law_f6 : (m_law).Φ 6 = f_l_ring := rfl
@[simp] theorem m_law_f7 : (m_law).Φ 7 = f_l_is_ring := rfl
@[simp] theorem m_law_f8 : (m_law).Φ 8 = f_is_ring := rfl
@[simp] theorem m_law_f9 : (m_law).Φ 9 = f_l_refused := rfl
end K06

/-! EvR: rows of deeds, typed. -/
namespace EvR
open PySem PySem.Spec PyProof.Rows L2 Ev
inductive Dd where
  | bg (w : Int) | rd (w k v n : Int) | wr (w k : Int) | cm (w : Int) | ab (w : Int)
deriving DecidableEq
abbrev sBg : Str := Str.ofString "begin"
abbrev sRd : Str := Str.ofString "read"
abbrev sWr : Str := Str.ofString "write"
abbrev sCm : Str := Str.ofString "commit"
abbrev sAb : Str := Str.ofString "abort"
def nm : Dd → Str
  | .bg _ => sBg
  | .rd _ _ _ _ => sRd
  | .wr _ _ => sWr
  | .cm _ => sCm
  | .ab _ => sAb
def wk : Dd → Int
  | .bg w => w
  | .rd w _ _ _ => w
  | .wr w _ => w
  | .cm w => w
  | .ab w => w
def tl : Dd → List Int
  | .bg _ => []
  | .rd _ k v n => [k, v, n]
  | .wr _ k => [k]
  | .cm _ => []
  | .ab _ => []
def enc (d : Dd) : D := .tuple (.str (nm d) :: .int (wk d) :: (tl d).map .int)
theorem enc_bg (w : Int) : enc (.bg w) = .tuple [.str sBg, .int w] := rfl
theorem enc_cm (w : Int) : enc (.cm w) = .tuple [.str sCm, .int w] := rfl
theorem enc_ab (w : Int) : enc (.ab w) = .tuple [.str sAb, .int w] := rfl
theorem enc_wr (w k : Int) : enc (.wr w k) = .tuple [.str sWr, .int w, .int k] := rfl
theorem enc_rd (w k v n : Int) : enc (.rd w k v n) = .tuple [.str sRd, .int w, .int k, .int v, .int n] := rfl
section
variable {Q : D → Prop} {X : Exc → Prop} {d : Dd}
@[simp] theorem ix0 : (ixD (enc d) (.int 0)).run Q X = Q (.str (nm d)) := by cases d <;> rfl
@[simp] theorem ix1 : (ixD (enc d) (.int 1)).run Q X = Q (.int (wk d)) := by cases d <;> rfl
@[simp] theorem ix2r {w k v n : Int} : (ixD (enc (.rd w k v n)) (.int 2)).run Q X = Q (.int k) := rfl
@[simp] theorem ix3r {w k v n : Int} : (ixD (enc (.rd w k v n)) (.int 3)).run Q X = Q (.int v) := rfl
@[simp] theorem ix4r {w k v n : Int} : (ixD (enc (.rd w k v n)) (.int 4)).run Q X = Q (.int n) := rfl
@[simp] theorem ix2w {w k : Int} : (ixD (enc (.wr w k)) (.int 2)).run Q X = Q (.int k) := rfl
end
/-! ### names -/
def isBg : Dd → Bool
  | .bg _ => true
  | _ => false
def isRd : Dd → Bool
  | .rd _ _ _ _ => true
  | _ => false
def isWr : Dd → Bool
  | .wr _ _ => true
  | _ => false
def isCm : Dd → Bool
  | .cm _ => true
  | _ => false
def isAb : Dd → Bool
  | .ab _ => true
  | _ => false
def isRW : Dd → Bool
  | .rd _ _ _ _ => true
  | .wr _ _ => true
  | _ => false
@[simp] theorem nmBg (d : Dd) : (nm d == Str.ofString "begin") = isBg d := by cases d <;> simp only [nm, isBg] <;> decide +kernel
@[simp] theorem nmRd (d : Dd) : (nm d == Str.ofString "read") = isRd d := by cases d <;> simp only [nm, isRd] <;> decide +kernel
@[simp] theorem nmWr (d : Dd) : (nm d == Str.ofString "write") = isWr d := by cases d <;> simp only [nm, isWr] <;> decide +kernel
@[simp] theorem nmCm (d : Dd) : (nm d == Str.ofString "commit") = isCm d := by cases d <;> simp only [nm, isCm] <;> decide +kernel
@[simp] theorem nmAb (d : Dd) : (nm d == Str.ofString "abort") = isAb d := by cases d <;> simp only [nm, isAb] <;> decide +kernel
theorem beqP {x y : Str} {b : Bool} (h : (x == y) = b) : (x = y) = (b = true) := by
  cases b with
  | true => simpa using h
  | false => simpa using h
@[simp] theorem nmBg' (d : Dd) : (nm d = Str.ofString "begin") = (isBg d = true) := beqP (nmBg d)
@[simp] theorem nmRd' (d : Dd) : (nm d = Str.ofString "read") = (isRd d = true) := beqP (nmRd d)
@[simp] theorem nmWr' (d : Dd) : (nm d = Str.ofString "write") = (isWr d = true) := beqP (nmWr d)
@[simp] theorem nmCm' (d : Dd) : (nm d = Str.ofString "commit") = (isCm d = true) := beqP (nmCm d)
@[simp] theorem nmAb' (d : Dd) : (nm d = Str.ofString "abort") = (isAb d = true) := beqP (nmAb d)
/-! ### comparison -/
theorem eqvAll_ints2 (l m : List Int) : PyData.eqvAll (l.map .int) (m.map .int) = decide (l = m) := eqvAll_ints l m
theorem nm_inj {d e : Dd} (h : nm d = nm e) (hw : wk d = wk e) (ht : tl d = tl e) : d = e := by
  cases e with
  | bg w =>
    have : (nm d == Str.ofString "begin") = true := by rw [h, nmBg]; rfl
    rw [nmBg] at this
    cases d <;> simp [isBg, wk] at * <;> assumption
  | rd w k v n =>
    have : (nm d == Str.ofString "read") = true := by rw [h, nmRd]; rfl
    rw [nmRd] at this
    cases d <;> simp [isRd, wk, tl] at * <;> simp [*]
  | wr w k =>
    have : (nm d == Str.ofString "write") = true := by rw [h, nmWr]; rfl
    rw [nmWr] at this
    cases d <;> simp [isWr, wk, tl] at * <;> simp [*]
  | cm w =>
    have : (nm d == Str.ofString "commit") = true := by rw [h, nmCm]; rfl
    rw [nmCm] at this
    cases d <;> simp [isCm, wk] at * <;> assumption
  | ab w =>
    have : (nm d == Str.ofString "abort") = true := by rw [h, nmAb]; rfl
    rw [nmAb] at this
    cases d <;> simp [isAb, wk] at * <;> assumption
theorem eqv_enc (d e : Dd) : PyData.eqv (enc d) (enc e) = decide (d = e) := by
  unfold enc
  rw [PyData.eqv, PyData.eqvAll, PyData.eqvAll, eqvAll_ints, PyData.eqv, PyData.eqv]
  by_cases h : d = e
  · subst h; simp
  · rw [decide_eq_false h]
    by_cases h1 : nm d = nm e
    · by_cases h2 : wk d = wk e
      · have h3 : tl d ≠ tl e := fun h3 => h (nm_inj h1 h2 h3)
        simp [h3]
      · simp [h2]
    · have : (nm d == nm e) = false := by simpa using h1
      rw [this]; rfl
theorem depth_enc (d : Dd) : PyData.depth (enc d) = 1 := by
  unfold enc
  simp [PyData.depth, PyData.depthAll, Ev.depth_ints]
@[simp] theorem nd_enc (d : Dd) : nd (enc d) = true := by
  unfold enc
  simp [nd, ndAll, ndAll_ints]
theorem nd_rows (R : List Dd) : ndAll (R.map enc) = true := by induction R <;> simp_all [ndAll]
@[simp] theorem sh_enc (d : Dd) : sh (enc d) = true := by
  have h := depth_enc d
  have h2 := nd_enc d
  unfold enc at h h2 ⊢
  rw [nd] at h2
  simp [sh, h, h2]
theorem depth_rows : ∀ R : List Dd, PyData.depthAll (R.map enc) ≤ 1
  | [] => by simp [PyData.depthAll]
  | d :: R => by
    have := depth_rows R
    simp [PyData.depthAll, depth_enc]
    omega
@[simp] theorem sh_row (R : List Dd) : sh (.tuple (R.map enc)) = true := by
  have := depth_rows R
  simp [sh, PyData.depth, nd_rows]
  omega
@[simp] theorem sh_rowL (R : List Dd) : sh (.list (R.map enc)) = true := by
  have := depth_rows R
  simp [sh, PyData.depth, nd_rows]
  omega
theorem any_enc (e : Dd) : ∀ R : List Dd, ((R.map enc).any fun z => PyData.eqv z (enc e)) = decide (e ∈ R)
  | [] => by simp
  | d :: R => by
    rw [List.map_cons, List.any_cons, any_enc e R, eqv_enc]
    by_cases h : d = e
    · subst h; simp
    · have h' : ¬ e = d := fun q => h q.symm
      simp [h, h']
section
variable {n : Bool} {R : List Dd} {w k : Int} {Q : Bool → Prop} {X : Exc → Prop}
theorem in_enc {e : Dd} : (inD n (enc e) (.tuple (R.map enc))).run Q X = Q (if n then !decide (e ∈ R) else decide (e ∈ R)) := by
  show ((sh (enc e) = true ∧ sh (.tuple (R.map enc)) = true) ∧ Q _) = _
  rw [any_enc]
  simp
@[simp] theorem in_bg : (inD n (.tuple [.str (Str.ofString "begin"), .int w]) (.tuple (R.map enc))).run Q X = Q (if n then !decide (Dd.bg w ∈ R) else decide (Dd.bg w ∈ R)) := in_enc (e := .bg w)
@[simp] theorem in_cm : (inD n (.tuple [.str (Str.ofString "commit"), .int w]) (.tuple (R.map enc))).run Q X = Q (if n then !decide (Dd.cm w ∈ R) else decide (Dd.cm w ∈ R)) := in_enc (e := .cm w)
@[simp] theorem in_ab : (inD n (.tuple [.str (Str.ofString "abort"), .int w]) (.tuple (R.map enc))).run Q X = Q (if n then !decide (Dd.ab w ∈ R) else decide (Dd.ab w ∈ R)) := in_enc (e := .ab w)
@[simp] theorem eq_wr {d : Dd} : PyData.eqv (enc d) (.tuple [.str (Str.ofString "write"), .int w, .int k]) = decide (d = .wr w k) := eqv_enc d (.wr w k)
@[simp] theorem sh_wr : sh (.tuple [.str (Str.ofString "write"), .int w, .int k]) = true := sh_enc (.wr w k)
end
theorem idx_enc {R : List Dd} {e : Dd} {Q : D → Prop} {X : Exc → Prop} (h : e ∈ R) (q : Q (.int (R.idxOf e))) : (indexD (.tuple (R.map enc)) (enc e)).run Q X := by
  show ((sh (enc e) = true ∧ sh (.tuple (R.map enc)) = true) ∧ (match findD (R.map enc) (enc e) with | some j => W.ret (PyData.int j) | none => W.stuck : W Exc D).run Q X)
  have hf : findD (R.map enc) (enc e) = some (R.idxOf e) := by
    unfold findD
    rw [List.findIdx?_map]
    have e1 : ((fun z => PyData.eqv z (enc e)) ∘ enc) = fun d => d == e := by
      funext d
      show PyData.eqv (enc d) (enc e) = _
      rw [eqv_enc]; rfl
    rw [e1]
    have hl : R.idxOf e < R.length := List.idxOf_lt_length_iff.mpr h
    rw [List.findIdx?_eq_some_iff_findIdx_eq]
    exact ⟨hl, rfl⟩
  rw [hf]
  exact ⟨⟨sh_enc e, sh_row R⟩, q⟩
@[simp] theorem cut_row {R : List Dd} {p : Nat} : Ev.cutD (R.map enc) none (some (p : Int)) = (R.take p).map enc := by rw [cut_take, List.map_take]
@[simp] theorem eqv_row (R S : List Dd) : PyData.eqv (.tuple (R.map enc)) (.tuple (S.map enc)) = decide (R = S) := by
  have main : ∀ R S : List Dd, PyData.eqvAll (R.map enc) (S.map enc) = decide (R = S) := by
    intro R
    induction R with
    | nil => intro S; cases S <;> simp [PyData.eqvAll]
    | cons d R ih =>
      intro S
      cases S with
      | nil => simp [PyData.eqvAll]
      | cons e S =>
        rw [List.map_cons, List.map_cons, PyData.eqvAll, ih, eqv_enc]
        simp
  rw [PyData.eqv]
  exact main R S
theorem good_enc (n : Nat) (d : Dd) : good (n + 2) (enc d) := by
  intro x hx
  rcases List.mem_cons.mp hx with e | hx
  · rw [e]; trivial
  rcases List.mem_cons.mp hx with e | hx
  · rw [e]; trivial
  obtain ⟨i, _, rfl⟩ := List.mem_map.mp hx
  trivial
theorem good_row (n : Nat) (R : List Dd) : good (n + 3) (.tuple (R.map enc)) := by
  intro x hx
  obtain ⟨d, _, rfl⟩ := List.mem_map.mp hx
  exact good_enc n d
end EvR

/-! EvR2: small things for the walks over rows. -/
namespace EvR
open PySem PySem.Spec PyProof.Rows L2 Ev
section
variable {n : Bool} {a b c e : Int} {Q : Bool → Prop} {X : Exc → Prop}
@[simp] theorem in_t1 : (inD n (.int a) (.tuple [.int b])).run Q X = Q (if n then !decide (a = b) else decide (a = b)) := by
  have := in_ti (n := n) (a := a) (l := [b]) (Q := Q) (X := X)
  simpa using this
@[simp] theorem in_t2 : (inD n (.int a) (.tuple [.int b, .int c])).run Q X = Q (if n then !decide (a = b ∨ a = c) else decide (a = b ∨ a = c)) := by
  have := in_ti (n := n) (a := a) (l := [b, c]) (Q := Q) (X := X)
  simpa using this
end
@[simp] theorem eqv_lnil (l : List Int) : PyData.eqv (.list (l.map .int)) (.list []) = decide (l = []) := eqv_lints l []
@[simp] theorem eqv_tnil (l : List Int) : PyData.eqv (.tuple (l.map .int)) (.tuple []) = decide (l = []) := eqv_tints l []
@[simp] theorem sh_nil : sh (.list []) = true := sh_lints []
@[simp] theorem sh_tnil : sh (.tuple []) = true := sh_tints []
theorem line9 {n : Nat} (h : n ≤ 999) : n < sizeLine := Nat.lt_of_lt_of_le (show n < 1000 by omega) (small_of (by decide))
theorem line8 {n : Nat} (h : n ≤ 999) : n ≤ sizeLine := Nat.le_of_lt (line9 h)
theorem line7 {n : Nat} (h : n ≤ 1000000) : n ≤ sizeLine := by rw [sizeLine_eq]; omega
theorem line6 {n : Nat} (h : n ≤ 1000000) : n < sizeLine := by rw [sizeLine_eq]; omega
theorem scan7 {n : Nat} (h : n ≤ 4000) : n < scanBound := by
  have : (4000 : Nat) < scanBound := by decide
  omega
theorem uniqI_len (l : List Int) : (uniqI l).length ≤ l.length :=
  nodup_len (sorted_nodup linI (uniq_sorted linI l)) fun x hx => (uniq_mem linI l x).mp hx
@[simp] theorem srtS_li {l : List Int} {Q : List D → Prop} {X : Exc → Prop} : (srtSetD (.list (l.map .int))).run Q X = ((l.length + 1 < scanBound ∧ (uniqI l).length < 64) ∧ Q ((uniqI l).map .int)) := by
  show (match Ev.intsOf (l.map .int) with
    | some ns => (W.ask (ns.length + 1 < scanBound ∧ (uniqI ns).length < 64)).bind fun _ => .ret ((uniqI ns).map .int)
    | none => _ : W Exc (List D)).run Q X = _
  rw [Ev.intsOf_map]
  rfl
theorem atI_last {α : Type} (xs : List α) (x : α) : atI (xs ++ [x]) (-1) = some x := by
  have : ixN (xs ++ [x]).length (-1) = some xs.length := by
    unfold ixN
    rw [if_neg (by omega), if_pos (by simp; omega)]
    simp
    omega
  unfold atI
  rw [this]
  simp
theorem atI_last' {l : List Int} {v : Int} (h : l.getLast? = some v) : atI (l.map PyData.int) (-1) = some (.int v) := by
  obtain ⟨ys, rfl⟩ := List.getLast?_eq_some_iff.mp h
  rw [List.map_append]
  exact atI_last _ _
@[simp] theorem lst_l {ds : List D} {Q : List D → Prop} {X : Exc → Prop} : (listF (.list ds)).run Q X = Q ds := rfl
@[simp] theorem lst_t {ds : List D} {Q : List D → Prop} {X : Exc → Prop} : (listF (.tuple ds)).run Q X = Q ds := rfl
@[simp] theorem cat_l {xs ys : List D} {Q : List D → Prop} {X : Exc → Prop} : (catF (.list xs) (.list ys)).run Q X = (xs.length + ys.length ≤ sizeLine ∧ Q (xs ++ ys)) := rfl
/-- loops over a range -/
theorem forD_upto {t : T} {body : S} {lo : Int} {n : Nat} {ρ : List Sl} {Q : Out → Prop} {XX : XS → Prop} (I : Nat → List Sl → Prop) (h0 : I 0 ρ)
    (hs : ∀ (i : Nat) (ρ : List Sl), i < n → I i ρ → (asgT t (.int (lo + i)) ρ).run (fun ρ1 => (body ρ1).run (stepQ (I (i + 1)) Q) XX) (fun e => XX (e, ρ))) (hd : ∀ ρ, I n ρ → Q (.nx ρ)) : (forD t body (upto lo n) ρ).run Q XX := by
  refine forD_run I h0 (fun i x ρ hx hI => ?_) (fun ρ hI => hd ρ (by rwa [upto_len] at hI))
  have hl : i < n := by
    have := (List.getElem?_eq_some_iff.mp hx).1
    rwa [upto_len] at this
  have e : x = .int (lo + i) := by
    rw [upto_eq, List.getElem?_map, List.getElem?_range hl] at hx
    exact (Option.some.inj hx).symm
  rw [e]
  exact hs i ρ hl hI
/-- loops over a typed list -/
theorem forD_enc {α : Type} {enc : α → D} {t : T} {body : S} {xs : List α} {ρ : List Sl} {Q : Out → Prop} {XX : XS → Prop} (I : Nat → List Sl → Prop) (h0 : I 0 ρ)
    (hs : ∀ (i : Nat) (x : α) (ρ : List Sl), xs[i]? = some x → I i ρ → (asgT t (enc x) ρ).run (fun ρ1 => (body ρ1).run (stepQ (I (i + 1)) Q) XX) (fun e => XX (e, ρ))) (hd : ∀ ρ, I xs.length ρ → Q (.nx ρ)) : (forD t body (xs.map enc) ρ).run Q XX := by
  refine forD_run I h0 (fun i x ρ hx hI => ?_) (fun ρ hI => hd ρ (by rwa [List.length_map] at hI))
  rw [List.getElem?_map] at hx
  cases e : xs[i]? with
  | none => rw [e] at hx; cases hx
  | some y => rw [e] at hx; cases hx; exact hs i y ρ e hI
/-- a comprehension with a test -/
theorem lcD_fm {α β : Type} {enc : α → D} {enc' : β → D} {body : D → W Exc (Option D)} (p : α → Bool) (f : α → β) {Q : List D → Prop} {X : Exc → Prop} {xs : List α}
    (h : ∀ x ∈ xs, ∀ R : Option D → Prop, (p x = true → R (some (enc' (f x)))) → (p x = false → R none) → (body (enc x)).run R X) (q : Q (((xs.filter p).map f).map enc')) : (lcD body (xs.map enc) []).run Q X := by
  refine lcD_enc (fun x => if p x = true then some (enc' (f x)) else none) (fun x hx R hR => h x hx R (fun e => by simpa [e] using hR) (fun e => by simpa [e] using hR)) ?_
  rw [filterMap_enc p f enc', List.nil_append]
  exact q
/-- a comprehension without a test -/
theorem lcD_mp {α β : Type} {enc : α → D} {enc' : β → D} {body : D → W Exc (Option D)} (f : α → β) {Q : List D → Prop} {X : Exc → Prop} {xs : List α}
    (h : ∀ x ∈ xs, ∀ R : Option D → Prop, R (some (enc' (f x))) → (body (enc x)).run R X) (q : Q ((xs.map f).map enc')) : (lcD body (xs.map enc) []).run Q X := by
  refine lcD_fm (fun _ => true) f (fun x hx R h1 _ => h x hx R (h1 rfl)) ?_
  rwa [List.filter_eq_self.mpr (fun _ _ => rfl)]
/-! ### what rows tell -/
def cnt (R : List Dd) (w k : Int) : Nat := (R.filter fun d => decide (d = .wr w k)).length
def cms (R : List Dd) : List Int := (R.filter isCm).map wk
def isWrK (k : Int) : Dd → Bool
  | .wr _ k' => decide (k' = k)
  | _ => false
def wrs (R : List Dd) (k : Int) : List Int := (R.filter (isWrK k)).map wk
def lastV (R : List Dd) (k : Int) (l : List Int) : Int × Int := match l.getLast? with
  | some v => (v, cnt R v k)
  | none => (0, 0)
abbrev vD (p : Int × Int) : D := .tuple [.int p.1, .int p.2]
theorem cnt_pos {R : List Dd} {w k : Int} : 0 < cnt R w k ↔ Dd.wr w k ∈ R := by
  unfold cnt
  rw [List.length_pos_iff_exists_mem]
  constructor
  · rintro ⟨d, h⟩
    obtain ⟨h1, h2⟩ := List.mem_filter.mp h
    have : d = .wr w k := by simpa using h2
    rwa [this] at h1
  · intro h
    exact ⟨_, List.mem_filter.mpr ⟨h, by simp⟩⟩
theorem wrs_mem {R : List Dd} {w k : Int} : w ∈ wrs R k ↔ Dd.wr w k ∈ R := by
  unfold wrs
  constructor
  · intro h
    obtain ⟨d, h1, h2⟩ := List.mem_map.mp h
    obtain ⟨h3, h4⟩ := List.mem_filter.mp h1
    cases d <;> simp [isWrK] at h4
    subst h4
    simp [wk] at h2
    subst h2
    exact h3
  · intro h
    exact List.mem_map.mpr ⟨_, List.mem_filter.mpr ⟨h, by simp [isWrK]⟩, rfl⟩
theorem cms_mem {R : List Dd} {w : Int} : w ∈ cms R ↔ Dd.cm w ∈ R := by
  unfold cms
  constructor
  · intro h
    obtain ⟨d, h1, h2⟩ := List.mem_map.mp h
    obtain ⟨h3, h4⟩ := List.mem_filter.mp h1
    cases d <;> simp [isCm] at h4
    simp [wk] at h2
    subst h2
    exact h3
  · intro h
    exact List.mem_map.mpr ⟨_, List.mem_filter.mpr ⟨h, rfl⟩, rfl⟩
/-- which version is read -/
def Ver (mode : Int) (R : List Dd) (w k : Int) (p : Int × Int) : Prop :=
  if 0 < cnt R w k then p = (w, (cnt R w k : Int))
  else if mode = 2 ∨ mode = 3 then p = lastV R k ((cms (if mode = 2 then R.take (R.idxOf (.bg w)) else R)).filter fun o => decide (0 < cnt R o k))
  else if mode = 1 then p = lastV R k (wrs R k)
  else p = (0, 0) ∨ (Dd.wr p.1 k ∈ R ∧ 1 ≤ p.2 ∧ p.2 ≤ cnt R p.1 k)
end EvR

/-! EvR3: ranges, lists of our own; what the rows of the laws are. -/
namespace EvR
open PySem PySem.Spec PyProof.Rows L2 Ev
def rgI (lo : Int) (n : Nat) : List Int := (List.range n).map fun (i : Nat) => lo + (i : Int)
theorem upto_ints (lo : Int) (n : Nat) : upto lo n = (rgI lo n).map .int := by unfold rgI; rw [List.map_map]; rfl
theorem rgI_len (lo : Int) (n : Nat) : (rgI lo n).length = n := by simp [rgI]
theorem rgI_mem {lo : Int} {n : Nat} {w : Int} : w ∈ rgI lo n ↔ lo ≤ w ∧ w < lo + n := by
  unfold rgI
  rw [List.mem_map]
  constructor
  · rintro ⟨i, hi, rfl⟩
    have := List.mem_range.mp hi
    omega
  · rintro ⟨h1, h2⟩
    exact ⟨(w - lo).toNat, List.mem_range.mpr (by omega), by omega⟩
def inR2 (i j : Int) : Prop := -(2 ^ 62) ≤ i ∧ i < 2 ^ 62 ∧ -(2 ^ 62) ≤ j ∧ j < 2 ^ 62
theorem inR2_small {i j : Int} (h : 0 ≤ i) (h2 : i ≤ 100000) (h3 : -1 ≤ j) (h4 : j ≤ 100000) : inR2 i j := by unfold inR2; omega
@[simp] theorem rng2_run {i j : Int} {Q : List D → Prop} {X : Exc → Prop} : (rng2D (.int i) (.int j)).run Q X = (inR2 i j ∧ Q (upto i (j - i).toNat)) := rfl
section
variable {M : Mg} {ρ : List Sl}
@[simp] theorem dS_setI {i : Nat} {j e : IE} : denS M (.setI i j e) ρ = setW i (denE M j) (denE M e) ρ := rfl
@[simp] theorem ownW_0 {xs : List D} : ownW (.own xs :: ρ) 0 = .ret xs := rfl
@[simp] theorem ownW_s {s : Sl} {n : Nat} : ownW (s :: ρ) (n + 1) = ownW ρ n := rfl
end
theorem ixN_nat {n j : Nat} (h : j < n) : ixN n (j : Int) = some j := by
  unfold ixN
  rw [if_pos (by omega), if_pos (by omega)]
  simp
theorem setAt_int {L : List Int} {j : Nat} {v : Int} (h : j < L.length) : setAtD (L.map .int) (.int (j : Int)) (.int v) = some ((L.set j v).map .int) := by
  show Option.map (fun j => (L.map PyData.int).set j (.int v)) (ixN (L.map PyData.int).length (j : Int)) = _
  rw [List.length_map, ixN_nat h]
  simp
theorem row_snoc (R : List Dd) (d : Dd) : R.map enc ++ [enc d] = (R ++ [d]).map enc := by simp
/-! ### rows as the laws draw them -/
def Act (R : List Dd) (w : Int) : Prop := Dd.bg w ∈ R ∧ Dd.cm w ∉ R ∧ Dd.ab w ∉ R
inductive Gen (mode many keys : Int) : List Dd → Prop
  | nil : Gen mode many keys []
  | bg {R : List Dd} {w : Int} : Gen mode many keys R → 1 ≤ w → w ≤ many → Dd.bg w ∉ R → Gen mode many keys (R ++ [.bg w])
  | wr {R : List Dd} {w k : Int} : Gen mode many keys R → Act R w → 0 ≤ k → k < keys → Gen mode many keys (R ++ [.wr w k])
  | rd {R : List Dd} {w k v n : Int} : Gen mode many keys R → Act R w → 0 ≤ k → k < keys → Ver mode R w k (v, n) → Gen mode many keys (R ++ [.rd w k v n])
  | cm {R : List Dd} {w : Int} : Gen mode many keys R → Act R w → Gen mode many keys (R ++ [.cm w])
  | ab {R : List Dd} {w : Int} : Gen mode many keys R → Act R w → Gen mode many keys (R ++ [.ab w])
/-- all that began are over -/
def Over (R : List Dd) : Prop := ∀ w, Dd.bg w ∈ R → Dd.cm w ∈ R ∨ Dd.ab w ∈ R
section
variable {mode many keys : Int} {R : List Dd}
theorem Gen.begun (G : Gen mode many keys R) : ∀ d ∈ R, Dd.bg (wk d) ∈ R := by
  induction G with
  | nil => intro d h; cases h
  | bg G h1 h2 h3 ih =>
    intro d hd
    rcases List.mem_append.mp hd with hd | hd
    · exact List.mem_append_left _ (ih d hd)
    · rw [List.mem_singleton.mp hd]; exact List.mem_append_right _ (List.mem_singleton.mpr rfl)
  | wr G a _ _ ih =>
    intro d hd
    rcases List.mem_append.mp hd with hd | hd
    · exact List.mem_append_left _ (ih d hd)
    · rw [List.mem_singleton.mp hd]; exact List.mem_append_left _ a.1
  | rd G a _ _ _ ih =>
    intro d hd
    rcases List.mem_append.mp hd with hd | hd
    · exact List.mem_append_left _ (ih d hd)
    · rw [List.mem_singleton.mp hd]; exact List.mem_append_left _ a.1
  | cm G a ih =>
    intro d hd
    rcases List.mem_append.mp hd with hd | hd
    · exact List.mem_append_left _ (ih d hd)
    · rw [List.mem_singleton.mp hd]; exact List.mem_append_left _ a.1
  | ab G a ih =>
    intro d hd
    rcases List.mem_append.mp hd with hd | hd
    · exact List.mem_append_left _ (ih d hd)
    · rw [List.mem_singleton.mp hd]; exact List.mem_append_left _ a.1
theorem mem_snoc {d e : Dd} (h : d ∈ R ++ [e]) : d ∈ R ∨ d = e := by
  rcases List.mem_append.mp h with h | h
  · exact .inl h
  · exact .inr (List.mem_singleton.mp h)
theorem Gen.range (G : Gen mode many keys R) : ∀ w, Dd.bg w ∈ R → 1 ≤ w ∧ w ≤ many := by
  induction G with
  | nil => intro d h; cases h
  | bg G h1 h2 h3 ih =>
    intro w hd
    rcases mem_snoc hd with hd | hd
    · exact ih w hd
    · cases hd; exact ⟨h1, h2⟩
  | wr G a _ _ ih => intro w hd; rcases mem_snoc hd with hd | hd; exact ih w hd; cases hd
  | rd G a _ _ _ ih => intro w hd; rcases mem_snoc hd with hd | hd; exact ih w hd; cases hd
  | cm G a ih => intro w hd; rcases mem_snoc hd with hd | hd; exact ih w hd; cases hd
  | ab G a ih => intro w hd; rcases mem_snoc hd with hd | hd; exact ih w hd; cases hd
end
end EvR

/-! EvR4: flags, places, ends. -/
namespace EvR
open PySem PySem.Spec PyProof.Rows L2 Ev
@[simp] theorem bi_all : BI.op .all = allD := rfl
@[simp] theorem bi_any : BI.op .any = anyD := rfl
@[simp] theorem bi_min : BI.op .min = minD := rfl
@[simp] theorem all_bs {bs : List Bool} {Q : D → Prop} {X : Exc → Prop} : (allD (.list (bs.map .bool))).run Q X = Q (.bool (bs.all id)) := by
  show (optW (boolsOf (bs.map .bool)) fun bs => W.ret (.bool (bs.all id))).run Q X = _
  rw [boolsOf_map]; rfl
@[simp] theorem any_bs {bs : List Bool} {Q : D → Prop} {X : Exc → Prop} : (anyD (.list (bs.map .bool))).run Q X = Q (.bool (bs.any id)) := by
  show (optW (boolsOf (bs.map .bool)) fun bs => W.ret (.bool (bs.any id))).run Q X = _
  rw [boolsOf_map]; rfl
@[simp] theorem seqOnly_t {xs : List D} : seqOnly (.tuple xs) = .ret () := rfl
@[simp] theorem seqOnly_l {xs : List D} : seqOnly (.list xs) = .ret () := rfl
section
variable {I : List Sl → Prop} {Q : Out → Prop} {ρ : List Sl} {d : D}
@[simp] theorem stepQ_nx : stepQ I Q (.nx ρ) = I ρ := rfl
@[simp] theorem stepQ_ct : stepQ I Q (.ct ρ) = I ρ := rfl
@[simp] theorem stepQ_bk : stepQ I Q (.bk ρ) = Q (.nx ρ) := rfl
@[simp] theorem stepQ_rt : stepQ I Q (.rt d) = Q (.rt d) := rfl
end
def oD : Option Nat → D
  | none => .none
  | some n => .int n
def firstB (bs : List Bool) : Option Nat := bs.findIdx? id
theorem firstB_some {bs : List Bool} {i : Nat} (h : bs[i]? = some true) (h2 : ∀ j, j < i → bs[j]? = some false) : firstB bs = some i := by
  unfold firstB
  rw [List.findIdx?_eq_some_iff_getElem]
  have hl : i < bs.length := (List.getElem?_eq_some_iff.mp h).1
  refine ⟨hl, (List.getElem?_eq_some_iff.mp h).2, fun j hj => ?_⟩
  have := (List.getElem?_eq_some_iff.mp (h2 j hj)).2
  rw [this]
  simp
theorem firstB_none {bs : List Bool} (h2 : ∀ j, j < bs.length → bs[j]? = some false) : firstB bs = none := by
  unfold firstB
  rw [List.findIdx?_eq_none_iff]
  intro x hx
  obtain ⟨i, hi, e⟩ := List.getElem_of_mem hx
  have := (List.getElem?_eq_some_iff.mp (h2 i hi)).2
  rw [← e, this]; rfl
/-- the first number below n with p -/
def firstP (n : Nat) (p : Nat → Bool) : Option Nat := firstB ((List.range n).map p)
theorem firstP_some {n : Nat} {p : Nat → Bool} {i : Nat} (hi : i < n) (h : p i = true) (h2 : ∀ j, j < i → p j = false) : firstP n p = some i := by
  refine firstB_some (by rw [List.getElem?_map, List.getElem?_range hi]; simp [h]) fun j hj => ?_
  rw [List.getElem?_map, List.getElem?_range (by omega)]
  simp [h2 j hj]
theorem firstP_none {n : Nat} {p : Nat → Bool} (h2 : ∀ j, j < n → p j = false) : firstP n p = none := by
  refine firstB_none fun j hj => ?_
  have hj' : j < n := by simpa using hj
  rw [List.getElem?_map, List.getElem?_range hj']
  simp [h2 j hj']
theorem firstP_congr {n : Nat} {p q : Nat → Bool} (h : ∀ i, i < n → p i = q i) : firstP n p = firstP n q := by
  unfold firstP
  congr 1
  exact List.map_congr_left fun i hi => h i (List.mem_range.mp hi)
theorem firstP_eq_none {n : Nat} {p : Nat → Bool} : firstP n p = none ↔ ∀ j, j < n → p j = false := by
  refine ⟨fun h j hj => ?_, firstP_none⟩
  unfold firstP firstB at h
  rw [List.findIdx?_eq_none_iff] at h
  have := h (p j) (List.mem_map.mpr ⟨j, List.mem_range.mpr hj, rfl⟩)
  simpa using this
/-! ### places -/
theorem idx_take {R : List Dd} {e : Dd} {p : Nat} (h : e ∈ R) : R.idxOf e < p ↔ e ∈ R.take p := by
  constructor
  · intro hp
    have hl : R.idxOf e < R.length := List.idxOf_lt_length_iff.mpr h
    rw [List.mem_take_iff_getElem]
    exact ⟨R.idxOf e, by omega, List.getElem_idxOf hl⟩
  · intro hm
    rw [List.mem_take_iff_getElem] at hm
    obtain ⟨i, hi, e1⟩ := hm
    have : R.idxOf e ≤ i := by
      refine Nat.le_of_not_lt fun hlt => ?_
      have q := List.not_of_lt_findIdx (xs := R) (p := fun d => d == e) (i := i) hlt
      rw [e1] at q
      simp at q
    omega
theorem mem_of_take {R : List Dd} {e : Dd} {p : Nat} (h : e ∈ R.take p) : e ∈ R := List.mem_of_mem_take h
def comB (R : List Dd) (v : Int) (i : Nat) : Bool := decide (v = 0) || decide (Dd.cm v ∈ R.take i)
def endB (R : List Dd) (w : Int) (i : Nat) : Bool := decide (Dd.cm w ∈ R.take i) || decide (Dd.ab w ∈ R.take i)
def kof : Dd → Int
  | .rd _ k _ _ => k
  | .wr _ k => k
  | _ => 0
def vof : Dd → Int
  | .rd _ _ v _ => v
  | _ => 0
theorem ix2 {d : Dd} (h : isRW d = true) {Q : D → Prop} {X : Exc → Prop} (q : Q (.int (kof d))) : (ixD (enc d) (.int 2)).run Q X := by
  cases d <;> first
    | exact q
    | cases h
theorem ix3 {d : Dd} (h : isRd d = true) {Q : D → Prop} {X : Exc → Prop} (q : Q (.int (vof d))) : (ixD (enc d) (.int 3)).run Q X := by
  cases d <;> first
    | exact q
    | cases h
theorem row_at {R : List Dd} {i : Nat} {d : Dd} (h : R[i]? = some d) {Q : D → Prop} {X : Exc → Prop} (q : Q (enc d)) : (ixD (.tuple (R.map enc)) (.int (i : Int))).run Q X :=
  ix_t (Ev.atI_nat (by rw [List.getElem?_map, h]; rfl)) q
theorem any_strs (a : Str) : ∀ l : List Str, ((l.map PyData.str).any fun z => PyData.eqv z (.str a)) = decide (a ∈ l)
  | [] => by simp
  | i :: l => by
    rw [List.map_cons, List.any_cons, any_strs a l]
    by_cases h : i = a
    · subst h; simp
    · have h' : ¬ a = i := fun e => h e.symm
      simp [h, h']
theorem depth_strs : ∀ l : List Str, PyData.depthAll (l.map .str) = 0
  | [] => by simp [PyData.depthAll]
  | i :: l => by simp [PyData.depthAll, PyData.depth, depth_strs l]
theorem ndAll_strs (l : List Str) : ndAll (l.map .str) = true := by induction l <;> simp_all [ndAll, nd]
@[simp] theorem sh_tstrs (l : List Str) : sh (.tuple (l.map .str)) = true := by simp [sh, PyData.depth, depth_strs, ndAll_strs]
@[simp] theorem sh_lstrs (l : List Str) : sh (.list (l.map .str)) = true := by simp [sh, PyData.depth, depth_strs, ndAll_strs]
theorem in_ts {n : Bool} {a : Str} {l : List Str} {Q : Bool → Prop} {X : Exc → Prop} : (inD n (.str a) (.tuple (l.map .str))).run Q X = Q (if n then !decide (a ∈ l) else decide (a ∈ l)) := by
  show ((sh (.str a) = true ∧ sh (.tuple (l.map .str)) = true) ∧ Q _) = _
  rw [any_strs]
  simp
theorem in_ls {n : Bool} {a : Str} {l : List Str} {Q : Bool → Prop} {X : Exc → Prop} : (inD n (.str a) (.list (l.map .str))).run Q X = Q (if n then !decide (a ∈ l) else decide (a ∈ l)) := by
  show ((sh (.str a) = true ∧ sh (.list (l.map .str)) = true) ∧ Q _) = _
  rw [any_strs]
  simp
section
variable {n : Bool} {a b c e f : Str} {Q : Bool → Prop} {X : Exc → Prop}
@[simp] theorem in_s1 : (inD n (.str a) (.tuple [.str b])).run Q X = Q (if n then !(a == b) else (a == b)) := by
  have h := in_ts (n := n) (a := a) (l := [b]) (Q := Q) (X := X)
  have e : decide (a ∈ [b]) = (a == b) := by rw [Bool.eq_iff_iff]; simp
  rw [e] at h; exact h
@[simp] theorem in_s2 : (inD n (.str a) (.tuple [.str b, .str c])).run Q X = Q (if n then !(a == b || a == c) else (a == b || a == c)) := by
  have h := in_ts (n := n) (a := a) (l := [b, c]) (Q := Q) (X := X)
  have e : decide (a ∈ [b, c]) = (a == b || a == c) := by rw [Bool.eq_iff_iff]; simp
  rw [e] at h; exact h
@[simp] theorem in_sl1 : (inD n (.str a) (.list [.str b])).run Q X = Q (if n then !(a == b) else (a == b)) := by
  have h := in_ls (n := n) (a := a) (l := [b]) (Q := Q) (X := X)
  have e : decide (a ∈ [b]) = (a == b) := by rw [Bool.eq_iff_iff]; simp
  rw [e] at h; exact h
@[simp] theorem in_sl2 : (inD n (.str a) (.list [.str b, .str c])).run Q X = Q (if n then !(a == b || a == c) else (a == b || a == c)) := by
  have h := in_ls (n := n) (a := a) (l := [b, c]) (Q := Q) (X := X)
  have e : decide (a ∈ [b, c]) = (a == b || a == c) := by rw [Bool.eq_iff_iff]; simp
  rw [e] at h; exact h
end
section
variable {mode many keys : Int} {R : List Dd}
theorem Gen.one_end (G : Gen mode many keys R) : ∀ w, Dd.cm w ∈ R → Dd.ab w ∉ R := by
  induction G with
  | nil => intro w h; cases h
  | bg G h1 h2 h3 ih =>
    intro w hc ha
    rcases mem_snoc hc with hc | hc
    · rcases mem_snoc ha with ha | ha
      · exact ih w hc ha
      · cases ha
    · cases hc
  | wr G a _ _ ih =>
    intro w hc ha
    rcases mem_snoc hc with hc | hc
    · rcases mem_snoc ha with ha | ha
      · exact ih w hc ha
      · cases ha
    · cases hc
  | rd G a _ _ _ ih =>
    intro w hc ha
    rcases mem_snoc hc with hc | hc
    · rcases mem_snoc ha with ha | ha
      · exact ih w hc ha
      · cases ha
    · cases hc
  | cm G a ih =>
    intro w hc ha
    rcases mem_snoc ha with ha | ha
    · rcases mem_snoc hc with hc | hc
      · exact ih w hc ha
      · cases hc; exact a.2.2 ha
    · cases ha
  | ab G a ih =>
    intro w hc ha
    rcases mem_snoc hc with hc | hc
    · rcases mem_snoc ha with ha | ha
      · exact ih w hc ha
      · cases ha; exact a.2.1 hc
    · cases hc
end
end EvR

/-! Ev32: statements one by one. -/
namespace Ev
open PySem PySem.Spec PyProof.Rows L2
section
variable {M : Mg} {ρ : List Sl} {Q : Out → Prop} {XX : XS → Prop} {t a b : IT} {c : IC}
/-- the next statement alone -/
theorem stp {s : IS} (h : (denS M s ρ).run (fun o => match o with | .nx ρ' => (denT M t ρ').run Q XX | .rt d => Q (.rt d) | .bk ρ' => Q (.bk ρ') | .ct ρ' => Q (.ct ρ')) XX) : (denT M (.cons s t) ρ).run Q XX := by
  rw [dT_cons, seqS_run]
  exact h
/-- a test that fails -/
theorem ife_no (h : (denC M c ρ).run (fun k => k = false) (fun x => XX (x, ρ))) (h2 : (denT M t ρ).run Q XX) : (denT M (.cons (.ife c a .nil) t) ρ).run Q XX := by
  refine stp ?_
  refine (denC M c ρ).mono (fun k hk => ?_) (fun _ q => q) h
  subst hk
  exact h2
theorem ife_else (h : (denC M c ρ).run (fun k => k = false) (fun x => XX (x, ρ))) (h2 : (denT M b ρ).run (fun o => match o with | .nx ρ' => (denT M t ρ').run Q XX | .rt d => Q (.rt d) | .bk ρ' => Q (.bk ρ') | .ct ρ' => Q (.ct ρ')) XX) : (denT M (.cons (.ife c a b) t) ρ).run Q XX := by
  refine stp ?_
  refine (denC M c ρ).mono (fun k hk => ?_) (fun _ q => q) h
  subst hk
  exact h2
theorem ife_then (h : (denC M c ρ).run (fun k => k = true) (fun x => XX (x, ρ))) (h2 : (denT M a ρ).run (fun o => match o with | .nx ρ' => (denT M t ρ').run Q XX | .rt d => Q (.rt d) | .bk ρ' => Q (.bk ρ') | .ct ρ' => Q (.ct ρ')) XX) : (denT M (.cons (.ife c a b) t) ρ).run Q XX := by
  refine stp ?_
  refine (denC M c ρ).mono (fun k hk => ?_) (fun _ q => q) h
  subst hk
  exact h2
end
end Ev

/-! EvR5: while; who reads from whom, on and on. -/
namespace EvR
open PySem PySem.Spec PyProof.Rows L2 Ev
section
variable {M : Mg} {ρ : List Sl}
@[simp] theorem dS_whl {c : IC} {b : IT} : denS M (.whl c b) ρ = whileS (denC M c) (denT M b) ρ := rfl
@[simp] theorem dS_ext {i : Nat} {e : IE} : denS M (.ext i e) ρ = extW i (denE M e) ρ := rfl
@[simp] theorem dS_aug {i : Nat} {e : IE} : denS M (.aug i e) ρ = (lf ρ (getV ρ i)).bind fun d => (lf ρ (denE M e ρ)).bind fun f => (lf ρ (iaddD d f)).bind fun z => .ret (.nx (ρ.set i (.val z))) := rfl
@[simp] theorem listOnly_l {xs : List D} : listOnly (.list xs) = .ret xs := rfl
@[simp] theorem iadd_i {i j : Int} : iaddD (.int i) (.int j) = .ret (.int (i + j)) := rfl
end
theorem whileN_run {mt : List Sl → W Exc Bool} {body : S} {Q : Out → Prop} {XX : XS → Prop} (I : Nat → List Sl → Prop) (B : Nat)
    (hs : ∀ k ρ, I k ρ → (mt ρ).run (fun b => if b = true then k < B ∧ (body ρ).run (stepQ (I (k + 1)) Q) XX else Q (.nx ρ)) (fun e => XX (e, ρ))) : ∀ (n k : Nat) (ρ : List Sl), B < k + n → I k ρ → k ≤ B → (whileN mt body n ρ).run Q XX
  | 0, k, ρ, h1, h2, h3 => by omega
  | n + 1, k, ρ, h1, h2, h3 => by
    refine (mt ρ).mono (fun b hb => ?_) (fun _ q => q) (hs k ρ h2)
    cases b with
    | false => exact hb
    | true =>
      obtain ⟨hk, hb⟩ := hb
      refine (body ρ).mono (fun o ho => ?_) (fun _ q => q) hb
      cases o with
      | nx ρ' => exact whileN_run I B hs n (k + 1) ρ' (by omega) ho (by omega)
      | ct ρ' => exact whileN_run I B hs n (k + 1) ρ' (by omega) ho (by omega)
      | bk ρ' => exact ho
      | rt d => exact ho
theorem whileS_run {mt : List Sl → W Exc Bool} {body : S} {ρ : List Sl} {Q : Out → Prop} {XX : XS → Prop} (I : Nat → List Sl → Prop) (B : Nat) (h0 : I 0 ρ)
    (hs : ∀ k ρ, I k ρ → (mt ρ).run (fun b => if b = true then k < B ∧ (body ρ).run (stepQ (I (k + 1)) Q) XX else Q (.nx ρ)) (fun e => XX (e, ρ))) : (whileS mt body ρ).run Q XX :=
  ⟨B + 1, whileN_run I B hs (B + 1) 0 ρ (by omega) h0 (Nat.zero_le _)⟩
/-! ### who read from one -/
def rdP (v : Int) (d : Dd) : Bool := isRd d && decide (vof d = v)
def rdrs (R : List Dd) (v : Int) : List Int := (R.filter (rdP v)).map wk
theorem rdrs_mem {R : List Dd} {v w : Int} : w ∈ rdrs R v ↔ ∃ d ∈ R, isRd d = true ∧ vof d = v ∧ wk d = w := by
  unfold rdrs rdP
  constructor
  · intro h
    obtain ⟨d, hd, e⟩ := List.mem_map.mp h
    obtain ⟨h1, h2⟩ := List.mem_filter.mp hd
    simp at h2
    exact ⟨d, h1, h2.1, h2.2, e⟩
  · rintro ⟨d, h1, h2, h3, h4⟩
    exact List.mem_map.mpr ⟨d, List.mem_filter.mpr ⟨h1, by simp [h2, h3]⟩, h4⟩
def nxt (R : List Dd) (f : List Int) (v : Int) : List Int := (uniqI (rdrs R v)).filter fun o => !decide (o ∈ f)
theorem nxt_mem {R : List Dd} {f : List Int} {v w : Int} : w ∈ nxt R f v ↔ w ∈ rdrs R v ∧ w ∉ f := by
  unfold nxt
  rw [List.mem_filter, uniq_mem linI]
  simp
/-- after k turns -/
def iter (R : List Dd) (w : Int) : Nat → List Int
  | 0 => [w]
  | k + 1 => match (iter R w k)[k]? with
    | some v => iter R w k ++ nxt R (iter R w k) v
    | none => iter R w k
theorem iter_some {R : List Dd} {w v : Int} {k : Nat} (h : (iter R w k)[k]? = some v) : iter R w (k + 1) = iter R w k ++ nxt R (iter R w k) v := by
  rw [iter, h]
theorem iter_none {R : List Dd} {w : Int} {k : Nat} (h : (iter R w k).length ≤ k) : iter R w (k + 1) = iter R w k := by
  rw [iter, List.getElem?_eq_none h]
theorem iter_stay {R : List Dd} {w : Int} {k : Nat} (h : (iter R w k).length ≤ k) : ∀ m, iter R w (k + m) = iter R w k
  | 0 => rfl
  | m + 1 => by
    have ih := iter_stay h m
    rw [← Nat.add_assoc, iter_none (by rw [ih]; omega), ih]
theorem iter_nodup {R : List Dd} {w : Int} : ∀ k, (iter R w k).Nodup
  | 0 => by simp [iter]
  | k + 1 => by
    have ih := iter_nodup (R := R) (w := w) k
    rw [iter]
    split
    · rename_i v hv
      rw [List.nodup_append]
      refine ⟨ih, ?_, ?_⟩
      · unfold nxt
        exact (sorted_nodup linI (uniq_sorted linI _)).filter _
      · intro a ha b hb e
        subst e
        exact (nxt_mem.mp hb).2 ha
    · exact ih
theorem iter_sub {R : List Dd} {w : Int} {P : Int → Prop} (hw : P w) (hR : ∀ v x, x ∈ rdrs R v → P x) : ∀ k, ∀ x ∈ iter R w k, P x
  | 0, x, h => by simp [iter] at h; rw [h]; exact hw
  | k + 1, x, h => by
    rw [iter] at h
    split at h
    · rename_i v hv
      rcases List.mem_append.mp h with h | h
      · exact iter_sub hw hR k x h
      · exact hR v x (nxt_mem.mp h).1
    · exact iter_sub hw hR k x h
theorem iter_mono {R : List Dd} {w : Int} : ∀ k m x, x ∈ iter R w k → x ∈ iter R w (k + m)
  | k, 0, x, h => h
  | k, m + 1, x, h => by
    have ih := iter_mono k m x h
    rw [← Nat.add_assoc, iter]
    split
    · exact List.mem_append_left _ ih
    · exact ih
/-- what was found at place j does not move -/
theorem iter_at {R : List Dd} {w : Int} {k j : Nat} {v : Int} (h : (iter R w k)[j]? = some v) : ∀ m, (iter R w (k + m))[j]? = some v
  | 0 => h
  | m + 1 => by
    have ih := iter_at h m
    rw [← Nat.add_assoc, iter]
    split
    · rw [List.getElem?_append_left (List.getElem?_eq_some_iff.mp ih).1]
      exact ih
    · exact ih
/-- all that must be aborted with w: enough turns -/
def clos (R : List Dd) (w : Int) : List Int := iter R w 12
theorem clos_closed {R : List Dd} {w : Int} (hl : (clos R w).length ≤ 12) {v x : Int} (hv : v ∈ clos R w) (hx : x ∈ rdrs R v) : x ∈ clos R w := by
  obtain ⟨j, hj, e⟩ := List.getElem_of_mem hv
  have ej : (clos R w)[j]? = some v := by rw [← e]; exact List.getElem?_eq_getElem hj
  have hj12 : j < 12 := by omega
  -- at turn j the place j was there already, or never
  have key : (iter R w j)[j]? = some v := by
    by_cases q : j < (iter R w j).length
    · have e1 : (iter R w j)[j]? = some (iter R w j)[j] := List.getElem?_eq_getElem q
      have e2 := iter_at e1 (12 - j)
      rw [show j + (12 - j) = 12 by omega] at e2
      have e3 : (iter R w 12)[j]? = some v := ej
      rw [e1, ← e2, e3]
    · have e2 := iter_stay (R := R) (w := w) (k := j) (by omega) (12 - j)
      rw [show j + (12 - j) = 12 by omega] at e2
      have : (clos R w) = iter R w j := e2
      rw [this] at hj
      omega
  have h1 := iter_some key
  have h2 : x ∈ iter R w (j + 1) := by
    rw [h1]
    by_cases q : x ∈ iter R w j
    · exact List.mem_append_left _ q
    · exact List.mem_append_right _ (nxt_mem.mpr ⟨hx, q⟩)
  have h3 := iter_mono (j + 1) (12 - (j + 1)) x h2
  rwa [show j + 1 + (12 - (j + 1)) = 12 by omega] at h3
theorem clos_self (R : List Dd) (w : Int) : w ∈ clos R w := by
  have := iter_mono (R := R) (w := w) 0 12 w (by simp [iter])
  rwa [Nat.zero_add] at this
/-- each but the first was found by one before -/
theorem iter_parent {R : List Dd} {w : Int} : ∀ k x, x ∈ iter R w k → x ≠ w → ∃ v ∈ iter R w k, x ∈ rdrs R v ∧ v ≠ x
  | 0, x, h, hn => by simp [iter] at h; exact absurd h hn
  | k + 1, x, h, hn => by
    have sub : ∀ y ∈ iter R w k, y ∈ iter R w (k + 1) := fun y hy => iter_mono k 1 y hy
    by_cases q : x ∈ iter R w k
    · obtain ⟨v, h1, h2⟩ := iter_parent k x q hn
      exact ⟨v, sub v h1, h2⟩
    · rw [iter] at h
      split at h
      · rename_i v hv
        rcases List.mem_append.mp h with h | h
        · exact absurd h q
        · obtain ⟨h1, h2⟩ := nxt_mem.mp h
          have hvm : v ∈ iter R w k := List.mem_of_getElem? hv
          exact ⟨v, sub v hvm, h1, fun e => h2 (e ▸ hvm)⟩
      · exact absurd h q
/-- a property that goes over from one to its readers backwards holds of the first, if of one -/
theorem iter_back {R : List Dd} {w : Int} {P : Int → Prop} (hP : ∀ v x, x ∈ rdrs R v → v ≠ x → P x → P v) : ∀ k x, x ∈ iter R w k → P x → P w
  | 0, x, h, hx => by simp [iter] at h; rwa [← h]
  | k + 1, x, h, hx => by
    by_cases q : x ∈ iter R w k
    · exact iter_back hP k x q hx
    · rw [iter] at h
      split at h
      · rename_i v hv
        rcases List.mem_append.mp h with h | h
        · exact absurd h q
        · obtain ⟨h1, h2⟩ := nxt_mem.mp h
          have hvm : v ∈ iter R w k := List.mem_of_getElem? hv
          exact iter_back hP k v hvm (hP v x h1 (fun e => h2 (e ▸ hvm)) hx)
      · exact absurd h q
end EvR

/-! EvR6: rows with other ends, histories. -/
namespace EvR
open PySem PySem.Spec PyProof.Rows L2 Ev
@[simp] theorem add_l {xs ys : List D} {Q : D → Prop} {X : Exc → Prop} : (addD (.list xs) (.list ys)).run Q X = (xs.length + ys.length ≤ sizeLine ∧ Q (.list (xs ++ ys))) := rfl
def abs (R : List Dd) : List Int := (R.filter isAb).map wk
theorem abs_mem {R : List Dd} {w : Int} : w ∈ abs R ↔ Dd.ab w ∈ R := by
  unfold abs
  constructor
  · intro h
    obtain ⟨d, h1, h2⟩ := List.mem_map.mp h
    obtain ⟨h3, h4⟩ := List.mem_filter.mp h1
    cases d <;> simp [isAb] at h4
    simp [wk] at h2
    subst h2
    exact h3
  · intro h
    exact List.mem_map.mpr ⟨_, List.mem_filter.mpr ⟨h, rfl⟩, rfl⟩
def wks (R : List Dd) : List Int := uniqI (R.map wk)
theorem wks_mem {R : List Dd} {w : Int} : w ∈ wks R ↔ ∃ d ∈ R, wk d = w := by
  unfold wks
  rw [uniq_mem linI, List.mem_map]
def abT (ch : List Int) : Dd → Dd
  | .cm w => if w ∈ ch then .ab w else .cm w
  | d => d
def wab (R : List Dd) (ch : List Int) : List Dd := R.map (abT ch)
theorem wab_cm {R : List Dd} {ch : List Int} {w : Int} : Dd.cm w ∈ wab R ch ↔ Dd.cm w ∈ R ∧ w ∉ ch := by
  unfold wab
  rw [List.mem_map]
  constructor
  · rintro ⟨d, hd, e⟩
    cases d <;> simp only [abT] at e
    all_goals first
      | (cases e; done)
      | skip
    rename_i w'
    by_cases q : w' ∈ ch
    · rw [if_pos q] at e; cases e
    · rw [if_neg q] at e; cases e; exact ⟨hd, q⟩
  · rintro ⟨h1, h2⟩
    exact ⟨.cm w, h1, by simp only [abT]; rw [if_neg h2]⟩
theorem wab_ab {R : List Dd} {ch : List Int} {w : Int} : Dd.ab w ∈ wab R ch ↔ Dd.ab w ∈ R ∨ (Dd.cm w ∈ R ∧ w ∈ ch) := by
  unfold wab
  rw [List.mem_map]
  constructor
  · rintro ⟨d, hd, e⟩
    cases d <;> simp only [abT] at e
    case ab w' => cases e; exact .inl hd
    case cm w' =>
      by_cases q : w' ∈ ch
      · rw [if_pos q] at e; cases e; exact .inr ⟨hd, q⟩
      · rw [if_neg q] at e; cases e
    all_goals cases e
  · rintro (h | ⟨h1, h2⟩)
    · exact ⟨_, h, rfl⟩
    · exact ⟨.cm w, h1, by simp only [abT]; rw [if_pos h2]⟩
theorem wab_rd {R : List Dd} {ch : List Int} {w k v n : Int} : Dd.rd w k v n ∈ wab R ch ↔ Dd.rd w k v n ∈ R := by
  unfold wab
  rw [List.mem_map]
  constructor
  · rintro ⟨d, hd, e⟩
    cases d <;> simp only [abT] at e
    case rd => cases e; exact hd
    case cm w' =>
      by_cases q : w' ∈ ch
      · rw [if_pos q] at e; cases e
      · rw [if_neg q] at e; cases e
    all_goals cases e
  · intro h
    exact ⟨_, h, rfl⟩
theorem wab_len (R : List Dd) (ch : List Int) : (wab R ch).length = R.length := by simp [wab]
/-- the ends of a deed, from its key on -/
abbrev tlD (d : Dd) : D := .tuple ((tl d).map .int)
@[simp] theorem sl2 {d : Dd} : slD (enc d) (some 2) none = .ret (tlD d) := by
  have h := cut_drop (.str (nm d) :: .int (wk d) :: (tl d).map .int) 2
  show W.ret (PyData.tuple (Ev.cutD _ (some ((2 : Nat) : Int)) none)) = _
  rw [h]
  rfl
def outP (w : Int) (d : Dd) : Bool := decide (wk d = w) && (isRd d && !decide (vof d = w))
def outR (R : List Dd) (w : Int) : List Dd := R.filter (outP w)
theorem uniqI_le {l m : List Int} (h : ∀ x ∈ l, x ∈ m) : (uniqI l).length ≤ m.length :=
  nodup_len (sorted_nodup linI (uniq_sorted linI l)) fun x hx => h x ((uniq_mem linI l x).mp hx)
section
variable {mode many keys : Int} {R : List Dd}
theorem Gen.works_in (G : Gen mode many keys R) {w : Int} (h : Dd.bg w ∈ R) : w ∈ rgI 1 many.toNat := by
  obtain ⟨h1, h2⟩ := G.range w h
  exact rgI_mem.mpr ⟨h1, by omega⟩
theorem Gen.iter_in (G : Gen mode many keys R) {w : Int} (hb : Dd.bg w ∈ R) (k : Nat) : ∀ x ∈ iter R w k, Dd.bg x ∈ R :=
  iter_sub (P := fun x => Dd.bg x ∈ R) hb (fun v x hx => by
    obtain ⟨d, hd, _, _, e⟩ := rdrs_mem.mp hx
    rw [← e]
    exact G.begun d hd) k
theorem Gen.iter_len (G : Gen mode many keys R) {w : Int} (hb : Dd.bg w ∈ R) (k : Nat) : (iter R w k).length ≤ many.toNat := by
  have := nodup_len (iter_nodup (R := R) (w := w) k) (m := rgI 1 many.toNat) fun x hx => G.works_in (G.iter_in hb k x hx)
  rwa [rgI_len] at this
theorem Gen.rdrs_len (G : Gen mode many keys R) (v : Int) : (uniqI (rdrs R v)).length ≤ many.toNat := by
  have := uniqI_le (l := rdrs R v) (m := rgI 1 many.toNat) fun x hx => by
    obtain ⟨d, hd, _, _, e⟩ := rdrs_mem.mp hx
    rw [← e]
    exact G.works_in (G.begun d hd)
  rwa [rgI_len] at this
theorem Gen.wks_len (G : Gen mode many keys R) : (wks R).length ≤ many.toNat := by
  have := uniqI_le (l := R.map wk) (m := rgI 1 many.toNat) fun x hx => by
    obtain ⟨d, hd, e⟩ := List.mem_map.mp hx
    rw [← e]
    exact G.works_in (G.begun d hd)
  rwa [rgI_len] at this
end
theorem rdrs_len0 (R : List Dd) (v : Int) : (rdrs R v).length ≤ R.length := by unfold rdrs; rw [List.length_map]; exact List.length_filter_le _ _
/-- sorted(set(..)) and what is left out -/
theorem uniq_filter (l : List Int) (p : Int → Bool) : uniqI (l.filter p) = (uniqI l).filter p := by
  refine sorted_unique linI (uniq_sorted linI _) ((uniq_sorted linI l).filter _) fun z => ?_
  rw [uniq_mem linI, List.mem_filter, List.mem_filter, uniq_mem linI]
end EvR

/-! EvR7: comprehensions of two clauses; rows without a fault. -/
namespace EvR
open PySem PySem.Spec PyProof.Rows L2 Ev
section
variable {M : Mg} {ρ : List Sl}
@[simp] theorem dE_chn {o o' : CO} {a b c : IO} : denE M (.chn o o' a b c) ρ = (chW o.op o'.op (denO M a) (denO M b) (denO M c) ρ).bind fun k => .ret (.bool k) := rfl
@[simp] theorem dC_chn {o o' : CO} {a b c : IO} : denC M (.chn o o' a b c) ρ = chW o.op o'.op (denO M a) (denO M b) (denO M c) ρ := rfl
@[simp] theorem dF_lc2 {vs : List Nat} {t : T} {i : II} {c : IQ} {vs1 : List Nat} {t1 : T} {i1 : II} {c1 : IQ} {e : IE} : denF M (.lc2 vs t i c vs1 t1 i1 c1 e) ρ = lc2W t vs (denI M i) (denQ M c) t1 vs1 (denI M i1) (denQ M c1) (denE M e) ρ := rfl
end
theorem fold_fm {α β : Type} {enc : α → D} {enc' : β → D} (p : α → Bool) (f : α → β) {body : D → List D → W Exc (List D)} {Q : List D → Prop} {X : Exc → Prop} (B : Nat) : ∀ {xs : List α} {acc : List D}, acc.length + xs.length ≤ B →
    (∀ x ∈ xs, ∀ acc : List D, acc.length < B → ∀ R : List D → Prop, (p x = true → R (acc ++ [enc' (f x)])) → (p x = false → R acc) → (body (enc x) acc).run R X) → Q (acc ++ ((xs.filter p).map f).map enc') → (foldA body (xs.map enc) acc).run Q X
  | [], acc, hB, h, q => by
    show Q acc
    simpa using q
  | x :: xs, acc, hB, h, q => by
    simp only [List.length_cons] at hB
    refine h x List.mem_cons_self acc (by omega) _ (fun e => ?_) (fun e => ?_)
    · exact fold_fm p f B (by simp; omega) (fun y hy => h y (List.mem_cons_of_mem _ hy)) (by simpa [e] using q)
    · exact fold_fm p f B (by omega) (fun y hy => h y (List.mem_cons_of_mem _ hy)) (by simpa [e] using q)
theorem fold_out {α : Type} {enc : α → D} (g : α → List D) {body : D → List D → W Exc (List D)} {Q : List D → Prop} {X : Exc → Prop} (c B : Nat) : ∀ {xs : List α} {acc : List D}, acc.length + xs.length * c ≤ B → (∀ x ∈ xs, (g x).length ≤ c) →
    (∀ x ∈ xs, ∀ acc : List D, acc.length + c ≤ B → ∀ R : List D → Prop, R (acc ++ g x) → (body (enc x) acc).run R X) → Q (acc ++ xs.flatMap g) → (foldA body (xs.map enc) acc).run Q X
  | [], acc, hB, hc, h, q => by
    show Q acc
    simpa using q
  | x :: xs, acc, hB, hc, h, q => by
    have hg := hc x List.mem_cons_self
    have e : (x :: xs).length * c = xs.length * c + c := by rw [List.length_cons, Nat.succ_mul]
    rw [e] at hB
    refine h x List.mem_cons_self acc (by omega) _ ?_
    exact fold_out g c B (by rw [List.length_append]; omega) (fun y hy => hc y (List.mem_cons_of_mem _ hy)) (fun y hy => h y (List.mem_cons_of_mem _ hy)) (by simpa using q)
/-! ### a deed as a value -/
def lnE (d : Dd) : Nat := 2 + (tl d).length
@[simp] theorem ty_enc (d : Dd) : tyName (enc d) = "tuple" := rfl
@[simp] theorem len_enc {d : Dd} {Q : D → Prop} {X : Exc → Prop} : (lenD (enc d)).run Q X = (lnE d ≤ sizeLine → Q (.int (lnE d))) := by
  have e : (PyData.str (nm d) :: .int (wk d) :: (tl d).map .int).length = lnE d := by simp [lnE]; omega
  show (_ → Q (.int ((PyData.str (nm d) :: .int (wk d) :: (tl d).map .int).length : Nat))) = _
  rw [e]
theorem ix4 {d : Dd} {w k v n : Int} (h : d = .rd w k v n) {Q : D → Prop} {X : Exc → Prop} (q : Q (.int n)) : (ixD (enc d) (.int 4)).run Q X := by
  subst h; exact q
theorem kin_of {t : Tb} {z : Str} {o : Option D} (h : t.lookup z = some o) {neg : Bool} {Q : Bool → Prop} {X : Exc → Prop} (q : Q (if neg then !o.isSome else o.isSome)) : (kinD neg t (.str z)).run Q X := by
  have e : tbo t z = o := by unfold tbo; rw [h]; rfl
  show Q (if neg then !(tbo t z).isSome else (tbo t z).isSome)
  rw [e]; exact q
theorem kix_of {t : Tb} {z : Str} {i : D} (h : t.lookup z = some (some i)) {Q : D → Prop} {X : Exc → Prop} (q : Q i) : (kixD t (.str z)).run Q X := by
  have e : tbo t z = some i := by unfold tbo; rw [h]; rfl
  show (optW (tbo t z) W.ret : W Exc D).run Q X
  rw [e]; exact q
/-! ### each deed of a drawn row -/
def Step (mode many keys : Int) (S : List Dd) : Dd → Prop
  | .bg w => 1 ≤ w ∧ w ≤ many ∧ Dd.bg w ∉ S
  | .wr w k => Act S w ∧ 0 ≤ k ∧ k < keys
  | .rd w k v n => Act S w ∧ 0 ≤ k ∧ k < keys ∧ Ver mode S w k (v, n)
  | .cm w => Act S w
  | .ab w => Act S w
theorem gen_step {mode many keys : Int} {R : List Dd} (G : Gen mode many keys R) : ∀ (j : Nat) (d : Dd), R[j]? = some d → Gen mode many keys (R.take j) ∧ Step mode many keys (R.take j) d := by
  have step : ∀ {R : List Dd} {d : Dd}, Gen mode many keys R → (∀ (j : Nat) (e : Dd), R[j]? = some e → Gen mode many keys (R.take j) ∧ Step mode many keys (R.take j) e) → Step mode many keys R d →
      ∀ (j : Nat) (e : Dd), (R ++ [d])[j]? = some e → Gen mode many keys ((R ++ [d]).take j) ∧ Step mode many keys ((R ++ [d]).take j) e := by
    intro R d G ih hd j e hj
    have hl : j < (R ++ [d]).length := (List.getElem?_eq_some_iff.mp hj).1
    simp only [List.length_append, List.length_singleton] at hl
    by_cases q : j < R.length
    · rw [List.getElem?_append_left q] at hj
      rw [List.take_append_of_le_length (by omega)]
      exact ih j e hj
    · have : j = R.length := by omega
      subst this
      rw [List.getElem?_append_right (Nat.le_refl _)] at hj
      simp at hj
      rw [List.take_left, ← hj]
      exact ⟨G, hd⟩
  induction G with
  | nil => intro j d h; simp at h
  | bg G h1 h2 h3 ih => exact step G ih ⟨h1, h2, h3⟩
  | wr G a h1 h2 ih => exact step G ih ⟨a, h1, h2⟩
  | rd G a h1 h2 h3 ih => exact step G ih ⟨a, h1, h2, h3⟩
  | cm G a ih => exact step G ih a
  | ab G a ih => exact step G ih a
/-- what a read has read, weakly -/
theorem ver_ok {mode : Int} {S : List Dd} {w k v n : Int} (h : Ver mode S w k (v, n)) : ((v = 0 ∧ n = 0) ∨ (Dd.wr v k ∈ S ∧ 1 ≤ n ∧ n ≤ cnt S v k)) ∧ (0 < cnt S w k → v = w ∧ n = cnt S w k) := by
  have last : ∀ l : List Int, (∀ o ∈ l, 0 < cnt S o k) → (v, n) = lastV S k l → ((v = 0 ∧ n = 0) ∨ (Dd.wr v k ∈ S ∧ 1 ≤ n ∧ n ≤ cnt S v k)) := by
    intro l hl h
    unfold lastV at h
    cases e : l.getLast? with
    | none => rw [e] at h; cases h; exact .inl ⟨rfl, rfl⟩
    | some x =>
      rw [e] at h
      cases h
      have hp := hl v (List.mem_of_getLast? e)
      exact .inr ⟨cnt_pos.mp hp, by omega, by omega⟩
  unfold Ver at h
  split at h
  · rename_i hc
    cases h
    exact ⟨.inr ⟨cnt_pos.mp hc, by omega, by omega⟩, fun _ => ⟨rfl, rfl⟩⟩
  · rename_i hc
    refine ⟨?_, fun q => absurd q hc⟩
    split at h
    · exact last _ (fun o ho => by simpa using (List.mem_filter.mp ho).2) h
    · split at h
      · exact last _ (fun o ho => cnt_pos.mpr (wrs_mem.mp ho)) h
      · rcases h with h | h
        · cases h; exact .inl ⟨rfl, rfl⟩
        · exact .inr h
/-! ### no fault -/
def DeedOk (d : Dd) : Prop := (1 ≤ wk d ∧ wk d ≤ 9) ∧ match d with
  | .rd _ k v n => (0 ≤ k ∧ k ≤ 3) ∧ (0 ≤ v ∧ v ≤ 9) ∧ 0 ≤ n ∧ n ≤ 1000
  | .wr _ k => 0 ≤ k ∧ k ≤ 3
  | _ => True
def ReadOk (S : List Dd) : Dd → Prop
  | .rd w k v n => n ≤ (if v = 0 then 0 else cnt S v k : Nat) ∧ (n = 0 ↔ v = 0) ∧ (0 < cnt S w k → v = w ∧ n = cnt S w k)
  | _ => True
def FineAt (S : List Dd) (d : Dd) : Prop := (isBg d = true ↔ ∀ e ∈ S, wk e ≠ wk d) ∧ Dd.cm (wk d) ∉ S ∧ Dd.ab (wk d) ∉ S ∧ ReadOk S d
structure Fine (R : List Dd) : Prop where
  ok : ∀ d ∈ R, DeedOk d
  at_ : ∀ i d, R[i]? = some d → FineAt (R.take i) d
  end_ : ∀ d ∈ R, Dd.cm (wk d) ∈ R ∨ Dd.ab (wk d) ∈ R
theorem wk_abT (ch : List Int) (d : Dd) : wk (abT ch d) = wk d := by
  cases d <;> simp only [abT]
  split <;> rfl
theorem cnt_wab (S : List Dd) (ch : List Int) (v k : Int) : cnt (wab S ch) v k = cnt S v k := by
  unfold cnt wab
  rw [List.filter_map, List.length_map]
  congr 1
  refine List.filter_congr fun d _ => ?_
  show decide (abT ch d = .wr v k) = decide (d = .wr v k)
  cases d with
  | cm w =>
    by_cases q : w ∈ ch
    · rw [show abT ch (.cm w) = .ab w by simp only [abT]; rw [if_pos q]]; simp
    · rw [show abT ch (.cm w) = .cm w by simp only [abT]; rw [if_neg q]]
  | _ => rfl
theorem wab_bg {R : List Dd} {ch : List Int} {w : Int} : Dd.bg w ∈ wab R ch ↔ Dd.bg w ∈ R := by
  unfold wab
  rw [List.mem_map]
  constructor
  · rintro ⟨d, hd, e⟩
    cases d <;> simp only [abT] at e
    case bg => cases e; exact hd
    case cm w' =>
      by_cases q : w' ∈ ch
      · rw [if_pos q] at e; cases e
      · rw [if_neg q] at e; cases e
    all_goals cases e
  · intro h
    exact ⟨_, h, rfl⟩
theorem wab_nil (R : List Dd) : wab R [] = R := by
  unfold wab
  refine (List.map_congr_left fun d _ => ?_).trans (List.map_id R)
  cases d <;> simp [abT]
theorem fine_wab {mode many keys : Int} {R : List Dd} (G : Gen mode many keys R) (O : Over R) (hm : many ≤ 9) (hk : keys ≤ 4) (hz : R.length ≤ 200) (ch : List Int) : Fine (wab R ch) where
  ok := by
    intro d hd
    unfold wab at hd
    obtain ⟨e, he, rfl⟩ := List.mem_map.mp hd
    obtain ⟨j, hj, ej⟩ := List.getElem_of_mem he
    obtain ⟨G', st⟩ := gen_step G j e (by rw [← ej]; exact List.getElem?_eq_getElem hj)
    have hw := G.range (wk e) (G.begun e he)
    refine ⟨by rw [wk_abT]; omega, ?_⟩
    cases e with
    | bg w => trivial
    | wr w k => obtain ⟨_, h1, h2⟩ := st; exact ⟨h1, by omega⟩
    | rd w k v n =>
      obtain ⟨_, h1, h2, h3⟩ := st
      obtain ⟨h4, _⟩ := ver_ok h3
      refine ⟨⟨h1, by omega⟩, ?_⟩
      rcases h4 with ⟨rfl, rfl⟩ | ⟨h5, h6, h7⟩
      · exact ⟨by omega, by omega, by omega⟩
      · have hv := G'.range v (G'.begun _ h5)
        have hl : cnt (R.take j) v k ≤ (R.take j).length := List.length_filter_le _ _
        have hl2 : (R.take j).length ≤ R.length := by simp; omega
        exact ⟨⟨by omega, by omega⟩, by omega, by omega⟩
    | cm w =>
      by_cases q : w ∈ ch
      · rw [show abT ch (.cm w) = .ab w by simp only [abT]; rw [if_pos q]]; trivial
      · rw [show abT ch (.cm w) = .cm w by simp only [abT]; rw [if_neg q]]; trivial
    | ab w => trivial
  at_ := by
    intro i d hd
    unfold wab at hd
    rw [List.getElem?_map] at hd
    cases e : R[i]? with
    | none => rw [e] at hd; cases hd
    | some f =>
      rw [e] at hd
      cases hd
      obtain ⟨G', st⟩ := gen_step G i f e
      have eT : (wab R ch).take i = wab (R.take i) ch := by unfold wab; rw [List.map_take]
      rw [eT]
      generalize R.take i = S at G' st
      have hmem : ∀ g ∈ wab S ch, ∃ g' ∈ S, wk g = wk g' := by
        intro g hg
        unfold wab at hg
        obtain ⟨g', h1, rfl⟩ := List.mem_map.mp hg
        exact ⟨g', h1, wk_abT ch g'⟩
      have hact : Act S (wk f) → isBg (abT ch f) = false → ReadOk (wab S ch) (abT ch f) → FineAt (wab S ch) (abT ch f) := by
        intro ha hb hr
        refine ⟨?_, ?_, ?_, hr⟩
        · rw [hb]
          refine ⟨fun h => (by cases h), fun h => absurd (h _ (wab_bg.mpr ha.1)) ?_⟩
          rw [wk_abT]
          exact fun q => q rfl
        · rw [wk_abT]; exact fun h => ha.2.1 (wab_cm.mp h).1
        · rw [wk_abT]; intro h
          rcases wab_ab.mp h with h | h
          · exact ha.2.2 h
          · exact ha.2.1 h.1
      cases f with
      | bg w =>
        obtain ⟨h1, h2, h3⟩ := st
        have hno : ∀ g ∈ S, wk g ≠ w := fun g hg e => h3 (e ▸ G'.begun g hg)
        refine ⟨⟨fun _ g hg e => ?_, fun _ => rfl⟩, fun h => ?_, fun h => ?_, trivial⟩
        · obtain ⟨g', hg', e'⟩ := hmem g hg
          exact hno g' hg' (by rw [← e', e]; rfl)
        · obtain ⟨g', hg', e'⟩ := hmem _ h
          exact hno g' hg' e'.symm
        · obtain ⟨g', hg', e'⟩ := hmem _ h
          exact hno g' hg' e'.symm
      | wr w k => exact hact st.1 rfl trivial
      | rd w k v n =>
        refine hact st.1 rfl ?_
        obtain ⟨_, _, _, h3⟩ := st
        obtain ⟨h4, h5⟩ := ver_ok h3
        show _ ∧ _ ∧ _
        rw [cnt_wab, cnt_wab]
        refine ⟨?_, ?_, h5⟩
        · rcases h4 with ⟨rfl, rfl⟩ | ⟨h6, h7, h8⟩
          · exact Int.natCast_nonneg _
          · have := (G'.range v (G'.begun _ h6)).1
            rw [if_neg (by omega)]
            exact h8
        · rcases h4 with ⟨rfl, rfl⟩ | ⟨h6, h7, h8⟩
          · exact ⟨fun _ => rfl, fun _ => rfl⟩
          · have := (G'.range v (G'.begun _ h6)).1
            exact ⟨fun h => by omega, fun h => by omega⟩
      | cm w =>
        by_cases q : w ∈ ch
        · rw [show abT ch (.cm w) = .ab w by simp only [abT]; rw [if_pos q]] at hact ⊢
          exact hact st rfl trivial
        · rw [show abT ch (.cm w) = .cm w by simp only [abT]; rw [if_neg q]] at hact ⊢
          exact hact st rfl trivial
      | ab w => exact hact st rfl trivial
  end_ := by
    intro d hd
    unfold wab at hd
    obtain ⟨e, he, rfl⟩ := List.mem_map.mp hd
    rw [wk_abT]
    rcases O (wk e) (G.begun e he) with h | h
    · by_cases q : wk e ∈ ch
      · exact .inr (wab_ab.mpr (.inr ⟨h, q⟩))
      · exact .inl (wab_cm.mpr ⟨h, q⟩)
    · exact .inr (wab_ab.mpr (.inl h))
end EvR

/-! EvR8: more small things for the walks over rows. -/
namespace EvR
open PySem PySem.Spec PyProof.Rows L2 Ev
theorem lcD_any {body : D → W Exc (Option D)} (P : D → Prop) {Q : List D → Prop} {X : Exc → Prop} : ∀ {xs acc : List D}, (∀ x ∈ xs, ∀ R : Option D → Prop, R none → (∀ y, P y → R (some y)) → (body x).run R X) →
    (∀ ys : List D, ys.length ≤ xs.length → (∀ y ∈ ys, P y) → Q (acc ++ ys)) → (lcD body xs acc).run Q X
  | [], acc, h, q => by have := q [] (Nat.le_refl _) (fun _ z => nomatch z); rwa [List.append_nil] at this
  | x :: xs, acc, h, q => h x List.mem_cons_self _ (lcD_any P (fun y hy => h y (List.mem_cons_of_mem _ hy)) fun ys hl hp => q ys (by simp; omega) hp) fun y hy => by
    refine lcD_any P (acc := acc ++ [y]) (fun z hz => h z (List.mem_cons_of_mem _ hz)) fun ys hl hp => ?_
    have := q (y :: ys) (by simp; omega) (fun z hz => by
      rcases List.mem_cons.mp hz with e | e
      · rw [e]; exact hy
      · exact hp z e)
    simpa using this
@[simp] theorem in_ends {n : Bool} {d : Dd} {w v : Int} {Q : Bool → Prop} {X : Exc → Prop} : (inD n (enc d) (.tuple [.tuple [.str (Str.ofString "commit"), .int w], .tuple [.str (Str.ofString "abort"), .int v]])).run Q X =
    Q (if n then !(decide (d = .cm w) || decide (d = .ab v)) else (decide (d = .cm w) || decide (d = .ab v))) := by
  have h := in_enc (n := n) (e := d) (R := [.cm w, .ab v]) (Q := Q) (X := X)
  have e : decide (d ∈ [Dd.cm w, Dd.ab v]) = (decide (d = .cm w) || decide (d = .ab v)) := by rw [Bool.eq_iff_iff]; simp
  rw [e] at h
  exact h
theorem range_filter {n i : Nat} {p : Nat → Bool} (hi : i < n) (h : p i = true) (h2 : ∀ j, j < i → p j = false) : ∃ t, (List.range n).filter p = i :: t := by
  obtain ⟨m, rfl⟩ : ∃ m, n = i + (m + 1) := ⟨n - i - 1, by omega⟩
  rw [List.range_add, List.filter_append]
  have e : (List.range i).filter p = [] := by
    rw [List.filter_eq_nil_iff]
    intro j hj
    rw [h2 j (List.mem_range.mp hj)]
    decide
  rw [e, List.range_succ_eq_map, List.map_cons, List.filter_cons, Nat.add_zero, if_pos h]
  exact ⟨_, rfl⟩
theorem filterMap_ite {α β : Type} (p : α → Bool) (f : α → β) (l : List α) : (l.filterMap fun x => if p x = true then some (f x) else none) = (l.filter p).map f := by
  induction l with
  | nil => rfl
  | cons x l ih =>
    rw [List.filterMap_cons, ih]
    cases h : p x <;> simp [h]
theorem srtI_strict {l : List Int} (h : l.Nodup) : (srtI l).Pairwise fun a b => ltI a b = true := by
  have h1 : (srtI l).Pairwise fun a b => (decide (a ≤ b)) = true := List.pairwise_mergeSort (fun a b c => by simp; omega) (fun a b => by simp; omega) l
  have h2 : (srtI l).Nodup := (List.mergeSort_perm l _).nodup_iff.mpr h
  exact (h1.and h2).imp fun {a b} q => by
    obtain ⟨q1, q2⟩ := q
    simp [ltI] at *
    omega
theorem filter_strict {l : List Int} {p : Int → Bool} (h : l.Pairwise fun a b => ltI a b = true) : (l.filter p).Pairwise fun a b => ltI a b = true := h.filter _
theorem gen_nodup {mode many keys : Int} {R : List Dd} (G : Gen mode many keys R) : (abs R).Nodup ∧ (cms R).Nodup := by
  have snoc : ∀ {R : List Dd} {d : Dd}, ((abs R).Nodup ∧ (cms R).Nodup) → (∀ w, d = .ab w → Dd.ab w ∉ R) → (∀ w, d = .cm w → Dd.cm w ∉ R) → ((abs (R ++ [d])).Nodup ∧ (cms (R ++ [d])).Nodup) := by
    intro R d ⟨i1, i2⟩ h1 h2
    have ea : abs (R ++ [d]) = abs R ++ abs [d] := by unfold abs; rw [List.filter_append, List.map_append]
    have ec : cms (R ++ [d]) = cms R ++ cms [d] := by unfold cms; rw [List.filter_append, List.map_append]
    rw [ea, ec]
    have one : ∀ (l : List Int) (w : Int), l.Nodup → w ∉ l → (l ++ [w]).Nodup := by
      intro l w hl hw
      rw [List.nodup_append]
      refine ⟨hl, by simp, fun a ha b hb e => ?_⟩
      simp at hb
      subst hb
      subst e
      exact hw ha
    cases d with
    | ab w => exact ⟨one _ w i1 (fun q => h1 w rfl (abs_mem.mp q)), by rw [show cms [Dd.ab w] = [] from rfl, List.append_nil]; exact i2⟩
    | cm w => exact ⟨by rw [show abs [Dd.cm w] = [] from rfl, List.append_nil]; exact i1, one _ w i2 (fun q => h2 w rfl (cms_mem.mp q))⟩
    | bg w => exact ⟨by rw [show abs [Dd.bg w] = [] from rfl, List.append_nil]; exact i1, by rw [show cms [Dd.bg w] = [] from rfl, List.append_nil]; exact i2⟩
    | wr w k => exact ⟨by rw [show abs [Dd.wr w k] = [] from rfl, List.append_nil]; exact i1, by rw [show cms [Dd.wr w k] = [] from rfl, List.append_nil]; exact i2⟩
    | rd w k v n => exact ⟨by rw [show abs [Dd.rd w k v n] = [] from rfl, List.append_nil]; exact i1, by rw [show cms [Dd.rd w k v n] = [] from rfl, List.append_nil]; exact i2⟩
  induction G with
  | nil => simp [abs, cms]
  | bg G _ _ _ ih => exact snoc ih (fun _ e => by cases e) (fun _ e => by cases e)
  | wr G _ _ _ ih => exact snoc ih (fun _ e => by cases e) (fun _ e => by cases e)
  | rd G _ _ _ _ ih => exact snoc ih (fun _ e => by cases e) (fun _ e => by cases e)
  | cm G a ih => exact snoc ih (fun _ e => by cases e) (fun _ e => by cases e; exact a.2.1)
  | ab G a ih => exact snoc ih (fun _ e => by cases e; exact a.2.2) (fun _ e => by cases e)
/-- the aborted works are those that were not committed -/
theorem gone_eq {mode many keys : Int} {R : List Dd} (G : Gen mode many keys R) (O : Over R) : (wks R).filter (fun w => !decide (w ∈ srtI (cms R))) = srtI (abs R) := by
  obtain ⟨h1, h2⟩ := gen_nodup G
  refine sorted_unique linI (filter_strict (uniq_sorted linI _)) (srtI_strict h1) fun z => ?_
  simp only [List.mem_filter, srtI_mem, abs_mem, wks_mem, Bool.not_eq_true', decide_eq_false_iff_not, cms_mem]
  constructor
  · rintro ⟨⟨d, hd, rfl⟩, h⟩
    exact (O (wk d) (G.begun d hd)).resolve_left h
  · intro h
    exact ⟨⟨_, h, rfl⟩, fun q => G.one_end z q h⟩
abbrev pD (p : Int × Int) : D := .tuple [.int p.1, .int p.2]
end EvR

namespace K06
open PySem PySem.Spec PyProof.Rows L2 Ev EvR
abbrev rowD (R : List Dd) : D := .tuple (R.map enc)
theorem l1 : 1 ≤ sizeLine := small_of (by decide)
theorem l2 : 2 ≤ sizeLine := small_of (by decide)
theorem l3 : 3 ≤ sizeLine := small_of (by decide)
theorem l4 : 4 ≤ sizeLine := small_of (by decide)
theorem l5 : 5 ≤ sizeLine := small_of (by decide)
theorem pick_run {xs : List D} {Q : D → Prop} {X : Exc → Prop} (h0 : 0 < xs.length) (h1 : xs.length < 100000) (h : ∀ d ∈ xs, Q d) : (f_l_pick [.pool, .d (.list xs)]).run Q X := by
  unfold f_l_pick
  simp [b_l_pick]
  refine fun _ => ⟨by omega, by omega, fun v h2 h3 => ?_⟩
  obtain ⟨n, rfl⟩ : ∃ n : Nat, v = n := ⟨v.toNat, by omega⟩
  have hn : n < xs.length := by omega
  exact ix_l (Ev.atI_nat (List.getElem?_eq_getElem hn)) (h _ (List.getElem_mem hn))
theorem count_run {R : List Dd} {w k : Int} (hz : R.length ≤ 200) {Q : D → Prop} {X : Exc → Prop} (h : Q (.int (cnt R w k))) : (f_l_count [.d (rowD R), .d (.int R.length), .d (.int w), .d (.int k)]).run Q X := by
  unfold f_l_count
  simp [b_l_count]
  intro _
  refine ⟨line8 (by omega), ?_⟩
  refine lcD_fm (fun d => decide (d = .wr w k)) id (enc' := enc) (fun d hd R h1 h0 => ?_) ?_
  · simp [turnB, asgT, wipeR, l3]
    by_cases e : d = .wr w k
    · simpa [e] using h1
    · simpa [e] using h0
  · simp
    intro _
    exact h
theorem place_join {R : List Dd} {w mode : Int} (hb : Dd.bg w ∈ R) {K : D → Prop} {X : Exc → Prop} (h : ∀ n : Nat, R.take n = (if mode = 2 then R.take (R.idxOf (.bg w)) else R) → K (.int n)) :
    if mode = 2 then 2 ≤ sizeLine ∧ (indexD (rowD R) (.tuple [.str (Str.ofString "begin"), .int w])).run K X else (R.length ≤ sizeLine → K (.int R.length)) := by
  split
  · rename_i e
    exact ⟨l2, idx_enc (e := .bg w) hb (h _ (by rw [if_pos e]))⟩
  · rename_i e
    exact fun _ => h _ (by rw [if_neg e, List.take_length])
theorem filter_len {α : Type} (p : α → Bool) (l : List α) : (l.filter p).length ≤ l.length := List.length_filter_le _ _
theorem cms_len (R : List Dd) : (cms R).length ≤ R.length := by unfold cms; rw [List.length_map]; exact filter_len _ _
theorem wrs_len (R : List Dd) (k : Int) : (wrs R k).length ≤ R.length := by unfold wrs; rw [List.length_map]; exact filter_len _ _
def InvV (R : List Dd) (w k mode : Int) (n : Nat) (P : List Dd) (i : Nat) (ρ : List Sl) : Prop := ∃ (E : List (Int × Int)) (s10 s13 : Sl), ρ = [.pool, .val (rowD R), .val (.int w), .val (.int k), .val (.int mode), .val (.int (cnt R w k)), .val (.int n),
      .val (.list (((cms P).filter fun o => decide (0 < cnt R o k)).map .int)), .val (.list ((wrs R k).map .int)), .val (.list (E.map vD)), s10, .un, .un, s13] ∧
      E.length ≤ 1 + i * 62 ∧ (∃ E', E = (0, 0) :: E') ∧ ∀ p ∈ E, p = (0, 0) ∨ (Dd.wr p.1 k ∈ R ∧ 1 ≤ p.2 ∧ p.2 ≤ cnt R p.1 k)
theorem version_run {R : List Dd} {w k mode : Int} (hb : Dd.bg w ∈ R) (hz : R.length ≤ 62) (hm : 0 ≤ mode ∧ mode < 4) {Q : D → Prop} {X : Exc → Prop} (h : ∀ p, Ver mode R w k p → Q (vD p)) :
    (f_l_version [.pool, .d (rowD R), .d (.int w), .d (.int k), .d (.int mode)]).run Q X := by
  unfold f_l_version
  simp [b_l_version, -intW_i]
  intro _
  refine count_run (by omega) ?_
  simp [-intW_i]
  by_cases hc : 0 < cnt R w k
  · rw [if_pos hc]
    exact ⟨l2, h (w, cnt R w k) (by unfold Ver; rw [if_pos hc])⟩
  rw [if_neg hc]
  refine place_join hb fun n hn => ?_
  simp [-List.map_take]
  intro _
  refine ⟨line8 (by omega), ?_⟩
  refine lcD_fm isCm wk (enc' := .int) (fun d hd R h1 h0 => ?_) ?_
  · simp [turnB, asgT, wipeR]
    cases e : isCm d
    · simpa [e] using h0
    · simpa [e] using h1
  rw [show ((R.take n).filter isCm).map wk = cms (R.take n) from rfl, hn]
  generalize hP : (if mode = 2 then R.take (R.idxOf (.bg w)) else R) = P
  have hPl : P.length ≤ R.length := by
    rw [← hP]; split
    · simp; omega
    · exact Nat.le_refl _
  have hcl := cms_len P
  simp
  intro _
  refine ⟨line8 (by omega), ?_⟩
  refine lcD_fm (fun o => decide (0 < cnt R o k)) id (enc' := .int) (fun o ho R' h1 h0 => ?_) ?_
  · simp [turnB, asgT, wipeR]
    intro _
    refine count_run (by omega) ?_
    simp
    by_cases e : 0 < cnt R o k
    · rw [if_pos e]; exact h1 (by simpa using e)
    · rw [if_neg e]; exact h0 (by simpa using e)
  rw [List.map_id]
  have hfl := filter_len (fun o => decide (0 < cnt R o k)) (cms P)
  have hlast : ∀ l : List Int, l.length ≤ 62 → (∀ p, p = lastV R k l → Q (vD p)) → sh (.list (l.map .int)) = true ∧ if (PyData.list (l.map .int)).eqv (.list []) = true then 2 ≤ sizeLine ∧ Q (.tuple [.int 0, .int 0]) else (ixD (.list (l.map .int)) (.int (-1))).run
      (fun a => R.length ≤ sizeLine → (ixD (.list (l.map .int)) (.int (-1))).run (fun a2 => (f_l_count [.d (rowD R), .d (.int R.length), .d a2, .d (.int k)]).run (fun a3 => 2 ≤ sizeLine ∧ Q (.tuple [a, a3])) fun x => X x) fun x => X x) fun x => X x := by
    intro l hl hQ
    refine ⟨sh_lints l, ?_⟩
    rw [eqv_lnil]
    cases e : l.getLast? with
    | none =>
      rw [List.getLast?_eq_none_iff] at e
      subst e
      exact ⟨l2, hQ (0, 0) rfl⟩
    | some v =>
      have hne : ¬ l = [] := fun q => by rw [q] at e; cases e
      rw [decide_eq_false hne, if_neg (by decide)]
      have ha := atI_last' e
      refine ix_l ha fun _ => ix_l ha (count_run (by omega) ⟨l2, hQ (v, cnt R v k) ?_⟩)
      unfold lastV
      rw [e]
  refine ⟨l2, ?_⟩
  split
  · rename_i e23
    exact hlast _ (by omega) fun p hp => h p (by unfold Ver; rw [if_neg hc, if_pos e23, hP]; exact hp)
  rename_i n23
  intro _
  refine ⟨line8 (by omega), ?_⟩
  refine lcD_fm (isWrK k) wk (enc' := .int) (fun d hd R h1 h0 => ?_) ?_
  · simp [turnB, asgT, wipeR]
    cases d <;> simp [isWr, isWrK, wk] at *
    · exact h0
    · exact h0
    · rename_i w' k'
      by_cases e : k' = k
      · simpa [e] using h1 e
      · simpa [e] using h0 e
    · exact h0
    · exact h0
  rw [show (R.filter (isWrK k)).map wk = wrs R k from rfl]
  have hwl := wrs_len R k
  have hul := uniqI_len (wrs R k)
  split
  · rename_i e1
    exact hlast _ (by omega) fun p hp => h p (by unfold Ver; rw [if_neg hc, if_neg n23, if_pos e1]; exact hp)
  rename_i n1
  have hV : ∀ p : Int × Int, p = (0, 0) ∨ (Dd.wr p.1 k ∈ R ∧ 1 ≤ p.2 ∧ p.2 ≤ cnt R p.1 k) → Q (vD p) := fun p hp => h p (by unfold Ver; rw [if_neg hc, if_neg n23, if_neg n1]; exact hp)
  refine ⟨l2, l1, ?_⟩
  simp
  refine ⟨⟨scan7 (by omega), by omega⟩, fun _ => ?_⟩
  have hcl : ∀ o, cnt R o k ≤ R.length := fun o => filter_len _ _
  refine forD_enc (InvV R w k mode n P) ⟨[(0, 0)], _, _, rfl, by simp, ⟨[], rfl⟩, by simp⟩ ?_ ?_
  · rintro i o ρ ho ⟨E, s10, s13, rfl, hE, ⟨E', hE'⟩, hall⟩
    have hi : i < (uniqI (wrs R k)).length := (List.getElem?_eq_some_iff.mp ho).1
    have hmem : Dd.wr o k ∈ R := wrs_mem.mp ((uniq_mem linI _ o).mp (List.mem_of_getElem? ho))
    simp [frzR]
    intro _
    refine count_run (by omega) ?_
    have hco := hcl o
    simp
    refine ⟨inR_small (by omega) (by omega), by rw [upto_len]; exact line8 (by omega), ?_⟩
    refine lcD_upto (fun j => some (vD (o, (j : Int) + 1))) (fun j hj R' hR => ?_) ?_
    · simp [turnB, asgT, wipeR, l2]
      simpa using hR
    · rw [filterMap_some, List.nil_append]
      have em : E.map vD ++ (List.range (cnt R o k)).map (fun (j : Nat) => vD (o, (j : Int) + 1)) = (E ++ (List.range (cnt R o k)).map fun (j : Nat) => (o, (j : Int) + 1)).map vD := by simp
      refine ⟨by simp; exact line7 (by omega), ?_⟩
      rw [em]
      refine ⟨_, _, _, rfl, ?_, ⟨E' ++ (List.range (cnt R o k)).map fun (j : Nat) => (o, (j : Int) + 1), by rw [hE']; rfl⟩, fun p hp => ?_⟩
      · simp
        omega
      · rcases List.mem_append.mp hp with hp | hp
        · exact hall p hp
        · obtain ⟨j, hj, e⟩ := List.mem_map.mp hp
          cases e
          have := List.mem_range.mp hj
          exact .inr ⟨hmem, by show (1 : Int) ≤ (j : Int) + 1; omega, by show (j : Int) + 1 ≤ (cnt R o k : Int); omega⟩
  · rintro ρ ⟨E, s10, s13, rfl, hE, ⟨E', hE'⟩, hall⟩
    simp
    intro _
    have hE2 : E.length ≤ 4000 := by omega
    have hfE := filter_len (fun v : Int × Int => decide (v.1 = 0) || decide (Dd.cm v.1 ∈ R)) E
    refine ⟨line7 (by omega), ?_⟩
    refine lcD_fm (fun v : Int × Int => decide (v.1 = 0) || decide (Dd.cm v.1 ∈ R)) id (enc' := vD) (fun v hv R' h1 h0 => ?_) ?_
    · simp [turnB, asgT, wipeR, l2]
      refine ix_t (d := .int v.1) (Ev.atI_nat (n := 0) rfl) ?_
      by_cases e : v.1 = 0
      · simpa [e] using h1
      · simp [e]
        refine ix_t (d := .int v.1) (Ev.atI_nat (n := 0) rfl) ?_
        simp
        by_cases e2 : Dd.cm v.1 ∈ R
        · simpa [e2] using h1
        · simpa [e, e2] using h0
    rw [List.map_id]
    skip
    intro v hv0 hv3
    have fin : ∀ E2 : List (Int × Int), (∀ p ∈ E2, p ∈ E) → 0 < E2.length → E2.length ≤ 4000 → (f_l_pick [.pool, .d (.list (E2.map vD))]).run Q X := by
      intro E2 hs h0 hl
      refine pick_run (by simpa using h0) (by simp; omega) fun d hd => ?_
      obtain ⟨p, hp, rfl⟩ := List.mem_map.mp hd
      exact hV p (hall p (hs p hp))
    split
    · exact fin E (fun _ h => h) (by rw [hE']; simp) hE2
    · refine fin _ (fun p hp => (List.mem_filter.mp hp).1) ?_ (by omega)
      rw [hE']
      simp
end K06

namespace K06
open PySem PySem.Spec PyProof.Rows L2 Ev EvR
def rwc (R : List Dd) : Nat := (R.filter isRW).length
theorem rwc_no {R : List Dd} {d : Dd} (h : isRW d = false) : rwc (R ++ [d]) = rwc R := by unfold rwc; rw [List.filter_append, List.filter_cons_of_neg (by simp [h])]; simp
theorem rwc_yes {R : List Dd} {d : Dd} (h : isRW d = true) : rwc (R ++ [d]) = rwc R + 1 := by unfold rwc; rw [List.filter_append, List.filter_cons_of_pos h]; simp
theorem sum_set : ∀ (L : List Int) (j : Nat) (v : Int) (h : j < L.length), (L.set j v).sum = L.sum - L[j] + v
  | x :: L, 0, v, h => by simp; omega
  | x :: L, j + 1, v, h => by
    have := sum_set L j v (by simpa using h)
    simp only [List.set_cons_succ, List.sum_cons, List.getElem_cons_succ]
    omega
theorem set_nn {L : List Int} {j : Nat} {v : Int} (hn : ∀ x ∈ L, 0 ≤ x) (hv : 0 ≤ v) : ∀ x ∈ L.set j v, 0 ≤ x := by
  intro x hx
  rcases List.mem_or_eq_of_mem_set hx with h | h
  · exact hn x h
  · rw [h]; exact hv
theorem sum_le4 : ∀ (L : List Int), (∀ x ∈ L, x ≤ 4) → L.sum ≤ 4 * L.length
  | [], _ => by simp
  | x :: L, h => by
    have h1 := h x List.mem_cons_self
    have h2 := sum_le4 L fun y hy => h y (List.mem_cons_of_mem _ hy)
    simp only [List.sum_cons, List.length_cons]
    omega
theorem sum_nn : ∀ (L : List Int), (∀ x ∈ L, 0 ≤ x) → 0 ≤ L.sum
  | [], _ => by simp
  | x :: L, h => by
    have h1 := h x List.mem_cons_self
    have h2 := sum_nn L fun y hy => h y (List.mem_cons_of_mem _ hy)
    simp only [List.sum_cons]
    omega
structure StR (mode many keys : Int) (i : Nat) (L : List Int) (R : List Dd) (O : List Int) : Prop where
  gen : Gen mode many keys R
  left : L.length = many.toNat + 1
  over : ∀ w, w ∈ O ↔ (Dd.cm w ∈ R ∨ Dd.ab w ∈ R)
  rl : R.length ≤ i
  ol : O.length ≤ i
  nn : ∀ x ∈ L, 0 ≤ x
  bud : (rwc R : Int) + L.sum ≤ 4 * many
def InvT (most mode many keys : Int) (i : Nat) (ρ : List Sl) : Prop := ∃ (L : List Int) (R : List Dd) (O : List Int) (s8 s9 s10 s11 s12 : Sl),
  ρ = [.pool, .val (.int most), .val (.int mode), .val (.int many), .val (.int keys), .own (L.map .int), .val (rowD R), .own (O.map .int), s8, s9, s10, s11, s12] ∧ StR mode many keys i L R O
def InvU (most mode many keys : Int) (i : Nat) (ρ : List Sl) : Prop := ∃ (L : List Int) (R : List Dd) (O : List Int) (s8 s9 s10 s11 s12 : Sl),
  ρ = [.pool, .val (.int most), .val (.int mode), .val (.int many), .val (.int keys), .own (L.map .int), .val (rowD R), .own (O.map .int), s8, s9, s10, s11, s12] ∧
  Gen mode many keys R ∧ R.length ≤ 60 + i ∧ (rwc R : Int) ≤ 4 * many ∧ (∀ w, w ∈ O → (Dd.cm w ∈ R ∨ Dd.ab w ∈ R)) ∧ (∀ w : Int, 1 + i ≤ w → (Dd.cm w ∈ R ∨ Dd.ab w ∈ R) → w ∈ O) ∧ ∀ w : Int, w < 1 + i → Dd.bg w ∈ R → (Dd.cm w ∈ R ∨ Dd.ab w ∈ R)
theorem pick_join {c : Prop} [Decidable c] {l : List Int} (h0 : l ≠ []) (hl : l.length < 100000) {K : D → Prop} {X X' : Exc → Prop} (h : ∀ w ∈ l, K (.int w)) :
    if c then (f_l_pick [.pool, .d (.list (l.map .int))]).run K X else (ixD (.list (l.map .int)) (.int 0)).run K X' := by
  have hp : 0 < l.length := List.length_pos_iff.mpr h0
  split
  · refine pick_run (by simpa using hp) (by simpa using hl) fun d hd => ?_
    obtain ⟨w, hw, rfl⟩ := List.mem_map.mp hd
    exact h w hw
  · have e : l[0]? = some l[0] := List.getElem?_eq_getElem hp
    exact ix_l (d := .int l[0]) (Ev.atI_nat (n := 0) (by rw [List.getElem?_map, e]; rfl)) (h _ (List.getElem_mem hp))
theorem all_ints : ∀ {ys : List D}, (∀ y ∈ ys, ∃ g : Int, y = .int g) → ∃ L : List Int, ys = L.map .int
  | [], _ => ⟨[], rfl⟩
  | y :: ys, h => by
    obtain ⟨g, rfl⟩ := h y List.mem_cons_self
    obtain ⟨L, rfl⟩ := all_ints (ys := ys) fun z hz => h z (List.mem_cons_of_mem _ hz)
    exact ⟨g :: L, rfl⟩
theorem or3 {a b c : Prop} : (a ∨ b) ∨ c ↔ (a ∨ c) ∨ b := ⟨by rintro ((h | h) | h) <;> simp [h], by rintro ((h | h) | h) <;> simp [h]⟩
def RowOk (most mode : Int) (R : List Dd) : Prop := ∃ many keys : Int, 1 ≤ many ∧ many ≤ most ∧ 1 ≤ keys ∧ keys ≤ 3 ∧ Gen mode many keys R ∧ Over R ∧ R.length ≤ 60 + many ∧ (rwc R : Int) ≤ 4 * many
theorem row_run {most mode : Int} (hm : 0 ≤ mode ∧ mode < 4) (h1 : 1 ≤ most ∧ most ≤ 9) {Q : D → Prop} {X : Exc → Prop} (h : ∀ R, RowOk most mode R → Q (rowD R)) :
    (f_l_row [.pool, .d (.int most), .d (.int mode)]).run Q X := by
  unfold f_l_row
  simp [b_l_row]
  refine ⟨by omega, by omega, fun v hv0 hv1 => ?_⟩
  generalize hmany : (1 + v : Int) = many
  intro v2 hv2 hv3
  generalize hkeys : (1 + v2 : Int) = keys
  refine ⟨l1, inR_small (by omega) (by omega), by rw [upto_len]; exact line8 (by omega), ?_⟩
  refine lcD_all (fun y => ∃ g : Int, y = .int g ∧ 1 ≤ g ∧ g ≤ 4) (fun x hx R hR => ?_) fun ys hl hp => ?_
  · simp [turnB, asgT, wipeR]
    intro v h0 h1
    exact hR _ ⟨_, rfl, by omega, by omega⟩
  obtain ⟨L0, rfl⟩ : ∃ L0 : List Int, ys = L0.map .int := all_ints fun y hy => (hp y hy).imp fun g h => h.1
  have hL0 : ∀ x ∈ L0, 1 ≤ x ∧ x ≤ 4 := fun x hx => by
    obtain ⟨g, e, h2⟩ := hp (.int x) (List.mem_map_of_mem hx)
    cases e
    exact h2
  rw [upto_len, List.length_map] at hl
  rw [List.nil_append]
  refine ⟨by rw [List.length_map]; exact line8 (by omega), inR_small (by decide) (by decide), ?_⟩
  have init0 : (∀ x ∈ (0 :: L0), 0 ≤ x) ∧ (rwc [] : Int) + (0 :: L0).sum ≤ 4 * many := by
    refine ⟨fun x hx => ?_, ?_⟩
    · rcases List.mem_cons.mp hx with rfl | hx
      · exact Int.le_refl _
      · have := (hL0 x hx).1; omega
    · have := sum_le4 L0 fun x hx => (hL0 x hx).2
      simp only [List.sum_cons]
      have e : rwc [] = 0 := rfl
      omega
  refine forD_upto (InvT most mode many keys) ⟨0 :: L0, [], [], _, _, _, _, _, rfl, .nil, by simp [hl], by simp, by simp, by simp, init0.1, init0.2⟩ ?_ ?_
  · rintro i ρ hi ⟨L, R, O, s8, s9, s10, s11, s12, rfl, S⟩
    have hrl := S.rl
    have hol := S.ol
    simp
    refine ⟨inR2_small (by omega) (by omega) (by omega) (by omega), by rw [upto_len]; exact line8 (by omega), ?_⟩
    rw [upto_ints]
    refine lcD_fm (fun w => !decide (w ∈ O)) id (enc' := .int) (fun w hw R' h1 h0 => ?_) ?_
    · simp [turnB, asgT, wipeR]
      by_cases e : w ∈ O
      · simpa [e] using h0
      · simpa [e] using h1
    rw [List.map_id]
    generalize hF : (rgI 1 many.toNat).filter (fun w => !decide (w ∈ O)) = F
    have hFm : ∀ w, w ∈ F ↔ (1 ≤ w ∧ w ≤ many) ∧ w ∉ O := by
      intro w
      rw [← hF, List.mem_filter, rgI_mem]
      simp
      omega
    have hFl : F.length ≤ 9 := by
      rw [← hF]
      refine Nat.le_trans (filter_len _ _) ?_
      rw [rgI_len]
      omega
    rw [eqv_lnil]
    simp
    split
    · rename_i e
      subst e
      refine h R ⟨many, keys, by omega, by omega, by omega, by omega, S.gen, fun w hw => ?_, by omega, by have := S.bud; have := sum_nn L S.nn; omega⟩
      have hr := S.gen.range w hw
      by_cases hO : w ∈ O
      · exact (S.over w).mp hO
      · have := (hFm w).mpr ⟨⟨hr.1, hr.2⟩, hO⟩
        cases this
    rename_i hne
    refine pick_join hne (by omega) fun w hw => ?_
    obtain ⟨⟨w1, w2⟩, wO⟩ := (hFm w).mp hw
    have hcm : Dd.cm w ∉ R := fun q => wO ((S.over w).mpr (.inl q))
    have hab : Dd.ab w ∉ R := fun q => wO ((S.over w).mpr (.inr q))
    have eR : ∀ d : Dd, addD (rowD R) (.tuple [enc d]) = addD (rowD R) (.tuple [enc d]) := fun _ => rfl
    have hadd : ∀ d : Dd, (PyData.tuple (R.map enc ++ [enc d])) = rowD (R ++ [d]) := fun d => by rw [row_snoc]
    simp
    refine ⟨l2, ?_⟩
    split
    · rename_i hbg
      have hA : Act R w := ⟨hbg, hcm, hab⟩
      obtain ⟨j, rfl⟩ : ∃ j : Nat, w = j := ⟨w.toNat, by omega⟩
      have hL := S.left
      have hj : j < L.length := by omega
      have ej : L[j]? = some L[j] := List.getElem?_eq_getElem hj
      refine ix_l (d := .int L[j]) (Ev.atI_nat (by rw [List.getElem?_map, ej]; rfl)) ?_
      simp
      split
      · intro u hu0 hu1
        have fin : ∀ d : Dd, (d = .cm (j : Int) ∨ d = .ab (j : Int)) → InvT most mode many keys (i + 1) [.pool, .val (.int most), .val (.int mode), .val (.int many), .val (.int keys), .own (L.map .int), .val (.tuple (R.map enc ++ [enc d])), .own (O.map .int ++ [.int (j : Int)]), .val (.int i), .val (.int j), .val (.list (F.map .int)), s11, s12] := by
          intro d hd
          rw [hadd]
          rw [show O.map PyData.int ++ [.int (j : Int)] = (O ++ [(j : Int)]).map .int by simp]
          refine ⟨L, R ++ [d], O ++ [(j : Int)], _, _, _, _, _, rfl, ?_, hL, ?_, by simp; omega, by simp; omega, S.nn, by rw [rwc_no (by rcases hd with rfl | rfl <;> rfl)]; exact S.bud⟩
          · rcases hd with rfl | rfl
            · exact .cm S.gen hA
            · exact .ab S.gen hA
          · intro x
            have hx := S.over x
            rcases hd with rfl | rfl
            · simp [hx, or3]
            · simp [hx, or_assoc]
        split
        · exact ⟨l2, l1, line8 (by omega), line9 (by omega), fin (.ab j) (.inr rfl)⟩
        · exact ⟨l2, l1, line8 (by omega), line9 (by omega), fin (.cm j) (.inl rfl)⟩
      · refine ix_l (d := .int L[j]) (Ev.atI_nat (by rw [List.getElem?_map, ej]; rfl)) ?_
        simp
        rename_i hne0
        have hLj : 0 ≤ L[j] := S.nn _ (List.getElem_mem hj)
        have hset := sum_set L j (L[j] - 1) hj
        have hbud := S.bud
        have hnn := set_nn (j := j) (v := L[j] - 1) S.nn (by omega)
        rw [setAt_int hj]
        simp
        refine ⟨by omega, by omega, fun k hk0 hk1 u hu0 hu1 => ?_⟩
        have hO : ∀ d : Dd, (∀ x, d ≠ .cm x) → (∀ x, d ≠ .ab x) → ∀ x : Int, x ∈ O ↔ (Dd.cm x ∈ R ++ [d] ∨ Dd.ab x ∈ R ++ [d]) := by
          intro d h1 h2 x
          rw [S.over x]
          simp [(h1 x).symm, (h2 x).symm]
        split
        · refine ⟨l3, l1, line8 (by omega), ?_⟩
          rw [show PyData.tuple [.str (Str.ofString "write"), .int (j : Int), .int k] = enc (.wr j k) from rfl, hadd, ← List.map_set]
          refine ⟨L.set j (L[j] - 1), R ++ [.wr j k], O, _, _, _, _, _, rfl, .wr S.gen hA hk0 hk1, by simp [hL], hO _ (by simp) (by simp), by simp; omega, by omega, hnn, by rw [rwc_yes rfl, hset]; omega⟩
        · refine ⟨l3, ?_⟩
          refine version_run hbg (by omega) hm fun p hp => ?_
          simp
          refine ⟨l5, l1, line8 (by omega), ?_⟩
          rw [show PyData.tuple [.str (Str.ofString "read"), .int (j : Int), .int k, .int p.1, .int p.2] = enc (.rd j k p.1 p.2) from rfl, hadd, ← List.map_set]
          refine ⟨L.set j (L[j] - 1), R ++ [.rd j k p.1 p.2], O, _, _, _, _, _, rfl, .rd S.gen hA hk0 hk1 hp, by simp [hL], hO _ (by simp) (by simp), by simp; omega, by omega, hnn, by rw [rwc_yes rfl, hset]; omega⟩
    · rename_i hbg
      refine ⟨l2, l1, line8 (by omega), ?_⟩
      rw [show PyData.tuple [.str (Str.ofString "begin"), .int w] = enc (.bg w) from rfl, hadd]
      refine ⟨L, R ++ [.bg w], O, _, _, _, _, _, rfl, .bg S.gen w1 w2 hbg, S.left, ?_, by simp; omega, by omega, S.nn, by rw [rwc_no rfl]; exact S.bud⟩
      intro x
      rw [S.over x]
      simp
  · rintro ρ ⟨L, R, O, s8, s9, s10, s11, s12, rfl, S⟩
    have hrl := S.rl
    simp
    refine ⟨inR2_small (by omega) (by omega) (by omega) (by omega), ?_⟩
    refine forD_upto (InvU most mode many keys) ⟨L, R, O, _, _, _, _, _, rfl, S.gen, by omega, by have := S.bud; have := sum_nn L S.nn; omega, fun w hw => (S.over w).mp hw, fun w _ hw => (S.over w).mpr hw, fun w hw hb => ?_⟩ ?_ ?_
    · have := (S.gen.range w hb).1
      omega
    · rintro i ρ hi ⟨L, R, O, s8, s9, s10, s11, s12, rfl, G, hl, hrc, hO1, hO2, hd⟩
      simp
      have stay : (∀ w : Int, w < 1 + ((i + 1 : Nat) : Int) → Dd.bg w ∈ R → (Dd.cm w ∈ R ∨ Dd.ab w ∈ R)) → InvU most mode many keys (i + 1) [.pool, .val (.int most), .val (.int mode), .val (.int many), .val (.int keys), .own (L.map .int), .val (rowD R), .own (O.map .int), s8, .val (.int (1 + (i : Int))), s10, s11, s12] :=
        fun hd' => ⟨L, R, O, _, _, _, _, _, rfl, G, by omega, hrc, hO1, fun w hw hx => hO2 w (by omega) hx, hd'⟩
      by_cases hO : 1 + (i : Int) ∈ O
      · rw [if_pos hO, if_pos hO]
        refine stay fun w hw hb => ?_
        by_cases e : w < 1 + (i : Int)
        · exact hd w e hb
        · have : w = 1 + (i : Int) := by omega
          rw [this]; exact hO1 _ hO
      rw [if_neg hO]
      refine ⟨l2, ?_⟩
      have hn : ¬ (Dd.cm (1 + (i : Int)) ∈ R ∨ Dd.ab (1 + (i : Int)) ∈ R) := fun q => hO (hO2 _ (by omega) q)
      split
      · rename_i hb
        refine ⟨l2, l1, line8 (by omega), ?_⟩
        rw [show PyData.tuple [.str (Str.ofString "commit"), .int (1 + (i : Int))] = enc (.cm (1 + (i : Int))) from rfl, row_snoc]
        refine ⟨L, R ++ [.cm (1 + (i : Int))], O, _, _, _, _, _, rfl, .cm G ⟨hb, fun q => hn (.inl q), fun q => hn (.inr q)⟩, by simp; omega, by rw [rwc_no rfl]; exact hrc, fun w hw => ?_, fun w hw hx => ?_, fun w hw hx => ?_⟩
        · rcases hO1 w hw with q | q
          · exact .inl (List.mem_append_left _ q)
          · exact .inr (List.mem_append_left _ q)
        · refine hO2 w (by omega) ?_
          rcases hx with q | q
          · rcases mem_snoc q with q | q
            · exact .inl q
            · cases q; omega
          · rcases mem_snoc q with q | q
            · exact .inr q
            · cases q
        · by_cases e : w = 1 + (i : Int)
          · subst e
            exact .inl (List.mem_append_right _ (List.mem_singleton.mpr rfl))
          · rcases mem_snoc hx with q | q
            · rcases hd w (by omega) q with q | q
              · exact .inl (List.mem_append_left _ q)
              · exact .inr (List.mem_append_left _ q)
            · cases q
      · rename_i hb
        refine stay fun w hw hx => ?_
        by_cases e : w = 1 + (i : Int)
        · subst e; exact absurd hx hb
        · exact hd w (by omega) hx
    · rintro ρ ⟨L, R, O, s8, s9, s10, s11, s12, rfl, G, hl, hrc, hO1, hO2, hd⟩
      simp
      refine h R ⟨many, keys, by omega, by omega, by omega, by omega, G, fun w hw => ?_, by omega, hrc⟩
      have hr := G.range w hw
      exact hd w (by omega) hw
end K06

namespace K06
open PySem PySem.Spec PyProof.Rows L2 Ev EvR
theorem l_last_run {R : List Dd} {w k : Int} (hz : R.length ≤ 200) {Q : D → Prop} {X : Exc → Prop} (h : Q (.int (cnt R w k))) : (f_l_last [.d (rowD R), .d (.int w), .d (.int k)]).run Q X := by
  unfold f_l_last
  simp [b_l_last]
  exact fun _ => count_run hz h
def wrts (R : List Dd) (k : Int) : List Int := (cms R).filter fun o => decide (0 < cnt R o k)
theorem l_writers_run {R : List Dd} {k : Int} (hz : R.length ≤ 200) {Q : D → Prop} {X : Exc → Prop} (h : Q (.list ((wrts R k).map .int))) : (f_l_writers [.d (rowD R), .d (.int k)]).run Q X := by
  unfold f_l_writers
  simp [b_l_writers]
  refine fun _ => ⟨line7 (by omega), ?_⟩
  refine lcD_fm (fun d => isCm d && decide (0 < cnt R (wk d) k)) wk (enc' := .int) (fun d hd R' h1 h0 => ?_) ?_
  · simp [turnB, asgT, wipeR]
    cases e : isCm d
    · simp; exact h0 (by simp [e])
    · simp
      refine l_last_run hz ?_
      simp
      by_cases e2 : 0 < cnt R (wk d) k
      · simp [e2]; exact h1 (by simp [e, e2])
      · simp [e2]; exact h0 (by simp [e2])
  have e : (R.filter fun d => isCm d && decide (0 < cnt R (wk d) k)).map wk = wrts R k := by
    unfold wrts cms
    rw [List.filter_map, List.filter_filter]
    congr 1
    refine List.filter_congr fun d _ => ?_
    simp [Bool.and_comm]
  rw [e]
  exact h
theorem wrts_len (R : List Dd) (k : Int) : (wrts R k).length ≤ R.length := Nat.le_trans (List.length_filter_le _ _) (cms_len R)
abbrev ordD (o : List Int) : D := .tuple (o.map .int)
abbrev histD (r : D) (os : List (List Int)) : D := .tuple [r, .tuple (os.map ordD)]
theorem dS_appPop {M : Mg} {ρ : List Sl} {f i : Nat} {j : IE} : denS M (.appPop f i j) ρ = appPopS f i (denE M j) ρ := rfl
theorem pop_ok {l : List Int} {v : Nat} (h : v < l.length) (hz : l.length ≤ 1000) : popAtD (l.map .int) (.int (v : Int)) = some (.int (l[v]'h), (l.eraseIdx v).map .int) := by
  unfold popAtD
  have e : seqIndex? (v : Int) (l.map PyData.int).length = some v := by
    unfold seqIndex?
    have : ¬ (v : Int) < 0 := by omega
    simp [this, h]
  have hb : -(2 ^ 63) ≤ (v : Int) ∧ (v : Int) < 2 ^ 63 := by omega
  simp only [if_pos hb, e, Option.bind_some]
  rw [List.getElem?_map, List.getElem?_eq_getElem h]
  simp [List.eraseIdx_eq_take_drop_succ]
theorem erase_perm : ∀ {a : List Int} {n : Nat} (h : n < a.length), (a[n] :: a.eraseIdx n).Perm a
  | x :: a, 0, h => .refl _
  | x :: a, n + 1, h => by
    have := erase_perm (a := a) (n := n) (by simpa using h)
    simp only [List.eraseIdx_cons_succ, List.getElem_cons_succ]
    exact (List.Perm.swap x _ _).trans (this.cons x)
def InvS (l : List Int) (k : Nat) (ρ : List Sl) : Prop := ∃ a b : List Int, ρ = [.pool, .val (.list (l.map .int)), .own (a.map .int), .own (b.map .int)] ∧ (b ++ a).Perm l ∧ b.length = k
theorem shuffled_run {l : List Int} (hz : l.length ≤ 1000) {Q : D → Prop} {X : Exc → Prop} (h : ∀ m : List Int, m.Perm l → Q (.list (m.map .int))) : (f_l_shuffled [.pool, .d (.list (l.map .int))]).run Q X := by
  unfold f_l_shuffled
  simp [b_l_shuffled, -dT_cons]
  refine stp ?_
  simp [-dT_cons]
  refine stp ?_
  simp [-dT_cons]
  refine stp ?_
  simp [-dT_cons]
  refine whileS_run (InvS l) l.length ⟨l, [], rfl, .refl _, rfl⟩ ?_
  rintro k ρ ⟨a, b, rfl, hp, hb⟩
  have hlen : b.length + a.length = l.length := by rw [← hp.length_eq, List.length_append]
  simp [-dT_cons]
  by_cases ha : a = []
  · rw [if_pos ha]
    subst ha
    rw [List.append_nil] at hp
    simp [frzR]
    exact h b hp
  · rw [if_neg ha]
    have hpos : 0 < a.length := List.length_pos_iff.mpr ha
    refine ⟨by omega, ?_⟩
    simp [dS_appPop]
    intro _
    refine ⟨by omega, hpos, fun v h1 h2 => ?_⟩
    obtain ⟨n, rfl⟩ : ∃ n : Nat, v = n := ⟨v.toNat, by omega⟩
    have hn : n < a.length := by omega
    rw [pop_ok hn (by omega)]
    simp
    refine ⟨line6 (by omega), a.eraseIdx n, b ++ [a[n]], by simp, ?_, by simp [hb]⟩
    refine .trans ?_ hp
    rw [List.append_assoc]
    exact (erase_perm hn).append_left b
/-! ### histories -/
def Hist (R : List Dd) (os : List (List Int)) : Prop := os.length = 4 ∧ ∀ j : Nat, j < 4 → ∃ l : List Int, os[j]? = some (0 :: l) ∧ l.Perm (wrts R j)
theorem lcD_ords {body : D → W Exc (Option D)} (P : Nat → List Int → Prop) {Q : List D → Prop} {X : Exc → Prop} : ∀ (n k : Nat) {acc : List D}, (∀ j, k ≤ j → j < k + n → ∀ R : Option D → Prop, (∀ o, P j o → R (some (ordD o))) → (body (.int (j : Int))).run R X) →
    (∀ os : List (List Int), os.length = n → (∀ j, j < n → ∃ o, os[j]? = some o ∧ P (k + j) o) → Q (acc ++ os.map ordD)) → (lcD body ((List.range' k n).map fun (j : Nat) => PyData.int (j : Int)) acc).run Q X
  | 0, k, acc, h, q => by
    have := q [] rfl (fun j hj => by omega)
    rw [List.map_nil, List.append_nil] at this
    exact this
  | n + 1, k, acc, h, q => by
    rw [List.range'_succ, List.map_cons]
    refine h k (Nat.le_refl _) (by omega) _ fun o ho => ?_
    refine lcD_ords P n (k + 1) (acc := acc ++ [ordD o]) (fun j h1 h2 => h j (by omega) (by omega)) fun os hl hp => ?_
    have := q (o :: os) (by simp [hl]) (fun j hj => by
      cases j with
      | zero => exact ⟨o, rfl, ho⟩
      | succ j =>
        obtain ⟨o', h1, h2⟩ := hp j (by omega)
        exact ⟨o', by simpa using h1, by rw [show k + (j + 1) = k + 1 + j by omega]; exact h2⟩)
    simpa using this
theorem upto_range' (n : Nat) : upto 0 n = (List.range' 0 n).map fun (j : Nat) => PyData.int (j : Int) := by
  rw [upto_eq, List.range_eq_range']
  refine List.map_congr_left fun j _ => ?_
  simp
theorem l_by_commits_run {R : List Dd} (hz : R.length ≤ 200) {Q : D → Prop} {X : Exc → Prop} (h : Q (histD (rowD R) ((List.range 4).map fun j => 0 :: wrts R (j : Nat)))) : (f_l_by_commits [.d (rowD R)]).run Q X := by
  unfold f_l_by_commits
  simp [b_l_by_commits]
  refine ⟨inR_small (by decide) (by decide), by rw [upto_len]; exact line7 (by decide), ?_⟩
  refine lcD_upto (fun j => some (ordD (0 :: wrts R (j : Nat)))) (fun j hj R' hR' => ?_) ?_
  · have hw := wrts_len R j
    simp [turnB, asgT, wipeR]
    refine ⟨l1, l_writers_run hz ?_⟩
    simp
    exact ⟨line7 (by omega), hR'⟩
  · rw [filterMap_some, List.nil_append]
    refine ⟨l2, ?_⟩
    have e : ((List.range 4).map fun j => 0 :: wrts R (j : Nat)).map ordD = (List.range 4).map fun j => ordD (0 :: wrts R (j : Nat)) := by rw [List.map_map]; rfl
    rw [← e]
    exact h
theorem hist_commits (R : List Dd) : Hist R ((List.range 4).map fun j => 0 :: wrts R (j : Nat)) := by
  refine ⟨by simp, fun j hj => ⟨wrts R j, ?_, .refl _⟩⟩
  rw [List.getElem?_map, List.getElem?_range hj]
  rfl
theorem rows_run {Q : D → Prop} {X : Exc → Prop} (h : ∀ mode R, RowOk 4 mode R → Q (rowD R)) : (f_l_rows [.pool]).run Q X := by
  unfold f_l_rows
  simp [b_l_rows]
  intro mode h0 h1
  exact row_run ⟨h0, h1⟩ (by decide) fun R hR => h mode R hR
theorem history_run {Q : D → Prop} {X : Exc → Prop} (h : ∀ mode R os, RowOk 4 mode R → Hist R os → Q (histD (rowD R) os)) : (f_l_history [.pool]).run Q X := by
  unfold f_l_history
  simp [b_l_history, -dT_cons]
  refine stp ?_
  simp [-dT_cons]
  refine rows_run fun mode R hR => ?_
  have h' := fun os hos => h mode R os hR hos
  obtain ⟨many, keys, k1, k2, k3, k4, G, O, hl, hrc⟩ := hR
  have hz : R.length ≤ 200 := by omega
  refine stp ?_
  simp [-dT_cons]
  intro v h1 h2
  split
  · simp
    refine l_by_commits_run hz ?_
    exact h' _ (hist_commits R)
  · simp
    refine ⟨inR_small (by decide) (by decide), by rw [upto_len]; exact line7 (by decide), ?_⟩
    rw [show upto 0 4 = _ from upto_range' 4]
    refine lcD_ords (fun j o => ∃ l : List Int, o = 0 :: l ∧ l.Perm (wrts R j)) 4 0 (fun j _ hj R' hR' => ?_) fun os hl hp => ?_
    · have hw := wrts_len R j
      simp [turnB, asgT, wipeR]
      refine ⟨l1, l_writers_run hz (shuffled_run (by omega) fun m hm => ?_)⟩
      have := hm.length_eq
      simp
      exact ⟨line7 (by omega), hR' _ ⟨m, rfl, hm⟩⟩
    · rw [List.nil_append]
      refine ⟨l2, h' os ⟨hl, fun j hj => ?_⟩⟩
      obtain ⟨o, h3, l, rfl, h4⟩ := hp j hj
      exact ⟨l, h3, by simpa using h4⟩
theorem wrts_nodup {mode many keys : Int} {R : List Dd} (G : Gen mode many keys R) (k : Int) : (wrts R k).Nodup := (gen_nodup G).2.filter _
end K06

namespace K06
open PySem PySem.Spec PyProof.Rows L2 Ev EvR
theorem committed_run {R : List Dd} (hz : R.length ≤ 200) {Q : D → Prop} {X : Exc → Prop} (h : Q (.list ((srtI (cms R)).map .int))) : (f_committed [.d (rowD R)]).run Q X := by
  unfold f_committed
  simp [b_committed]
  refine fun _ => ⟨line8 (by omega), ?_⟩
  refine lcD_fm isCm wk (enc' := .int) (fun d hd R' h1 h0 => ?_) ?_
  · simp [turnB, asgT, wipeR]
    cases e : isCm d <;> simp [e, h1, h0]
  rw [srt_li]
  exact h
def deedsP (w : Int) (d : Dd) : Bool := decide (wk d = w) && isRW d
theorem deeds_run {R : List Dd} (hz : R.length ≤ 200) {w : Int} {Q : D → Prop} {X : Exc → Prop} (h : Q (.tuple ((R.filter (deedsP w)).map enc))) : (f_deeds_of [.d (rowD R), .d (.int w)]).run Q X := by
  unfold f_deeds_of
  simp [b_deeds_of]
  refine fun _ => ⟨line8 (by omega), ?_⟩
  refine lcD_fm (deedsP w) id (enc' := enc) (fun d hd R' h1 h0 => ?_) ?_
  · simp [turnB, asgT, wipeR, l2]
    by_cases e : wk d = w
    · cases d <;> simp [e, isRd, isWr] <;> first
        | exact h0 (by simp [deedsP, isRW])
        | exact h1 (by simp [deedsP, e, isRW])
    · simp [e]; exact h0 (by simp [deedsP, e])
  rw [List.map_id]
  exact h
theorem outer_run {R : List Dd} (hz : R.length ≤ 200) {w : Int} {Q : D → Prop} {X : Exc → Prop} (h : Q (.list ((outR R w).map tlD))) : (f_outer_reads [.d (rowD R), .d (.int w)]).run Q X := by
  unfold f_outer_reads
  simp [b_outer_reads]
  refine deeds_run hz ?_
  have hl := filter_len (deedsP w) R
  simp
  refine fun _ => ⟨line8 (by omega), ?_⟩
  refine lcD_fm (fun d => isRd d && !decide (vof d = w)) id (enc' := tlD) (fun d hd R' h1 h0 => ?_) ?_
  · simp [turnB, asgT, wipeR]
    cases hr : isRd d
    · simp; exact h0 (by simp [hr])
    · simp
      refine ix3 hr ?_
      by_cases e : vof d = w
      · simp [e]; exact h0 (by simp [e])
      · simp [e]; exact h1 (by simp [hr, e])
  rw [List.map_id, List.filter_filter]
  have e : R.filter (fun d => (isRd d && !decide (vof d = w)) && deedsP w d) = outR R w := by
    unfold outR
    refine List.filter_congr fun d _ => ?_
    unfold outP deedsP
    cases d <;> simp [isRd, isRW, Bool.and_comm]
  rw [e]
  exact h
theorem same_ok {d : D} {Q : D → Prop} {X : Exc → Prop} : ∀ (n : Nat), good n d → Q (.bool true) → (f_l_same n [.d d, .d d]).run Q X
  | 0, h, _ => h.elim
  | n + 1, h, q => same_run (M := m_l_same (f_l_same n)) (fun e he Q X q => same_ok n he q) h q
def bfP (R : List Dd) (a b : Int) : Bool := decide (R.idxOf (.cm a) < R.idxOf (.bg b))
def bfA (R : List Dd) (l : List Int) (a : Int) : List (Int × Int) := (l.filter (bfP R a)).map fun b => (a, b)
def bfs (R : List Dd) : List (Int × Int) := (srtI (cms R)).flatMap (bfA R (srtI (cms R)))
theorem bfA_len (R : List Dd) (l : List Int) (a : Int) : (bfA R l a).length ≤ l.length := by unfold bfA; rw [List.length_map]; exact filter_len _ _
def InvB (R : List Dd) (L : List Int) (i : Nat) (ρ : List Sl) : Prop := ∃ s3 s4, ρ = [.val (rowD R), .val (.list (L.map .int)), .val (.list (((L.take i).flatMap (bfA R L)).map pD)), s3, s4]
end K06

/-! EvR9: sorted sets of tuples of ints and texts; zip; places of ints. -/
namespace EvR
open PySem PySem.Spec PyProof.Rows L2 Ev
section
variable {M : Mg} {ρ : List Sl}
@[simp] theorem dI_zip {a b : IE} : denI M (.zip a b) ρ = (denE M a ρ).bind fun d => (denE M b ρ).bind fun f => zipD d f := rfl
@[simp] theorem zip_t {xs ys : List D} : zipD (.tuple xs) (.tuple ys) = .ret (pairsD xs ys) := rfl
@[simp] theorem zip_l {xs ys : List D} : zipD (.list xs) (.list ys) = .ret (pairsD xs ys) := rfl
end
/-! ### sorted(set(..)) -/
theorem srtS_mx {L : List (List Key)} {Q : List D → Prop} {X : Exc → Prop} (h : (uniqM L).length < 64) (ho : SrtM L) (q : Q ((uniqM L).map encM)) : (srtSetD (.list (L.map encM))).run Q X := by
  cases L with
  | nil => exact ⟨⟨by decide, by decide⟩, q⟩
  | cons l L =>
    show (match Ev.intsOf ((l :: L).map encM) with
      | some ns => (W.ask (ns.length + 1 < scanBound ∧ (uniqI ns).length < 64)).bind fun _ => .ret ((uniqI ns).map .int)
      | none => match mixOf ((l :: L).map encM) with
        | some L => (W.ask ((uniqM L).length < 64 ∧ SrtM L)).bind fun _ => .ret ((uniqM L).map encM)
        | none => .stuck : W Exc (List D)).run Q X
    rw [show Ev.intsOf ((l :: L).map encM) = none from rfl, mixOf_map]
    exact ⟨⟨h, ho⟩, q⟩
def srtM (L : List (List Key)) : List (List Key) := L.mergeSort fun a b => !ltM b a
theorem srtM_mem {L : List (List Key)} {x : List Key} : x ∈ srtM L ↔ x ∈ L := List.mem_mergeSort
theorem srtM_len (L : List (List Key)) : (srtM L).length = L.length := List.length_mergeSort _
theorem ltM_not {a b : List Key} (h : ltM a b = true) : ltM b a = false := by
  cases e : ltM b a with
  | false => rfl
  | true => have := linM.tr _ _ _ h e; rw [linM.irr] at this; cases this
theorem srtM_strict {L : List (List Key)} (h : L.Nodup) : (srtM L).Pairwise fun a b => ltM a b = true := by
  have T := PySem.W.sortLe_total ordT false fun q : List Key => toksM q
  have h1 : (srtM L).Pairwise fun a b => (!ltM b a) = true := List.pairwise_mergeSort (fun a b c => T.trans a b c) (fun a b => by rw [Bool.or_eq_true]; exact T.total a b) L
  have h2 : (srtM L).Nodup := (List.mergeSort_perm L _).nodup_iff.mpr h
  refine (h1.and h2).imp fun {a b} z => ?_
  cases c : ltM a b with
  | true => rfl
  | false => exact absurd (linM.tot _ _ c (by simpa using z.1)) z.2
theorem srtM_uniq {L N : List (List Key)} (h : L.Nodup) (hm : ∀ x, x ∈ L ↔ x ∈ N) : srtM L = uniqM N :=
  sorted_unique linM (srtM_strict h) (uniq_sorted linM _) fun z => by rw [srtM_mem, uniq_mem linM, hm]
theorem uniqM_same {L N : List (List Key)} (hm : ∀ x, x ∈ L ↔ x ∈ N) : uniqM L = uniqM N :=
  sorted_unique linM (uniq_sorted linM _) (uniq_sorted linM _) fun z => by rw [uniq_mem linM, uniq_mem linM, hm]
theorem uniqM_nodup (L : List (List Key)) : (uniqM L).Nodup := sorted_nodup linM (uniq_sorted linM _)
theorem uniqM_le {L N : List (List Key)} (h : ∀ x ∈ L, x ∈ N) : (uniqM L).length ≤ N.length := nodup_len (uniqM_nodup L) fun x hx => h x ((uniq_mem linM _ _).mp hx)
theorem depth_encKs (k : List Key) : PyData.depthAll (k.map encK) = 0 := by
  induction k with
  | nil => simp [PyData.depthAll]
  | cons a k ih => cases a <;> simp [PyData.depthAll, PyData.depth, encK, ih]
theorem nd_encM (L : List (List Key)) : ndAll (L.map encM) = true := by
  have one : ∀ k : List Key, ndAll (k.map encK) = true := by
    intro k
    induction k with
    | nil => rfl
    | cons a k ih => cases a <;> simp_all [ndAll, nd, encK]
  induction L with
  | nil => rfl
  | cons l L ih => simp [ndAll, nd, Ev.encM, one, ih]
theorem sh_encM (k : List Key) : sh (encM k) = true := by
  have one : ∀ k : List Key, ndAll (k.map encK) = true := by
    intro k
    induction k with
    | nil => rfl
    | cons a k ih => cases a <;> simp_all [ndAll, nd, encK]
  simp [sh, Ev.encM, PyData.depth, depth_encKs, one]
theorem srt_mx {L : List (List Key)} {Q : List D → Prop} {X : Exc → Prop} (ho : SrtM L) (q : Q ((srtM L).map encM)) : (srtD (.list (L.map encM))).run Q X := by
  refine ⟨⟨nd_encM L, ho.1, ho.ok, fun d hd => ?_⟩, ?_⟩
  · obtain ⟨k, _, rfl⟩ := List.mem_map.mp hd
    have := encM_depth k
    omega
  · have e : (L.map encM).mergeSort leD = (srtM L).map encM := (map_srt Ev.encM (fun a b => !ltM b a) leD fun _ _ => rfl).symm
    show Q ((L.map encM).mergeSort leD)
    rw [e]
    exact q
/-! ### edges: a word and three ints -/
abbrev Ed := Str × Int × Int × Int
def edK (e : Ed) : List Key := [.inr e.1, .inl e.2.1, .inl e.2.2.1, .inl e.2.2.2]
abbrev edD (e : Ed) : D := .tuple [.str e.1, .int e.2.1, .int e.2.2.1, .int e.2.2.2]
theorem edK_D (e : Ed) : encM (edK e) = edD e := rfl
theorem edK_map (E : List Ed) : (E.map edK).map encM = E.map edD := by rw [List.map_map]; rfl
theorem edK_inj {e f : Ed} (h : edK e = edK f) : e = f := by
  obtain ⟨z, a, b, c⟩ := e
  obtain ⟨z', a', b', c'⟩ := f
  simp [edK] at h
  obtain ⟨h1, h2, h3, h4⟩ := h
  rw [h1, h2, h3, h4]
theorem ed_ok (E : List Ed) : SrtM (E.map edK) := by
  refine ⟨fun d hd e he => ?_, fun k hk => ?_⟩
  · obtain ⟨x, hx, rfl⟩ := List.mem_map.mp hd
    obtain ⟨y, hy, rfl⟩ := List.mem_map.mp he
    obtain ⟨p, _, rfl⟩ := List.mem_map.mp hx
    obtain ⟨q, _, rfl⟩ := List.mem_map.mp hy
    simp [edK, Ev.encM, encK, PySem.W.alike, PySem.W.alikeAll]
  · obtain ⟨p, _, rfl⟩ := List.mem_map.mp hk
    simp [edK]
theorem ed_back : ∀ {L : List (List Key)}, (∀ k ∈ L, ∃ e, k = edK e) → ∃ E : List Ed, L = E.map edK
  | [], _ => ⟨[], rfl⟩
  | k :: L, h => by
    obtain ⟨e, rfl⟩ := h k List.mem_cons_self
    obtain ⟨E, rfl⟩ := ed_back (L := L) fun x hx => h x (List.mem_cons_of_mem _ hx)
    exact ⟨e :: E, rfl⟩
theorem mem_edK {E : List Ed} {e : Ed} : edK e ∈ E.map edK ↔ e ∈ E := by
  rw [List.mem_map]
  exact ⟨fun ⟨f, hf, e1⟩ => edK_inj e1 ▸ hf, fun h => ⟨e, h, rfl⟩⟩
/-- the edges of a set, in order -/
theorem ed_uniq (E : List Ed) : ∃ U : List Ed, uniqM (E.map edK) = U.map edK ∧ U.Nodup ∧ ∀ e, e ∈ U ↔ e ∈ E := by
  obtain ⟨U, hU⟩ := ed_back (L := uniqM (E.map edK)) fun k hk => by
    obtain ⟨e, _, rfl⟩ := List.mem_map.mp ((uniq_mem linM _ _).mp hk)
    exact ⟨e, rfl⟩
  have nd := uniqM_nodup (E.map edK)
  rw [hU] at nd
  refine ⟨U, hU, nodup_of_map nd, fun e => ?_⟩
  rw [← mem_edK (E := U), ← hU, uniq_mem linM, mem_edK]
theorem srtS_ed {E : List Ed} {Q : List D → Prop} {X : Exc → Prop} (B : List Ed) (hB : ∀ e ∈ E, e ∈ B) (hl : B.length < 64) (q : ∀ U : List Ed, uniqM (E.map edK) = U.map edK → U.Nodup → (∀ e, e ∈ U ↔ e ∈ E) → Q (U.map edD)) : (srtSetD (.list (E.map edD))).run Q X := by
  rw [← edK_map]
  obtain ⟨U, hU, nd, hm⟩ := ed_uniq E
  refine srtS_mx ?_ (ed_ok E) ?_
  · have := uniqM_le (L := E.map edK) (N := B.map edK) fun x hx => by
      obtain ⟨e, he, rfl⟩ := List.mem_map.mp hx
      exact List.mem_map_of_mem (hB e he)
    rw [List.length_map] at this
    omega
  · rw [hU, edK_map]
    exact q U hU nd hm
/-! ### places of ints -/
theorem findI {l : List Int} {v : Int} (h : v ∈ l) : findD (l.map .int) (.int v) = some (l.idxOf v) := by
  unfold findD
  rw [List.findIdx?_map]
  have e1 : ((fun z => PyData.eqv z (.int v)) ∘ PyData.int) = fun d => d == v := by
    funext d
    rfl
  rw [e1]
  have hl : l.idxOf v < l.length := List.idxOf_lt_length_iff.mpr h
  rw [List.findIdx?_eq_some_iff_findIdx_eq]
  exact ⟨hl, rfl⟩
theorem idx_ti {l : List Int} {v : Int} {Q : D → Prop} {X : Exc → Prop} (h : v ∈ l) (q : Q (.int (l.idxOf v))) : (indexD (.tuple (l.map .int)) (.int v)).run Q X := by
  show ((sh (.int v) = true ∧ sh (.tuple (l.map .int)) = true) ∧ (match findD (l.map .int) (.int v) with | some j => W.ret (PyData.int j) | none => W.stuck : W Exc D).run Q X)
  rw [findI h]
  exact ⟨⟨rfl, sh_tints l⟩, q⟩
theorem pairs_ints : ∀ l m : List Int, pairsD (l.map .int) (m.map .int) = (l.zip m).map fun p => PyData.tuple [.int p.1, .int p.2]
  | [], _ => by simp [pairsD]
  | _ :: _, [] => by simp [pairsD]
  | a :: l, b :: m => by
    have := pairs_ints l m
    simp [pairsD] at this ⊢
    exact this
/-! ### items of tuples -/
theorem ix_tn {xs : List D} {i : Nat} {d : D} (h : xs[i]? = some d) {Q : D → Prop} {X : Exc → Prop} (q : Q d) : (ixD (.tuple xs) (.int (i : Int))).run Q X := ix_t (Ev.atI_nat h) q
@[simp] theorem ix_t0 {a : D} {r : List D} {Q : D → Prop} {X : Exc → Prop} : (ixD (.tuple (a :: r)) (.int 0)).run Q X = Q a := by
  show (match atI (a :: r) ((0 : Nat) : Int) with | some d => W.ret d | none => W.stuck : W Exc D).run Q X = _
  rw [Ev.atI_nat (d := a) rfl]
  rfl
@[simp] theorem ix_t1 {a b : D} {r : List D} {Q : D → Prop} {X : Exc → Prop} : (ixD (.tuple (a :: b :: r)) (.int 1)).run Q X = Q b := by
  show (match atI (a :: b :: r) ((1 : Nat) : Int) with | some d => W.ret d | none => W.stuck : W Exc D).run Q X = _
  rw [Ev.atI_nat (d := b) rfl]
  rfl
theorem flat_take_le {α β : Type} (l : List α) (f : α → List β) (n : Nat) : ((l.take n).flatMap f).length ≤ (l.flatMap f).length := by
  have e : l.flatMap f = (l.take n).flatMap f ++ (l.drop n).flatMap f := by rw [← List.flatMap_append, List.take_append_drop]
  rw [e, List.length_append]
  omega
theorem flat_mem_le {α β : Type} {l : List α} (f : α → List β) {x : α} {i : Nat} (h : l[i]? = some x) : ((l.take i).flatMap f).length + (f x).length ≤ (l.flatMap f).length := by
  have e : (l.take (i + 1)).flatMap f = (l.take i).flatMap f ++ f x := by rw [List.take_succ, h]; simp
  have := flat_take_le l f (i + 1)
  rw [e, List.length_append] at this
  exact this
theorem flat_step {α β : Type} {l : List α} (f : α → List β) {x : α} {i : Nat} (h : l[i]? = some x) : (l.take (i + 1)).flatMap f = (l.take i).flatMap f ++ f x := by rw [List.take_succ, h]; simp
end EvR

/-! EvR10: raise and try, one by one. -/
namespace EvR
open PySem PySem.Spec PyProof.Rows L2 Ev
section
variable {M : Mg} {ρ : List Sl} {Q : Out → Prop} {XX : XS → Prop} {t b s : IT} {n : Str}
theorem raise_run {x : Str} {l : IL} (h : (denL M l ρ).run (fun ds => ds.length ≤ sizeLine ∧ XX (⟨x, []⟩, ρ)) fun e => XX (e, ρ)) : (denT M (.cons (.raise_ x l) t) ρ).run Q XX := by
  rw [dT_cons, seqS_run]
  exact h
theorem try_run (hn : n ∈ M.exs) (h : (denT M b ρ).run (fun o => match o with | .nx ρ' => (denT M t ρ').run Q XX | .rt d => Q (.rt d) | .bk ρ' => Q (.bk ρ') | .ct ρ' => Q (.ct ρ'))
    (fun x => x.1.cls = n ∧ (denT M s x.2).run (fun o => match o with | .nx ρ' => (denT M t ρ').run Q XX | .rt d => Q (.rt d) | .bk ρ' => Q (.bk ρ') | .ct ρ' => Q (.ct ρ')) fun _ => False)) : (denT M (.cons (.try_ n b s) t) ρ).run Q XX := by
  rw [dT_cons, seqS_run]
  show ((tryW (exOf M n) (denT M b) (fun ρ => noErrX (denT M s ρ))) ρ).run _ _
  show (denT M b ρ).run _ _
  refine (denT M b ρ).mono (fun o q => q) (fun x q => ?_) h
  obtain ⟨q1, q2⟩ := q
  have e : exOf M n x.1.cls = some true := by
    unfold exOf
    rw [q1, if_pos hn]
    simp
  show (match exOf M n x.1.cls with
    | some true => (fun ρ => noErrX (denT M s ρ)) x.2
    | some false => W.err x
    | none => W.stuck : W XS Out).run _ _
  rw [e]
  exact q2
end
end EvR

namespace K06
open PySem PySem.Spec PyProof.Rows L2 Ev EvR
abbrev sWW : Str := Str.ofString "ww"
abbrev sWR : Str := Str.ofString "wr"
abbrev sRW : Str := Str.ofString "rw"
def nextW (o : List Int) (v : Int) : Option Int := if v ∈ o ∧ ¬ o.getLast? = some v then o[o.idxOf v + 1]? else none
def oI : Option Int → D
  | none => .none
  | some a => .int a
theorem next_some {o : List Int} {v : Int} (h1 : v ∈ o) (h2 : ¬ o.getLast? = some v) : ∃ a, o[o.idxOf v + 1]? = some a := by
  have hl : o.idxOf v < o.length := List.idxOf_lt_length_iff.mpr h1
  by_cases q : o.idxOf v + 1 < o.length
  · exact ⟨_, List.getElem?_eq_getElem q⟩
  · refine absurd ?_ h2
    rw [List.getLast?_eq_getElem?, show o.length - 1 = o.idxOf v by omega, List.getElem?_eq_getElem hl, List.getElem_idxOf]
theorem next_run {r : D} {os : List (List Int)} {k : Nat} {o : List Int} {v : Int} (ho : os[k]? = some o) {Q : D → Prop} {X : Exc → Prop} (h : Q (oI (nextW o v))) : (f_next_writer [.d (histD r os), .d (.int k), .d (.int v)]).run Q X := by
  have e : (os.map ordD)[k]? = some (ordD o) := by rw [List.getElem?_map, ho]; rfl
  unfold f_next_writer
  simp [b_next_writer, -dT_cons]
  refine stp ?_
  simp [-dT_cons]
  refine ix_tn e ?_
  unfold nextW at h
  by_cases h1 : v ∈ o
  · have hne : o ≠ [] := fun z => by rw [z] at h1; cases h1
    obtain ⟨x, hx⟩ : ∃ x, o.getLast? = some x := by
      cases e : o.getLast? with
      | none => exact absurd (List.getLast?_eq_none_iff.mp e) hne
      | some x => exact ⟨x, rfl⟩
    by_cases h2 : x = v
    · subst h2
      rw [if_neg (fun z => z.2 hx)] at h
      refine ife_then ?_ ?_
      · simp [h1]
        exact ix_t (atI_last' hx) ⟨rfl, by simp⟩
      simp
      exact h
    · rw [if_pos ⟨h1, fun z => h2 (by rw [hx] at z; exact Option.some.inj z)⟩] at h
      obtain ⟨a, ha⟩ := next_some h1 fun z => h2 (by rw [hx] at z; exact Option.some.inj z)
      rw [ha] at h
      refine ife_no ?_ ?_
      · simp [h1]
        refine ix_t (atI_last' hx) ?_
        simp
        exact fun z => h2 z.symm
      simp
      refine idx_ti h1 ?_
      simp
      refine ix_t (d := .int a) ?_ h
      have := Ev.atI_nat (xs := o.map PyData.int) (n := o.idxOf v + 1) (d := .int a) (by rw [List.getElem?_map, ha]; rfl)
      simpa using this
  · rw [if_neg (fun z => h1 z.1)] at h
    refine ife_then ?_ ?_
    · simp [h1]
    simp
    exact h
/-! ### edges -/
def wwE (o : List Int) (k : Int) : List Ed := ((o.zip (o.drop 1)).filter fun p => decide (0 < p.1)).map fun p => (sWW, p.1, p.2, k)
def wwJ (os : List (List Int)) (j : Nat) : List Ed := wwE (os[j]?.getD []) j
def wrE (D : List Int) (w k v : Int) : List Ed := if v ∈ D then [(sWR, v, w, k)] else []
def rwE (o : List Int) (w k v : Int) : List Ed := match nextW o v with
  | none => []
  | some a => if a = w then [] else [(sRW, w, a, k)]
def rdE (os : List (List Int)) (D : List Int) (w : Int) (d : Dd) : List Ed := wrE D w (kof d) (vof d) ++ rwE (os[(kof d).toNat]?.getD []) w (kof d) (vof d)
def wkE (R : List Dd) (os : List (List Int)) (D : List Int) (w : Int) : List Ed := (outR R w).flatMap (rdE os D w)
def edgE (R : List Dd) (os : List (List Int)) : List Ed := (List.range 4).flatMap (wwJ os) ++ (srtI (cms R)).flatMap (wkE R os (srtI (cms R)))
theorem in_nw {o : Option Int} {w : Int} {Q : Bool → Prop} {X : Exc → Prop} : (inD true (oI o) (.tuple [.none, .int w])).run Q X = Q (!(decide (o = none) || decide (o = some w))) := by
  have s : sh (.tuple [.none, .int w]) = true := by simp [sh, PyData.depth, PyData.depthAll, ndAll, nd]
  cases o with
  | none =>
    show ((sh .none = true ∧ sh (.tuple [.none, .int w]) = true) ∧ Q (!([PyData.none, .int w].any fun z => PyData.eqv z .none))) = _
    have e : ([PyData.none, .int w].any fun z => PyData.eqv z .none) = true := by simp [PyData.eqv]
    rw [e]
    simp [oI, s]
  | some a =>
    show ((sh (.int a) = true ∧ sh (.tuple [.none, .int w]) = true) ∧ Q (!([PyData.none, .int w].any fun z => PyData.eqv z (.int a)))) = _
    have e : ([PyData.none, .int w].any fun z => PyData.eqv z (.int a)) = decide (a = w) := by
      simp [PyData.eqv]
      rw [Bool.eq_iff_iff]
      simp
      exact ⟨fun z => z.symm, fun z => z.symm⟩
    rw [e]
    simp [oI, s]
/-! what is found, step by step -/
def wwP (os : List (List Int)) (i : Nat) : List Ed := ((List.range 4).take i).flatMap (wwJ os)
def wkP (R : List Dd) (os : List (List Int)) (i : Nat) : List Ed := (List.range 4).flatMap (wwJ os) ++ ((srtI (cms R)).take i).flatMap (wkE R os (srtI (cms R)))
def rdP (R : List Dd) (os : List (List Int)) (F : List Ed) (w : Int) (i : Nat) : List Ed := F ++ ((outR R w).take i).flatMap (rdE os (srtI (cms R)) w)
theorem wwP_step {os : List (List Int)} {i : Nat} (h : i < 4) : wwP os (i + 1) = wwP os i ++ wwJ os i := flat_step _ (by rw [List.getElem?_range h])
theorem wkP_step {R : List Dd} {os : List (List Int)} {i : Nat} {w : Int} (h : (srtI (cms R))[i]? = some w) : wkP R os (i + 1) = rdP R os (wkP R os i) w (outR R w).length := by
  unfold wkP rdP
  rw [flat_step _ h, List.take_length, ← List.append_assoc]
  rfl
theorem rdP_step {R : List Dd} {os : List (List Int)} {F : List Ed} {w : Int} {i : Nat} {d : Dd} (h : (outR R w)[i]? = some d) : rdP R os F w (i + 1) = (rdP R os F w i ++ wrE (srtI (cms R)) w (kof d) (vof d)) ++ rwE (os[(kof d).toNat]?.getD []) w (kof d) (vof d) := by
  unfold rdP
  rw [flat_step _ h]
  unfold rdE
  simp
theorem wwP_len {R : List Dd} {os : List (List Int)} (h : (edgE R os).length < 64) (i : Nat) : (wwP os i).length < 64 := by
  have := flat_take_le (List.range 4) (wwJ os) i
  unfold edgE at h
  rw [List.length_append] at h
  unfold wwP
  omega
theorem wkP_len {R : List Dd} {os : List (List Int)} (h : (edgE R os).length < 64) (i : Nat) : (wkP R os i).length < 64 := by
  have := flat_take_le (srtI (cms R)) (wkE R os (srtI (cms R))) i
  unfold edgE at h
  rw [List.length_append] at h
  unfold wkP
  rw [List.length_append]
  omega
theorem rdP_len {R : List Dd} {os : List (List Int)} (h : (edgE R os).length < 64) {i : Nat} {w : Int} (hw : (srtI (cms R))[i]? = some w) (m : Nat) : (rdP R os (wkP R os i) w m).length < 64 := by
  have h1 := wkP_len h (i + 1)
  rw [wkP_step hw] at h1
  have h2 := flat_take_le (outR R w) (rdE os (srtI (cms R)) w) m
  unfold rdP at h1 ⊢
  rw [List.take_length, List.length_append] at h1
  rw [List.length_append]
  omega
def InvE1 (R : List Dd) (os : List (List Int)) (i : Nat) (ρ : List Sl) : Prop := ∃ s3 s4 s7 s8 s9 s10 s11, ρ = [.val (histD (rowD R) os), .val (.list ((srtI (cms R)).map .int)), .own ((wwP os i).map edD), s3, s4, .val (rowD R), .val (.tuple (os.map ordD)), s7, s8, s9, s10, s11]
def InvE2 (R : List Dd) (os : List (List Int)) (i : Nat) (ρ : List Sl) : Prop := ∃ s3 s4 s7 s8 s9 s10 s11, ρ = [.val (histD (rowD R) os), .val (.list ((srtI (cms R)).map .int)), .own ((wkP R os i).map edD), s3, s4, .val (rowD R), .val (.tuple (os.map ordD)), s7, s8, s9, s10, s11]
def InvE3 (R : List Dd) (os : List (List Int)) (w : Int) (F : List Ed) (i : Nat) (ρ : List Sl) : Prop := ∃ s3 s7 s8 s9 s10 s11, ρ = [.val (histD (rowD R) os), .val (.list ((srtI (cms R)).map .int)), .own ((rdP R os F w i).map edD), s3, .val (.int w), .val (rowD R), .val (.tuple (os.map ordD)), s7, s8, s9, s10, s11]
theorem tl_rd {d : Dd} (h : isRd d = true) : ∃ n, tl d = [kof d, vof d, n] := by
  cases d <;> simp [isRd] at h
  exact ⟨_, rfl⟩
theorem zip_go {xs ys : List D} {K : List D → Prop} {X : Exc → Prop} (h : K (pairsD xs ys)) : (W.ret (PyData.tuple ys)).run (fun a => (zipD (.tuple xs) a).run K X) X := h
theorem edges_run {R : List Dd} {os : List (List Int)} (hz : R.length ≤ 200) (hl : os.length = 4) (hol : ∀ o ∈ os, o.length ≤ 200) (hk : ∀ d ∈ R, isRd d = true → 0 ≤ kof d ∧ kof d < 4) (hE : (edgE R os).length < 64) {Q : D → Prop} {X : Exc → Prop}
    (q : ∀ U : List Ed, uniqM ((edgE R os).map edK) = U.map edK → U.Nodup → (∀ e, e ∈ U ↔ e ∈ edgE R os) → Q (.list (U.map edD))) : (f_edges [.d (histD (rowD R) os)]).run Q X := by
  unfold f_edges
  simp [b_edges, -dT_cons, v_KEYS]
  refine stp ?_
  simp [-dT_cons]
  refine stp ?_
  simp [-dT_cons]
  refine committed_run hz ?_
  refine stp ?_
  simp [-dT_cons]
  refine stp ?_
  simp [-dT_cons, v_KEYS]
  refine ⟨inR_small (by decide) (by decide), ?_⟩
  refine forD_upto (InvE1 R os) ⟨_, _, _, _, _, _, _, rfl⟩ ?_ ?_
  · rintro j ρ hj ⟨s3, s4, s7, s8, s9, s10, s11, rfl⟩
    have ej : os[j]? = some os[j] := List.getElem?_eq_getElem (by omega)
    have e : (os.map ordD)[j]? = some (ordD os[j]) := by rw [List.getElem?_map, ej]; rfl
    have ol := hol os[j] (List.getElem_mem _)
    have w1 := wwP_len hE j
    have w2 := wwP_len hE (j + 1)
    rw [wwP_step hj, List.length_append] at w2
    simp [extW]
    refine ix_tn e (ix_tn e ?_)
    have dr : Ev.cutD (os[j].map .int) (some 1) none = (os[j].drop 1).map .int := by rw [show (1 : Int) = ((1 : Nat) : Int) from rfl, cut_drop, ← List.map_drop]
    rw [sl_t, dr]
    refine zip_go ?_
    rw [pairs_ints]
    refine ⟨by rw [List.length_map, List.length_zip]; exact line7 (by omega), ?_⟩
    refine lcD_fm (fun p : Int × Int => decide (0 < p.1)) (fun p => (sWW, p.1, p.2, (j : Int))) (enc' := edD) (fun p hp R' h1 h0 => ?_) ?_
    · simp [turnB, wipeR]
      by_cases c : 0 < p.1
      · simp [c, l4]; exact h1 (by simp [c])
      · simp [c]; exact h0 (by simp [c])
    have ew : ((os[j].zip (os[j].drop 1)).filter fun p => decide (0 < p.1)).map (fun p => (sWW, p.1, p.2, (j : Int))) = wwJ os j := by unfold wwJ wwE; rw [ej]; rfl
    rw [ew]
    refine ⟨by simp; exact line7 (by omega), ?_⟩
    rw [← List.map_append, ← wwP_step hj]
    exact ⟨_, _, _, _, _, _, _, rfl⟩
  · rintro ρ ⟨s3, s4, s7, s8, s9, s10, s11, rfl⟩
    refine stp ?_
    simp [-dT_cons]
    have e0 : wwP os 4 = wkP R os 0 := by unfold wwP wkP; simp
    rw [e0]
    intro _
    refine forD_enc (InvE2 R os) ⟨_, _, _, _, _, _, _, rfl⟩ ?_ ?_
    · rintro i w ρ hw ⟨s3, s4, s7, s8, s9, s10, s11, rfl⟩
      have hsl := srtI_len (cms R)
      have hcl := cms_len R
      simp [-dT_cons]
      refine stp ?_
      simp [-dT_cons]
      refine outer_run hz ?_
      simp [-dT_cons]
      intro _
      have hol2 : (outR R w).length ≤ R.length := List.length_filter_le _ _
      refine forD_enc (enc := tlD) (InvE3 R os w (wkP R os i)) ⟨s3, s7, s8, s9, s10, s11, by rw [show rdP R os (wkP R os i) w 0 = wkP R os i by unfold rdP; simp]⟩ ?_ ?_
      · rintro m d ρ hd ⟨s3, s7, s8, s9, s10, s11, rfl⟩
        have hdm : d ∈ outR R w := List.mem_of_getElem? hd
        obtain ⟨hdR, hdP⟩ := List.mem_filter.mp hdm
        have hrd : isRd d = true := by
          unfold outP at hdP
          simp at hdP
          exact hdP.2.1
        obtain ⟨n, htl⟩ := tl_rd hrd
        obtain ⟨hk0, hk4⟩ := hk d hdR hrd
        obtain ⟨k, hkk⟩ : ∃ k : Nat, kof d = k := ⟨(kof d).toNat, by omega⟩
        have ek : os[k]? = some os[k] := List.getElem?_eq_getElem (by omega)
        have l1' := rdP_len hE hw m
        have l2' := rdP_len hE hw (m + 1)
        rw [rdP_step hd, List.length_append, List.length_append] at l2'
        show (asgT (.tup [3, 7, 8]) (.tuple ((tl d).map .int)) _).run _ _
        rw [htl, hkk]
        simp [-dT_cons]
        have wr : ∀ (K : Out → Prop) (XX : XS → Prop) (t : IT) (s9 s10 s11 : Sl), ((denT m_edges t [.val (histD (rowD R) os), .val (.list ((srtI (cms R)).map .int)), .own ((rdP R os (wkP R os i) w m ++ wrE (srtI (cms R)) w k (vof d)).map edD), .val (.int k), .val (.int w), .val (rowD R), .val (.tuple (os.map ordD)), .val (.int (vof d)), .val (.int n), s9, s10, s11]).run K XX) →
            (denT m_edges (.cons (IS.ife (IC.cmp CO.inn (IO.e (IE.v 7)) (IO.e (IE.v 1))) (IT.cons (IS.app 2 (IE.tup (IL.cons (IE.s sWR) (IL.cons (IE.v 7) (IL.cons (IE.v 4) (IL.cons (IE.v 3) IL.nil)))))) IT.nil) IT.nil) t)
              [.val (histD (rowD R) os), .val (.list ((srtI (cms R)).map .int)), .own ((rdP R os (wkP R os i) w m).map edD), .val (.int k), .val (.int w), .val (rowD R), .val (.tuple (os.map ordD)), .val (.int (vof d)), .val (.int n), s9, s10, s11]).run K XX := by
          intro K XX t s9 s10 s11 h
          unfold wrE at h
          by_cases c : vof d ∈ srtI (cms R)
          · rw [if_pos c] at h
            refine ife_then ?_ ?_
            · simp [c]
            simp [appW, l4]
            refine ⟨line6 (by omega), ?_⟩
            simpa using h
          · rw [if_neg c, List.append_nil] at h
            refine ife_no ?_ ?_
            · simp [c]
            exact h
        refine wr _ _ _ _ _ _ ?_
        refine stp ?_
        simp [-dT_cons]
        refine next_run ek ?_
        have ero : rwE (os[(kof d).toNat]?.getD []) w (kof d) (vof d) = rwE os[k] w k (vof d) := by
          rw [hkk, show ((k : Int)).toNat = k from rfl, ek]
          rfl
        have step := rdP_step (os := os) (F := wkP R os i) hd
        rw [ero, hkk] at step l2'
        unfold InvE3
        rw [step]
        rw [← List.length_append] at l2'
        rw [← List.map_append]
        generalize rdP R os (wkP R os i) w m ++ wrE (srtI (cms R)) w k (vof d) = F at l2'
        unfold rwE at l2' ⊢
        cases hN : nextW os[k] (vof d) with
        | none =>
          refine ife_no ?_ ?_
          · simp [l2, in_nw]
          exact ⟨.val (.int k), .val (.int (vof d)), .val (.int n), _, s10, s11, by rw [List.append_nil]⟩
        | some b =>
          by_cases c : b = w
          · refine ife_no ?_ ?_
            · simp [l2, in_nw, c]
            exact ⟨.val (.int k), .val (.int (vof d)), .val (.int n), _, s10, s11, by simp only [if_pos c, List.append_nil]; rfl⟩
          · simp only [hN, if_neg c] at l2'
            refine ife_then ?_ ?_
            · simp [l2, in_nw, c]
            simp [appW, l4, oI]
            refine ⟨line6 (by simp at l2'; omega), ?_⟩
            rw [if_neg c]
            rfl
      · rintro ρ ⟨s3, s7, s8, s9, s10, s11, rfl⟩
        simp
        rw [← wkP_step hw]
        exact ⟨_, _, _, _, _, _, _, rfl⟩
    · rintro ρ ⟨s3, s4, s7, s8, s9, s10, s11, rfl⟩
      have e1 : wkP R os (srtI (cms R)).length = edgE R os := by unfold wkP edgE; rw [List.take_length]
      rw [e1]
      simp
      exact srtS_ed (edgE R os) (fun _ h => h) hE q
end K06

namespace K06
open PySem PySem.Spec PyProof.Rows L2 Ev EvR
/-! ### how many edges -/
theorem ww_law {l : List Int} (h : ∀ x ∈ l, 0 < x) (k : Int) : wwE (0 :: l) k = (List.range (l.length - 1)).map fun j => (sWW, l.getD j 0, l.getD (j + 1) 0, k) := by
  cases l with
  | nil => rfl
  | cons x l =>
    have e : wwE (0 :: x :: l) k = ((x :: l).zip l).map fun p => (sWW, p.1, p.2, k) := by
      unfold wwE
      have e1 : (0 :: x :: l : List Int).zip ((0 :: x :: l).drop 1) = (0, x) :: (x :: l).zip l := rfl
      rw [e1, List.filter_cons_of_neg (by simp)]
      congr 1
      rw [List.filter_eq_self]
      intro p hp
      have := List.of_mem_zip hp
      simpa using h p.1 this.1
    rw [e]
    refine List.ext_getElem (by simp) fun i h1 h2 => ?_
    simp at h1 h2
    simp
    rw [List.getElem?_eq_getElem (by simpa using (by omega : i < l.length + 1)), List.getElem?_eq_getElem (by simpa using h2)]
    simp
theorem filter_two {p q r : Dd → Bool} (h1 : ∀ d, p d = true → q d = false) (h2 : ∀ d, p d = true → r d = true) (h3 : ∀ d, q d = true → r d = true) : ∀ R : List Dd, (R.filter p).length + (R.filter q).length ≤ (R.filter r).length
  | [] => by simp
  | d :: R => by
    have ih := filter_two h1 h2 h3 R
    cases hp : p d with
    | true =>
      rw [List.filter_cons_of_pos hp, List.filter_cons_of_neg (by simp [h1 d hp]), List.filter_cons_of_pos (h2 d hp)]
      simp
      omega
    | false =>
      rw [List.filter_cons_of_neg (by simp [hp])]
      cases hq : q d with
      | true =>
        rw [List.filter_cons_of_pos hq, List.filter_cons_of_pos (h3 d hq)]
        simp
        omega
      | false =>
        rw [List.filter_cons_of_neg (by simp [hq])]
        cases hr : r d with
        | true => rw [List.filter_cons_of_pos hr]; simp; omega
        | false => rw [List.filter_cons_of_neg (by simp [hr])]; exact ih
def rdIn (ws : List Int) (d : Dd) : Bool := isRW d && decide (wk d ∈ ws)
theorem out_sum (R : List Dd) : ∀ ws : List Int, ws.Nodup → (ws.flatMap fun w => outR R w).length ≤ (R.filter (rdIn ws)).length
  | [], _ => by simp
  | w :: ws, h => by
    obtain ⟨h1, h2⟩ := List.nodup_cons.mp h
    have ih := out_sum R ws h2
    rw [List.flatMap_cons, List.length_append]
    have := filter_two (p := outP w) (q := rdIn ws) (r := rdIn (w :: ws)) (fun d hd => ?_) (fun d hd => ?_) (fun d hd => ?_) R
    · have e : (outR R w).length = (R.filter (outP w)).length := rfl
      omega
    · unfold outP at hd
      simp at hd
      unfold rdIn
      rw [hd.1, decide_eq_false h1, Bool.and_false]
    · unfold outP at hd
      simp at hd
      have : isRW d = true := by
        have := hd.2.1
        cases d <;> simp [isRd, isRW] at *
      simp [rdIn, hd.1, this]
    · unfold rdIn at hd ⊢
      simp at hd ⊢
      exact ⟨hd.1, .inr hd.2⟩
theorem flat_two {α β : Type} {f : α → List β} : ∀ {l : List α}, (∀ x ∈ l, (f x).length ≤ 2) → (l.flatMap f).length ≤ 2 * l.length
  | [], _ => by simp
  | x :: l, h => by
    have h1 := h x List.mem_cons_self
    have h2 := flat_two (f := f) (l := l) fun y hy => h y (List.mem_cons_of_mem _ hy)
    rw [List.flatMap_cons, List.length_append, List.length_cons]
    omega
theorem rdE_len (os : List (List Int)) (Dn : List Int) (w : Int) (d : Dd) : (rdE os Dn w d).length ≤ 2 := by
  have h1 : (wrE Dn w (kof d) (vof d)).length ≤ 1 := by unfold wrE; split <;> simp
  have h2 : (rwE (os[(kof d).toNat]?.getD []) w (kof d) (vof d)).length ≤ 1 := by
    unfold rwE
    split
    · simp
    · split <;> simp
  unfold rdE
  rw [List.length_append]
  omega
theorem wk_len {R : List Dd} {os : List (List Int)} {Dn : List Int} (h : Dn.Nodup) : (Dn.flatMap (wkE R os Dn)).length ≤ 2 * rwc R := by
  have e : ∀ ws : List Int, (ws.flatMap (wkE R os Dn)).length ≤ 2 * (ws.flatMap fun w => outR R w).length := by
    intro ws
    induction ws with
    | nil => simp
    | cons w ws ih =>
      rw [List.flatMap_cons, List.flatMap_cons, List.length_append, List.length_append]
      have : (wkE R os Dn w).length ≤ 2 * (outR R w).length := flat_two fun d _ => rdE_len os Dn w d
      omega
  have h1 := e Dn
  have h2 := out_sum R Dn h
  have h3 : (R.filter (rdIn Dn)).length ≤ rwc R := by
    unfold rwc
    have := filter_two (p := rdIn Dn) (q := fun _ => false) (r := isRW) (fun _ _ => rfl) (fun d hd => by unfold rdIn at hd; simp at hd; exact hd.1) (fun _ z => by cases z) R
    omega
  omega
theorem range4 {β : Type} (f : Nat → List β) : (List.range 4).flatMap f = f 0 ++ (f 1 ++ (f 2 ++ (f 3 ++ []))) := rfl
theorem srtI_nodup {l : List Int} (h : l.Nodup) : (srtI l).Nodup := (List.mergeSort_perm l _).nodup_iff.mpr h
theorem hist_at {R : List Dd} {os : List (List Int)} (H : Hist R os) {j : Nat} (hj : j < 4) : ∃ l : List Int, os[j]? = some (0 :: l) ∧ l.Perm (wrts R j) := H.2 j hj
theorem edge_len {mode many keys : Int} {R : List Dd} {os : List (List Int)} (G : Gen mode many keys R) (hm : many ≤ 4) (hc : (rwc R : Int) ≤ 4 * many) (H : Hist R os) : (edgE R os).length < 64 := by
  have nd := (gen_nodup G).2
  have hcl : (cms R).length ≤ 4 := by
    have := nodup_len nd (m := rgI 1 many.toNat) fun x hx => G.works_in (G.begun _ (cms_mem.mp hx))
    rw [rgI_len] at this
    omega
  have h1 := wk_len (R := R) (os := os) (srtI_nodup nd)
  have h2 : ∀ j, j < 4 → (wwJ os j).length ≤ 4 := by
    intro j hj
    obtain ⟨l, e, pm⟩ := hist_at H hj
    have hl := pm.length_eq
    have hw : (wrts R (j : Nat)).length ≤ (cms R).length := List.length_filter_le _ _
    unfold wwJ
    rw [e]
    show (wwE (0 :: l) _).length ≤ 4
    unfold wwE
    rw [List.length_map]
    refine Nat.le_trans (List.length_filter_le _ _) ?_
    simp
    omega
  unfold edgE
  rw [List.length_append, range4]
  simp only [List.length_append, List.length_nil]
  have a0 := h2 0 (by omega)
  have a1 := h2 1 (by omega)
  have a2 := h2 2 (by omega)
  have a3 := h2 3 (by omega)
  omega
/-! ### keys turned -/
def turnD : Dd → Dd
  | .rd w k v n => .rd w (3 - k) v n
  | .wr w k => .wr w (3 - k)
  | d => d
def turnE (e : Ed) : Ed := (e.1, e.2.1, e.2.2.1, 3 - e.2.2.2)
theorem turnE_inj {e f : Ed} (h : turnE e = turnE f) : e = f := by
  obtain ⟨z, a, b, c⟩ := e
  obtain ⟨z', a', b', c'⟩ := f
  simp [turnE] at h
  obtain ⟨h1, h2, h3, h4⟩ := h
  rw [h1, h2, h3]
  have : c = c' := by omega
  rw [this]
theorem turn_wk (d : Dd) : wk (turnD d) = wk d := by cases d <;> rfl
theorem turn_cms (R : List Dd) : cms (R.map turnD) = cms R := by
  unfold cms
  rw [List.filter_map, List.map_map]
  have e1 : (isCm ∘ turnD) = isCm := by funext d; cases d <;> rfl
  have e2 : (wk ∘ turnD) = wk := by funext d; exact turn_wk d
  rw [e1, e2]
theorem turn_out (R : List Dd) (w : Int) : outR (R.map turnD) w = (outR R w).map turnD := by
  unfold outR
  rw [List.filter_map]
  have e1 : (outP w ∘ turnD) = outP w := by funext d; cases d <;> rfl
  rw [e1]
theorem turn_ww {os : List (List Int)} (hl : os.length = 4) {j : Nat} (hj : j < 4) : wwJ os.reverse j = (wwJ os (3 - j)).map turnE := by
  unfold wwJ
  have e : os.reverse[j]? = os[3 - j]? := by rw [List.getElem?_reverse (by omega), hl]
  rw [e]
  unfold wwE
  rw [List.map_map]
  refine List.map_congr_left fun p _ => ?_
  simp [turnE]
  omega
theorem turn_rd {os : List (List Int)} (hl : os.length = 4) (Dn : List Int) (w : Int) {d : Dd} (hr : isRd d = true) (hk : 0 ≤ kof d ∧ kof d < 4) : rdE os.reverse Dn w (turnD d) = (rdE os Dn w d).map turnE := by
  cases d with
  | rd w' k v n =>
    simp only [kof] at hk
    unfold rdE
    simp only [turnD, kof, vof]
    rw [List.map_append]
    have e : os.reverse[(3 - k).toNat]? = os[k.toNat]? := by rw [List.getElem?_reverse (by omega), hl]; congr 1; omega
    rw [e]
    have e1 : wrE Dn w (3 - k) v = (wrE Dn w k v).map turnE := by unfold wrE; split <;> rfl
    have e2 : rwE (os[k.toNat]?.getD []) w (3 - k) v = (rwE (os[k.toNat]?.getD []) w k v).map turnE := by
      unfold rwE
      split
      · rfl
      · split <;> rfl
    rw [e1, e2]
  | _ => cases hr
theorem flat_map_map {α β γ : Type} {f : α → List β} {g : α → List γ} {h : γ → β} : ∀ {l : List α}, (∀ x ∈ l, f x = (g x).map h) → l.flatMap f = (l.flatMap g).map h
  | [], _ => rfl
  | x :: l, e => by rw [List.flatMap_cons, List.flatMap_cons, List.map_append, e x List.mem_cons_self, flat_map_map fun y hy => e y (List.mem_cons_of_mem _ hy)]
theorem out_rd {R : List Dd} {w : Int} {d : Dd} (h : d ∈ outR R w) : d ∈ R ∧ isRd d = true ∧ wk d = w ∧ vof d ≠ w := by
  obtain ⟨h1, h2⟩ := List.mem_filter.mp h
  unfold outP at h2
  simp at h2
  exact ⟨h1, h2.2.1, h2.1, h2.2.2⟩
theorem turn_wkE {R : List Dd} {os : List (List Int)} (hl : os.length = 4) (hk : ∀ d ∈ R, isRd d = true → 0 ≤ kof d ∧ kof d < 4) (Dn : List Int) (w : Int) : wkE (R.map turnD) os.reverse Dn w = (wkE R os Dn w).map turnE := by
  unfold wkE
  rw [turn_out, List.flatMap_map]
  refine flat_map_map fun d hd => ?_
  obtain ⟨h1, h2, _⟩ := out_rd hd
  exact turn_rd hl Dn w h2 (hk d h1 h2)
theorem turn_edges {R : List Dd} {os : List (List Int)} (hl : os.length = 4) (hk : ∀ d ∈ R, isRd d = true → 0 ≤ kof d ∧ kof d < 4) : (edgE (R.map turnD) os.reverse).length = (edgE R os).length ∧ ∀ e, e ∈ edgE (R.map turnD) os.reverse ↔ e ∈ (edgE R os).map turnE := by
  have e2 : (srtI (cms R)).flatMap (wkE (R.map turnD) os.reverse (srtI (cms R))) = ((srtI (cms R)).flatMap (wkE R os (srtI (cms R)))).map turnE := flat_map_map fun w _ => turn_wkE hl hk _ w
  unfold edgE
  rw [turn_cms, e2, range4, range4, turn_ww hl (by omega), turn_ww hl (by omega), turn_ww hl (by omega), turn_ww hl (by omega)]
  simp only [show 3 - 0 = 3 from rfl, show 3 - 1 = 2 from rfl, show 3 - 2 = 1 from rfl, show 3 - 3 = 0 from rfl]
  generalize (srtI (cms R)).flatMap (wkE R os (srtI (cms R))) = T
  generalize wwJ os 0 = a0
  generalize wwJ os 1 = a1
  generalize wwJ os 2 = a2
  generalize wwJ os 3 = a3
  refine ⟨by simp only [List.length_append, List.length_map, List.length_nil]; omega, fun e => ?_⟩
  simp only [List.map_append, List.mem_append, List.map_nil, List.not_mem_nil, or_false]
  constructor
  · rintro ((h | h | h | h) | h) <;> simp [h]
  · rintro ((h | h | h | h) | h) <;> simp [h]
/-! ### works of edges -/
theorem edge_works {R : List Dd} {os : List (List Int)} (H : Hist R os) (hn : ∀ k : Int, (wrts R k).Nodup) (hpos : ∀ w ∈ cms R, 0 < w) (hk : ∀ d ∈ R, isRd d = true → 0 ≤ kof d ∧ kof d < 4) {e : Ed} (he : e ∈ edgE R os) : e.2.1 ∈ srtI (cms R) ∧ e.2.2.1 ∈ srtI (cms R) ∧ e.2.1 ≠ e.2.2.1 := by
  unfold edgE at he
  rcases List.mem_append.mp he with he | he
  · obtain ⟨j, hj, he⟩ := List.mem_flatMap.mp he
    have hj := List.mem_range.mp hj
    obtain ⟨l, eo, pm⟩ := hist_at H hj
    have hl : ∀ x ∈ l, x ∈ cms R := fun x hx => (List.mem_filter.mp (pm.mem_iff.mp hx)).1
    have nd : l.Nodup := pm.nodup_iff.mpr (hn j)
    unfold wwJ at he
    rw [eo] at he
    have he' : e ∈ wwE (0 :: l) (j : Int) := he
    rw [ww_law (fun x hx => hpos x (hl x hx))] at he'
    obtain ⟨i, hi, rfl⟩ := List.mem_map.mp he'
    have hi := List.mem_range.mp hi
    have e1 : l.getD i 0 = l[i]'(by omega) := by rw [List.getD_eq_getElem?_getD, List.getElem?_eq_getElem (by omega)]; rfl
    have e2 : l.getD (i + 1) 0 = l[i + 1]'(by omega) := by rw [List.getD_eq_getElem?_getD, List.getElem?_eq_getElem (by omega)]; rfl
    simp only [e1, e2]
    refine ⟨srtI_mem.mpr (hl _ (List.getElem_mem _)), srtI_mem.mpr (hl _ (List.getElem_mem _)), fun q => ?_⟩
    have := (List.getElem_inj nd).mp q
    omega
  · obtain ⟨w, hw, he⟩ := List.mem_flatMap.mp he
    obtain ⟨d, hd, he⟩ := List.mem_flatMap.mp he
    obtain ⟨hdR, hrd, hwk, hvw⟩ := out_rd hd
    unfold rdE at he
    rcases List.mem_append.mp he with he | he
    · unfold wrE at he
      split at he
      · rename_i hv
        rw [List.mem_singleton.mp he]
        exact ⟨hv, hw, hvw⟩
      · cases he
    · unfold rwE at he
      cases hN : nextW (os[(kof d).toNat]?.getD []) (vof d) with
      | none => rw [hN] at he; cases he
      | some b =>
        simp only [hN] at he
        split at he
        · cases he
        · rename_i hbw
          rw [List.mem_singleton.mp he]
          obtain ⟨k0, k4⟩ := hk d hdR hrd
          obtain ⟨l, eo, pm⟩ := hist_at H (j := (kof d).toNat) (by omega)
          rw [eo] at hN
          have hb : b ∈ cms R := by
            unfold nextW at hN
            split at hN
            · have hN' : l[(0 :: l).idxOf (vof d)]? = some b := by simpa using hN
              exact (List.mem_filter.mp (pm.mem_iff.mp (List.mem_of_getElem? hN'))).1
            · cases hN
          exact ⟨hw, srtI_mem.mpr hb, fun q => hbw q.symm⟩
end K06

namespace K06
open PySem PySem.Spec PyProof.Rows L2 Ev EvR
/-! ### rings: what a ring knows -/
abbrev Sta := Int × Bool × Str
abbrev saD (s : Sta) : D := .tuple [.int s.1, .bool s.2.1, .str s.2.2]
abbrev sE0 : Str := Str.ofString ""
abbrev sPl : Str := Str.ofString "plain"
abbrev sOw : Str := Str.ofString "overwrite"
abbrev sCi : Str := Str.ofString "circle"
abbrev sSi : Str := Str.ofString "single"
abbrev sAp : Str := Str.ofString "apart"
abbrev sAn : Str := Str.ofString "any"
def letS (w : Str) (s : Sta) (e : Ed) : Option Sta :=
  if e.1 ≠ sRW then (if w = sOw ∧ e.1 ≠ sWW then none else some (s.1, s.2.1, sPl))
  else if (w = sOw ∨ w = sCi) ∨ (w = sSi ∧ s.1 = 1) then none
  else if w = sAp ∧ s.2.2 = sRW then none
  else some (min (s.1 + 1) 2, s.2.1 || decide (s.2.2 = sE0), sRW)
def saO : Option Sta → D
  | none => .none
  | some s => saD s
def doneS (w : Str) (s : Sta) : Bool :=
  if w = sSi then decide (s.1 = 1) else if w = sAn then decide (0 < s.1) else !decide (w = sAp) || (decide (0 < s.1) && !(s.2.1 && decide (s.2.2 = sRW)))
theorem beqD {x y : Str} : (x == y) = decide (x = y) := rfl
@[simp] theorem ix_sa2 {s : Sta} {Q : D → Prop} {X : Exc → Prop} : (ixD (.tuple [.int s.1, .bool s.2.1, .str s.2.2]) (.int 2)).run Q X = Q (.str s.2.2) := rfl
theorem an_si : ¬ sAn = Str.ofString "single" := by decide +kernel
theorem min2_run {i j : Int} {Q : D → Prop} {X : Exc → Prop} (q : Q (.int (if j < i then j else i))) : (B2.min.op (.int i) (.int j)).run Q X := q
theorem let_run {w : Str} {s : Sta} {e : Ed} {Q : D → Prop} {X : Exc → Prop} (q : Q (saO (letS w s e))) : (f_is_let [.d (.str w), .d (saD s), .d (edD e)]).run Q X := by
  unfold letS at q
  unfold f_is_let
  by_cases c1 : e.1 = sRW
  · rw [if_neg (by simpa using c1)] at q
    simp [b_is_let, -dT_cons]
    refine ife_no ?_ ?_
    · simp [c1]
    by_cases c2 : (w = sOw ∨ w = sCi) ∨ (w = sSi ∧ s.1 = 1)
    · rw [if_pos c2] at q
      refine ife_then ?_ ?_
      · rcases c2 with (c2 | c2) | ⟨c2, c3⟩
        · simp [c2, l2]
        · simp [c2, l2]
        · by_cases d1 : w = sOw
          · simp [d1, l2]
          · by_cases d2 : w = sCi
            · simp [d2, l2]
            · simp [c2, c3, l2]
      simp
      exact q
    · rw [if_neg c2] at q
      refine ife_no ?_ ?_
      · simp only [not_or, not_and] at c2
        obtain ⟨⟨d1, d2⟩, d3⟩ := c2
        simp [l2, d1, d2]
        by_cases d4 : w = sSi
        · simp [d4, d3 d4]
        · simp [d4]
      by_cases c4 : w = sAp ∧ s.2.2 = sRW
      · rw [if_pos c4] at q
        refine ife_then ?_ ?_
        · simp [c4.1, c4.2]
        simp
        exact q
      · rw [if_neg c4] at q
        refine ife_no ?_ ?_
        · by_cases d4 : w = sAp
          · have d5 : ¬ s.2.2 = sRW := fun z => c4 ⟨d4, z⟩
            simp [d4, d5]
          · simp [d4]
        simp
        refine min2_run ?_
        have em : (if (2 : Int) < s.1 + 1 then 2 else s.1 + 1) = min (s.1 + 1) 2 := by
          split <;> omega
        rw [em]
        cases h : s.2.1
        · simp [h] at q ⊢
          exact ⟨l3, q⟩
        · simp [h] at q ⊢
          exact ⟨l3, q⟩
  · rw [if_pos c1] at q
    simp [b_is_let, -dT_cons]
    refine ife_then ?_ ?_
    · simp [c1]
    by_cases c2 : w = sOw ∧ e.1 ≠ sWW
    · rw [if_pos c2] at q
      refine ife_then ?_ ?_
      · simp [c2.1, c2.2]
      simp
      exact q
    · rw [if_neg c2] at q
      refine ife_no ?_ ?_
      · by_cases d : w = sOw
        · have d2 : e.1 = sWW := Classical.byContradiction fun z => c2 ⟨d, z⟩
          simp [d, d2]
        · simp [d]
      simp [l3]
      exact q
theorem done_run {w : Str} {s : Sta} {Q : D → Prop} {X : Exc → Prop} (q : Q (.bool (doneS w s))) : (f_is_done [.d (.str w), .d (saD s)]).run Q X := by
  unfold doneS at q
  unfold f_is_done
  by_cases c1 : w = sSi
  · rw [if_pos c1] at q
    simp [b_is_done, c1]
    exact q
  · rw [if_neg c1] at q
    by_cases c2 : w = sAn
    · rw [if_pos c2] at q
      simp [b_is_done, c2, an_si]
      exact q
    · rw [if_neg c2] at q
      simp [b_is_done, c1, c2]
      by_cases c3 : w = sAp
      · simp [c3] at q ⊢
        by_cases c4 : 0 < s.1
        · simp [c4] at q ⊢
          cases h : s.2.1 <;> simp [h] at q ⊢
          · exact q
          · have e : (s.2.2 == Str.ofString "rw") = decide (s.2.2 = sRW) := rfl
            rw [e]
            exact q
        · simp [c4] at q ⊢
          exact q
      · have c3' : (w == Str.ofString "apart") = false := by simpa using c3
        simp [c3, c3'] at q ⊢
        exact q
end K06

namespace K06
open PySem PySem.Spec PyProof.Rows L2 Ev EvR
/-! ### edges that go up: no ring -/
def lasts : List Str := [sE0, sPl, sRW]
def allS : List Sta := [(0 : Int), 1, 2].flatMap fun n => [false, true].flatMap fun b => lasts.map fun z => (n, b, z)
theorem allS_mem {s : Sta} : s ∈ allS ↔ (s.1 = 0 ∨ s.1 = 1 ∨ s.1 = 2) ∧ s.2.2 ∈ lasts := by
  unfold allS
  simp only [List.mem_flatMap, List.mem_map]
  constructor
  · rintro ⟨n, hn, b, hb, z, hz, rfl⟩
    simp at hn
    exact ⟨hn, hz⟩
  · rintro ⟨h1, h2⟩
    exact ⟨s.1, by simpa using h1, s.2.1, by cases s.2.1 <;> simp, s.2.2, h2, rfl⟩
theorem let_all {w : Str} {s t : Sta} {e : Ed} (h : letS w s e = some t) (hs : s ∈ allS) : t ∈ allS := by
  rw [allS_mem] at hs ⊢
  unfold letS at h
  split at h
  · split at h
    · cases h
    · cases h
      exact ⟨hs.1, by simp [lasts]⟩
  · split at h
    · cases h
    · split at h
      · cases h
      · cases h
        refine ⟨?_, by simp [lasts]⟩
        have h1 := hs.1
        show min (s.1 + 1) 2 = 0 ∨ min (s.1 + 1) 2 = 1 ∨ min (s.1 + 1) 2 = 2
        omega
/-- what waits: a way, where it is, what it knows -/
abbrev Wt := List Ed × Int × Sta
abbrev wtD (x : Wt) : D := .tuple [.tuple (x.1.map edD), .int x.2.1, saD x.2.2]
abbrev Se := Int × Sta
abbrev seD (x : Se) : D := .tuple [.int x.1, saD x.2]
theorem eqv_sa (s t : Sta) : PyData.eqv (saD s) (saD t) = decide (s = t) := by
  obtain ⟨a, b, c⟩ := s
  obtain ⟨a', b', c'⟩ := t
  rw [PyData.eqv, PyData.eqvAll, PyData.eqvAll, PyData.eqvAll, PyData.eqvAll, PyData.eqv, PyData.eqv, PyData.eqv, Bool.eq_iff_iff]
  simp
theorem eqv_se (s t : Se) : PyData.eqv (seD s) (seD t) = decide (s = t) := by
  obtain ⟨a, b⟩ := s
  obtain ⟨a', b'⟩ := t
  rw [PyData.eqv, PyData.eqvAll, PyData.eqvAll, PyData.eqvAll, eqv_sa, PyData.eqv, Bool.eq_iff_iff]
  simp
theorem sh_se (x : Se) : sh (seD x) = true := rfl
theorem dep_ses (A : List Se) : PyData.depthAll (A.map seD) ≤ 2 := by
  induction A with
  | nil => simp [PyData.depthAll]
  | cons a A ih =>
    simp [PyData.depthAll, PyData.depth]
    omega
theorem nd_ses (A : List Se) : ndAll (A.map seD) = true := by
  induction A with
  | nil => rfl
  | cons a A ih => simp [ndAll, nd]; exact ih
theorem sh_ses (A : List Se) : sh (.list (A.map seD)) = true := by
  have h1 := dep_ses A
  have h2 := nd_ses A
  simp [sh, PyData.depth, h2]
  omega
theorem in_se {n : Bool} {x : Se} {A : List Se} {Q : Bool → Prop} {X : Exc → Prop} : (inD n (.tuple [.int x.1, saD x.2]) (.list (A.map seD))).run Q X = Q (if n then !decide (x ∈ A) else decide (x ∈ A)) := by
  show ((sh (seD x) = true ∧ sh (.list (A.map seD)) = true) ∧ Q _) = _
  have e : ((A.map seD).any fun z => PyData.eqv z (seD x)) = decide (x ∈ A) := by
    induction A with
    | nil => simp
    | cons a A ih =>
      rw [List.map_cons, List.any_cons, eqv_se, ih, Bool.eq_iff_iff]
      simp only [Bool.or_eq_true, decide_eq_true_iff, List.mem_cons]
      exact ⟨fun h => h.imp Eq.symm id, fun h => h.imp Eq.symm id⟩
  rw [e]
  simp [sh_se, sh_ses]
@[simp] theorem ix_ed2 {z : Str} {a b k : Int} {Q : D → Prop} {X : Exc → Prop} : (ixD (.tuple [.str z, .int a, .int b, .int k]) (.int 2)).run Q X = Q (.int b) := rfl
structure RgOk (E : List Ed) (W : List Wt) (S : List Se) (k : Nat) : Prop where
  al : ∀ x ∈ W, x.2.2 ∈ allS
  nd : S.Nodup
  se : ∀ y ∈ S, y.1 ∈ E.map (fun e => e.2.2.1) ∧ y.2 ∈ allS
  ln : k + W.length = 1 + S.length
  wl : ∀ x ∈ W, x.1.length ≤ k
theorem seen_len {E : List Ed} {S : List Se} (nd : S.Nodup) (h : ∀ y ∈ S, y.1 ∈ E.map (fun e => e.2.2.1) ∧ y.2 ∈ allS) : S.length ≤ E.length * 18 := by
  have := nodup_len nd (m := E.flatMap fun e => allS.map fun s => (e.2.2.1, s)) fun y hy => by
    obtain ⟨h1, h2⟩ := h y hy
    obtain ⟨e, he, e1⟩ := List.mem_map.mp h1
    exact List.mem_flatMap.mpr ⟨e, he, List.mem_map.mpr ⟨y.2, h2, by rw [e1]⟩⟩
  have e : (E.flatMap fun e => allS.map fun s => (e.2.2.1, s)).length = E.length * 18 := by
    clear this h
    induction E with
    | nil => simp
    | cons a E ih =>
      rw [List.flatMap_cons, List.length_append, ih, List.length_map, List.length_cons, Nat.succ_mul]
      have : allS.length = 18 := rfl
      omega
  omega
theorem pop_wt {W : List Wt} {x : Wt} : popAtD ((x :: W).map wtD) (.int 0) = some (wtD x, W.map wtD) := by
  show (if -(2 ^ 63) ≤ (0 : Int) ∧ (0 : Int) < 2 ^ 63 then (seqIndex? 0 ((x :: W).map wtD).length).bind fun j => (((x :: W).map wtD)[j]?).map fun y => (y, ((x :: W).map wtD).eraseIdx j) else none) = _
  rw [if_pos (by decide)]
  have : seqIndex? 0 ((x :: W).map wtD).length = some 0 := by
    unfold seqIndex?
    simp
  rw [this]
  rfl
theorem dS_pop' {M : Mg} {ρ : List Sl} {i : Nat} {j : IE} {t : Ev.T} : denS M (.pop i j t) ρ = popS i (denE M j) t ρ := rfl
end K06

namespace K06
open PySem PySem.Spec PyProof.Rows L2 Ev EvR
/-! ### the search, plainly -/
def stepE (w : Str) (x : Wt) (e : Ed) : Option Sta := if e.2.1 = x.2.1 then letS w x.2.2 e else none
def scanE (w : Str) (st : Int) (x : Wt) : List Ed → List Wt → List Se → (List Ed) ⊕ (List Wt × List Se)
  | [], W, S => .inr (W, S)
  | e :: es, W, S => match stepE w x e with
    | none => scanE w st x es W S
    | some t => if e.2.2.1 = st ∧ doneS w t = true then .inl (x.1 ++ [e]) else if (e.2.2.1, t) ∈ S then scanE w st x es W S else scanE w st x es (W ++ [(x.1 ++ [e], e.2.2.1, t)]) (S ++ [(e.2.2.1, t)])
def brd (E : List Ed) (w : Str) (st : Int) : Nat → List Wt → List Se → Option (List Ed)
  | 0, _, _ => none
  | _ + 1, [], _ => none
  | n + 1, x :: W, S => match scanE w st x E W S with
    | .inl r => some r
    | .inr p => brd E w st n p.1 p.2
abbrev st0 : Sta := (0, false, sE0)
def ringF (E : List Ed) (w : Str) (st : Int) : Option (List Ed) := brd E w st (E.length * 18 + 1) [([], st, st0)] []
abbrev rgD (r : List Ed) : D := .tuple (r.map edD)
def roD : Option (List Ed) → D
  | none => .none
  | some r => rgD r
theorem brd_nil (E : List Ed) (w : Str) (st : Int) (n : Nat) (S : List Se) : brd E w st n [] S = none := by cases n <;> rfl
theorem brd_cons {E : List Ed} {w : Str} {st : Int} {n : Nat} (h : 0 < n) (x : Wt) (W : List Wt) (S : List Se) : brd E w st n (x :: W) S = match scanE w st x E W S with
    | .inl r => some r
    | .inr p => brd E w st (n - 1) p.1 p.2 := by
  cases n with
  | zero => omega
  | succ n => rfl
theorem drop_at {α : Type} {l : List α} {i : Nat} {x : α} (h : l[i]? = some x) : l.drop i = x :: l.drop (i + 1) := by
  obtain ⟨h1, h2⟩ := List.getElem?_eq_some_iff.mp h
  rw [← h2]
  exact List.drop_eq_getElem_cons h1
theorem RgOk.add {E : List Ed} {W : List Wt} {S : List Se} {k : Nat} (hJ : RgOk E W S (k + 1)) {e : Ed} {x : Wt} {t : Sta} (he : e ∈ E) (hx : x.1.length ≤ k) (ht : t ∈ allS) (c3 : (e.2.2.1, t) ∉ S) : RgOk E (W ++ [(x.1 ++ [e], e.2.2.1, t)]) (S ++ [(e.2.2.1, t)]) (k + 1) := by
  have nd2 : (S ++ [(e.2.2.1, t)]).Nodup := by
    rw [List.nodup_append]
    refine ⟨hJ.nd, by simp, fun a ha b hb z => ?_⟩
    subst z
    rw [List.mem_singleton.mp hb] at ha
    exact c3 ha
  have hJn := hJ.ln
  refine ⟨fun y hy => ?_, nd2, fun y hy => ?_, by simp; omega, fun y hy => ?_⟩
  · rcases List.mem_append.mp hy with hy | hy
    · exact hJ.al y hy
    · rw [List.mem_singleton.mp hy]; exact ht
  · rcases List.mem_append.mp hy with hy | hy
    · exact hJ.se y hy
    · rw [List.mem_singleton.mp hy]; exact ⟨List.mem_map.mpr ⟨e, he, rfl⟩, ht⟩
  · rcases List.mem_append.mp hy with hy | hy
    · exact hJ.wl y hy
    · rw [List.mem_singleton.mp hy]; simp; omega
theorem RgOk.start (E : List Ed) (st : Int) : RgOk E [([], st, st0)] [] 0 :=
  ⟨fun x hx => by rw [List.mem_singleton.mp hx]; exact allS_mem.mpr ⟨.inl rfl, by simp [lasts]⟩, List.nodup_nil, (by intro y hy; cases hy), rfl, fun x hx => by rw [List.mem_singleton.mp hx]; exact Nat.le_refl _⟩
theorem RgOk.pop {E : List Ed} {x : Wt} {W : List Wt} {S : List Se} {k : Nat} (hI : RgOk E (x :: W) S k) : RgOk E W S (k + 1) := by
  have hln := hI.ln
  rw [List.length_cons] at hln
  exact ⟨fun y hy => hI.al y (List.mem_cons_of_mem _ hy), hI.nd, hI.se, by omega, fun y hy => Nat.le_succ_of_le (hI.wl y (List.mem_cons_of_mem _ hy))⟩
def InvB1 (E : List Ed) (w : Str) (st : Int) (k : Nat) (ρ : List Sl) : Prop := ∃ (W : List Wt) (S : List Se) (s5 s6 s7 s8 s9 : Sl), ρ = [.val (.list (E.map edD)), .val (.str w), .val (.int st), .own (W.map wtD), .own (S.map seD), s5, s6, s7, s8, s9] ∧ RgOk E W S k ∧ brd E w st (E.length * 18 + 1 - k) W S = ringF E w st
def InvB2 (E : List Ed) (w : Str) (st : Int) (k : Nat) (x : Wt) (G : (List Ed) ⊕ (List Wt × List Se)) (i : Nat) (ρ : List Sl) : Prop := ∃ (W : List Wt) (S : List Se) (s5 s9 : Sl), ρ = [.val (.list (E.map edD)), .val (.str w), .val (.int st), .own (W.map wtD), .own (S.map seD), s5, .val (.tuple (x.1.map edD)), .val (.int x.2.1), .val (saD x.2.2), s9] ∧ RgOk E W S (k + 1) ∧ scanE w st x (E.drop i) W S = G
theorem ring_from_run {E : List Ed} (hz : E.length ≤ 200) {w : Str} {st : Int} {Q : D → Prop} {X : Exc → Prop} (q : Q (roD (ringF E w st))) : (f_ring_from [.d (.list (E.map edD)), .d (.str w), .d (.int st)]).run Q X := by
  unfold f_ring_from
  simp [b_ring_from, -dT_cons]
  refine stp ?_
  simp [l1, l3, -dT_cons]
  refine stp ?_
  simp [-dT_cons]
  refine stp ?_
  refine whileS_run (InvB1 E w st) 4000 ⟨[([], st, st0)], [], _, _, _, _, _, rfl, RgOk.start E st, rfl⟩ ?_
  rintro k ρ ⟨W, S, s5, s6, s7, s8, s9, rfl, hI, hB⟩
  have hsl := seen_len hI.nd hI.se
  have hln := hI.ln
  simp [-dT_cons]
  intro _
  cases W with
  | nil =>
    rw [brd_nil] at hB
    rw [← hB] at q
    simp
    exact q
  | cons x W =>
    rw [List.length_cons] at hln
    rw [brd_cons (by omega)] at hB
    rw [if_pos (by simp)]
    refine ⟨by omega, ?_⟩
    refine stp ?_
    simp [dS_pop', popW, ownW, -dT_cons, -List.map_cons]
    rw [pop_wt]
    simp [-dT_cons]
    intro _
    generalize hG : scanE w st x E W S = G at hB
    refine forD_enc (enc := edD) (InvB2 E w st k x G) ⟨W, S, _, _, rfl, hI.pop, hG⟩ ?_ ?_
    · rintro i e ρ e1 ⟨W', S', s5, s9, rfl, hJ, hS⟩
      have he := List.mem_of_getElem? e1
      have hJl := seen_len hJ.nd hJ.se
      have hJn := hJ.ln
      have hxl := hI.wl x List.mem_cons_self
      rw [drop_at e1] at hS
      unfold scanE stepE at hS
      simp [-dT_cons]
      by_cases c1 : e.2.1 = x.2.1
      · rw [if_pos c1] at hS
        refine stp ?_
        simp [c1, -dT_cons]
        refine let_run ?_
        cases c2 : letS w x.2.2 e with
        | none =>
          rw [c2] at hS
          simp [saO]
          exact ⟨W', S', _, _, rfl, hJ, hS⟩
        | some t =>
          rw [c2] at hS
          simp only at hS
          have ht := let_all c2 (hI.al x List.mem_cons_self)
          simp [saO, -dT_cons]
          refine ife_then ?_ ?_
          · simp
          by_cases c4 : e.2.2.1 = st ∧ doneS w t = true
          · rw [if_pos c4] at hS
            refine ife_then ?_ ?_
            · simp [c4.1]
              refine done_run ?_
              simp [c4.2]
            simp [l1]
            refine ⟨line7 (by omega), ?_⟩
            rw [← hS] at hB
            simp only at hB
            rw [← hB] at q
            simp only [roD, rgD, List.map_append, List.map_cons, List.map_nil] at q
            exact q
          rw [if_neg c4] at hS
          refine ife_no ?_ ?_
          · simp
            intro z
            refine done_run ?_
            cases z2 : doneS w t with
            | false => rfl
            | true => exact absurd ⟨z, z2⟩ c4
          by_cases c3 : (e.2.2.1, t) ∈ S'
          · rw [if_pos c3] at hS
            refine ife_no ?_ ?_
            · simp [l2]
              refine (in_se (x := (e.2.2.1, t))).mpr ?_
              simp [c3]
            simp
            exact ⟨W', S', .val (edD e), .val (saD t), rfl, hJ, hS⟩
          · rw [if_neg c3] at hS
            refine ife_then ?_ ?_
            · simp [l2]
              refine (in_se (x := (e.2.2.1, t))).mpr ?_
              simp [c3]
            simp [appW, ownW, l2, l3, l1]
            exact ⟨line6 (by omega), line7 (by omega), line6 (by omega), W' ++ [(x.1 ++ [e], e.2.2.1, t)], S' ++ [(e.2.2.1, t)], .val (edD e), .val (saD t), by simp, hJ.add he hxl ht c3, hS⟩
      · rw [if_neg c1] at hS
        simp only at hS
        refine stp ?_
        simp [c1, -dT_cons]
        refine ife_no ?_ ?_
        · simp
        simp
        exact ⟨W', S', _, _, rfl, hJ, hS⟩
    · rintro ρ ⟨W', S', s5, s9, rfl, hJ, hS⟩
      simp
      rw [List.drop_length] at hS
      unfold scanE at hS
      rw [← hS] at hB
      simp only at hB
      refine ⟨W', S', _, _, _, _, _, rfl, hJ, ?_⟩
      rw [← hB, Nat.sub_sub]
end K06

namespace K06
open PySem PySem.Spec PyProof.Rows L2 Ev EvR
/-! ### the law's own search -/
theorem si_ap : ¬ sSi = Str.ofString "apart" := by decide +kernel
theorem lnext_run {w : Str} {s : Sta} {e : Ed} {Q : D → Prop} {X : Exc → Prop} (q : Q (saO (letS w s e))) : (f_l_next [.d (.str w), .d (saD s), .d (edD e)]).run Q X := by
  unfold letS at q
  unfold f_l_next
  simp [b_l_next, -dT_cons]
  refine stp ?_
  simp [-dT_cons]
  by_cases c1 : e.1 = sRW
  · rw [if_neg (by simpa using c1)] at q
    refine ife_no ?_ ?_
    · simp [c1]
    by_cases c2 : (w = sOw ∨ w = sCi) ∨ (w = sSi ∧ s.1 = 1)
    · rw [if_pos c2] at q
      refine ife_then ?_ ?_
      · rcases c2 with (c2 | c2) | ⟨c2, c3⟩
        · simp [c2, l2]
        · simp [c2, l2]
        · by_cases d1 : w = sOw
          · simp [d1, l2]
          · by_cases d2 : w = sCi
            · simp [d2, l2]
            · simp [c2, c3, l2]
      simp
      exact q
    · rw [if_neg c2] at q
      by_cases c4 : w = sAp ∧ s.2.2 = sRW
      · rw [if_pos c4] at q
        refine ife_then ?_ ?_
        · obtain ⟨c4, c5⟩ := c4
          simp [l2, c4, c5]
        simp
        exact q
      · rw [if_neg c4] at q
        refine ife_no ?_ ?_
        · simp only [not_or, not_and] at c2
          obtain ⟨⟨d1, d2⟩, d3⟩ := c2
          simp [l2, d1, d2]
          by_cases d4 : w = sSi
          · simp [d4, d3 d4]
            simp [si_ap]
          · simp [d4]
            by_cases d5 : w = sAp
            · have d6 : ¬ s.2.2 = sRW := fun z => c4 ⟨d5, z⟩
              simp [d5, d6]
            · simp [d5]
        simp
        refine min2_run ?_
        have em : (if s.1 + 1 < 2 then s.1 + 1 else (2 : Int)) = min (s.1 + 1) 2 := by
          split <;> omega
        rw [em]
        cases h : s.2.1
        · simp [h] at q ⊢
          exact ⟨l3, q⟩
        · simp [h] at q ⊢
          exact ⟨l3, q⟩
  · rw [if_pos c1] at q
    refine ife_then ?_ ?_
    · simp [c1]
    by_cases c2 : w = sOw ∧ e.1 ≠ sWW
    · rw [if_pos c2] at q
      simp [c2.1, c2.2]
      exact q
    · rw [if_neg c2] at q
      by_cases d : w = sOw
      · have d2 : e.1 = sWW := Classical.byContradiction fun z => c2 ⟨d, z⟩
        simp [d, d2, l3]
        exact q
      · simp [d, l3]
        exact q
theorem closes_run {w : Str} {s : Sta} {Q : D → Prop} {X : Exc → Prop} (q : Q (.bool (doneS w s))) : (f_l_closes [.d (.str w), .d (saD s)]).run Q X := by
  unfold doneS at q
  unfold f_l_closes
  simp [b_l_closes, -dT_cons]
  refine stp ?_
  simp [-dT_cons]
  by_cases c1 : w = sSi
  · rw [if_pos c1] at q
    refine ife_then ?_ ?_
    · simp [c1]
    simp [c1]
    exact q
  · rw [if_neg c1] at q
    by_cases c2 : w = sAn
    · rw [if_pos c2] at q
      refine ife_then ?_ ?_
      · simp [c2, an_si]
      simp [c2, an_si]
      exact q
    · rw [if_neg c2] at q
      refine ife_no ?_ ?_
      · simp [c1, c2]
      by_cases c3 : w = sAp
      · simp [c3] at q ⊢
        by_cases c4 : 0 < s.1
        · simp [c4] at q ⊢
          cases h : s.2.1 <;> simp [h] at q ⊢
          · exact q
          · have e : (s.2.2 == Str.ofString "rw") = decide (s.2.2 = sRW) := rfl
            rw [e]
            exact q
        · simp [c4] at q ⊢
          exact q
      · have c3' : (w == Str.ofString "apart") = false := by simpa using c3
        simp [c3, c3'] at q ⊢
        exact q
def InvL1 (E : List Ed) (w : Str) (st : Int) (k : Nat) (ρ : List Sl) : Prop := ∃ (A : List Wt) (W : List Wt) (S : List Se) (s6 s7 s8 s9 s10 : Sl), ρ = [.val (.list (E.map edD)), .val (.str w), .val (.int st), .own ((A ++ W).map wtD), .own (S.map seD), .val (.int (k : Nat)), s6, s7, s8, s9, s10] ∧ A.length = k ∧ RgOk E W S k ∧ brd E w st (E.length * 18 + 1 - k) W S = ringF E w st
def InvL2 (E : List Ed) (w : Str) (st : Int) (k : Nat) (x : Wt) (G : (List Ed) ⊕ (List Wt × List Se)) (i : Nat) (ρ : List Sl) : Prop := ∃ (A : List Wt) (W : List Wt) (S : List Se) (s6 s10 : Sl), ρ = [.val (.list (E.map edD)), .val (.str w), .val (.int st), .own ((A ++ W).map wtD), .own (S.map seD), .val (.int ((k + 1 : Nat) : Int)), s6, .val (.tuple (x.1.map edD)), .val (.int x.2.1), .val (saD x.2.2), s10] ∧ A.length = k + 1 ∧ RgOk E W S (k + 1) ∧ scanE w st x (E.drop i) W S = G
theorem l_ring_from_run {E : List Ed} (hz : E.length ≤ 200) {w : Str} {st : Int} {Q : D → Prop} {X : Exc → Prop} (q : Q (roD (ringF E w st))) : (f_l_ring_from [.d (.list (E.map edD)), .d (.str w), .d (.int st)]).run Q X := by
  unfold f_l_ring_from
  simp [b_l_ring_from, -dT_cons]
  refine stp ?_
  simp [l1, l3, -dT_cons]
  refine stp ?_
  simp [-dT_cons]
  refine stp ?_
  simp [-dT_cons]
  refine stp ?_
  refine whileS_run (InvL1 E w st) 4000 ⟨[], [([], st, st0)], [], _, _, _, _, _, rfl, rfl, RgOk.start E st, rfl⟩ ?_
  rintro k ρ ⟨A, W, S, s6, s7, s8, s9, s10, rfl, hA, hI, hB⟩
  have hsl := seen_len hI.nd hI.se
  have hln := hI.ln
  simp [-dT_cons]
  intro _
  cases W with
  | nil =>
    rw [brd_nil] at hB
    rw [← hB] at q
    rw [if_neg (by simp [hA])]
    simp
    exact q
  | cons x W =>
    rw [List.length_cons] at hln
    rw [brd_cons (by omega)] at hB
    rw [if_pos (by simp [hA]; omega)]
    refine ⟨by omega, ?_⟩
    have hat : (A.map wtD ++ (x :: W).map wtD)[k]? = some (wtD x) := by
      rw [List.getElem?_append_right (by simp; omega)]
      simp [hA]
    refine stp ?_
    simp [ownW, -dT_cons, -List.map_cons]
    refine ix_l (Ev.atI_nat hat) ?_
    simp [-dT_cons, -List.map_cons]
    refine stp ?_
    simp [-dT_cons, -List.map_cons]
    refine stp ?_
    simp [-dT_cons, -List.map_cons]
    intro _
    have hadd : A.map wtD ++ (x :: W).map wtD = ((A ++ [x]) ++ W).map wtD := by simp
    rw [hadd]
    generalize hG : scanE w st x E W S = G at hB
    refine forD_enc (enc := edD) (InvL2 E w st k x G) ⟨A ++ [x], W, S, _, _, rfl, by simp [hA], hI.pop, hG⟩ ?_ ?_
    · rintro i e ρ e1 ⟨A', W', S', s6, s10, rfl, hA', hJ, hS⟩
      have he := List.mem_of_getElem? e1
      have hJl := seen_len hJ.nd hJ.se
      have hJn := hJ.ln
      have hxl := hI.wl x List.mem_cons_self
      rw [drop_at e1] at hS
      unfold scanE stepE at hS
      simp [-dT_cons]
      by_cases c1 : e.2.1 = x.2.1
      · rw [if_pos c1] at hS
        refine stp ?_
        simp [c1, -dT_cons]
        refine lnext_run ?_
        cases c2 : letS w x.2.2 e with
        | none =>
          rw [c2] at hS
          simp [saO, -dT_cons]
          refine ife_no ?_ ?_
          · simp
          refine ife_no ?_ ?_
          · simp
          simp
          exact ⟨A', W', S', .val (edD e), .val .none, by simp, hA', hJ, hS⟩
        | some t =>
          rw [c2] at hS
          simp only at hS
          have ht := let_all c2 (hI.al x List.mem_cons_self)
          simp [saO, -dT_cons]
          by_cases c4 : e.2.2.1 = st ∧ doneS w t = true
          · rw [if_pos c4] at hS
            refine ife_then ?_ ?_
            · simp [c4.1]
              refine closes_run ?_
              simp [c4.2]
            simp [l1]
            refine ⟨line7 (by omega), ?_⟩
            rw [← hS] at hB
            simp only at hB
            rw [← hB] at q
            simp only [roD, rgD, List.map_append, List.map_cons, List.map_nil] at q
            exact q
          rw [if_neg c4] at hS
          refine ife_no ?_ ?_
          · simp
            intro z
            refine closes_run ?_
            cases z2 : doneS w t with
            | false => rfl
            | true => exact absurd ⟨z, z2⟩ c4
          by_cases c3 : (e.2.2.1, t) ∈ S'
          · rw [if_pos c3] at hS
            refine ife_no ?_ ?_
            · simp [l2]
              refine (in_se (x := (e.2.2.1, t))).mpr ?_
              simp [c3]
            simp
            exact ⟨A', W', S', .val (edD e), .val (saD t), by simp, hA', hJ, hS⟩
          · rw [if_neg c3] at hS
            refine ife_then ?_ ?_
            · simp [l2]
              refine (in_se (x := (e.2.2.1, t))).mpr ?_
              simp [c3]
            simp [appW, ownW, l2, l3, l1]
            exact ⟨line6 (by omega), line7 (by omega), line6 (by omega), A', W' ++ [(x.1 ++ [e], e.2.2.1, t)], S' ++ [(e.2.2.1, t)], .val (edD e), .val (saD t), by simp, hA', hJ.add he hxl ht c3, hS⟩
      · rw [if_neg c1] at hS
        simp only at hS
        refine stp ?_
        simp [c1, -dT_cons]
        refine ife_no ?_ ?_
        · simp
        refine ife_no ?_ ?_
        · simp
        simp
        exact ⟨A', W', S', .val (edD e), .val .none, by simp, hA', hJ, hS⟩
    · rintro ρ ⟨A', W', S', s6, s10, rfl, hA', hJ, hS⟩
      simp
      rw [List.drop_length] at hS
      unfold scanE at hS
      rw [← hS] at hB
      simp only at hB
      refine ⟨A', W', S', s6, .val (.tuple (x.1.map edD)), .val (.int x.2.1), .val (saD x.2.2), s10, by simp, hA', hJ, ?_⟩
      rw [← hB, Nat.sub_sub]
end K06

namespace K06
open PySem PySem.Spec PyProof.Rows L2 Ev EvR
/-! ### ways, and that the search finds the shortest closed one -/
def goes (w : Str) : Int × Sta → List Ed → Option (Int × Sta)
  | y, [] => some y
  | y, e :: es => if e.2.1 = y.1 then match letS w y.2 e with
      | none => none
      | some t => goes w (e.2.2.1, t) es
    else none
theorem goes_snoc (w : Str) : ∀ (es : List Ed) (y : Int × Sta) (e : Ed), goes w y (es ++ [e]) = match goes w y es with
    | none => none
    | some z => if e.2.1 = z.1 then match letS w z.2 e with
      | none => none
      | some t => some (e.2.2.1, t)
      else none
  | [], y, e => by
    simp only [List.nil_append, goes]
  | d :: es, y, e => by
    simp only [List.cons_append, goes]
    split
    · cases letS w y.2 d with
      | none => rfl
      | some t => exact goes_snoc w es (d.2.2.1, t) e
    · rfl
structure Rg (E : List Ed) (w : Str) (st : Int) (es : List Ed) : Prop where
  ne : es ≠ []
  sub : ∀ e ∈ es, e ∈ E
  clo : ∃ t, goes w (st, st0) es = some (st, t) ∧ doneS w t = true
theorem snoc_of {α : Type} {l : List α} (h : l ≠ []) : ∃ m x, l = m ++ [x] := ⟨_, _, (List.dropLast_concat_getLast h).symm⟩
/-- what was found: with how many edges -/
abbrev Fd := Se × Nat
abbrev pW (x : Wt) : Fd := ((x.2.1, x.2.2), x.1.length)
def closB (w : Str) (st : Int) (e : Ed) (t : Sta) : Prop := e.2.2.1 = st ∧ doneS w t = true
/-- from this one nothing closes, and all it leads to is found -/
def Dn (E : List Ed) (w : Str) (st : Int) (L : List Fd) (p : Fd) : Prop := ∀ e ∈ E, e.2.1 = p.1.1 → ∀ t, letS w p.1.2 e = some t → ¬ closB w st e t ∧ ∃ m, ((e.2.2.1, t), m) ∈ L ∧ m ≤ p.2 + 1
theorem Dn.mono {E : List Ed} {w : Str} {st : Int} {L L' : List Fd} {p : Fd} (h : Dn E w st L p) (hl : ∀ q ∈ L, q ∈ L') : Dn E w st L' p := by
  intro e he h1 t ht
  obtain ⟨h2, m, h3, h4⟩ := h e he h1 t ht
  exact ⟨h2, m, hl _ h3, h4⟩
theorem no_short {E : List Ed} {w : Str} {st : Int} {L P : List Fd} {n : Nat} (ini : ((st, st0), 0) ∈ L) (clo : ∀ p ∈ P, Dn E w st L p) (h : ∀ p ∈ L, p.2 < n → p ∈ P) {es : List Ed} (R : Rg E w st es) : n < es.length := by
  have pre : ∀ (k : Nat) (es : List Ed), es.length = k → (∀ e ∈ es, e ∈ E) → ∀ y, goes w (st, st0) es = some y → es.length < n → ∃ m, m ≤ es.length ∧ (y, m) ∈ P := by
    intro k
    induction k with
    | zero =>
      intro es hk _ y hy hn
      rw [List.length_eq_zero_iff.mp hk] at hy hn ⊢
      simp only [goes, Option.some.injEq] at hy
      subst hy
      exact ⟨0, Nat.le_refl _, h _ ini hn⟩
    | succ k ih =>
      intro es hk hs y hy hn
      obtain ⟨es', e, rfl⟩ := snoc_of (l := es) (by intro q; rw [q] at hk; cases hk)
      rw [goes_snoc] at hy
      simp only [List.length_append, List.length_singleton] at hk hn ⊢
      cases hg : goes w (st, st0) es' with
      | none => rw [hg] at hy; cases hy
      | some z =>
        rw [hg] at hy
        simp only at hy
        split at hy
        · rename_i hz
          cases ht : letS w z.2 e with
          | none => rw [ht] at hy; cases hy
          | some t =>
            rw [ht] at hy
            cases hy
            obtain ⟨m, h1, h2⟩ := ih es' (by omega) (fun d hd => hs d (List.mem_append_left _ hd)) z hg (by omega)
            obtain ⟨_, m', h3, h4⟩ := clo _ h2 e (hs e (by simp)) hz t ht
            simp only at h4
            exact ⟨m', by omega, h _ h3 (by simp only; omega)⟩
        · cases hy
  obtain ⟨ne, sub, t, hg, hd⟩ := R
  obtain ⟨es', e, rfl⟩ := snoc_of ne
  refine Nat.lt_of_not_le fun hle => ?_
  rw [goes_snoc] at hg
  simp only [List.length_append, List.length_singleton] at hle
  cases hg' : goes w (st, st0) es' with
  | none => rw [hg'] at hg; cases hg
  | some z =>
    rw [hg'] at hg
    simp only at hg
    split at hg
    · rename_i hz
      cases ht : letS w z.2 e with
      | none => rw [ht] at hg; cases hg
      | some t' =>
        rw [ht] at hg
        simp only [Option.some.injEq, Prod.mk.injEq] at hg
        obtain ⟨h1, rfl⟩ := hg
        obtain ⟨m, _, h2⟩ := pre _ es' rfl (fun d hd => sub d (List.mem_append_left _ hd)) z hg' (by omega)
        exact (clo _ h2 e (sub e (by simp)) hz t' ht).1 ⟨h1, hd⟩
    · cases hg
/-- a search under way -/
structure Br (E : List Ed) (w : Str) (st : Int) (d : Nat) (W : List Wt) (S : List Se) (L P : List Fd) : Prop where
  way : ∀ x ∈ W, (∀ e ∈ x.1, e ∈ E) ∧ goes w (st, st0) x.1 = some (x.2.1, x.2.2) ∧ pW x ∈ L ∧ d ≤ x.1.length
  rev : ∀ y ∈ S, ∃ m, (y, m) ∈ L
  top : ∀ p ∈ L, p.2 ≤ d + 1
  wait : ∀ p ∈ L, p ∈ P ∨ ∃ x ∈ W, pW x = p
  srt : W.Pairwise fun a b => a.1.length ≤ b.1.length
  ini : ((st, st0), 0) ∈ L
theorem scan_ok {E : List Ed} {w : Str} {st : Int} {x : Wt} {P : List Fd} (hx : (∀ e ∈ x.1, e ∈ E) ∧ goes w (st, st0) x.1 = some (x.2.1, x.2.2)) (hal : x.2.2 ∈ allS) {k : Nat} (hk : x.1.length ≤ k) : ∀ (es : List Ed) (W : List Wt) (S : List Se) (L : List Fd), (∀ e ∈ es, e ∈ E) → RgOk E W S (k + 1) → Br E w st x.1.length W S L P →
    match scanE w st x es W S with
    | .inl r => Rg E w st r ∧ r.length = x.1.length + 1
    | .inr p => RgOk E p.1 p.2 (k + 1) ∧ ∃ L', (∀ q ∈ L, q ∈ L') ∧ Br E w st x.1.length p.1 p.2 L' P ∧ ∀ e ∈ es, e.2.1 = x.2.1 → ∀ t, letS w x.2.2 e = some t → ¬ closB w st e t ∧ ∃ m, ((e.2.2.1, t), m) ∈ L' ∧ m ≤ x.1.length + 1
  | [], W, S, L, _, hJ, B => ⟨hJ, L, fun _ h => h, B, by intro e he; cases he⟩
  | e :: es, W, S, L, hs, hJ, B => by
    have he := hs e List.mem_cons_self
    have hs' : ∀ e ∈ es, e ∈ E := fun d hd => hs d (List.mem_cons_of_mem _ hd)
    unfold scanE stepE
    by_cases c1 : e.2.1 = x.2.1
    · rw [if_pos c1]
      cases c2 : letS w x.2.2 e with
      | none =>
        simp only
        have ih := scan_ok hx hal hk es W S L hs' hJ B
        cases hsc : scanE w st x es W S with
        | inl r => rw [hsc] at ih; exact ih
        | inr p =>
          rw [hsc] at ih
          obtain ⟨h1, L', h2, h3, h4⟩ := ih
          refine ⟨h1, L', h2, h3, fun d hd => ?_⟩
          rcases List.mem_cons.mp hd with rfl | hd
          · intro _ t ht; rw [c2] at ht; cases ht
          · exact h4 d hd
      | some t =>
        simp only
        have ht := let_all c2 hal
        have hgo : goes w (st, st0) (x.1 ++ [e]) = some (e.2.2.1, t) := by
          rw [goes_snoc, hx.2]
          simp only
          rw [if_pos c1, c2]
        have hsub : ∀ d ∈ x.1 ++ [e], d ∈ E := fun d hd => by
          rcases List.mem_append.mp hd with hd | hd
          · exact hx.1 d hd
          · rw [List.mem_singleton.mp hd]; exact he
        by_cases c4 : e.2.2.1 = st ∧ doneS w t = true
        · rw [if_pos c4]
          exact ⟨⟨by simp, hsub, t, by rw [hgo, c4.1], c4.2⟩, by simp⟩
        rw [if_neg c4]
        by_cases c3 : (e.2.2.1, t) ∈ S
        · rw [if_pos c3]
          have ih := scan_ok hx hal hk es W S L hs' hJ B
          cases hsc : scanE w st x es W S with
          | inl r => rw [hsc] at ih; exact ih
          | inr p =>
            rw [hsc] at ih
            obtain ⟨h1, L', h2, h3, h4⟩ := ih
            refine ⟨h1, L', h2, h3, fun d hd => ?_⟩
            rcases List.mem_cons.mp hd with rfl | hd
            · intro _ t' ht'
              rw [c2] at ht'
              cases ht'
              obtain ⟨m, hm⟩ := B.rev _ c3
              exact ⟨c4, m, h2 _ hm, B.top _ hm⟩
            · exact h4 d hd
        · rw [if_neg c3]
          have B2 : Br E w st x.1.length (W ++ [(x.1 ++ [e], e.2.2.1, t)]) (S ++ [(e.2.2.1, t)]) (((e.2.2.1, t), x.1.length + 1) :: L) P := by
            refine ⟨fun y hy => ?_, fun y hy => ?_, fun p hp => ?_, fun p hp => ?_, ?_, List.mem_cons_of_mem _ B.ini⟩
            · rcases List.mem_append.mp hy with hy | hy
              · obtain ⟨a1, a2, a3, a4⟩ := B.way y hy
                exact ⟨a1, a2, List.mem_cons_of_mem _ a3, a4⟩
              · rw [List.mem_singleton.mp hy]
                exact ⟨hsub, hgo, by simp [pW], by simp⟩
            · rcases List.mem_append.mp hy with hy | hy
              · obtain ⟨m, hm⟩ := B.rev y hy
                exact ⟨m, List.mem_cons_of_mem _ hm⟩
              · rw [List.mem_singleton.mp hy]
                exact ⟨_, List.mem_cons_self⟩
            · rcases List.mem_cons.mp hp with rfl | hp
              · exact Nat.le_refl _
              · exact B.top p hp
            · rcases List.mem_cons.mp hp with rfl | hp
              · exact .inr ⟨_, List.mem_append_right _ (List.mem_singleton.mpr rfl), by simp [pW]⟩
              · rcases B.wait p hp with q | ⟨y, hy, q⟩
                · exact .inl q
                · exact .inr ⟨y, List.mem_append_left _ hy, q⟩
            · refine List.pairwise_append.mpr ⟨B.srt, List.pairwise_singleton _ _, fun a ha b hb => ?_⟩
              rw [List.mem_singleton.mp hb]
              have := B.top _ (B.way a ha).2.2.1
              simp [pW] at this ⊢
              exact this
          have ih := scan_ok hx hal hk es _ _ _ hs' (hJ.add he hk ht c3) B2
          cases hsc : scanE w st x es (W ++ [(x.1 ++ [e], e.2.2.1, t)]) (S ++ [(e.2.2.1, t)]) with
          | inl r => rw [hsc] at ih; exact ih
          | inr p =>
            rw [hsc] at ih
            obtain ⟨h1, L', h2, h3, h4⟩ := ih
            refine ⟨h1, L', fun q hq => h2 q (List.mem_cons_of_mem _ hq), h3, fun d hd => ?_⟩
            rcases List.mem_cons.mp hd with rfl | hd
            · intro _ t' ht'
              rw [c2] at ht'
              cases ht'
              exact ⟨c4, _, h2 _ List.mem_cons_self, Nat.le_refl _⟩
            · exact h4 d hd
    · rw [if_neg c1]
      simp only
      have ih := scan_ok hx hal hk es W S L hs' hJ B
      cases hsc : scanE w st x es W S with
      | inl r => rw [hsc] at ih; exact ih
      | inr p =>
        rw [hsc] at ih
        obtain ⟨h1, L', h2, h3, h4⟩ := ih
        refine ⟨h1, L', h2, h3, fun d hd => ?_⟩
        rcases List.mem_cons.mp hd with rfl | hd
        · intro q; exact absurd q c1
        · exact h4 d hd
theorem brd_ok {E : List Ed} {w : Str} {st : Int} : ∀ (n k : Nat) (W : List Wt) (S : List Se) (L P : List Fd) (d : Nat), n = E.length * 18 + 1 - k → RgOk E W S k → Br E w st d W S L P → (∀ x W', W = x :: W' → x.1.length = d) → (∀ p ∈ P, Dn E w st L p) →
    match brd E w st n W S with
    | none => ∀ es, ¬ Rg E w st es
    | some r => Rg E w st r ∧ ∀ es, Rg E w st es → r.length ≤ es.length := by
  intro n
  induction n with
  | zero =>
    intro k W S L P d hn hI B hd hP
    have h1 := hI.ln
    have h2 := seen_len hI.nd hI.se
    have hW : W = [] := List.length_eq_zero_iff.mp (by omega)
    subst hW
    simp only [brd]
    intro es R
    have := no_short (n := es.length) B.ini hP (fun p hp _ => by
      rcases B.wait p hp with q | ⟨x, hx, _⟩
      · exact q
      · cases hx) R
    omega
  | succ n ih =>
    intro k W S L P d hn hI B hd hP
    cases W with
    | nil =>
      simp only [brd]
      intro es R
      have := no_short (n := es.length) B.ini hP (fun p hp _ => by
        rcases B.wait p hp with q | ⟨x, hx, _⟩
        · exact q
        · cases hx) R
      omega
    | cons x W =>
      have hxd := hd x W rfl
      subst hxd
      simp only [brd]
      have hxw := B.way x List.mem_cons_self
      have B' : Br E w st x.1.length W S L (pW x :: P) := by
        refine ⟨fun y hy => B.way y (List.mem_cons_of_mem _ hy), B.rev, B.top, fun p hp => ?_, (List.pairwise_cons.mp B.srt).2, B.ini⟩
        rcases B.wait p hp with q | ⟨y, hy, q⟩
        · exact .inl (List.mem_cons_of_mem _ q)
        · rcases List.mem_cons.mp hy with rfl | hy
          · rw [← q]; exact .inl List.mem_cons_self
          · exact .inr ⟨y, hy, q⟩
      have sc := scan_ok ⟨hxw.1, hxw.2.1⟩ (hI.al x List.mem_cons_self) (hI.wl x List.mem_cons_self) E W S L (fun _ h => h) hI.pop B'
      cases hsc : scanE w st x E W S with
      | inl r =>
        rw [hsc] at sc
        simp only at sc ⊢
        refine ⟨sc.1, fun es R => ?_⟩
        have := no_short (n := x.1.length) B.ini hP (fun p hp hlt => by
          rcases B.wait p hp with q | ⟨y, hy, q⟩
          · exact q
          · have := (B.way y hy).2.2.2
            rw [← q] at hlt
            simp [pW] at hlt
            omega) R
        omega
      | inr p =>
        rw [hsc] at sc
        obtain ⟨s1, L', s2, s3, s4⟩ := sc
        simp only
        have hP' : ∀ q ∈ pW x :: P, Dn E w st L' q := by
          intro q hq
          rcases List.mem_cons.mp hq with rfl | hq
          · exact s4
          · exact (hP q hq).mono s2
        cases hp1 : p.1 with
        | nil =>
          rw [hp1] at s1 s3
          exact ih (k + 1) [] p.2 L' (pW x :: P) x.1.length (by omega) s1 s3 (fun y Y z => by cases z) hP'
        | cons y Y =>
          rw [hp1] at s1 s3
          have hy := s3.way y List.mem_cons_self
          refine ih (k + 1) (y :: Y) p.2 L' (pW x :: P) y.1.length (by omega) s1 ⟨fun z hz => ?_, s3.rev, fun q hq => ?_, s3.wait, s3.srt, s3.ini⟩ (fun z Z e => by cases e; rfl) hP'
          · obtain ⟨a1, a2, a3, a4⟩ := s3.way z hz
            refine ⟨a1, a2, a3, ?_⟩
            rcases List.mem_cons.mp hz with rfl | hz
            · exact Nat.le_refl _
            · exact (List.pairwise_cons.mp s3.srt).1 z hz
          · have := s3.top q hq
            omega
theorem ring_ok (E : List Ed) (w : Str) (st : Int) : match ringF E w st with
    | none => ∀ es, ¬ Rg E w st es
    | some r => Rg E w st r ∧ ∀ es, Rg E w st es → r.length ≤ es.length :=
  brd_ok _ 0 _ _ [((st, st0), 0)] [] 0 rfl (RgOk.start E st) ⟨fun x hx => by rw [List.mem_singleton.mp hx]; exact ⟨(by intro e he; cases he), rfl, List.mem_singleton.mpr rfl, Nat.zero_le _⟩, (by intro y hy; cases hy), fun p hp => by rw [List.mem_singleton.mp hp]; exact Nat.zero_le _,
    fun p hp => .inr ⟨_, List.mem_singleton.mpr rfl, by rw [List.mem_singleton.mp hp]; rfl⟩, List.pairwise_singleton _ _, List.mem_singleton.mpr rfl⟩ (fun x W' e => by cases e; rfl) (by intro p hp; cases hp)
end K06

namespace K06
open PySem PySem.Spec PyProof.Rows L2 Ev EvR
/-! ### rings, as they are read -/
abbrev five : List Str := [sAn, sAp, sCi, sOw, sSi]
theorem five_ne : sAn ≠ sAp ∧ sAn ≠ sCi ∧ sAn ≠ sOw ∧ sAn ≠ sSi ∧ sAp ≠ sCi ∧ sAp ≠ sOw ∧ sAp ≠ sSi ∧ sCi ≠ sOw ∧ sCi ≠ sSi ∧ sOw ≠ sSi := by decide +kernel
theorem rw_ww : sRW ≠ sWW := by decide +kernel
theorem pl_rw : sPl ≠ sRW ∧ sPl ≠ sE0 ∧ sRW ≠ sE0 := by decide +kernel
def rwB (e : Ed) : Bool := decide (e.1 = sRW)
def nRw (es : List Ed) : Nat := (es.filter rwB).length
theorem nRw_cons (e : Ed) (es : List Ed) : nRw (e :: es) = (if rwB e = true then 1 else 0) + nRw es := by
  unfold nRw
  rw [List.filter_cons]
  split
  · simp; omega
  · simp
theorem nRw_app (l m : List Ed) : nRw (l ++ m) = nRw l + nRw m := by unfold nRw; rw [List.filter_append, List.length_append]
def chn (R : Ed → Ed → Prop) : Ed → List Ed → Prop
  | _, [] => True
  | a, b :: l => R a b ∧ chn R b l
def lst : Ed → List Ed → Ed
  | a, [] => a
  | _, b :: l => lst b l
theorem chn_app (R : Ed → Ed → Prop) : ∀ (a : Ed) (l m : List Ed), chn R a (l ++ m) ↔ chn R a l ∧ chn R (lst a l) m
  | a, [], m => by simp [chn, lst]
  | a, b :: l, m => by
    simp only [List.cons_append, chn, lst]
    rw [chn_app R b l m, and_assoc]
theorem lst_app : ∀ (a : Ed) (l m : List Ed), lst a (l ++ m) = lst (lst a l) m
  | a, [], m => rfl
  | a, b :: l, m => lst_app b l m
theorem lst_ne {l : List Ed} (h : l ≠ []) (a b : Ed) : lst a l = lst b l := by
  cases l with
  | nil => exact absurd rfl h
  | cons c l => rfl
theorem chn_like {R : Ed → Ed → Prop} {a a' : Ed} (h : ∀ f, R a f ↔ R a' f) (l : List Ed) : chn R a l ↔ chn R a' l := by
  cases l with
  | nil => rfl
  | cons b l => simp only [chn]; rw [h b]
/-- all around -/
def cyc (R : Ed → Ed → Prop) : List Ed → Prop
  | [] => False
  | a :: l => chn R (lst a l) (a :: l)
theorem cyc_lst {R : Ed → Ed → Prop} {l : List Ed} (h : l ≠ []) (a : Ed) : cyc R l ↔ chn R (lst a l) l := by
  cases l with
  | nil => exact absurd rfl h
  | cons b l => exact Iff.rfl
/-- one ring is cut into two -/
theorem cyc_cut {R : Ed → Ed → Prop} {x y : Ed} (h : ∀ f, R x f ↔ R y f) {P M S : List Ed} (c : cyc R (P ++ x :: (M ++ y :: S))) : cyc R (M ++ [y]) ∧ cyc R (P ++ x :: S) := by
  rw [cyc_lst (by simp) x] at c ⊢
  rw [cyc_lst (by simp) x]
  have e1 : P ++ x :: (M ++ y :: S) = (P ++ [x]) ++ ((M ++ [y]) ++ S) := by simp
  have e2 : P ++ x :: S = (P ++ [x]) ++ S := by simp
  rw [e1] at c
  rw [e2]
  rw [chn_app, chn_app _ _ (M ++ [y])] at c
  obtain ⟨c1, c2, c3⟩ := c
  have l1 : ∀ z, lst z (P ++ [x]) = x := fun z => by rw [lst_app]; rfl
  have l2 : ∀ z, lst z (M ++ [y]) = y := fun z => by rw [lst_app]; rfl
  rw [l1] at c2 c3
  rw [l2] at c3
  rw [lst_app, lst_app, l2] at c1
  refine ⟨?_, ?_⟩
  · rw [l2]
    exact (chn_like h _).mp c2
  · rw [chn_app, l1 (lst x (P ++ [x] ++ S)), lst_app, l1]
    refine ⟨?_, (chn_like h _).mpr c3⟩
    cases S with
    | nil => exact (chn_like h _).mpr c1
    | cons s S => exact c1
theorem dup_of {α β : Type} [DecidableEq β] {f : α → β} : ∀ {l : List α}, ¬ (l.map f).Nodup → ∃ P x M y S, l = P ++ x :: (M ++ y :: S) ∧ f x = f y
  | [], h => absurd List.nodup_nil h
  | a :: l, h => by
    rw [List.map_cons, List.nodup_cons] at h
    by_cases q : f a ∈ l.map f
    · obtain ⟨y, hy, e⟩ := List.mem_map.mp q
      obtain ⟨M, S, rfl⟩ := List.append_of_mem hy
      exact ⟨[], a, M, y, S, rfl, e.symm⟩
    · obtain ⟨P, x, M, y, S, rfl, e⟩ := dup_of (l := l) fun z => h ⟨q, z⟩
      exact ⟨a :: P, x, M, y, S, rfl, e⟩
def Jn (e f : Ed) : Prop := f.2.1 = e.2.2.1
def Na (e f : Ed) : Prop := ¬ (rwB e = true ∧ rwB f = true)
/-- the kinds that a ring of a word has -/
def KL (w : Str) (es : List Ed) : Prop :=
  if w = sOw then ∀ e ∈ es, e.1 = sWW else if w = sCi then nRw es = 0 else if w = sSi then nRw es = 1 else if w = sAn then 0 < nRw es else 0 < nRw es ∧ cyc Na es
theorem KL_ow (es : List Ed) : KL sOw es ↔ ∀ e ∈ es, e.1 = sWW := by unfold KL; rw [if_pos rfl]
theorem KL_ci (es : List Ed) : KL sCi es ↔ nRw es = 0 := by
  obtain ⟨_, _, _, _, _, _, _, h, _⟩ := five_ne
  unfold KL; rw [if_neg h, if_pos rfl]
theorem KL_si (es : List Ed) : KL sSi es ↔ nRw es = 1 := by
  obtain ⟨_, _, _, _, _, _, _, _, h, h2⟩ := five_ne
  unfold KL; rw [if_neg h2.symm, if_neg h.symm, if_pos rfl]
theorem KL_an (es : List Ed) : KL sAn es ↔ 0 < nRw es := by
  obtain ⟨_, h1, h2, h3, _⟩ := five_ne
  unfold KL; rw [if_neg h2, if_neg h1, if_neg h3, if_pos rfl]
theorem KL_ap (es : List Ed) : KL sAp es ↔ 0 < nRw es ∧ cyc Na es := by
  obtain ⟨h0, _, _, _, h1, h2, h3, _⟩ := five_ne
  unfold KL; rw [if_neg h2, if_neg h1, if_neg h3, if_neg h0.symm]
/-- a ring, as it is read -/
structure RL (w : Str) (es : List Ed) : Prop where
  jn : cyc Jn es
  kl : KL w es
theorem RL_cut {w : Str} (hw : w ∈ five) {x y : Ed} (h : x.2.2.1 = y.2.2.1 ∧ rwB x = rwB y) {P M S : List Ed} (R : RL w (P ++ x :: (M ++ y :: S))) : RL w (M ++ [y]) ∨ RL w (P ++ x :: S) := by
  obtain ⟨j1, j2⟩ := cyc_cut (R := Jn) (fun f => by unfold Jn; rw [h.1]) R.jn
  have k := R.kl
  have hn : nRw (P ++ x :: (M ++ y :: S)) = nRw (M ++ [y]) + nRw (P ++ x :: S) := by
    simp only [nRw_app, nRw_cons]
    have : nRw [] = 0 := rfl
    omega
  simp only [List.mem_cons, List.not_mem_nil, or_false] at hw
  rcases hw with rfl | rfl | rfl | rfl | rfl
  · rw [KL_an] at k
    by_cases q : 0 < nRw (M ++ [y])
    · exact .inl ⟨j1, (KL_an _).mpr q⟩
    · exact .inr ⟨j2, (KL_an _).mpr (by omega)⟩
  · rw [KL_ap] at k
    obtain ⟨n1, n2⟩ := cyc_cut (R := Na) (fun f => by unfold Na; rw [h.2]) k.2
    by_cases q : 0 < nRw (M ++ [y])
    · exact .inl ⟨j1, (KL_ap _).mpr ⟨q, n1⟩⟩
    · exact .inr ⟨j2, (KL_ap _).mpr ⟨by omega, n2⟩⟩
  · rw [KL_ci] at k
    exact .inl ⟨j1, (KL_ci _).mpr (by omega)⟩
  · rw [KL_ow] at k
    refine .inl ⟨j1, (KL_ow _).mpr fun e he => k e ?_⟩
    rcases List.mem_append.mp he with he | he
    · simp [he]
    · rw [List.mem_singleton.mp he]; simp
  · rw [KL_si] at k
    by_cases q : nRw (M ++ [y]) = 1
    · exact .inl ⟨j1, (KL_si _).mpr q⟩
    · exact .inr ⟨j2, (KL_si _).mpr (by omega)⟩
/-- a long ring has a shorter one in it -/
theorem RL_short {w : Str} (hw : w ∈ five) {B : List Int} {es : List Ed} (hB : ∀ e ∈ es, e.2.2.1 ∈ B) (R : RL w es) (hl : 2 * B.length < es.length) : ∃ fs, RL w fs ∧ fs.length < es.length ∧ ∀ e ∈ fs, e ∈ es := by
  have hd : ¬ (es.map fun e => (e.2.2.1, rwB e)).Nodup := by
    intro n
    have := nodup_len n (m := B.flatMap fun b => [(b, true), (b, false)]) fun p hp => by
      obtain ⟨e, he, rfl⟩ := List.mem_map.mp hp
      refine List.mem_flatMap.mpr ⟨e.2.2.1, hB e he, ?_⟩
      cases rwB e <;> simp
    have e : (B.flatMap fun b => [(b, true), (b, false)]).length = 2 * B.length := by
      clear this hB hl
      induction B with
      | nil => rfl
      | cons b B ih => rw [List.flatMap_cons, List.length_append, ih]; simp; omega
    rw [List.length_map] at this
    omega
  obtain ⟨P, x, M, y, S, rfl, e⟩ := dup_of hd
  simp only [Prod.mk.injEq] at e
  rcases RL_cut hw e R with q | q
  · exact ⟨_, q, by simp; omega, fun f hf => by
      rcases List.mem_append.mp hf with hf | hf
      · simp [hf]
      · rw [List.mem_singleton.mp hf]; simp⟩
  · exact ⟨_, q, by simp; omega, fun f hf => by
      rcases List.mem_append.mp hf with hf | hf
      · simp [hf]
      · rcases List.mem_cons.mp hf with hf | hf <;> simp [hf]⟩
/-! the program's reading -/
def foldS (w : Str) : Sta → List Ed → Option Sta
  | s, [] => some s
  | s, e :: es => match letS w s e with
    | none => none
    | some t => foldS w t es
theorem fold_an : ∀ (es : List Ed) (s : Sta), 0 ≤ s.1 → ∃ t, foldS sAn s es = some t ∧ (0 < t.1 ↔ 0 < s.1 + (nRw es : Int))
  | [], s, h => ⟨s, rfl, by simp [nRw]⟩
  | e :: es, s, h => by
    obtain ⟨h0, h1, h2, h3, _⟩ := five_ne
    unfold foldS letS
    rw [nRw_cons]
    by_cases c : e.1 = sRW
    · rw [if_neg (by simpa using c), if_neg (by simp [h1, h2, h3]), if_neg (by simp [h0])]
      obtain ⟨t, e1, e2⟩ := fold_an es (min (s.1 + 1) 2, s.2.1 || decide (s.2.2 = sE0), sRW) (by simp; omega)
      refine ⟨t, e1, e2.trans ?_⟩
      simp [rwB, c]
      omega
    · rw [if_pos c, if_neg (by simp [h2])]
      obtain ⟨t, e1, e2⟩ := fold_an es (s.1, s.2.1, sPl) h
      refine ⟨t, e1, e2.trans ?_⟩
      simp [rwB, c]
theorem fold_si : ∀ (es : List Ed) (s : Sta), (s.1 = 0 ∨ s.1 = 1) → ((∃ t, foldS sSi s es = some t ∧ t.1 = 1) ↔ s.1 + (nRw es : Int) = 1)
  | [], s, h => by simp [foldS, nRw]
  | e :: es, s, h => by
    obtain ⟨_, _, _, h3, _, _, h4, _, h5, h6⟩ := five_ne
    unfold foldS letS
    rw [nRw_cons]
    by_cases c : e.1 = sRW
    · rw [if_neg (by simpa using c)]
      by_cases c1 : s.1 = 1
      · rw [if_pos (.inr ⟨rfl, c1⟩)]
        simp [rwB, c]
        omega
      · rw [if_neg (by simp [h5.symm, h6.symm, c1]), if_neg (by simp [h4.symm])]
        have ih := fold_si es (min (s.1 + 1) 2, s.2.1 || decide (s.2.2 = sE0), sRW) (by simp; omega)
        refine ih.trans ?_
        simp [rwB, c]
        omega
    · rw [if_pos c, if_neg (by simp [h6.symm])]
      have ih := fold_si es (s.1, s.2.1, sPl) h
      refine ih.trans ?_
      simp [rwB, c]
theorem fold_ci : ∀ (es : List Ed) (s : Sta), (∃ t, foldS sCi s es = some t) ↔ nRw es = 0
  | [], s => by simp [foldS, nRw]
  | e :: es, s => by
    obtain ⟨_, _, _, _, _, _, _, h, _⟩ := five_ne
    unfold foldS letS
    rw [nRw_cons]
    by_cases c : e.1 = sRW
    · rw [if_neg (by simpa using c), if_pos (.inl (.inr rfl))]
      simp [rwB, c]
    · rw [if_pos c, if_neg (by simp [h])]
      refine (fold_ci es _).trans ?_
      simp [rwB, c]
theorem fold_ow : ∀ (es : List Ed) (s : Sta), (∃ t, foldS sOw s es = some t) ↔ ∀ e ∈ es, e.1 = sWW
  | [], s => by simp [foldS]
  | e :: es, s => by
    unfold foldS letS
    by_cases c : e.1 = sRW
    · rw [if_neg (by simpa using c), if_pos (.inl (.inl rfl))]
      simp [c, rw_ww]
    · rw [if_pos c]
      by_cases c2 : e.1 = sWW
      · rw [if_neg (by simp [c2])]
        refine (fold_ow es _).trans ?_
        simp [c2]
      · rw [if_pos ⟨rfl, c2⟩]
        simp [c2]
/-- the kinds' last word -/
def kd (e : Ed) : Str := if e.1 = sRW then sRW else sPl
theorem fold_ap : ∀ (es : List Ed) (e : Ed) (s : Sta), s.2.2 = kd e → 0 ≤ s.1 → (∀ t, foldS sAp s es = some t → chn Na e es ∧ (0 < t.1 ↔ 0 < s.1 + (nRw es : Int)) ∧ t.2.1 = s.2.1 ∧ t.2.2 = kd (lst e es)) ∧ (chn Na e es → ∃ t, foldS sAp s es = some t)
  | [], e, s, h, h0 => ⟨fun t ht => by cases ht; exact ⟨trivial, by simp [nRw], rfl, h⟩, fun _ => ⟨s, rfl⟩⟩
  | f :: es, e, s, h, h0 => by
    obtain ⟨_, _, _, _, h1, h2, h3, _⟩ := five_ne
    obtain ⟨p1, p2, p3⟩ := pl_rw
    unfold foldS letS
    rw [nRw_cons]
    simp only [chn, lst]
    by_cases c : f.1 = sRW
    · rw [if_neg (by simpa using c), if_neg (by simp [h1, h2, h3])]
      by_cases c2 : e.1 = sRW
      · rw [if_pos ⟨trivial, by rw [h]; simp [kd, c2]⟩]
        refine ⟨fun t ht => by simp at ht, fun q => ?_⟩
        exact absurd (show rwB e = true ∧ rwB f = true from ⟨by simp [rwB, c2], by simp [rwB, c]⟩) q.1
      · have hk : s.2.2 = sPl := by rw [h]; simp [kd, c2]
        rw [if_neg (by rw [hk]; simp [p1])]
        obtain ⟨i1, i2⟩ := fold_ap es f (min (s.1 + 1) 2, s.2.1 || decide (s.2.2 = sE0), sRW) (by simp [kd, c]) (by simp; omega)
        refine ⟨fun t ht => ?_, fun q => i2 q.2⟩
        obtain ⟨a1, a2, a3, a4⟩ := i1 t ht
        refine ⟨⟨fun z => by simp [rwB, c2] at z, a1⟩, a2.trans (by simp [rwB, c]; omega), by rw [a3, hk]; simp [p2], a4⟩
    · rw [if_pos c, if_neg (by simp [h2])]
      obtain ⟨i1, i2⟩ := fold_ap es f (s.1, s.2.1, sPl) (by simp [kd, c]) h0
      refine ⟨fun t ht => ?_, fun q => i2 q.2⟩
      obtain ⟨a1, a2, a3, a4⟩ := i1 t ht
      exact ⟨⟨fun z => by simp [rwB, c] at z, a1⟩, a2.trans (by simp [rwB, c]), a3, a4⟩
/-- both readings say the same -/
theorem fold_KL {w : Str} (hw : w ∈ five) {es : List Ed} (ne : es ≠ []) : (∃ t, foldS w st0 es = some t ∧ doneS w t = true) ↔ KL w es := by
  obtain ⟨n1, n2, n3, n4, n5, n6, n7, n8, n9, n10⟩ := five_ne
  obtain ⟨p1, p2, p3⟩ := pl_rw
  simp only [List.mem_cons, List.not_mem_nil, or_false] at hw
  rcases hw with rfl | rfl | rfl | rfl | rfl
  · rw [KL_an]
    obtain ⟨t, e1, e2⟩ := fold_an es st0 (by simp)
    have d : doneS sAn t = decide (0 < t.1) := by unfold doneS; rw [if_neg n4, if_pos rfl]
    constructor
    · rintro ⟨t', h1, h2⟩
      rw [e1] at h1
      cases h1
      rw [d] at h2
      have := e2.mp (of_decide_eq_true h2)
      simp at this
      omega
    · intro h
      exact ⟨t, e1, by rw [d]; exact decide_eq_true (e2.mpr (by simp; omega))⟩
  · rw [KL_ap]
    have d : ∀ t : Sta, doneS sAp t = (decide (0 < t.1) && !(t.2.1 && decide (t.2.2 = sRW))) := fun t => by unfold doneS; rw [if_neg n7, if_neg n1.symm]; simp
    cases es with
    | nil => exact absurd rfl ne
    | cons e es =>
      rw [nRw_cons]
      have cy : cyc Na (e :: es) ↔ Na (lst e es) e ∧ chn Na e es := Iff.rfl
      rw [cy]
      unfold foldS letS
      have kk : ∀ f : Ed, kd f = sRW ↔ rwB f = true := fun f => by
        unfold kd rwB
        by_cases q : f.1 = sRW <;> simp [q, p1]
      by_cases c : e.1 = sRW
      · have cb : rwB e = true := by simp [rwB, c]
        rw [if_neg (by simpa using c), if_neg (by simp [n5, n6, n7]), if_neg (by simp [p3.symm])]
        obtain ⟨i1, i2⟩ := fold_ap es e (min (st0.1 + 1) 2, st0.2.1 || decide (st0.2.2 = sE0), sRW) (by simp [kd, c]) (by decide)
        simp only
        constructor
        · rintro ⟨t, ht, hd⟩
          obtain ⟨a1, a2, a3, a4⟩ := i1 t ht
          rw [d, a3, a4] at hd
          simp at hd
          refine ⟨by simp [cb]; omega, ?_, a1⟩
          rintro ⟨z1, z2⟩
          exact absurd ((kk _).mpr z1) hd.2
        · rintro ⟨q1, q2, q3⟩
          obtain ⟨t, ht⟩ := i2 q3
          obtain ⟨a1, a2, a3, a4⟩ := i1 t ht
          refine ⟨t, ht, ?_⟩
          rw [d, a3, a4]
          have : 0 < t.1 := a2.mpr (by simp; omega)
          simp [this]
          intro z
          exact q2 ⟨(kk _).mp z, cb⟩
      · have cb : rwB e = false := by simp [rwB, c]
        rw [if_pos c, if_neg (by simp [n6])]
        obtain ⟨i1, i2⟩ := fold_ap es e (st0.1, st0.2.1, sPl) (by simp [kd, c]) (by simp)
        simp only
        constructor
        · rintro ⟨t, ht, hd⟩
          obtain ⟨a1, a2, a3, a4⟩ := i1 t ht
          rw [d, a3, a4] at hd
          simp at hd
          have := a2.mp hd
          simp at this
          refine ⟨by simp [cb]; omega, ?_, a1⟩
          rintro ⟨z1, z2⟩
          rw [cb] at z2
          cases z2
        · rintro ⟨q1, q2, q3⟩
          obtain ⟨t, ht⟩ := i2 q3
          obtain ⟨a1, a2, a3, a4⟩ := i1 t ht
          refine ⟨t, ht, ?_⟩
          rw [d, a3]
          simp [cb] at q1
          have : 0 < t.1 := a2.mpr (by simp; omega)
          simp [this]
  · rw [KL_ci]
    have d : ∀ t : Sta, doneS sCi t = true := fun t => by unfold doneS; rw [if_neg n9, if_neg n2.symm]; simp [n5.symm]
    rw [← fold_ci es st0]
    exact ⟨fun ⟨t, h, _⟩ => ⟨t, h⟩, fun ⟨t, h⟩ => ⟨t, h, d t⟩⟩
  · rw [KL_ow]
    have d : ∀ t : Sta, doneS sOw t = true := fun t => by unfold doneS; rw [if_neg n10, if_neg n3.symm]; simp [n6.symm]
    rw [← fold_ow es st0]
    exact ⟨fun ⟨t, h, _⟩ => ⟨t, h⟩, fun ⟨t, h⟩ => ⟨t, h, d t⟩⟩
  · rw [KL_si]
    have d : ∀ t : Sta, doneS sSi t = decide (t.1 = 1) := fun t => by unfold doneS; rw [if_pos rfl]
    have h := fold_si es st0 (.inl rfl)
    simp only [d, decide_eq_true_eq]
    rw [h]
    simp
    omega
/-- ways, as chains -/
theorem goes_chn (w : Str) : ∀ (es : List Ed) (f : Ed) (s : Sta) (y : Int × Sta), goes w (f.2.2.1, s) es = some y ↔ (foldS w s es = some y.2 ∧ chn Jn f es ∧ y.1 = (lst f es).2.2.1)
  | [], f, s, y => by
    simp only [goes, foldS, chn, lst, Option.some.injEq]
    constructor
    · rintro rfl; exact ⟨rfl, trivial, rfl⟩
    · rintro ⟨h1, _, h2⟩; exact Prod.ext h2.symm h1
  | e :: es, f, s, y => by
    simp only [goes, foldS, chn, lst]
    by_cases c : e.2.1 = f.2.2.1
    · rw [if_pos c]
      cases letS w s e with
      | none => simp
      | some t =>
        simp only
        rw [goes_chn w es e t y]
        have : Jn f e := c
        simp [this]
    · rw [if_neg c]
      constructor
      · intro h; cases h
      · rintro ⟨_, h, _⟩; exact absurd h.1 c
theorem Rg_RL {E : List Ed} {w : Str} (hw : w ∈ five) {st : Int} {es : List Ed} (R : Rg E w st es) : RL w es ∧ ∀ e ∈ es, e ∈ E := by
  obtain ⟨ne, sub, t, hg, hd⟩ := R
  cases es with
  | nil => exact absurd rfl ne
  | cons e es =>
    have h := (goes_chn w (e :: es) ("", 0, st, 0) st0 (st, t)).mp hg
    obtain ⟨h1, h2, h3⟩ := h
    refine ⟨⟨?_, (fold_KL hw ne).mp ⟨t, h1, hd⟩⟩, sub⟩
    show chn Jn (lst e es) (e :: es)
    refine (chn_like (a := ("", 0, st, 0)) (fun f => ?_) _).mp h2
    unfold Jn
    simp only at h3 ⊢
    rw [h3]
    rfl
theorem RL_Rg {E : List Ed} {w : Str} (hw : w ∈ five) {es : List Ed} (R : RL w es) (sub : ∀ e ∈ es, e ∈ E) : ∃ st, st ∈ E.map (fun e => e.2.1) ∧ Rg E w st es := by
  cases es with
  | nil => exact absurd R.jn id
  | cons e es =>
    have ne : e :: es ≠ [] := by simp
    obtain ⟨t, h1, h2⟩ := (fold_KL hw ne).mpr R.kl
    have j : chn Jn (lst e es) (e :: es) := R.jn
    refine ⟨e.2.1, List.mem_map.mpr ⟨e, sub e List.mem_cons_self, rfl⟩, ne, sub, t, ?_, h2⟩
    have hj : e.2.1 = (lst e es).2.2.1 := j.1
    refine (goes_chn w (e :: es) ("", 0, e.2.1, 0) st0 (e.2.1, t)).mpr ⟨h1, ?_, hj⟩
    refine (chn_like (a := lst e es) (fun f => ?_) _).mp j
    unfold Jn
    simp only
    rw [hj]
/-- a shortest ring has at most twice as many edges as there are works -/
theorem Rg_small {E : List Ed} {w : Str} (hw : w ∈ five) {B : List Int} (hB : ∀ e ∈ E, e.2.2.1 ∈ B) : ∀ (n : Nat) {st : Int} {es : List Ed}, es.length = n → Rg E w st es → ∃ st' fs, Rg E w st' fs ∧ fs.length ≤ 2 * B.length := by
  intro n
  induction n using Nat.strongRecOn with
  | _ n ih =>
    intro st es hn R
    by_cases h : 2 * B.length < es.length
    · obtain ⟨hR, sub⟩ := Rg_RL hw R
      obtain ⟨fs, f1, f2, f3⟩ := RL_short hw (fun e he => hB e (sub e he)) hR h
      obtain ⟨st', _, R'⟩ := RL_Rg hw f1 (fun e he => sub e (f3 e he))
      exact ih fs.length (by omega) rfl R'
    · exact ⟨st, es, R, by omega⟩
/-- the first of the shortest -/
def ringsF (E : List Ed) (w : Str) : List (List Ed) := (uniqI (E.map fun e => e.2.1)).filterMap (ringF E w)
def leastN : List (List Ed) → Nat
  | [] => 0
  | [r] => r.length
  | r :: l => min r.length (leastN l)
theorem leastN_cons {r : List Ed} {l : List (List Ed)} (h : l ≠ []) : leastN (r :: l) = min r.length (leastN l) := by
  cases l with
  | nil => exact absurd rfl h
  | cons a l => rfl
theorem leastN_le : ∀ {l : List (List Ed)} {r : List Ed}, r ∈ l → leastN l ≤ r.length
  | [a], r, h => by rw [List.mem_singleton.mp h]; exact Nat.le_refl _
  | a :: b :: l, r, h => by
    rw [leastN_cons (by simp)]
    rcases List.mem_cons.mp h with rfl | h
    · exact Nat.min_le_left _ _
    · exact Nat.le_trans (Nat.min_le_right _ _) (leastN_le h)
theorem leastN_mem : ∀ {l : List (List Ed)}, l ≠ [] → ∃ r ∈ l, r.length = leastN l
  | [a], _ => ⟨a, by simp, rfl⟩
  | a :: b :: l, _ => by
    rw [leastN_cons (by simp)]
    obtain ⟨r, h1, h2⟩ := leastN_mem (l := b :: l) (by simp)
    by_cases c : a.length ≤ leastN (b :: l)
    · exact ⟨a, by simp, by omega⟩
    · exact ⟨r, List.mem_cons_of_mem _ h1, by omega⟩
def shortF (E : List Ed) (w : Str) : Option (List Ed) := ((ringsF E w).filter fun r => decide (r.length = leastN (ringsF E w))).head?
theorem short_none {E : List Ed} {w : Str} (h : shortF E w = none) : ringsF E w = [] := by
  unfold shortF at h
  rw [List.head?_eq_none_iff, List.filter_eq_nil_iff] at h
  by_cases q : ringsF E w = []
  · exact q
  · obtain ⟨r, h1, h2⟩ := leastN_mem q
    exact absurd (decide_eq_true h2) (h r h1)
theorem Rg_start {E : List Ed} {w : Str} {st : Int} {es : List Ed} (R : Rg E w st es) : st ∈ uniqI (E.map fun e => e.2.1) := by
  obtain ⟨ne, sub, t, hg, _⟩ := R
  cases es with
  | nil => exact absurd rfl ne
  | cons e es =>
    refine (uniq_mem linI _ _).mpr ?_
    refine List.mem_map.mpr ⟨e, sub e List.mem_cons_self, ?_⟩
    unfold goes at hg
    split at hg
    · rename_i q; exact q
    · cases hg
theorem short_ok (E : List Ed) (w : Str) : match shortF E w with
    | none => ∀ st es, ¬ Rg E w st es
    | some r => (∃ st, Rg E w st r) ∧ ∀ st es, Rg E w st es → r.length ≤ es.length := by
  have key : ∀ st es, Rg E w st es → ∃ r ∈ ringsF E w, r.length ≤ es.length := by
    intro st es R
    have ok := ring_ok E w st
    cases h : ringF E w st with
    | none => rw [h] at ok; exact absurd R (ok es)
    | some r =>
      rw [h] at ok
      exact ⟨r, List.mem_filterMap.mpr ⟨st, Rg_start R, h⟩, ok.2 es R⟩
  cases hs : shortF E w with
  | none =>
    intro st es R
    obtain ⟨r, hr, _⟩ := key st es R
    rw [short_none hs] at hr
    cases hr
  | some r =>
    unfold shortF at hs
    have hm := List.mem_of_head? hs
    obtain ⟨h1, h2⟩ := List.mem_filter.mp hm
    have h2 := of_decide_eq_true h2
    obtain ⟨st, _, h3⟩ := List.mem_filterMap.mp h1
    have ok := ring_ok E w st
    rw [h3] at ok
    refine ⟨⟨st, ok.1⟩, fun st' es R => ?_⟩
    obtain ⟨r', hr', hl⟩ := key st' es R
    have := leastN_le hr'
    omega
end K06

namespace K06
open PySem PySem.Spec PyProof.Rows L2 Ev EvR
/-! ### the shortest ring -/
theorem some_map {α : Type} : ∀ l : List (Option (List α)), (l.filter Option.isSome).map (fun o => o.getD []) = l.filterMap id
  | [] => rfl
  | none :: l => by simpa using some_map l
  | some a :: l => by simpa using some_map l
theorem rings_eq (E : List Ed) (w : Str) : (((uniqI (E.map fun e => e.2.1)).map (ringF E w)).filter Option.isSome).map (fun o => o.getD []) = ringsF E w := by
  rw [some_map, List.filterMap_map]
  rfl
theorem foldmin_le : ∀ (l : List Int) (i : Int), l.foldl min i ≤ i ∧ (∀ x ∈ l, l.foldl min i ≤ x) ∧ (l.foldl min i = i ∨ l.foldl min i ∈ l)
  | [], i => ⟨Int.le_refl _, (by intro x hx; cases hx), .inl rfl⟩
  | a :: l, i => by
    obtain ⟨h1, h2, h3⟩ := foldmin_le l (min i a)
    simp only [List.foldl_cons]
    refine ⟨by omega, fun x hx => ?_, ?_⟩
    · rcases List.mem_cons.mp hx with rfl | hx
      · omega
      · exact h2 x hx
    · rcases h3 with h3 | h3
      · by_cases c : i ≤ a
        · left; omega
        · right; rw [h3]; rw [show min i a = a by omega]; exact List.mem_cons_self
      · right; exact List.mem_cons_of_mem _ h3
theorem leastI_eq {l : List (List Ed)} (h : l ≠ []) : leastI (l.map fun r => (r.length : Int)) = (leastN l : Nat) := by
  obtain ⟨r, h1, h2⟩ := leastN_mem h
  have hle : ∀ x ∈ l.map (fun r => (r.length : Int)), ((leastN l : Nat) : Int) ≤ x := fun x hx => by
    obtain ⟨s, hs, rfl⟩ := List.mem_map.mp hx
    have := leastN_le hs
    omega
  have hin : ((leastN l : Nat) : Int) ∈ l.map fun r => (r.length : Int) := List.mem_map.mpr ⟨r, h1, by rw [h2]⟩
  generalize l.map (fun r => (r.length : Int)) = m at hle hin
  cases m with
  | nil => cases hin
  | cons a m =>
    obtain ⟨f1, f2, f3⟩ := foldmin_le m a
    show m.foldl min a = _
    have g1 : m.foldl min a ≤ (leastN l : Nat) := by
      rcases List.mem_cons.mp hin with e | e
      · rw [e]; exact f1
      · exact f2 _ e
    have g2 : ((leastN l : Nat) : Int) ≤ m.foldl min a := by
      rcases f3 with e | e
      · rw [e]; exact hle a List.mem_cons_self
      · exact hle _ (List.mem_cons_of_mem _ e)
    omega
theorem min_li {l : List Int} (h : l ≠ []) {Q : D → Prop} {X : Exc → Prop} (q : Q (.int (leastI l))) : (minD (.list (l.map .int))).run Q X := by
  show (optW (intsOf (l.map .int)) fun bs => (W.ask (0 < bs.length)).bind fun _ => W.ret (PyData.int (leastI bs))).run Q X
  rw [intsOf_map]
  exact ⟨List.length_pos_iff.mpr h, q⟩
theorem shortest_run {E : List Ed} (hz : E.length ≤ 200) {w : Str} (hw : w ∈ five) (hu : (uniqI (E.map fun e => e.2.1)).length < 64) {Q : D → Prop} {X : Exc → Prop} (q : Q (roD (shortF E w))) : (f_shortest_ring [.d (.list (E.map edD)), .d (.str w)]).run Q X := by
  have hsc : E.length + 1 < scanBound := scan7 (by omega)
  have hrl : (ringsF E w).length ≤ (uniqI (E.map fun e => e.2.1)).length := List.length_filterMap_le _ _
  unfold f_shortest_ring
  simp [b_shortest_ring, -dT_cons]
  refine ife_no ?_ ?_
  · have e : v_RINGS = .tuple ([sAn, sAp, sCi, sOw, sSi].map .str) := rfl
    simp
    rw [e]
    refine in_ts.mpr ?_
    simp only [hw, decide_true]
    rfl
  refine stp ?_
  simp [-dT_cons]
  refine fun _ => ⟨line8 (by omega), ?_⟩
  refine lcD_mp (enc := edD) (enc' := PyData.int) (fun e : Ed => e.2.1) (fun e he R' hR => ?_) ?_
  · simp [turnB, wipeR]
    exact hR
  rw [srtS_li]
  refine ⟨⟨by rw [List.length_map]; exact hsc, hu⟩, ?_⟩
  refine stp ?_
  simp [-dT_cons]
  refine fun _ => ⟨line8 (by omega), ?_⟩
  refine lcD_mp (enc := PyData.int) (enc' := roD) (ringF E w) (fun st hst R' hR => ?_) ?_
  · simp [turnB, wipeR]
    exact ring_from_run hz hR
  refine stp ?_
  simp [-dT_cons, -List.map_map]
  refine fun _ => ⟨line8 (by omega), ?_⟩
  refine lcD_fm (enc := roD) (enc' := rgD) Option.isSome (fun o => o.getD []) (fun o ho R' h1 h0 => ?_) ?_
  · simp [turnB, wipeR]
    cases o with
    | none => exact h0 rfl
    | some r => exact h1 rfl
  rw [rings_eq]
  have fin : shortF E w = ((ringsF E w).filter fun r => decide (r.length = leastN (ringsF E w))).head? := rfl
  generalize ringsF E w = L at hrl fin
  cases L with
  | nil =>
    rw [fin] at q
    refine ife_then ?_ ?_
    · simp
    simp
    exact q
  | cons r L =>
    refine ife_no ?_ ?_
    · simp
      omega
    have hml : leastI ((r :: L).map fun r => (r.length : Int)) = (leastN (r :: L) : Nat) := leastI_eq (by simp)
    generalize hN : leastN (r :: L) = N at hml fin
    generalize hR : r :: L = M at hml fin hrl
    have hM : M ≠ [] := by rw [← hR]; simp
    refine stp ?_
    simp [-dT_cons]
    refine fun _ => ⟨line8 (by omega), ?_⟩
    refine lcD_mp (enc := rgD) (enc' := PyData.int) (fun r => (r.length : Int)) (fun r hr R' hR' => ?_) ?_
    · simp [turnB, wipeR]
      exact fun _ => hR'
    refine min_li (by simpa using hM) ?_
    rw [hml]
    refine stp ?_
    simp
    refine fun _ => ⟨line8 (by omega), ?_⟩
    refine lcD_fm (enc := rgD) (enc' := rgD) (fun r => decide (r.length = N)) id (fun r hr R' h1 h0 => ?_) ?_
    · simp [turnB, wipeR]
      intro _
      by_cases e : r.length = N
      · rw [if_pos (by rw [e])]; exact h1 (decide_eq_true e)
      · rw [if_neg (by omega)]; exact h0 (decide_eq_false e)
    rw [List.map_id]
    rw [fin] at q
    obtain ⟨r0, hr0, hl0⟩ := leastN_mem hM
    have hin : r0 ∈ M.filter fun r => decide (r.length = N) := List.mem_filter.mpr ⟨hr0, decide_eq_true (by rw [hl0, ← hN, hR])⟩
    generalize (M.filter fun r => decide (r.length = N)) = A at hin q
    cases A with
    | nil => cases hin
    | cons a A => exact ix_l (Ev.atI_nat (n := 0) rfl) q
theorem dep_eds (r : List Ed) : PyData.depthAll (r.map edD) ≤ 1 := by
  induction r with
  | nil => simp [PyData.depthAll]
  | cons a r ih =>
    simp [PyData.depthAll, PyData.depth]
    omega
theorem nd_eds (r : List Ed) : ndAll (r.map edD) = true := by
  induction r with
  | nil => rfl
  | cons a r ih => simp [ndAll, nd]; exact ih
theorem sh_rg (r : List Ed) : sh (rgD r) = true := by
  have h1 := dep_eds r
  have h2 := nd_eds r
  simp [sh, PyData.depth, h2]
  omega
theorem dep_rgs (L : List (List Ed)) : PyData.depthAll (L.map rgD) ≤ 2 := by
  induction L with
  | nil => simp [PyData.depthAll]
  | cons a L ih =>
    have h1 := dep_eds a
    simp [PyData.depthAll, PyData.depth]
    omega
theorem nd_rgs (L : List (List Ed)) : ndAll (L.map rgD) = true := by
  induction L with
  | nil => rfl
  | cons a L ih =>
    have h2 := nd_eds a
    simp [ndAll, nd, h2]
    exact ih
theorem sh_rgs (L : List (List Ed)) : sh (.list (L.map rgD)) = true := by
  have h1 := dep_rgs L
  have h2 := nd_rgs L
  simp [sh, PyData.depth, h2]
  omega
theorem l_ring_run {E : List Ed} (hz : E.length ≤ 200) {w : Str} (hu : (uniqI (E.map fun e => e.2.1)).length < 64) {Q : D → Prop} {X : Exc → Prop} (q : Q (roD (shortF E w))) : (f_l_ring [.d (.list (E.map edD)), .d (.str w)]).run Q X := by
  have hsc : E.length + 1 < scanBound := scan7 (by omega)
  have hrl : (ringsF E w).length ≤ (uniqI (E.map fun e => e.2.1)).length := List.length_filterMap_le _ _
  unfold f_l_ring
  simp [b_l_ring, -dT_cons]
  refine stp ?_
  simp [-dT_cons]
  refine fun _ => ⟨line8 (by omega), ?_⟩
  refine lcD_mp (enc := edD) (enc' := PyData.int) (fun e : Ed => e.2.1) (fun e he R' hR => ?_) ?_
  · simp [turnB, wipeR]
    exact hR
  rw [srtS_li]
  refine ⟨⟨by rw [List.length_map]; exact hsc, hu⟩, ?_⟩
  simp [-dT_cons, -List.map_map]
  refine fun _ => ⟨line8 (by omega), ?_⟩
  refine lcD_mp (enc := PyData.int) (enc' := roD) (ringF E w) (fun st hst R' hR => ?_) ?_
  · simp [turnB, wipeR]
    exact l_ring_from_run hz hR
  refine stp ?_
  simp [-dT_cons, -List.map_map]
  refine fun _ => ⟨line8 (by omega), ?_⟩
  refine lcD_fm (enc := roD) (enc' := rgD) Option.isSome (fun o => o.getD []) (fun o ho R' h1 h0 => ?_) ?_
  · simp [turnB, wipeR]
    cases o with
    | none => exact h0 rfl
    | some r => exact h1 rfl
  rw [rings_eq]
  have fin : shortF E w = ((ringsF E w).filter fun r => decide (r.length = leastN (ringsF E w))).head? := rfl
  have hsh := sh_rgs (ringsF E w)
  generalize ringsF E w = L at hrl fin hsh
  cases L with
  | nil =>
    rw [fin] at q
    refine stp ?_
    simp
    exact q
  | cons r L =>
    have hml : leastI ((r :: L).map fun r => (r.length : Int)) = (leastN (r :: L) : Nat) := leastI_eq (by simp)
    generalize hN : leastN (r :: L) = N at hml fin
    have heq : PyData.eqv (.list ((r :: L).map rgD)) (.list []) = false := rfl
    generalize hR : r :: L = M at hml fin hrl hsh heq
    have hM : M ≠ [] := by rw [← hR]; simp
    refine stp ?_
    simp [-dT_cons, hsh, heq]
    refine fun _ => ⟨line8 (by omega), ?_⟩
    refine lcD_mp (enc := rgD) (enc' := PyData.int) (fun r => (r.length : Int)) (fun r hr R' hR' => ?_) ?_
    · simp [turnB, wipeR]
      exact fun _ => hR'
    refine min_li (by simpa using hM) ?_
    rw [hml]
    simp [hsh, heq]
    refine fun _ => ⟨line8 (by omega), ?_⟩
    refine lcD_fm (enc := rgD) (enc' := rgD) (fun r => decide (r.length = N)) id (fun r hr R' h1 h0 => ?_) ?_
    · simp [turnB, wipeR]
      intro _
      by_cases e : r.length = N
      · rw [if_pos (by rw [e])]; exact h1 (decide_eq_true e)
      · rw [if_neg (by omega)]; exact h0 (decide_eq_false e)
    rw [List.map_id]
    rw [fin] at q
    obtain ⟨r0, hr0, hl0⟩ := leastN_mem hM
    have hin : r0 ∈ M.filter fun r => decide (r.length = N) := List.mem_filter.mpr ⟨hr0, decide_eq_true (by rw [hl0, ← hN, hR])⟩
    generalize (M.filter fun r => decide (r.length = N)) = A at hin q
    cases A with
    | nil => cases hin
    | cons a A => exact ix_l (Ev.atI_nat (n := 0) rfl) q
end K06

namespace K06
open PySem PySem.Spec PyProof.Rows L2 Ev EvR
/-! ### all ways, step by step -/
def addL (l : List Se) (y : Se) : List Se := if y ∈ l then l else l ++ [y]
def oneL (w : Str) (y : Se) (acc : List Se) (e : Ed) : List Se := match (if e.2.1 = y.1 then letS w y.2 e else none) with
  | none => acc
  | some t => addL acc (e.2.2.1, t)
def lateE (w : Str) (y : Se) (es : List Ed) (acc : List Se) : List Se := es.foldl (oneL w y) acc
def lateF (E : List Ed) (w : Str) (lev : List Se) : List Se := lev.foldl (fun acc y => lateE w y E acc) []
def levF (E : List Ed) (w : Str) (st : Int) : Nat → List Se
  | 0 => [(st, st0)]
  | k + 1 => lateF E w (levF E w st k)
theorem addL_mem {l : List Se} {y z : Se} : z ∈ addL l y ↔ z ∈ l ∨ z = y := by
  unfold addL
  split
  · rename_i h
    exact ⟨.inl, fun q => q.elim id fun e => e ▸ h⟩
  · simp
theorem addL_nd {l : List Se} {y : Se} (h : l.Nodup) : (addL l y).Nodup := by
  unfold addL
  split
  · exact h
  · rename_i c
    rw [List.nodup_append]
    refine ⟨h, by simp, fun a ha b hb z => ?_⟩
    subst z
    rw [List.mem_singleton.mp hb] at ha
    exact c ha
def isNx (w : Str) (y : Se) (e : Ed) (z : Se) : Prop := e.2.1 = y.1 ∧ z.1 = e.2.2.1 ∧ letS w y.2 e = some z.2
theorem oneL_mem {w : Str} {y z : Se} {acc : List Se} {e : Ed} : z ∈ oneL w y acc e ↔ z ∈ acc ∨ isNx w y e z := by
  unfold oneL isNx
  by_cases c : e.2.1 = y.1
  · rw [if_pos c]
    cases h : letS w y.2 e with
    | none => simp
    | some t =>
      rw [addL_mem]
      constructor
      · rintro (q | rfl)
        · exact .inl q
        · exact .inr ⟨c, rfl, rfl⟩
      · rintro (q | ⟨_, q1, q2⟩)
        · exact .inl q
        · cases q2; exact .inr (Prod.ext q1 rfl)
  · rw [if_neg c]
    simp [c]
theorem oneL_nd {w : Str} {y : Se} {acc : List Se} {e : Ed} (h : acc.Nodup) : (oneL w y acc e).Nodup := by
  unfold oneL
  split
  · exact h
  · exact addL_nd h
theorem lateE_mem {w : Str} {y z : Se} : ∀ {es : List Ed} {acc : List Se}, z ∈ lateE w y es acc ↔ z ∈ acc ∨ ∃ e ∈ es, isNx w y e z
  | [], acc => by simp [lateE]
  | e :: es, acc => by
    show z ∈ lateE w y es (oneL w y acc e) ↔ _
    rw [lateE_mem, oneL_mem, or_assoc]
    simp
theorem lateE_nd {w : Str} {y : Se} : ∀ {es : List Ed} {acc : List Se}, acc.Nodup → (lateE w y es acc).Nodup
  | [], acc, h => h
  | e :: es, acc, h => lateE_nd (es := es) (oneL_nd h)
theorem lateT_mem {E : List Ed} {w : Str} {z : Se} : ∀ {lev acc : List Se}, z ∈ lev.foldl (fun acc y => lateE w y E acc) acc ↔ z ∈ acc ∨ ∃ y ∈ lev, ∃ e ∈ E, isNx w y e z
  | [], acc => by simp
  | y :: lev, acc => by
    rw [List.foldl_cons, lateT_mem, lateE_mem, or_assoc]
    simp
theorem lateT_nd {E : List Ed} {w : Str} : ∀ {lev acc : List Se}, acc.Nodup → (lev.foldl (fun acc y => lateE w y E acc) acc).Nodup
  | [], acc, h => h
  | y :: lev, acc, h => lateT_nd (lev := lev) (lateE_nd h)
theorem lev_mem {E : List Ed} {w : Str} {st : Int} : ∀ {k : Nat} {y : Se}, y ∈ levF E w st k ↔ ∃ es : List Ed, es.length = k ∧ (∀ e ∈ es, e ∈ E) ∧ goes w (st, st0) es = some y
  | 0, y => by
    simp only [levF, List.mem_singleton]
    constructor
    · rintro rfl; exact ⟨[], rfl, (by intro e he; cases he), rfl⟩
    · rintro ⟨es, h1, _, h3⟩
      rw [List.length_eq_zero_iff.mp h1] at h3
      cases h3; rfl
  | k + 1, y => by
    show y ∈ lateF E w (levF E w st k) ↔ _
    unfold lateF
    rw [lateT_mem]
    constructor
    · rintro (h | ⟨z, hz, e, he, h1, h2, h3⟩)
      · cases h
      · obtain ⟨es, g1, g2, g3⟩ := lev_mem.mp hz
        refine ⟨es ++ [e], by simp [g1], fun d hd => ?_, ?_⟩
        · rcases List.mem_append.mp hd with hd | hd
          · exact g2 d hd
          · rw [List.mem_singleton.mp hd]; exact he
        · rw [goes_snoc, g3]
          simp only
          rw [if_pos h1, h3]
          simp only
          rw [← h2]
    · rintro ⟨es, g1, g2, g3⟩
      obtain ⟨es', e, rfl⟩ := snoc_of (l := es) (by intro q; rw [q] at g1; cases g1)
      rw [goes_snoc] at g3
      cases h : goes w (st, st0) es' with
      | none => rw [h] at g3; cases g3
      | some z =>
        rw [h] at g3
        simp only at g3
        split at g3
        · rename_i hz
          cases ht : letS w z.2 e with
          | none => rw [ht] at g3; cases g3
          | some t =>
            rw [ht] at g3
            cases g3
            exact .inr ⟨z, lev_mem.mpr ⟨es', by simpa using g1, fun d hd => g2 d (List.mem_append_left _ hd), h⟩, e, g2 e (by simp), hz, rfl, ht⟩
        · cases g3
theorem goes_all {w : Str} : ∀ {es : List Ed} {y z : Int × Sta}, y.2 ∈ allS → goes w y es = some z → z.2 ∈ allS
  | [], y, z, h, g => by cases g; exact h
  | e :: es, y, z, h, g => by
    unfold goes at g
    split at g
    · cases ht : letS w y.2 e with
      | none => rw [ht] at g; cases g
      | some t => rw [ht] at g; exact goes_all (let_all ht h) g
    · cases g
theorem st0_all : st0 ∈ allS := allS_mem.mpr ⟨.inl rfl, by simp [lasts]⟩
theorem lev_all {E : List Ed} {w : Str} {st : Int} {k : Nat} : ∀ y ∈ levF E w st k, y.2 ∈ allS := fun y hy => by
  obtain ⟨es, _, _, g⟩ := lev_mem.mp hy
  exact goes_all st0_all g
theorem nx_ok {E : List Ed} {w : Str} {y : Se} (hy : y.2 ∈ allS) {e : Ed} (he : e ∈ E) {z : Se} (h : isNx w y e z) : z.1 ∈ E.map (fun e => e.2.2.1) ∧ z.2 ∈ allS :=
  ⟨List.mem_map.mpr ⟨e, he, h.2.1.symm⟩, let_all h.2.2 hy⟩
theorem Rg_lev {E : List Ed} {w : Str} {st : Int} {k : Nat} : (∃ es, Rg E w st es ∧ es.length = k + 1) ↔ ∃ y ∈ levF E w st (k + 1), y.1 = st ∧ doneS w y.2 = true := by
  constructor
  · rintro ⟨es, ⟨_, h2, t, h3, h4⟩, h5⟩
    exact ⟨(st, t), lev_mem.mpr ⟨es, h5, h2, h3⟩, rfl, h4⟩
  · rintro ⟨y, hy, h1, h2⟩
    obtain ⟨es, g1, g2, g3⟩ := lev_mem.mp hy
    refine ⟨es, ⟨(fun q => by rw [q] at g1; cases g1), g2, y.2, ?_, h2⟩, g1⟩
    rw [g3, ← h1]
def InvY1 (E : List Ed) (w : Str) (n : Nat) (i : Nat) (ρ : List Sl) : Prop := ∃ s4 s5 s6 s7 s8 s9 s10 s11, ρ = [.val (.list (E.map edD)), .val (.str w), .val (.int n), .val (.list ((uniqI (E.map fun e => e.2.1)).map .int)), s4, s5, s6, s7, s8, s9, s10, s11] ∧ ∀ st ∈ (uniqI (E.map fun e => e.2.1)).take i, ∀ es, Rg E w st es → n < es.length
def InvY2 (E : List Ed) (w : Str) (n : Nat) (st : Int) (k : Nat) (ρ : List Sl) : Prop := ∃ s6 s7 s8 s9 s10 s11, ρ = [.val (.list (E.map edD)), .val (.str w), .val (.int n), .val (.list ((uniqI (E.map fun e => e.2.1)).map .int)), .val (.int st), .val (.list ((levF E w st k).map seD)), s6, s7, s8, s9, s10, s11] ∧ ∀ es, Rg E w st es → k < es.length
def InvY3 (E : List Ed) (w : Str) (n : Nat) (st : Int) (k : Nat) (i : Nat) (ρ : List Sl) : Prop := ∃ s6 s8 s9 s10 s11, ρ = [.val (.list (E.map edD)), .val (.str w), .val (.int n), .val (.list ((uniqI (E.map fun e => e.2.1)).map .int)), .val (.int st), .val (.list ((levF E w st k).map seD)), s6, .own ((((levF E w st k).take i).foldl (fun acc y => lateE w y E acc) []).map seD), s8, s9, s10, s11]
def InvY4 (E : List Ed) (w : Str) (n : Nat) (st : Int) (k : Nat) (y : Se) (acc : List Se) (i : Nat) (ρ : List Sl) : Prop := ∃ s6 s10 s11, ρ = [.val (.list (E.map edD)), .val (.str w), .val (.int n), .val (.list ((uniqI (E.map fun e => e.2.1)).map .int)), .val (.int st), .val (.list ((levF E w st k).map seD)), s6, .own ((lateE w y (E.take i) acc).map seD), .val (.int y.1), .val (saD y.2), s10, s11]
theorem any_run {E : List Ed} (hz : E.length ≤ 200) {w : Str} {n : Nat} (hn : n ≤ 1000) (hu : (uniqI (E.map fun e => e.2.1)).length < 64) {Q : D → Prop} {X : Exc → Prop}
    (q1 : (∃ st es, Rg E w st es ∧ es.length ≤ n) → Q (.bool true)) (q0 : (¬ ∃ st es, Rg E w st es ∧ es.length ≤ n) → Q (.bool false)) : (f_l_any [.d (.list (E.map edD)), .d (.str w), .d (.int n)]).run Q X := by
  have hsc : E.length + 1 < scanBound := scan7 (by omega)
  unfold f_l_any
  simp [b_l_any, -dT_cons]
  refine stp ?_
  simp [-dT_cons]
  refine fun _ => ⟨line8 (by omega), ?_⟩
  refine lcD_mp (enc := edD) (enc' := PyData.int) (fun e : Ed => e.2.1) (fun e he R' hR => ?_) ?_
  · simp [turnB, wipeR]
    exact hR
  rw [srtS_li]
  refine ⟨⟨by rw [List.length_map]; exact hsc, hu⟩, ?_⟩
  refine stp ?_
  simp [-dT_cons]
  intro _
  refine forD_enc (enc := PyData.int) (InvY1 E w n) ⟨_, _, _, _, _, _, _, _, rfl, (by intro st h; cases h)⟩ ?_ ?_
  · rintro i st ρ hst ⟨s4, s5, s6, s7, s8, s9, s10, s11, rfl, hI⟩
    simp [-dT_cons]
    refine stp ?_
    simp [l1, l2, l3, -dT_cons]
    refine stp ?_
    simp [-dT_cons]
    refine ⟨inR_small (by omega) (by omega), ?_⟩
    refine forD_upto (InvY2 E w n st) ⟨_, _, _, _, _, _, rfl, fun es R => List.length_pos_iff.mpr R.ne⟩ ?_ ?_
    · rintro k ρ hk ⟨s6, s7, s8, s9, s10, s11, rfl, hJ⟩
      simp [-dT_cons]
      refine stp ?_
      simp [-dT_cons]
      refine stp ?_
      simp [-dT_cons]
      intro _
      refine forD_enc (enc := seD) (InvY3 E w n st k) ⟨_, _, _, _, _, rfl⟩ ?_ ?_
      · rintro m y ρ hy ⟨s6, s8, s9, s10, s11, rfl⟩
        have hym := List.mem_of_getElem? hy
        have hyA := lev_all y hym
        have hstep : ((levF E w st k).take (m + 1)).foldl (fun acc y => lateE w y E acc) [] = lateE w y E (((levF E w st k).take m).foldl (fun acc y => lateE w y E acc) []) := by
          rw [List.take_add_one, hy, List.foldl_append]; rfl
        have hacc : ∀ z ∈ ((levF E w st k).take m).foldl (fun acc y => lateE w y E acc) [], z.1 ∈ E.map (fun e => e.2.2.1) ∧ z.2 ∈ allS := fun z hz' => by
          rcases lateT_mem.mp hz' with h | ⟨y', hy', e, he, hn⟩
          · cases h
          · exact nx_ok (lev_all y' (List.mem_of_mem_take hy')) he hn
        have hnd : (((levF E w st k).take m).foldl (fun acc y => lateE w y E acc) []).Nodup := lateT_nd List.nodup_nil
        generalize ((levF E w st k).take m).foldl (fun acc y => lateE w y E acc) [] = acc at hstep hacc hnd
        simp [-dT_cons]
        refine stp ?_
        simp [-dT_cons]
        intro _
        refine forD_enc (enc := edD) (InvY4 E w n st k y acc) ⟨_, _, _, rfl⟩ ?_ ?_
        · rintro i' e ρ e1 ⟨s6, s10, s11, rfl⟩
          have he := List.mem_of_getElem? e1
          have hst2 : lateE w y (E.take (i' + 1)) acc = oneL w y (lateE w y (E.take i') acc) e := by
            unfold lateE
            rw [List.take_add_one, e1, List.foldl_append]; rfl
          have hA2 : ∀ z ∈ lateE w y (E.take i') acc, z.1 ∈ E.map (fun e => e.2.2.1) ∧ z.2 ∈ allS := fun z hz' => by
            rcases lateE_mem.mp hz' with h | ⟨e', he', hn⟩
            · exact hacc z h
            · exact nx_ok hyA (List.mem_of_mem_take he') hn
          have hlen := seen_len (lateE_nd (w := w) (y := y) (es := E.take i') hnd) hA2
          generalize lateE w y (E.take i') acc = B at hst2 hlen
          unfold oneL at hst2
          simp [-dT_cons]
          by_cases c1 : e.2.1 = y.1
          · rw [if_pos c1] at hst2
            refine stp ?_
            simp [c1, -dT_cons]
            refine lnext_run ?_
            cases c2 : letS w y.2 e with
            | none =>
              rw [c2] at hst2
              simp [saO, -dT_cons]
              refine ife_no ?_ ?_
              · simp
              simp only at hst2
              simp
              exact ⟨_, .val (edD e), .val .none, by rw [hst2]⟩
            | some t =>
              rw [c2] at hst2
              simp only [addL] at hst2
              simp [saO, -dT_cons]
              by_cases c3 : (e.2.2.1, t) ∈ B
              · rw [if_pos c3] at hst2
                refine ife_no ?_ ?_
                · simp [l2]
                  refine (in_se (x := (e.2.2.1, t))).mpr ?_
                  simp [c3]
                simp
                exact ⟨_, .val (edD e), .val (saD t), by rw [hst2]⟩
              · rw [if_neg c3] at hst2
                refine ife_then ?_ ?_
                · simp [l2]
                  refine (in_se (x := (e.2.2.1, t))).mpr ?_
                  simp [c3]
                simp [appW, ownW, l2]
                exact ⟨line6 (by omega), s6, .val (edD e), .val (saD t), by rw [hst2]; simp⟩
          · rw [if_neg c1] at hst2
            simp only at hst2
            refine stp ?_
            simp [c1, -dT_cons]
            refine ife_no ?_ ?_
            · simp
            simp
            exact ⟨_, .val (edD e), .val .none, by rw [hst2]⟩
        · rintro ρ ⟨s6, s10, s11, rfl⟩
          simp
          rw [← hstep]
          exact ⟨_, _, _, _, _, rfl⟩
      · rintro ρ ⟨s6, s8, s9, s10, s11, rfl⟩
        rw [List.take_length]
        have hl : (levF E w st k).foldl (fun acc y => lateE w y E acc) [] = levF E w st (k + 1) := rfl
        rw [hl]
        have hnd : (levF E w st (k + 1)).Nodup := lateT_nd List.nodup_nil
        simp [-dT_cons]
        refine stp ?_
        simp [frzR, -dT_cons]
        have hnl : ∀ x, x ∈ (levF E w st (k + 1)).filter (fun y => decide (y.1 = st) && doneS w y.2) ↔ x ∈ levF E w st (k + 1) ∧ x.1 = st ∧ doneS w x.2 = true := fun x => by
          rw [List.mem_filter]; simp
        by_cases c : ∃ y ∈ levF E w st (k + 1), y.1 = st ∧ doneS w y.2 = true
        · refine ife_then ?_ ?_
          · simp
            refine fun hb => ⟨hb, ?_⟩
            refine lcD_fm (enc := seD) (enc' := PyData.int) (fun y => decide (y.1 = st) && doneS w y.2) (fun _ => 1) (fun y hy R' h1 h0 => ?_) ?_
            · simp [turnB, wipeR]
              by_cases d : y.1 = st
              · simp [d]
                refine closes_run ?_
                cases z : doneS w y.2 with
                | false => simpa using h0 (by simp [d, z])
                | true => simpa using h1 (by simp [d, z])
              · simp [d]
                exact h0 (by simp [d])
            intro _
            rw [List.length_map, List.length_map]
            obtain ⟨y, hy, h1, h2⟩ := c
            exact List.length_pos_of_mem ((hnl y).mpr ⟨hy, h1, h2⟩)
          simp
          obtain ⟨es, R, hl⟩ := Rg_lev.mpr c
          exact q1 ⟨st, es, R, by omega⟩
        · refine ife_no ?_ ?_
          · simp
            refine fun hb => ⟨hb, ?_⟩
            refine lcD_fm (enc := seD) (enc' := PyData.int) (fun y => decide (y.1 = st) && doneS w y.2) (fun _ => 1) (fun y hy R' h1 h0 => ?_) ?_
            · simp [turnB, wipeR]
              by_cases d : y.1 = st
              · simp [d]
                refine closes_run ?_
                cases z : doneS w y.2 with
                | false => simpa using h0 (by simp [d, z])
                | true => simpa using h1 (by simp [d, z])
              · simp [d]
                exact h0 (by simp [d])
            have : (levF E w st (k + 1)).filter (fun y => decide (y.1 = st) && doneS w y.2) = [] := by
              rw [List.filter_eq_nil_iff]
              intro y hy z
              simp at z
              exact c ⟨y, hy, z⟩
            rw [this]
            simp
          simp
          refine ⟨_, _, _, _, _, _, rfl, fun es R => ?_⟩
          have h1 := hJ es R
          by_cases h2 : es.length = k + 1
          · exact absurd (Rg_lev.mp ⟨es, R, h2⟩) c
          · omega
    · rintro ρ ⟨s6, s7, s8, s9, s10, s11, rfl, hJ⟩
      refine ⟨_, _, _, _, _, _, _, _, rfl, fun st' hm es R => ?_⟩
      rw [List.take_add_one, hst] at hm
      rcases List.mem_append.mp hm with hm | hm
      · exact hI st' hm es R
      · have : st' = st := by simpa using hm
        rw [this] at R
        exact hJ es R
  · rintro ρ ⟨s4, s5, s6, s7, s8, s9, s10, s11, rfl, hI⟩
    simp
    refine q0 ?_
    rintro ⟨st, es, R, hl⟩
    rw [List.take_length] at hI
    have := hI st (Rg_start R) es R
    omega
end K06

namespace K06
open PySem PySem.Spec PyProof.Rows L2 Ev EvR
/-! ### is it a ring -/
abbrev e0 : Ed := (sE0, 0, 0, 0)
theorem chn_idx {R : Ed → Ed → Prop} : ∀ {l : List Ed} {a : Ed}, chn R a l ↔ ∀ k, k < l.length → R ((a :: l).getD k e0) (l.getD k e0)
  | [], a => by simp [chn]
  | b :: l, a => by
    simp only [chn]
    rw [chn_idx]
    constructor
    · rintro ⟨h1, h2⟩ k hk
      cases k with
      | zero => simpa using h1
      | succ k => simpa using h2 k (by simpa using hk)
    · intro h
      exact ⟨by simpa using h 0 (by simp), fun k hk => by simpa using h (k + 1) (by simpa using hk)⟩
theorem lst_get : ∀ (l : List Ed) (a : Ed), lst a l = (a :: l).getD l.length e0
  | [], a => rfl
  | b :: l, a => by
    show lst b l = _
    rw [lst_get l b]
    simp
theorem cyc_idx {R : Ed → Ed → Prop} {r : List Ed} (h : r ≠ []) : cyc R r ↔ ∀ k, k < r.length → R (r.getD k e0) (r.getD ((k + 1) % r.length) e0) := by
  cases r with
  | nil => exact absurd rfl h
  | cons a l =>
    show chn R (lst a l) (a :: l) ↔ _
    rw [chn_idx, lst_get]
    constructor
    · intro q k hk
      by_cases c : k + 1 < (a :: l).length
      · rw [Nat.mod_eq_of_lt c]
        exact q (k + 1) c
      · have e : k + 1 = (a :: l).length := by omega
        rw [e, Nat.mod_self]
        have := q 0 (by simp)
        have e2 : k = l.length := by simpa using e
        rw [e2]
        exact this
    · intro q k hk
      cases k with
      | zero =>
        have := q l.length (by simp)
        rw [show l.length + 1 = (a :: l).length by simp, Nat.mod_self] at this
        exact this
      | succ k =>
        have := q k (by omega)
        rw [Nat.mod_eq_of_lt hk] at this
        exact this
theorem eqv_ed (s t : Ed) : PyData.eqv (edD s) (edD t) = decide (s = t) := by
  obtain ⟨a, b, c, d⟩ := s
  obtain ⟨a', b', c', d'⟩ := t
  rw [PyData.eqv, PyData.eqvAll, PyData.eqvAll, PyData.eqvAll, PyData.eqvAll, PyData.eqvAll, PyData.eqv, PyData.eqv, PyData.eqv, PyData.eqv, Bool.eq_iff_iff]
  simp
theorem sh_ed (x : Ed) : sh (edD x) = true := rfl
theorem sh_eds (A : List Ed) : sh (.list (A.map edD)) = true := by
  have h1 := dep_eds A
  have h2 := nd_eds A
  simp [sh, PyData.depth, h2]
  omega
theorem in_ed {n : Bool} {x : Ed} {A : List Ed} {Q : Bool → Prop} {X : Exc → Prop} : (inD n (edD x) (.list (A.map edD))).run Q X = Q (if n then !decide (x ∈ A) else decide (x ∈ A)) := by
  show ((sh (edD x) = true ∧ sh (.list (A.map edD)) = true) ∧ Q _) = _
  have e : ((A.map edD).any fun z => PyData.eqv z (edD x)) = decide (x ∈ A) := by
    induction A with
    | nil => simp
    | cons a A ih =>
      rw [List.map_cons, List.any_cons, eqv_ed, ih, Bool.eq_iff_iff]
      simp only [Bool.or_eq_true, decide_eq_true_iff, List.mem_cons]
      exact ⟨fun h => h.imp Eq.symm id, fun h => h.imp Eq.symm id⟩
  rw [e]
  simp [sh_ed, sh_eds]
abbrev oddE : D := .tuple [.int 1, .int 2]
theorem in_odd {n : Bool} {A : List Ed} {Q : Bool → Prop} {X : Exc → Prop} : (inD n oddE (.list (A.map edD))).run Q X = Q n := by
  show ((sh oddE = true ∧ sh (.list (A.map edD)) = true) ∧ Q _) = _
  have e : ((A.map edD).any fun z => PyData.eqv z oddE) = false := by
    rw [List.any_eq_false]
    intro z hz
    obtain ⟨a, _, rfl⟩ := List.mem_map.mp hz
    exact fun q => by cases q
  rw [e]
  have : sh oddE = true := rfl
  cases n <;> simp [this, sh_eds]
theorem at_ed {r : List Ed} {k : Nat} (h : k < r.length) : (r.map edD)[k]? = some (edD (r.getD k e0)) := by
  rw [List.getElem?_map, List.getElem?_eq_getElem h]
  simp [List.getD_eq_getElem?_getD, List.getElem?_eq_getElem h]
theorem mod_run {j n : Nat} (h : 0 < n) {Q : D → Prop} {X : Exc → Prop} (q : Q (.int (((j + 1) % n : Nat) : Int))) : (AO.mod.op (.int ((j : Int) + 1)) (.int (n : Int))).run Q X := by
  show (modD (.int ((j : Int) + 1)) (.int (n : Int))).run Q X
  unfold modD
  have e : (((j + 1) % n : Nat) : Int) = ((j : Int) + 1) % (n : Int) := by simp
  rw [e] at q
  simp [h]
  exact q
theorem at_rg {r : List Ed} {k : Nat} (h : k < r.length) {Q : D → Prop} {X : Exc → Prop} (q : Q (edD (r.getD k e0))) : (ixD (rgD r) (.int (k : Int))).run Q X := ix_tn (at_ed h) q
def fjn (r : List Ed) (k : Nat) : Bool := !decide ((r.getD k e0).2.2.1 = (r.getD ((k + 1) % r.length) e0).2.1)
theorem fold_cons {w : Str} {s : Sta} {e : Ed} {es : List Ed} : foldS w s (e :: es) = match letS w s e with
    | none => none
    | some t => foldS w t es := rfl
def InvIs (E : List Ed) (w : Str) (r : List Ed) (i : Nat) (ρ : List Sl) : Prop := ∃ (t : Sta) (s4 s5 : Sl), ρ = [.val (.list (E.map edD)), .val (.str w), .val (rgD r), .val (saD t), s4, s5] ∧ foldS w t (r.drop i) = foldS w st0 r
theorem is_ring_run {E : List Ed} {w : Str} (hw : w ∈ five) {r : List Ed} (hl : r.length ≤ 200) (hr : ∀ e ∈ r, e ∈ E) {Q : D → Prop} {X : Exc → Prop} (q1 : RL w r → Q (.bool true)) (q0 : ¬ RL w r → Q (.bool false)) : (f_is_ring [.d (.list (E.map edD)), .d (.str w), .d (rgD r)]).run Q X := by
  unfold f_is_ring
  simp [b_is_ring, -dT_cons]
  refine ife_no ?_ ?_
  · have e : v_RINGS = .tuple ([sAn, sAp, sCi, sOw, sSi].map .str) := rfl
    simp
    rw [e]
    refine in_ts.mpr ?_
    simp only [hw, decide_true]
    rfl
  by_cases ne : r = []
  · subst ne
    refine ife_then ?_ ?_
    · simp [isiB, tyName, Ty.s]
    simp
    exact q0 fun R => R.jn
  refine ife_no ?_ ?_
  · simp [isiB, tyName, Ty.s, ne]
    intro hb
    refine ⟨hb, ?_⟩
    refine lcD_mp (enc := edD) (enc' := PyData.bool) (fun _ => true) (fun e he R' hR => ?_) ?_
    · simp [turnB, wipeR]
      refine in_ed.mpr ?_
      simpa [hr e he] using hR
    rw [all_bs]
    simp
  by_cases cj : cyc Jn r
  · refine ife_no ?_ ?_
    · simp
      refine fun hb => ⟨inR_small (by omega) (by omega), by rw [upto_len]; exact hb, ?_⟩
      refine lcD_upto (fun j => some (.bool (fjn r j))) (fun j hj R' hR' => ?_) ?_
      · simp [turnB, wipeR]
        refine at_rg hj ?_
        simp
        refine fun _ => mod_run (by omega) ?_
        refine at_rg (Nat.mod_lt _ (by omega)) ?_
        simp
        exact hR'
      rw [filterMap_some, List.nil_append, show ((List.range r.length).map fun j => PyData.bool (fjn r j)) = ((List.range r.length).map (fjn r)).map PyData.bool by rw [List.map_map]; rfl, any_bs]
      simp
      intro k hk
      have := (cyc_idx ne).mp cj k hk
      unfold fjn
      simpa using this.symm
    refine stp ?_
    simp [l3, -dT_cons]
    refine stp ?_
    simp [-dT_cons]
    intro _
    refine forD_enc (enc := edD) (InvIs E w r) ⟨st0, _, _, rfl, rfl⟩ ?_ ?_
    · rintro i e ρ e1 ⟨t, s4, s5, rfl, hf⟩
      rw [drop_at e1] at hf
      rw [fold_cons] at hf
      simp [-dT_cons]
      refine stp ?_
      simp [-dT_cons]
      refine let_run ?_
      cases ht : letS w t e with
      | none =>
        rw [ht] at hf
        refine ife_then ?_ ?_
        · simp [saO]
        simp
        refine q0 fun R => ?_
        obtain ⟨t', h1, _⟩ := (fold_KL hw ne).mpr R.kl
        rw [← hf] at h1
        cases h1
      | some t' =>
        rw [ht] at hf
        refine ife_no ?_ ?_
        · simp [saO]
        exact ⟨t', _, _, rfl, hf⟩
    · rintro ρ ⟨t, s4, s5, rfl, hf⟩
      rw [List.drop_length] at hf
      simp
      refine done_run ?_
      have hf' : foldS w st0 r = some t := hf.symm
      cases hd : doneS w t with
      | true => exact q1 ⟨cj, (fold_KL hw ne).mp ⟨t, hf', hd⟩⟩
      | false =>
        refine q0 fun R => ?_
        obtain ⟨t', h1, h2⟩ := (fold_KL hw ne).mpr R.kl
        rw [hf'] at h1
        cases h1
        rw [hd] at h2
        cases h2
  · refine ife_then ?_ ?_
    · simp
      refine fun hb => ⟨inR_small (by omega) (by omega), by rw [upto_len]; exact hb, ?_⟩
      refine lcD_upto (fun j => some (.bool (fjn r j))) (fun j hj R' hR' => ?_) ?_
      · simp [turnB, wipeR]
        refine at_rg hj ?_
        simp
        refine fun _ => mod_run (by omega) ?_
        refine at_rg (Nat.mod_lt _ (by omega)) ?_
        simp
        exact hR'
      rw [filterMap_some, List.nil_append, show ((List.range r.length).map fun j => PyData.bool (fjn r j)) = ((List.range r.length).map (fjn r)).map PyData.bool by rw [List.map_map]; rfl, any_bs]
      simp
      refine Classical.byContradiction fun z => cj ((cyc_idx ne).mpr fun k hk => ?_)
      have : ¬ fjn r k = true := fun y => z ⟨k, hk, y⟩
      unfold fjn at this
      simp at this
      exact this.symm
    simp
    exact q0 fun R => cj R.jn
end K06

namespace K06
open PySem PySem.Spec PyProof.Rows L2 Ev EvR
/-! ### the law's own reading -/
abbrev rwK (r : List Ed) : List Nat := (List.range r.length).filter fun k => rwB (r.getD k e0)
theorem range_get (r : List Ed) : (List.range r.length).map (fun k => r.getD k e0) = r := by
  refine List.ext_getElem (by simp) fun i h1 h2 => ?_
  simp [List.getElem?_eq_getElem h2]
theorem rwK_len (r : List Ed) : (rwK r).length = nRw r := by
  unfold nRw
  conv => rhs; rw [← range_get r]
  rw [List.filter_map, List.length_map]
  rfl
theorem cyc_rwK {r : List Ed} (ne : r ≠ []) : cyc Na r ↔ (rwK r).filter (fun k => rwB (r.getD ((k + 1) % r.length) e0)) = [] := by
  rw [cyc_idx ne, List.filter_eq_nil_iff]
  constructor
  · intro h k hk
    obtain ⟨h1, h2⟩ := List.mem_filter.mp hk
    exact fun z => h k (List.mem_range.mp h1) ⟨h2, z⟩
  · intro h k hk ⟨z1, z2⟩
    exact h k (List.mem_filter.mpr ⟨List.mem_range.mpr hk, z1⟩) z2
theorem l_is_ring_run {E : List Ed} {w : Str} (hw : w ∈ five) {r : List Ed} (hl : r.length ≤ 200) (hr : ∀ e ∈ r, e ∈ E) {Q : D → Prop} {X : Exc → Prop} (q1 : RL w r → Q (.bool true)) (q0 : ¬ RL w r → Q (.bool false)) : (f_l_is_ring [.d (.list (E.map edD)), .d (.str w), .d (rgD r)]).run Q X := by
  have hsr := sh_rg r
  unfold f_l_is_ring
  simp [b_l_is_ring, -dT_cons]
  by_cases ne : r = []
  · subst ne
    have h0 : PyData.eqv (rgD []) (.tuple []) = true := rfl
    refine ife_then ?_ ?_
    · simp [isiB, tyName, Ty.s, hsr, h0]
    simp
    exact q0 fun R => R.jn
  have hne : PyData.eqv (rgD r) (.tuple []) = false := by
    cases r with
    | nil => exact absurd rfl ne
    | cons a r => rfl
  refine ife_no ?_ ?_
  · simp [isiB, tyName, Ty.s, hsr, hne]
    intro hb
    refine ⟨hb, ?_⟩
    refine lcD_fm (enc := edD) (enc' := edD) (fun _ => false) id (fun e he R' h1 h0 => ?_) ?_
    · simp [turnB, wipeR]
      refine in_ed.mpr ?_
      simpa [hr e he] using h0 rfl
    simp
  by_cases cj : cyc Jn r
  · refine ife_no ?_ ?_
    · simp
      refine fun hb => ⟨inR_small (by omega) (by omega), by rw [upto_len]; exact hb, ?_⟩
      refine lcD_upto (fun j => if fjn r j = true then some (.int (j : Int)) else none) (fun j hj R' hR' => ?_) ?_
      · simp [turnB, wipeR]
        refine at_rg hj ?_
        simp
        refine fun _ => mod_run (by omega) ?_
        refine at_rg (Nat.mod_lt _ (by omega)) ?_
        simp
        unfold fjn at hR'
        simp at hR'
        split
        · rename_i c; rw [if_pos c] at hR'; exact hR'
        · rename_i c; rw [if_neg c] at hR'; exact hR'
      rw [filterMap_ite, List.nil_append]
      have : (List.range r.length).filter (fjn r) = [] := by
        rw [List.filter_eq_nil_iff]
        intro k hk z
        have := (cyc_idx ne).mp cj k (List.mem_range.mp hk)
        unfold fjn at z
        simp at z
        exact z this.symm
      rw [this]
      simp
    refine stp ?_
    simp [-dT_cons]
    refine fun hb => ⟨inR_small (by omega) (by omega), by rw [upto_len]; exact hb, ?_⟩
    refine lcD_upto (fun j => if rwB (r.getD j e0) = true then some (.int (j : Int)) else none) (fun j hj R' hR' => ?_) ?_
    · simp [turnB, wipeR]
      refine at_rg hj ?_
      simp
      unfold rwB at hR'
      simp at hR'
      split
      · rename_i c; rw [if_pos c] at hR'; exact hR'
      · rename_i c; rw [if_neg c] at hR'; exact hR'
    rw [filterMap_ite, List.nil_append]
    have hlen := rwK_len r
    have hcy := cyc_rwK ne
    have hkl : (rwK r).length ≤ 200 := Nat.le_trans (List.length_filter_le _ _) (by simpa using hl)
    have hkm : ∀ k ∈ rwK r, k < r.length := fun k hk => List.mem_range.mp (List.mem_filter.mp hk).1
    rw [show (List.range r.length).filter (fun k => rwB (r.getD k e0)) = rwK r from rfl]
    generalize rwK r = K at hlen hcy hkl hkm
    obtain ⟨n1, n2, n3, n4, n5, n6, n7, n8, n9, n10⟩ := five_ne
    simp only [List.mem_cons, List.not_mem_nil, or_false] at hw
    rcases hw with rfl | rfl | rfl | rfl | rfl
    · refine ife_no ?_ ?_
      · simpa using n3
      refine ife_no ?_ ?_
      · simp
        exact ⟨n2, n4⟩
      refine ife_then ?_ ?_
      · simp
      simp
      intro _
      rw [hlen]
      by_cases c : 0 < nRw r
      · rw [decide_eq_true (by omega)]; exact q1 ⟨cj, (KL_an r).mpr c⟩
      · rw [decide_eq_false (by omega)]; exact q0 fun R => c ((KL_an r).mp R.kl)
    · refine ife_no ?_ ?_
      · simpa using n6
      refine ife_no ?_ ?_
      · simp
        exact ⟨n5, n7⟩
      refine ife_no ?_ ?_
      · simpa using n1.symm
      simp
      intro hb1
      by_cases c : 0 < K.length
      · rw [if_pos c]
        refine fun _ => ⟨hb1, ?_⟩
        refine lcD_fm (enc := fun j : Nat => PyData.int (j : Int)) (enc' := fun j : Nat => PyData.int (j : Int)) (fun k => rwB (r.getD ((k + 1) % r.length) e0)) id (fun k hk R' h1 h0 => ?_) ?_
        · simp [turnB, wipeR]
          refine fun _ => mod_run (by have := hkm k hk; omega) ?_
          refine at_rg (Nat.mod_lt _ (by have := hkm k hk; omega)) ?_
          simp
          unfold rwB at h1 h0
          simp at h1 h0
          split
          · rename_i c; exact h1 c
          · rename_i c; exact h0 c
        intro _
        rw [List.length_map, List.length_map]
        cases e : K.filter (fun k => rwB (r.getD ((k + 1) % r.length) e0)) with
        | nil => exact q1 ⟨cj, (KL_ap r).mpr ⟨by omega, hcy.mpr e⟩⟩
        | cons a l =>
          have : (((a :: l).length : Int) == 0) = false := by simp; omega
          rw [this]
          exact q0 fun R => by
            have := hcy.mp ((KL_ap r).mp R.kl).2
            rw [e] at this
            cases this
      · rw [if_neg c, decide_eq_false c]
        exact q0 fun R => c (by have := ((KL_ap r).mp R.kl).1; omega)
    · refine ife_no ?_ ?_
      · simpa using n8
      refine ife_then ?_ ?_
      · simp
      simp
      intro _
      by_cases c : nRw r = 0
      · have : ((K.length : Int) == 0) = true := by simp; exact List.length_eq_zero_iff.mp (by omega)
        rw [this]; exact q1 ⟨cj, (KL_ci r).mpr c⟩
      · have : ((K.length : Int) == 0) = false := by simp; intro z; rw [z] at hlen; simp at hlen; omega
        rw [this]; exact q0 fun R => c ((KL_ci r).mp R.kl)
    · refine ife_then ?_ ?_
      · simp
      simp
      refine fun hb1 => ⟨hb1, ?_⟩
      refine lcD_fm (enc := edD) (enc' := edD) (fun e => !decide (e.1 = sWW)) id (fun e he R' h1 h0 => ?_) ?_
      · simp [turnB, wipeR]
        simp at h1 h0
        split
        · rename_i c; exact h0 c
        · rename_i c; exact h1 c
      intro _
      rw [List.length_map, List.length_map]
      cases e : r.filter (fun e => !decide (e.1 = sWW)) with
      | nil =>
        refine q1 ⟨cj, (KL_ow r).mpr fun d hd => ?_⟩
        have := List.filter_eq_nil_iff.mp e d hd
        simpa using this
      | cons a l =>
        have : (((a :: l).length : Int) == 0) = false := by simp; omega
        rw [this]
        refine q0 fun R => ?_
        have ha : a ∈ r.filter (fun e => !decide (e.1 = sWW)) := by rw [e]; exact List.mem_cons_self
        obtain ⟨h1, h2⟩ := List.mem_filter.mp ha
        have h3 := (KL_ow r).mp R.kl a h1
        simp [h3] at h2
    · refine ife_no ?_ ?_
      · simpa using n10.symm
      refine ife_then ?_ ?_
      · simp
      simp
      intro _
      rw [if_neg n9.symm]
      by_cases c : nRw r = 1
      · have : ((K.length : Int) == 1) = true := by simp; omega
        rw [this]; exact q1 ⟨cj, (KL_si r).mpr c⟩
      · have : ((K.length : Int) == 1) = false := by simp; omega
        rw [this]; exact q0 fun R => c ((KL_si r).mp R.kl)
  · refine ife_then ?_ ?_
    · simp
      refine fun hb => ⟨inR_small (by omega) (by omega), by rw [upto_len]; exact hb, ?_⟩
      refine lcD_upto (fun j => if fjn r j = true then some (.int (j : Int)) else none) (fun j hj R' hR' => ?_) ?_
      · simp [turnB, wipeR]
        refine at_rg hj ?_
        simp
        refine fun _ => mod_run (by omega) ?_
        refine at_rg (Nat.mod_lt _ (by omega)) ?_
        simp
        unfold fjn at hR'
        simp at hR'
        split
        · rename_i c; rw [if_pos c] at hR'; exact hR'
        · rename_i c; rw [if_neg c] at hR'; exact hR'
      rw [filterMap_ite, List.nil_append]
      intro _
      rw [List.length_map]
      refine Classical.byContradiction fun z => cj ((cyc_idx ne).mpr fun k hk => ?_)
      have hnil : (List.range r.length).filter (fjn r) = [] := List.length_eq_zero_iff.mp (by omega)
      rw [List.filter_eq_nil_iff] at hnil
      have := hnil k (List.mem_range.mpr hk)
      unfold fjn at this
      simp at this
      exact this.symm
    simp
    exact q0 fun R => cj R.jn
end K06

namespace K06
open PySem PySem.Spec PyProof.Rows L2 Ev EvR
/-! ### odd values, words that are none -/
def Odd (v : D) : Prop := v = .none ∨ (∃ r : List Ed, v = .list (r.map edD)) ∨ v = .tuple [oddE]
theorem in_rings {w : Str} (hw : w ∈ five) {Q : Bool → Prop} {X : Exc → Prop} (q : Q false) : (inD true (.str w) v_RINGS).run Q X := by
  have e : v_RINGS = .tuple ([sAn, sAp, sCi, sOw, sSi].map .str) := rfl
  rw [e]
  refine in_ts.mpr ?_
  simpa [hw] using q
theorem is_ring_odd {E : List Ed} {w : Str} (hw : w ∈ five) {v : D} (hv : Odd v) {Q : D → Prop} {X : Exc → Prop} (q : Q (.bool false)) : (f_is_ring [.d (.list (E.map edD)), .d (.str w), .d v]).run Q X := by
  unfold f_is_ring
  simp [b_is_ring, -dT_cons]
  refine ife_no ?_ ?_
  · simp
    exact in_rings hw rfl
  refine ife_then ?_ ?_
  · rcases hv with rfl | ⟨r, rfl⟩ | rfl
    · simp [isiB, tyName, Ty.s]
    · simp [isiB, tyName, Ty.s]
    · simp [isiB, tyName, Ty.s]
      refine fun hb => ⟨hb, ?_⟩
      refine lcD_mp (enc := fun _ : Unit => oddE) (enc' := PyData.bool) (fun _ => false) (xs := [()]) (fun e he R' hR => ?_) ?_
      · simp [turnB, wipeR]
        refine in_odd.mpr ?_
        exact hR
      rw [all_bs]
      simp
  simp
  exact q
theorem l_is_ring_odd {E : List Ed} {w : Str} {v : D} (hv : Odd v) {Q : D → Prop} {X : Exc → Prop} (q : Q (.bool false)) : (f_l_is_ring [.d (.list (E.map edD)), .d (.str w), .d v]).run Q X := by
  unfold f_l_is_ring
  simp [b_l_is_ring, -dT_cons]
  refine ife_then ?_ ?_
  · rcases hv with rfl | ⟨r, rfl⟩ | rfl
    · simp [isiB, tyName, Ty.s]
    · simp [isiB, tyName, Ty.s]
    · simp [isiB, tyName, Ty.s]
      refine ⟨rfl, fun _ hb => ⟨hb, ?_⟩⟩
      refine lcD_fm (enc := fun _ : Unit => oddE) (enc' := fun _ : Unit => oddE) (fun _ => true) id (xs := [()]) (fun e he R' h1 h0 => ?_) ?_
      · simp [turnB, wipeR]
        refine in_odd.mpr ?_
        simpa using h1 rfl
      simp
  simp
  exact q
theorem shortest_no {w : Str} (hw : w ∉ five) {x : D} {Q : D → Prop} {X : Exc → Prop} (q : X ⟨Str.ofString "NotAllowed", []⟩) : (f_shortest_ring [.d x, .d (.str w)]).run Q X := by
  unfold f_shortest_ring
  simp [b_shortest_ring, -dT_cons]
  refine ife_then ?_ ?_
  · have e : v_RINGS = .tuple ([sAn, sAp, sCi, sOw, sSi].map .str) := rfl
    simp
    rw [e]
    refine in_ts.mpr ?_
    simpa using hw
  refine raise_run ?_
  simp
  exact ⟨l1, q⟩
theorem is_ring_no {w : Str} (hw : w ∉ five) {x y : D} {Q : D → Prop} {X : Exc → Prop} (q : X ⟨Str.ofString "NotAllowed", []⟩) : (f_is_ring [.d x, .d (.str w), .d y]).run Q X := by
  unfold f_is_ring
  simp [b_is_ring, -dT_cons]
  refine ife_then ?_ ?_
  · have e : v_RINGS = .tuple ([sAn, sAp, sCi, sOw, sSi].map .str) := rfl
    simp
    rw [e]
    refine in_ts.mpr ?_
    simpa using hw
  refine raise_run ?_
  simp
  exact ⟨l1, q⟩
theorem dS_drop {M : Mg} {e : IE} {ρ : List Sl} : denS M (.drop e) ρ = (lf ρ (denE M e ρ)).bind fun _ => .ret (.nx ρ) := rfl
def InvRf (z : Str) (i : Nat) (ρ : List Sl) : Prop := ∃ s2, ρ = [.val (.str z), .val (.int i), s2]
def InvRg (z : Str) (i : Nat) (ρ : List Sl) : Prop := ∃ s2, ρ = [.val (.str z), .val (.int 0), s2]
theorem refused_run {w : Str} (hw : w ∉ five) {Q : D → Prop} {X : Exc → Prop} (q : Q (.bool true)) : (f_l_refused [.d (.str w)]).run Q X := by
  unfold f_l_refused
  simp [b_l_refused, -dT_cons]
  refine stp ?_
  simp [-dT_cons]
  refine stp ?_
  simp [-dT_cons]
  refine ⟨inR_small (by omega) (by omega), ?_⟩
  refine forD_upto (InvRf w) ⟨_, rfl⟩ ?_ ?_
  · rintro i ρ hi ⟨s2, rfl⟩
    have hi2 : i = 0 ∨ i = 1 := by omega
    simp [-dT_cons]
    refine try_run (by simp [m_l_refused]) ?_
    rcases hi2 with rfl | rfl
    · refine ife_then (by simp) ?_
      simp
      rw [dS_drop]
      simp
      refine shortest_no hw ?_
      simp
      exact ⟨_, rfl⟩
    · refine ife_else (by simp) ?_
      simp
      rw [dS_drop]
      simp
      refine is_ring_no hw ?_
      simp
      exact ⟨_, rfl⟩
  · rintro ρ ⟨s2, rfl⟩
    simp
    exact q
theorem let_in_run {w : Str} (hw : w ∈ five) {Q : D → Prop} {X : Exc → Prop} (q : Q (.bool false)) : (f_l_refused [.d (.str w)]).run Q X := by
  unfold f_l_refused
  simp [b_l_refused, -dT_cons]
  refine stp ?_
  simp [-dT_cons]
  refine stp ?_
  simp [-dT_cons]
  refine ⟨inR_small (by omega) (by omega), ?_⟩
  refine forD_upto (InvRg w) ⟨_, rfl⟩ ?_ ?_
  · rintro i ρ hi ⟨s2, rfl⟩
    have hi2 : i = 0 ∨ i = 1 := by omega
    simp [-dT_cons]
    refine try_run (by simp [m_l_refused]) ?_
    rcases hi2 with rfl | rfl
    · refine ife_then (by simp) ?_
      simp
      rw [dS_drop]
      simp
      refine shortest_run (E := []) (by simp) hw (by decide) ?_
      exact ⟨_, rfl⟩
    · refine ife_else (by simp) ?_
      simp
      rw [dS_drop]
      simp
      refine is_ring_run (E := []) hw (r := []) (by simp) (by simp) (fun _ => ?_) fun _ => ?_
      · exact ⟨_, rfl⟩
      · exact ⟨_, rfl⟩
  · rintro ρ ⟨s2, rfl⟩
    simp
    exact q
/-! ### drawn edges -/
abbrev thr : List Str := [sRW, sWR, sWW]
def EdOk (many : Int) (e : Ed) : Prop := (1 ≤ e.2.1 ∧ e.2.1 ≤ many) ∧ (1 ≤ e.2.2.1 ∧ e.2.2.1 ≤ many)
def InvSe (many most : Int) (i : Nat) (ρ : List Sl) : Prop := ∃ (L : List Ed) (s4 s5 s6 : Sl), ρ = [.pool, .val (.int most), .val (.int many), .own (L.map edD), s4, s5, s6] ∧ L.length ≤ i ∧ ∀ e ∈ L, EdOk many e
theorem mul3_run {m : Int} (h0 : 0 ≤ m) (h1 : m ≤ 100) {Q : D → Prop} {X : Exc → Prop} (q : Q (.int (3 * m))) : (AO.mul.op (.int 3) (.int m)).run Q X := by
  exact ⟨cmul_r (by omega), q⟩
theorem some_edges_run {Q : D → Prop} {X : Exc → Prop} (q : ∀ E : List Ed, E.length ≤ 200 → (∀ e ∈ E, EdOk 6 e) → Q (.list (E.map edD))) : (f_l_some_edges [.pool, .d (.int 5)]).run Q X := by
  unfold f_l_some_edges
  simp [b_l_some_edges, -dT_cons]
  refine stp ?_
  simp [-dT_cons]
  intro v h0 h5
  generalize hm : (2 + v : Int) = many
  refine stp ?_
  simp [-dT_cons]
  refine stp ?_
  simp [-dT_cons]
  refine mul3_run (by omega) (by omega) ?_
  simp [-dT_cons]
  refine ⟨by omega, by omega, fun n n0 n1 => ?_⟩
  refine ⟨inR_small (by omega) (by omega), ?_⟩
  refine forD_upto (InvSe many 5) ⟨[], _, _, _, rfl, Nat.le_refl _, (by intro e he; cases he)⟩ ?_ ?_
  · rintro i ρ hi ⟨L, s4, s5, s6, rfl, hL, hE⟩
    simp [-dT_cons]
    refine stp ?_
    simp [-dT_cons]
    refine ⟨by omega, by omega, fun a a0 a1 => ⟨by omega, by omega, fun b b0 b1 => ?_⟩⟩
    by_cases c : (1 + a : Int) = 1 + b
    · refine ife_no ?_ ?_
      · simpa using c
      exact ⟨L, _, _, _, rfl, by omega, hE⟩
    · refine ife_then ?_ ?_
      · simpa using c
      simp [appW, ownW, l4]
      refine pick_run (by simp) (by simp) fun d hd v v0 v2 => ⟨Nat.succ_le_iff.mp (line8 (by omega)), ?_⟩
      obtain ⟨z, rfl⟩ : ∃ z, d = .str z := by
        simp at hd
        rcases hd with h | h | h <;> exact ⟨_, h⟩
      refine ⟨L ++ [(z, 1 + a, 1 + b, v)], .val (.int i), .val (.int (1 + a)), .val (.int (1 + b)), by simp, by simp; omega, fun e he => ?_⟩
      rcases List.mem_append.mp he with he | he
      · exact hE e he
      · rw [List.mem_singleton.mp he]
        exact ⟨⟨by simp only; omega, by simp only; omega⟩, by simp only; omega, by simp only; omega⟩
  · rintro ρ ⟨L, s4, s5, s6, rfl, hL, hE⟩
    simp
    refine srtS_ed L (fun _ h => h) (by omega) fun U hU hn hm' => ?_
    exact q U (by have := nodup_len hn fun e he => (hm' e).mp he; omega) fun e he => by
      obtain ⟨⟨h1, h2⟩, h3, h4⟩ := hE e ((hm' e).mp he)
      exact ⟨⟨h1, by omega⟩, h3, by omega⟩
end K06

namespace K06
open PySem PySem.Spec PyProof.Rows L2 Ev EvR
/-! ### the law -/
theorem set_all {M : Mg} {i : Nat} {e : IE} {t : IT} {ρ : List Sl} {P : D → Prop} {K : Out → Prop} {XX : XS → Prop} (h : (denE M e ρ).run P (fun z => XX (z, ρ))) (h2 : ∀ v, P v → (denT M t (ρ.set i (.val v))).run K XX) : (denT M (.cons (.set i e) t) ρ).run K XX := by
  refine stp ?_
  simp only [dS_set]
  exact (denE M e ρ).mono (fun k hk => h2 k hk) (fun _ q => q) h
theorem good_ro (o : Option (List Ed)) : good 8 (roD o) := by
  cases o with
  | none => trivial
  | some r =>
    intro x hx
    obtain ⟨e, _, rfl⟩ := List.mem_map.mp hx
    intro y hy
    simp at hy
    rcases hy with rfl | rfl | rfl | rfl <;> trivial
structure EOk (E : List Ed) : Prop where
  len : E.length ≤ 200
  ok : ∀ e ∈ E, EdOk 6 e
theorem EOk.st {E : List Ed} (h : EOk E) : (uniqI (E.map fun e => e.2.1)).length < 64 := by
  have := nodup_len (sorted_nodup linI (uniq_sorted linI (E.map fun e => e.2.1))) (m := rgI 1 6) fun x hx => by
    obtain ⟨e, he, rfl⟩ := List.mem_map.mp ((uniq_mem linI _ _).mp hx)
    obtain ⟨⟨h1, h2⟩, _⟩ := h.ok e he
    exact rgI_mem.mpr ⟨h1, by omega⟩
  rw [rgI_len] at this
  show (uniqI _).length < 64
  unfold uniqI
  omega
theorem EOk.small {E : List Ed} (h : EOk E) {w : Str} (hw : w ∈ five) {st : Int} {es : List Ed} (R : Rg E w st es) : ∃ st' fs, Rg E w st' fs ∧ fs.length ≤ 12 := by
  obtain ⟨st', fs, h1, h2⟩ := Rg_small hw (B := rgI 1 6) (fun e he => by
    obtain ⟨_, h3, h4⟩ := h.ok e he
    exact rgI_mem.mpr ⟨h3, by omega⟩) es.length rfl R
  rw [rgI_len] at h2
  exact ⟨st', fs, h1, h2⟩
theorem EOk.short {E : List Ed} (h : EOk E) {w : Str} (hw : w ∈ five) {r : List Ed} (hs : shortF E w = some r) : r.length ≤ 12 ∧ RL w r ∧ (∀ e ∈ r, e ∈ E) ∧ (∃ st, Rg E w st r) ∧ ∀ st es, Rg E w st es → r.length ≤ es.length := by
  have ok := short_ok E w
  rw [hs] at ok
  obtain ⟨⟨st, R⟩, hm⟩ := ok
  obtain ⟨st', fs, h1, h2⟩ := h.small hw R
  obtain ⟨g1, g2⟩ := Rg_RL hw R
  exact ⟨Nat.le_trans (hm _ _ h1) h2, g1, g2, ⟨st, R⟩, hm⟩
def GoodV (E : List Ed) (v : D) : Prop := (∃ r : List Ed, v = rgD r ∧ r.length ≤ 200 ∧ ∀ e ∈ r, e ∈ E) ∨ Odd v
theorem cut_last (xs : List D) : Ev.cutD xs none (some (-1)) = xs.take (xs.length - 1) := by
  unfold Ev.cutD
  rw [HT.sIx_none, List.drop_zero, Nat.sub_zero]
  have : HT.sIx xs.length xs.length (some (-1)) = xs.length - 1 := by
    show (if (-1 : Int) < 0 then ((-1 : Int) + (xs.length : Int)).toNat else min (-1 : Int).toNat xs.length) = _
    rw [if_pos (by decide)]
    omega
  rw [this]
def InvLw (i : Nat) (ρ : List Sl) : Prop := ∃ s0 s2 s3 s4 s5 s6 s7 s8 s9, ρ = [s0, .pool, s2, s3, s4, s5, s6, s7, s8, s9]
def InvLe (E : List Ed) (i : Nat) (ρ : List Sl) : Prop := ∃ s0 s2 s4 s5 s6 s7 s8 s9, ρ = [s0, .pool, s2, .val (.list (E.map edD)), s4, s5, s6, s7, s8, s9]
def InvLv (E : List Ed) (w : Str) (i : Nat) (ρ : List Sl) : Prop := ∃ s0 s2 s5 s6 s7 s8 s9, ρ = [s0, .pool, s2, .val (.list (E.map edD)), .val (.str w), s5, s6, s7, s8, s9]
theorem body_run {E : List Ed} {w : Str} (hw : w ∈ five) {v : D} (hv : GoodV E v) {s0 s2 s5 s6 s8 s9 : Sl} {K : Out → Prop} {XX : XS → Prop} (q : K (.nx [s0, .pool, s2, .val (.list (E.map edD)), .val (.str w), s5, s6, .val v, s8, s9])) :
    (denT m_law (.cons (.ife (.not (.tru (.e (.call 5 (.d (.call 8 (.d (.v 3) (.d (.v 4) (.d (.v 7) .nil)))) (.d (.call 7 (.d (.v 3) (.d (.v 4) (.d (.v 7) .nil)))) .nil)))))) (.cons (.ret (.b false)) .nil) .nil) .nil) [s0, .pool, s2, .val (.list (E.map edD)), .val (.str w), s5, s6, .val v, s8, s9]).run K XX := by
  refine ife_no ?_ ?_
  · simp
    rcases hv with ⟨r, rfl, hl, hr⟩ | hv
    · refine is_ring_run hw hl hr (fun R => ?_) (fun R => ?_)
      · refine l_is_ring_run hw hl hr (fun _ => ?_) fun n => absurd R n
        exact same_ok 8 trivial (by simp)
      · refine l_is_ring_run hw hl hr (fun y => absurd y R) fun _ => ?_
        exact same_ok 8 trivial (by simp)
    · refine is_ring_odd hw hv (l_is_ring_odd hv ?_)
      exact same_ok 8 trivial (by simp)
  simp
  exact q
theorem law_run : (denT m_law b_law ((List.replicate 10 Sl.un).set 1 .pool)).run lawQ fun _ => False := by
  simp [b_law]
  refine ⟨inR_small (by decide) (by decide), ?_⟩
  refine forD_upto InvLw ⟨_, _, _, _, _, _, _, _, _, rfl⟩ ?_ ?_
  · rintro i ρ hi ⟨s0, s2, s3, s4, s5, s6, s7, s8, s9, rfl⟩
    simp [-dT_cons]
    refine set_all (P := fun v => ∃ E : List Ed, EOk E ∧ v = .list (E.map edD)) ?_ ?_
    · simp
      split
      · exact some_edges_run fun E h1 h2 => ⟨E, ⟨h1, h2⟩, rfl⟩
      · refine history_run fun mode R os hR hH => ?_
        obtain ⟨many, keys, k1, k2, k3, k4, G, O, hl, hrw⟩ := hR
        have hz : R.length ≤ 200 := by omega
        have hks : ∀ d ∈ R, isRd d = true → 0 ≤ kof d ∧ kof d < 4 := by
          intro d hd hr
          obtain ⟨j, hj, ej⟩ := List.getElem_of_mem hd
          have st := (gen_step G j d (by rw [← ej]; exact List.getElem?_eq_getElem hj)).2
          cases d <;> first | cases hr | skip
          exact ⟨st.2.1, by have := st.2.2.1; simp [kof]; omega⟩
        have hol : ∀ o ∈ os, o.length ≤ 200 := by
          intro o ho
          obtain ⟨j, hj, ej⟩ := List.getElem_of_mem ho
          obtain ⟨l, e1, e2⟩ := hH.2 j (by have := hH.1; omega)
          have e3 : o = 0 :: l := by
            rw [List.getElem?_eq_getElem hj, ej] at e1
            exact Option.some.inj e1
          rw [e3, List.length_cons, e2.length_eq]
          have := wrts_len R j
          omega
        have hEl := edge_len G k2 hrw hH
        refine edges_run hz hH.1 hol hks hEl fun U hU hn hm => ⟨U, ⟨?_, fun e he => ?_⟩, rfl⟩
        · have := nodup_len hn fun e he => (hm e).mp he
          omega
        · obtain ⟨w1, w2, w3⟩ := edge_works hH (fun k => wrts_nodup G k) (fun w hw => by
            have := (G.range w (G.begun _ (cms_mem.mp hw))).1
            omega) hks ((hm e).mp he)
          have r : ∀ w, w ∈ srtI (cms R) → 1 ≤ w ∧ w ≤ 6 := fun w hw => by
            have := G.range w (G.begun _ (cms_mem.mp (List.mem_mergeSort.mp hw)))
            omega
          exact ⟨r _ w1, r _ w2⟩
    rintro _ ⟨E, hE, rfl⟩
    have hst := hE.st
    have hEl := hE.len
    simp [-dT_cons]
    refine stp ?_
    simp [-dT_cons]
    refine ⟨line8 (by omega), fun _ => ?_⟩
    refine forD_enc (enc := PyData.str) (xs := five) (InvLe E) ⟨_, _, _, _, _, _, _, _, rfl⟩ ?_ ?_
    · rintro i' w ρ hw' ⟨s0, s2, s4, s5, s6, s7, s8, s9, rfl⟩
      have hw : w ∈ five := List.mem_of_getElem? hw'
      simp [-dT_cons]
      refine stp ?_
      simp [-dT_cons]
      refine shortest_run hEl hw hst ?_
      have hshort := fun r => hE.short hw (r := r)
      have hnone : shortF E w = none → ∀ st es, ¬ Rg E w st es := fun h => by
        have := short_ok E w
        rw [h] at this
        exact this
      have hringF : (f_l_ring [.d (.list (E.map edD)), .d (.str w)]).run (fun x => x = roD (shortF E w)) (fun _ => False) := l_ring_run hEl hst rfl
      generalize hS : shortF E w = S at hshort hnone hringF
      refine ife_no ?_ ?_
      · simp
        refine l_ring_run hEl hst ?_
        rw [hS]
        refine same_ok 8 (good_ro S) ?_
        simp
        refine any_run (n := 14) hEl (by decide) hst (fun h => ?_) (fun h => ?_)
        · cases S with
          | none =>
            obtain ⟨st, es, R, _⟩ := h
            exact absurd R (hnone rfl st es)
          | some r => simp [roD]
        · cases S with
          | none => simp [roD]
          | some r =>
            obtain ⟨h1, h2, h3, ⟨st, R⟩, h5⟩ := hshort r rfl
            exact absurd ⟨st, r, R, by omega⟩ h
      refine ife_no ?_ ?_
      · simp
        cases S with
        | none => simp [roD]
        | some r =>
          obtain ⟨h1, h2, h3, ⟨st, R⟩, h5⟩ := hshort r rfl
          simp [roD]
          refine l_is_ring_run hw (by omega) h3 (fun _ => ?_) fun z => absurd h2 z
          simp
          intro _ hlt _
          rw [show ((r.length : Int) - 1) = ((r.length - 1 : Nat) : Int) by omega]
          refine any_run hEl (by omega) hst (fun h => ?_) (fun h => ?_)
          · obtain ⟨st', es, R', hl⟩ := h
            have := h5 st' es R'
            omega
          · simp
      refine stp ?_
      simp [-dT_cons]
      refine ⟨line8 (by omega), fun _ => ⟨line8 (by omega), ?_⟩⟩
      refine lcD_mp (enc := PyData.str) (enc' := roD) (shortF E) (xs := five) (fun z hz R' hR' => ?_) ?_
      · simp [turnB, wipeR]
        exact shortest_run hEl hz hst hR'
      refine stp ?_
      simp [-dT_cons, -List.map_cons]
      refine fun _ => ⟨line8 (by simp), ?_⟩
      refine lcD_fm (enc := roD) (enc' := rgD) (xs := five.map (shortF E)) Option.isSome (fun o => o.getD []) (fun o ho R' h1 h0 => ?_) ?_
      · simp [turnB, wipeR]
        cases o with
        | none => exact h0 rfl
        | some r => exact h1 rfl
      have hRR : ∀ r ∈ ((five.map (shortF E)).filter Option.isSome).map (fun o => o.getD []), r.length ≤ 200 ∧ ∀ e ∈ r, e ∈ E := by
        intro r hr
        obtain ⟨o, ho, rfl⟩ := List.mem_map.mp hr
        obtain ⟨ho1, ho2⟩ := List.mem_filter.mp ho
        obtain ⟨z, hz, rfl⟩ := List.mem_map.mp ho1
        cases hs : shortF E z with
        | none => rw [hs] at ho2; cases ho2
        | some r' =>
          obtain ⟨g1, g2, g3, _⟩ := hE.short hz hs
          exact ⟨by simp; omega, g3⟩
      have hRl : (((five.map (shortF E)).filter Option.isSome).map (fun o => o.getD [])).length ≤ 5 := by
        rw [List.length_map]
        exact List.length_filter_le _ _
      generalize ((five.map (shortF E)).filter Option.isSome).map (fun o => o.getD []) = RR at hRR hRl
      have hodd : ∀ v ∈ [PyData.tuple [], PyData.none, PyData.tuple [PyData.tuple [PyData.int 1, PyData.int 2]]], GoodV E v := by
        intro v hv
        simp only [List.mem_cons, List.not_mem_nil, or_false] at hv
        rcases hv with rfl | rfl | rfl
        · exact .inl ⟨[], rfl, by simp, by simp⟩
        · exact .inr (.inl rfl)
        · exact .inr (.inr (.inr rfl))
      have hrr : ∀ v ∈ RR.map rgD, GoodV E v := by
        intro v hv
        obtain ⟨r, hr, rfl⟩ := List.mem_map.mp hv
        exact .inl ⟨r, rfl, (hRR r hr).1, (hRR r hr).2⟩
      cases S with
      | none =>
        simp [roD, -dT_cons]
        refine ⟨line8 (by omega), line8 (by omega), line8 (by omega), line8 (by omega), line8 (by omega), fun _ => ?_⟩
        refine forD_run (InvLv E w) ⟨_, _, _, _, _, _, _, rfl⟩ (fun k v ρ hv hI => ?_) (fun ρ hI => ?_)
        · obtain ⟨t0, t2, t5, t6, t7, t8, t9, rfl⟩ := hI
          have hvm := List.mem_of_getElem? hv
          simp [-dT_cons]
          refine body_run hw ?_ ⟨_, _, _, _, _, _, _, rfl⟩
          rcases List.mem_append.mp hvm with h | h
          · exact hrr v h
          · exact hodd v h
        · obtain ⟨t0, t2, t5, t6, t7, t8, t9, rfl⟩ := hI
          exact ⟨_, _, _, _, _, _, _, _, rfl⟩
      | some r =>
        obtain ⟨h1, h2, h3, _⟩ := hshort r rfl
        have hc1 : Ev.cutD (r.map edD) (some 1) none = (r.drop 1).map edD := by rw [show (1 : Int) = ((1 : Nat) : Int) from rfl, cut_drop, List.map_drop]
        have hc2 : Ev.cutD (r.map edD) none (some 1) = (r.take 1).map edD := by rw [show (1 : Int) = ((1 : Nat) : Int) from rfl, cut_take, List.map_take]
        have hc3 : Ev.cutD (r.map edD) none (some (-1)) = (r.take (r.length - 1)).map edD := by rw [cut_last, List.length_map, List.map_take]
        have hl1 : (r.drop 1).length + (r.take 1).length ≤ 24 := by simp; omega
        have hfour : ∀ v ∈ [rgD (r.drop 1 ++ r.take 1), rgD (r.take (r.length - 1)), rgD (r ++ r), PyData.list (r.map edD)], GoodV E v := by
          intro v hv
          simp only [List.mem_cons, List.not_mem_nil, or_false] at hv
          rcases hv with rfl | rfl | rfl | rfl
          · refine .inl ⟨_, rfl, by rw [List.length_append]; omega, fun e he => ?_⟩
            rcases List.mem_append.mp he with he | he
            · exact h3 e (List.mem_of_mem_drop he)
            · exact h3 e (List.mem_of_mem_take he)
          · exact .inl ⟨_, rfl, by simp; omega, fun e he => h3 e (List.mem_of_mem_take he)⟩
          · refine .inl ⟨_, rfl, by simp; omega, fun e he => ?_⟩
            rcases List.mem_append.mp he with he | he <;> exact h3 e he
          · exact .inr (.inr (.inl ⟨r, rfl⟩))
        simp [roD, -dT_cons]
        rw [hc1, hc2, hc3, List.length_map, List.length_map]
        refine ⟨line8 (by omega), line8 (by omega), line8 (by omega), line8 (by omega), line8 (by omega), line8 (by omega), line8 (by omega), line8 (by omega), fun _ => ?_⟩
        refine forD_run (InvLv E w) ⟨_, _, _, _, _, _, _, rfl⟩ (fun k v ρ hv hI => ?_) (fun ρ hI => ?_)
        · obtain ⟨t0, t2, t5, t6, t7, t8, t9, rfl⟩ := hI
          have hvm := List.mem_of_getElem? hv
          simp [-dT_cons]
          refine body_run hw ?_ ⟨_, _, _, _, _, _, _, rfl⟩
          rcases List.mem_append.mp hvm with h | h
          · exact hrr v h
          · rw [← List.map_append, ← List.map_append] at h
            rcases List.mem_append.mp (show v ∈ [rgD (r.drop 1 ++ r.take 1), rgD (r.take (r.length - 1)), rgD (r ++ r), PyData.list (r.map edD)] ++ [PyData.tuple [], PyData.none, PyData.tuple [PyData.tuple [PyData.int 1, PyData.int 2]]] from h) with h | h
            · exact hfour v h
            · exact hodd v h
        · obtain ⟨t0, t2, t5, t6, t7, t8, t9, rfl⟩ := hI
          exact ⟨_, _, _, _, _, _, _, _, rfl⟩
    · rintro ρ ⟨s0, s2, s4, s5, s6, s7, s8, s9, rfl⟩
      refine ife_no ?_ ?_
      · simp
        refine refused_run (by decide +kernel) ?_
        simp
        refine refused_run (by decide +kernel) ?_
        simp
        refine let_in_run (by decide +kernel) ?_
        simp
      exact ⟨_, _, _, _, _, _, _, _, _, rfl⟩
  · rintro ρ ⟨s0, s2, s3, s4, s5, s6, s7, s8, s9, rfl⟩
    simp [lawQ]
end K06

open PySem PySem.W PySem.Calls PyProof.Rows
theorem PySem.Challenge.cw_everyhistory_k06_whole_rings_holds : PySem.Challenge.rw_everyhistory_k06_whole_rings.Holds := by
  w_on; o_law
  refine HandSHeadRun.head_any (r := OpenLaw.row PySem.Challenge.rw_everyhistory_k06_whole_rings) (q := view (OpenLaw.row PySem.Challenge.rw_everyhistory_k06_whole_rings).prog [41]) (H := K06.hk) (ob := K06.ob) (M := 2520) (loose := [(PySem.Str.ofString "HistoryError"), (PySem.Str.ofString "NotAllowed"), (PySem.Str.ofString "KEYS"), (PySem.Str.ofString "committed"), (PySem.Str.ofString "deeds_of"), (PySem.Str.ofString "outer_reads"), (PySem.Str.ofString "next_writer"), (PySem.Str.ofString "edges"), (PySem.Str.ofString "RINGS"), (PySem.Str.ofString "is_let"), (PySem.Str.ofString "is_done"), (PySem.Str.ofString "ring_from"), (PySem.Str.ofString "shortest_ring"), (PySem.Str.ofString "is_ring"), (PySem.Str.ofString "_law_same"), (PySem.Str.ofString "_law_pool"), (PySem.Str.ofString "_law_spread"), (PySem.Str.ofString "_law_draw"), (PySem.Str.ofString "_law_pick"), (PySem.Str.ofString "_law_shuffled"), (PySem.Str.ofString "_law_count"), (PySem.Str.ofString "_law_version"), (PySem.Str.ofString "_law_row"), (PySem.Str.ofString "_law_rows"), (PySem.Str.ofString "_law_last"), (PySem.Str.ofString "_law_writers"), (PySem.Str.ofString "_law_by_commits"), (PySem.Str.ofString "_law_history"), (PySem.Str.ofString "_law_next"), (PySem.Str.ofString "_law_closes"), (PySem.Str.ofString "_law_ring_from"), (PySem.Str.ofString "_law_ring"), (PySem.Str.ofString "_law_is_ring"), (PySem.Str.ofString "_law_some_edges"), (PySem.Str.ofString "_law_any"), (PySem.Str.ofString "_law_refused")]) (d := HandSHeadRun.topDef (OpenLaw.row PySem.Challenge.rw_everyhistory_k06_whole_rings).prog 41) (kwd := []) K06.ob_eq
    (by kernel_rfl) (fun s => by kernel_rfl) K06.run (by kernel_rfl) (by kernel_rfl) (by kernel_rfl) (by rfl) (by first | assumption | decide +kernel) (by decide +kernel) ⟨rfl, rfl, rfl, rfl, rfl, by decide +kernel⟩ ?hw ?hc
  case hw => w_witness2
  case hc =>
    refine Ev.walk_ev (l := PySem.Challenge.rw_everyhistory_k06_whole_rings) (k := 9) rfl (by kernel_rfl) ⟨rfl, by decide, by decide⟩ ?F
    intro w mg fa h Y G hmg0
    obtain ⟨K, KX, c⟩ := Y
    have hmg : mg ("law" : PySem.Str) = some (.ref fa) := by
      have e : (HandSHeadRun.topDef (OpenLaw.row PySem.Challenge.rw_everyhistory_k06_whole_rings).prog 41).name = ("law" : PySem.Str) := by kernel_rfl
      rw [← e]
      exact hmg0
    obtain ⟨fd, hb, hF⟩ := K06.ok_law (P := (PySem.Challenge.rw_everyhistory_k06_whole_rings).prog) (w := w) KX G c K06.law_run
    have e := hmg.symm.trans (He.glo_ok KX G (c.t.d.fact 32 (f := .glo "law") rfl))
    cases e
    exact ⟨K, fd, KX, hb, fun base _ _ => hF base⟩

