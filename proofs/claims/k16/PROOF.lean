import PyProof.Rows.All
import Wide.All
import OpenK.AllK
import Wide.FinOn
import HandS.ForMost
import HandS.Exc
import HandS.ExcOwn
import HandS.TryOnly
import HandS.WordsExc
import HandS.Defaults
import HandS.TupAny
import HandS.Deep
import HandS.Zip
import HandS.IsInst
import HandS.Small
import KE.SortData
import HandS.Dict
import HandS.Flow
import HandS.SetFor
import HandS.TupSets
import HandS.Strs
import HandS.Rev
import HandS.Conv
import HandS.More
import HandS.RevTup
import HandS.Style
import HandS.HeadHook2
import HandS.Head0
import HandS.Head1
import HandS.Head2
import HandS.HeadEnd
import HandS.HeadHook1
import HandS.HeadHook3
import HandS.HeadHook4
import PySem.Challenge.RW_everyhistory_k16_whole_wishes_of_hands
set_option Elab.async false
set_option linter.all false
set_option maxRecDepth 100000
set_option maxHeartbeats 0
set_option autoImplicit false
/-! Ev1: data, the monad of what is asked, ghosts, readings. -/
namespace Ev
open PySem PySem.Spec PyProof.Rows L2

abbrev D := PyData
abbrev St := L2.St

/-- an exception of the program: its class's name, its fields -/
structure Exc where
  cls : Str
  flds : List (Str × D) := []

/-- what is asked of a computation, so that its end has Q or its exception X -/
structure W (ε α : Type) where
  run : (α → Prop) → (ε → Prop) → Prop
  mono : ∀ {Q Q' : α → Prop} {X X' : ε → Prop}, (∀ a, Q a → Q' a) → (∀ x, X x → X' x) → run Q X → run Q' X'
namespace W
variable {ε α β : Type}
def ret (a : α) : W ε α := ⟨fun Q _ => Q a, fun h _ q => h _ q⟩
def err (x : ε) : W ε α := ⟨fun _ X => X x, fun _ h q => h _ q⟩
def stuck : W ε α := ⟨fun _ _ => False, fun _ _ q => q⟩
def bind (m : W ε α) (f : α → W ε β) : W ε β :=
  ⟨fun Q X => m.run (fun a => (f a).run Q X) X, fun h hx q => m.mono (fun a qa => (f a).mono h hx qa) hx q⟩
/-- must be shown -/
def ask (p : Prop) : W ε Unit := ⟨fun Q _ => p ∧ Q (), fun h _ q => ⟨q.1, h _ q.2⟩⟩
/-- may be used -/
def given (p : Prop) : W ε Unit := ⟨fun Q _ => p → Q (), fun h _ q hp => h _ (q hp)⟩
/-- any number below n -/
def draw (n : Int) : W ε Int := ⟨fun Q _ => 0 < n ∧ ∀ v, 0 ≤ v → v < n → Q v, fun h _ q => ⟨q.1, fun v a b => h _ (q.2 v a b)⟩⟩
/-- another exception type -/
def mapErr {ε' : Type} (g : ε → ε') (m : W ε α) : W ε' α := ⟨fun Q X => m.run Q (fun x => X (g x)), fun h hx q => m.mono h (fun x qx => hx _ qx) q⟩
/-- what an exception is turned into -/
def catch_ {ε' : Type} (m : W ε α) (g : ε → W ε' α) : W ε' α := ⟨fun Q X => m.run Q (fun x => (g x).run Q X), fun h hx q => m.mono h (fun x qx => (g x).mono h hx qx) q⟩
instance : Monad (W ε) where
  pure := ret
  bind := bind
@[simp] theorem ret_run {a : α} {Q : α → Prop} {X : ε → Prop} : (ret a : W ε α).run Q X = Q a := rfl
@[simp] theorem pure_run {a : α} {Q : α → Prop} {X : ε → Prop} : (pure a : W ε α).run Q X = Q a := rfl
@[simp] theorem err_run {x : ε} {Q : α → Prop} {X : ε → Prop} : (err x : W ε α).run Q X = X x := rfl
@[simp] theorem stuck_run {Q : α → Prop} {X : ε → Prop} : (stuck : W ε α).run Q X = False := rfl
@[simp] theorem bind_run {m : W ε α} {f : α → W ε β} {Q : β → Prop} {X : ε → Prop} : (m.bind f).run Q X = m.run (fun a => (f a).run Q X) X := rfl
@[simp] theorem bind_run' {m : W ε α} {f : α → W ε β} {Q : β → Prop} {X : ε → Prop} : (m >>= f).run Q X = m.run (fun a => (f a).run Q X) X := rfl
@[simp] theorem ask_run {p : Prop} {Q : Unit → Prop} {X : ε → Prop} : (ask p : W ε Unit).run Q X = (p ∧ Q ()) := rfl
@[simp] theorem given_run {p : Prop} {Q : Unit → Prop} {X : ε → Prop} : (given p : W ε Unit).run Q X = (p → Q ()) := rfl
@[simp] theorem draw_run {n : Int} {Q : Int → Prop} {X : ε → Prop} : (draw n : W ε Int).run Q X = (0 < n ∧ ∀ v, 0 ≤ v → v < n → Q v) := rfl
@[simp] theorem mapErr_run {ε' : Type} {g : ε → ε'} {m : W ε α} {Q : α → Prop} {X : ε' → Prop} : (m.mapErr g).run Q X = m.run Q (fun x => X (g x)) := rfl
@[simp] theorem catch_run {ε' : Type} {m : W ε α} {g : ε → W ε' α} {Q : α → Prop} {X : ε' → Prop} : (m.catch_ g).run Q X = m.run Q (fun x => (g x).run Q X) := rfl
theorem ret_bind {a : α} {f : α → W ε β} : (ret a).bind f = f a := rfl
end W

/-! ### data in the heap -/
section
variable {K : PySem.W.Frag} {γ γ' H H' : Hp}
theorem Same.sqt {a : Addr} {xs : List V} (e : Same H H') (h : SqT K H a xs) : SqT K H' a xs := by
  rcases h with (h | ⟨o, h⟩) | h
  · exact .inl (.inl (e _ _ h))
  · exact .inl (.inr ⟨o, e _ _ h⟩)
  · exact .inr h
/-- a tuple of ours: its object is known to bear no dict of its own; or one of the written part -/
def TupAt (K : PySem.W.Frag) (γ : Hp) (a : Addr) (xs : List V) : Prop :=
  (∃ o : Obj, γ a = some (.frz o (.tup xs)) ∧ o.dict = none) ∨
    ∃ (o : Obj) (its : Array Value) (n : Nat), K.lookup a = some o ∧ o.cls = .type "tuple" ∧ o.dict = none ∧ o.data = .seq its n ∧ its.size ≤ sizeLine ∧ Vals xs its.toList
theorem TupAt.sq {a : Addr} {xs : List V} (h : TupAt K γ a xs) : SqT K γ a xs := by
  rcases h with ⟨o, h, _⟩ | ⟨o, its, n, h1, h2, _, h3, h4, h5⟩
  · exact .inl (.inr ⟨o, h⟩)
  · exact .inr ⟨o, its, n, h1, h2, h3, h4, h5⟩
theorem TupAt.mono {a : Addr} {xs : List V} (h : TupAt K γ a xs) (s : Same γ γ') : TupAt K γ' a xs := by
  rcases h with ⟨o, h, d⟩ | h
  · exact .inl ⟨o, s _ _ h, d⟩
  · exact .inr h
def kvOf (ks : List Str) (vs : List V) : List (Key × V) := (ks.zip vs).map fun q => (Sum.inr q.1, q.2)
/-- a dict with text keys, as data -/
def dkv (ks : List Str) (ds : List D) : List (D × D) := (ks.zip ds).map fun q => (PyData.str q.1, q.2)
/-- a dict's items at a, locked -/
def DkAt (γ : Hp) (a : Addr) (kvs : List (Key × V)) : Prop := ∃ o : Obj, γ a = some (.frz o (.dK kvs))
theorem DkAt.mono {γ γ' : Hp} {a : Addr} {kvs : List (Key × V)} (h : DkAt γ a kvs) (s : Same γ γ') : DkAt γ' a kvs := let ⟨o, e⟩ := h; ⟨o, s _ _ e⟩
def KsOk (ks : List Str) (ds : List D) : Prop := (ks.Nodup ∧ ks.length = ds.length) ∧ ∀ k ∈ ks, PyData.strOk k = true
mutual
inductive Dq (K : PySem.W.Frag) (γ : Hp) : V → D → Prop
  | non : Dq K γ .non .none
  | bl (b : Bool) : Dq K γ (.bl b) (.bool b)
  | int (i : Int) : Dq K γ (.int i) (.int i)
  | str (x : Str) : PyData.strOk x = true → Dq K γ (.str x) (.str x)
  | lst {a : Addr} {xs : List V} {ds : List D} : γ a = some (.lst xs) → DqAll K γ xs ds → Dq K γ (.ref a) (.list ds)
  | tup {a : Addr} {xs : List V} {ds : List D} : TupAt K γ a xs → DqAll K γ xs ds → Dq K γ (.ref a) (.tuple ds)
  | dct {a : Addr} {ks : List Str} {xs : List V} {ds : List D} {kvs : List (D × D)} : DkAt γ a (mergeK [] (kvOf ks xs)) → DqAll K γ xs ds → KsOk ks ds → kvs = dkv ks ds → Dq K γ (.ref a) (.dict kvs)
inductive DqAll (K : PySem.W.Frag) (γ : Hp) : List V → List D → Prop
  | nil : DqAll K γ [] []
  | cons {v : V} {vs : List V} {d : D} {ds : List D} : Dq K γ v d → DqAll K γ vs ds → DqAll K γ (v :: vs) (d :: ds)
end
mutual
theorem dq_mono' (s : Same γ γ') : ∀ {v : V} {d : D}, Dq K γ v d → Dq K γ' v d
  | _, _, .non => .non
  | _, _, .bl _ => .bl _
  | _, _, .int _ => .int _
  | _, _, .str _ h => .str _ h
  | _, _, .lst a b => .lst (s _ _ a) (dqAll_mono' s b)
  | _, _, .tup a b => .tup (a.mono s) (dqAll_mono' s b)
  | _, _, .dct a b e1 e2 => .dct (a.mono s) (dqAll_mono' s b) e1 e2
theorem dqAll_mono' (s : Same γ γ') : ∀ {vs : List V} {ds : List D}, DqAll K γ vs ds → DqAll K γ' vs ds
  | _, _, .nil => .nil
  | _, _, .cons a b => .cons (dq_mono' s a) (dqAll_mono' s b)
end
theorem dq_mono (s : Same γ γ') (d : D) (v : V) (h : Dq K γ v d) : Dq K γ' v d := dq_mono' s h
theorem dqAll_mono (s : Same γ γ') (ds : List D) (vs : List V) (h : DqAll K γ vs ds) : DqAll K γ' vs ds := dqAll_mono' s h
mutual
/-- no dict in it -/
def nd : D → Bool
  | .list ds => ndAll ds
  | .tuple ds => ndAll ds
  | .dict _ => false
  | _ => true
def ndAll : List D → Bool
  | [] => true
  | d :: ds => nd d && ndAll ds
end
mutual
theorem dq_dp : ∀ (d : D) (v : V), nd d = true → Dq K γ v d → Dp K γ v d ∧ d.canLay0 = true
  | .none, _, _, h => by cases h; exact ⟨.non, by simp [PyData.canLay0]⟩
  | .bool _, _, _, h => by cases h; exact ⟨.bl _, by simp [PyData.canLay0]⟩
  | .int _, _, _, h => by cases h; exact ⟨.int _, by simp [PyData.canLay0]⟩
  | .str _, _, _, h => by cases h with | str x e => exact ⟨.str _, by simp [PyData.canLay0, e]⟩
  | .list ds, _, n, h => by
    cases h with
    | lst a b =>
      obtain ⟨q1, q2⟩ := dqAll_dp ds _ (by simpa [nd] using n) b
      exact ⟨.lst (.of a) q1, by simp [PyData.canLay0, q2]⟩
  | .tuple ds, _, n, h => by
    cases h with
    | tup a b =>
      obtain ⟨q1, q2⟩ := dqAll_dp ds _ (by simpa [nd] using n) b
      exact ⟨.tup a.sq q1, by simp [PyData.canLay0, q2]⟩
  | .dict _, _, n, h => by simp [nd] at n
theorem dqAll_dp : ∀ (ds : List D) (vs : List V), ndAll ds = true → DqAll K γ vs ds → DpAll K γ vs ds ∧ PyData.canLayAll0 ds = true
  | [], _, _, h => by cases h; exact ⟨.nil, by simp [PyData.canLayAll0]⟩
  | d :: ds, _, n, h => by
    cases h with
    | cons a b =>
      have n' : nd d = true ∧ ndAll ds = true := by simpa [ndAll] using n
      obtain ⟨p1, p2⟩ := dq_dp d _ n'.1 a
      obtain ⟨q1, q2⟩ := dqAll_dp ds _ n'.2 b
      exact ⟨.cons p1 q1, by simp [PyData.canLayAll0, p2, q2]⟩
end
/-- v is d, in γ -/
def Rep (K : PySem.W.Frag) (γ : Hp) (v : V) (d : D) : Prop := Dq K γ v d ∧ True
def RepAll (K : PySem.W.Frag) (γ : Hp) (vs : List V) (ds : List D) : Prop := DqAll K γ vs ds ∧ True
theorem Rep.mono {v : V} {d : D} (h : Rep K γ v d) (s : Same γ γ') : Rep K γ' v d := ⟨dq_mono s _ _ h.1, h.2⟩
theorem RepAll.mono {vs : List V} {ds : List D} (h : RepAll K γ vs ds) (s : Same γ γ') : RepAll K γ' vs ds := ⟨dqAll_mono s _ _ h.1, h.2⟩
theorem RepAll.nil : RepAll K γ [] [] := ⟨.nil, trivial⟩
theorem RepAll.cons {v : V} {d : D} {vs : List V} {ds : List D} (h : Rep K γ v d) (t : RepAll K γ vs ds) : RepAll K γ (v :: vs) (d :: ds) :=
  ⟨.cons h.1 t.1, trivial⟩
theorem RepAll.head {v : V} {d : D} {vs : List V} {ds : List D} (h : RepAll K γ (v :: vs) (d :: ds)) : Rep K γ v d := by
  obtain ⟨h1, h2⟩ := h
  cases h1 with
  | cons a b => exact ⟨a, trivial⟩
theorem RepAll.tail {v : V} {d : D} {vs : List V} {ds : List D} (h : RepAll K γ (v :: vs) (d :: ds)) : RepAll K γ vs ds := by
  obtain ⟨h1, h2⟩ := h
  cases h1 with
  | cons a b => exact ⟨b, trivial⟩
theorem RepAll.length : ∀ {vs : List V} {ds : List D}, RepAll K γ vs ds → vs.length = ds.length
  | [], [], _ => rfl
  | [], _ :: _, h => by cases h.1
  | _ :: _, [], h => by cases h.1
  | _ :: vs, _ :: ds, h => by simp [RepAll.length h.tail]
theorem RepAll.get : ∀ {vs : List V} {ds : List D} {i : Nat} {d : D}, RepAll K γ vs ds → ds[i]? = some d → ∃ v, vs[i]? = some v ∧ Rep K γ v d
  | [], [], _, _, _, e => by simp at e
  | [], _ :: _, _, _, h, _ => by cases h.1
  | _ :: _, [], _, _, h, _ => by cases h.1
  | v :: vs, d :: ds, 0, x, h, e => by simp at e; subst e; exact ⟨v, rfl, h.head⟩
  | v :: vs, d :: ds, i + 1, x, h, e => by
    obtain ⟨w, e1, r⟩ := RepAll.get (i := i) (d := x) h.tail (by simpa using e)
    exact ⟨w, by simpa using e1, r⟩
theorem RepAll.getV : ∀ {vs : List V} {ds : List D} {i : Nat} {v : V}, RepAll K γ vs ds → vs[i]? = some v → ∃ d, ds[i]? = some d ∧ Rep K γ v d
  | [], [], _, _, _, e => by simp at e
  | [], _ :: _, _, _, h, _ => by cases h.1
  | _ :: _, [], _, _, h, _ => by cases h.1
  | v :: vs, d :: ds, 0, x, h, e => by simp at e; subst e; exact ⟨d, rfl, h.head⟩
  | v :: vs, d :: ds, i + 1, x, h, e => by
    obtain ⟨w, e1, r⟩ := RepAll.getV (i := i) (v := x) h.tail (by simpa using e)
    exact ⟨w, by simpa using e1, r⟩
theorem RepAll.append : ∀ {vs : List V} {ds : List D} {ws : List V} {es : List D}, RepAll K γ vs ds → RepAll K γ ws es → RepAll K γ (vs ++ ws) (ds ++ es)
  | [], [], _, _, _, t => t
  | [], _ :: _, _, _, h, _ => by cases h.1
  | _ :: _, [], _, _, h, _ => by cases h.1
  | v :: vs, d :: ds, _, _, h, t => .cons h.head (RepAll.append h.tail t)
theorem RepAll.take : ∀ {vs : List V} {ds : List D} (n : Nat), RepAll K γ vs ds → RepAll K γ (vs.take n) (ds.take n)
  | _, _, 0, _ => by simpa using .nil
  | [], [], _ + 1, _ => by simpa using .nil
  | [], _ :: _, _ + 1, h => by cases h.1
  | _ :: _, [], _ + 1, h => by cases h.1
  | v :: vs, d :: ds, n + 1, h => by simpa using RepAll.cons h.head (RepAll.take n h.tail)
theorem RepAll.drop : ∀ {vs : List V} {ds : List D} (n : Nat), RepAll K γ vs ds → RepAll K γ (vs.drop n) (ds.drop n)
  | _, _, 0, h => by simpa using h
  | [], [], _ + 1, _ => by simpa using .nil
  | [], _ :: _, _ + 1, h => by cases h.1
  | _ :: _, [], _ + 1, h => by cases h.1
  | v :: vs, d :: ds, n + 1, h => by simpa using RepAll.drop n h.tail
theorem RepAll.set {v : V} {d : D} (r : Rep K γ v d) : ∀ {vs : List V} {ds : List D} (n : Nat), RepAll K γ vs ds → RepAll K γ (vs.set n v) (ds.set n d)
  | [], [], _, h => by simpa using h
  | [], _ :: _, _, h => by cases h.1
  | _ :: _, [], _, h => by cases h.1
  | _ :: _, _ :: _, 0, h => by simpa using RepAll.cons r h.tail
  | _ :: _, _ :: _, n + 1, h => by simpa using RepAll.cons h.head (RepAll.set r n h.tail)
theorem Rep.tup {a : Addr} {vs : List V} {ds : List D} (h : TupAt K γ a vs) (r : RepAll K γ vs ds) : Rep K γ (.ref a) (.tuple ds) := ⟨.tup h r.1, trivial⟩
theorem Rep.lst {a : Addr} {vs : List V} {ds : List D} (h : γ a = some (.lst vs)) (r : RepAll K γ vs ds) : Rep K γ (.ref a) (.list ds) := ⟨.lst h r.1, trivial⟩
theorem Rep.ofTup {v : V} {ds : List D} (h : Rep K γ v (.tuple ds)) : ∃ a vs, v = .ref a ∧ TupAt K γ a vs ∧ RepAll K γ vs ds := by
  obtain ⟨h1, h2⟩ := h
  cases h1 with
  | tup a b => exact ⟨_, _, rfl, a, b, trivial⟩
theorem Rep.ofLst {v : V} {ds : List D} (h : Rep K γ v (.list ds)) : ∃ a vs, v = .ref a ∧ γ a = some (.lst vs) ∧ RepAll K γ vs ds := by
  obtain ⟨h1, h2⟩ := h
  cases h1 with
  | lst a b => exact ⟨_, _, rfl, a, b, trivial⟩
theorem Rep.ofInt {v : V} {i : Int} (h : Rep K γ v (.int i)) : v = .int i := by cases h.1; rfl
theorem Rep.ofBool {v : V} {i : Bool} (h : Rep K γ v (.bool i)) : v = .bl i := by cases h.1; rfl
theorem Rep.ofStr {v : V} {i : Str} (h : Rep K γ v (.str i)) : v = .str i := by cases h.1; rfl
theorem Rep.ofNone {v : V} (h : Rep K γ v .none) : v = .non := by cases h.1; rfl
theorem Rep.int {i : Int} : Rep K γ (.int i) (.int i) := ⟨.int _, trivial⟩
theorem Rep.bl {i : Bool} : Rep K γ (.bl i) (.bool i) := ⟨.bl _, trivial⟩
theorem Rep.non : Rep K γ .non .none := ⟨.non, trivial⟩
theorem Rep.str {i : Str} (h : PyData.strOk i = true) : Rep K γ (.str i) (.str i) := ⟨.str _ h, trivial⟩
theorem Rep.strOk {v : V} {i : Str} (h : Rep K γ v (.str i)) : PyData.strOk i = true := by cases h.1; assumption
theorem Rep.dct {a : Addr} {ks : List Str} {xs : List V} {ds : List D} (h : DkAt γ a (mergeK [] (kvOf ks xs))) (r : RepAll K γ xs ds) (e : KsOk ks ds) : Rep K γ (.ref a) (.dict (dkv ks ds)) := ⟨.dct h r.1 e rfl, trivial⟩
theorem Rep.ofDct {v : V} {kvs : List (D × D)} (h : Rep K γ v (.dict kvs)) : ∃ a ks xs ds, v = .ref a ∧ DkAt γ a (mergeK [] (kvOf ks xs)) ∧ RepAll K γ xs ds ∧ KsOk ks ds ∧ kvs = dkv ks ds := by
  obtain ⟨h1, h2⟩ := h
  cases h1 with
  | dct a b e1 e2 => exact ⟨_, _, _, _, rfl, a, ⟨b, trivial⟩, e1, e2⟩
end

theorem merge_keep : ∀ (ks : List Str) (vs : List V) (acc : List (Key × V)) (z : Str), z ∉ ks → valV (mergeK acc (kvOf ks vs)) (Sum.inr z : Key) = valV acc (Sum.inr z)
  | [], vs, acc, z, _ => by cases vs <;> rfl
  | x :: ks, [], acc, z, _ => rfl
  | x :: ks, v :: vs, acc, z, h => by
    have h1 : z ≠ x := fun e => h (by rw [e]; exact List.mem_cons_self)
    have h2 : z ∉ ks := fun e => h (List.mem_cons_of_mem _ e)
    show valV (mergeK (putK acc (Sum.inr x) v) (kvOf ks vs)) _ = _
    rw [merge_keep ks vs _ z h2, valV_put, if_neg (fun e => h1 (Sum.inr.inj e))]
theorem merge_get : ∀ (ks : List Str) (vs : List V) (acc : List (Key × V)) (z : Str) (v : V), ks.Nodup → (ks.zip vs).lookup z = some v → valV (mergeK acc (kvOf ks vs)) (Sum.inr z : Key) = some v
  | [], vs, acc, z, v, _, h => by cases vs <;> simp at h
  | x :: ks, [], acc, z, v, _, h => by simp at h
  | x :: ks, w :: vs, acc, z, v, nd, h => by
    obtain ⟨n1, n2⟩ := List.nodup_cons.mp nd
    show valV (mergeK (putK acc (Sum.inr x) w) (kvOf ks vs)) _ = _
    by_cases e : z = x
    · subst e
      simp only [List.zip_cons_cons, List.lookup_cons, beq_self_eq_true] at h
      cases h
      rw [merge_keep ks vs _ z n1, valV_put, if_pos rfl]
    · have hb : (z == x) = false := by simpa using e
      simp only [List.zip_cons_cons, List.lookup_cons, hb] at h
      exact merge_get ks vs _ z v n2 h
theorem look_rep {K : PySem.W.Frag} {γ : Hp} : ∀ {ks : List Str} {vs : List V} {ds : List D} {z : Str} {d : D}, RepAll K γ vs ds → (ks.zip ds).lookup z = some d → ∃ v, (ks.zip vs).lookup z = some v ∧ Rep K γ v d
  | [], vs, ds, z, d, _, h => by simp at h
  | x :: ks, [], [], z, d, _, h => by simp at h
  | x :: ks, [], _ :: _, z, d, r, h => by cases r.1
  | x :: ks, _ :: _, [], z, d, r, h => by cases r.1
  | x :: ks, v :: vs, dd :: ds, z, d, r, h => by
    cases e : z == x with
    | true =>
      simp only [List.zip_cons_cons, List.lookup_cons, e] at h ⊢
      cases h
      exact ⟨v, rfl, r.head⟩
    | false =>
      simp only [List.zip_cons_cons, List.lookup_cons, e] at h ⊢
      exact look_rep r.tail h
/-- a dict of data, looked into -/
def dlk : List (D × D) → Str → Option D
  | [], _ => none
  | (.str k, d) :: r, z => if z == k then some d else dlk r z
  | _ :: r, z => dlk r z
theorem dlk_dkv : ∀ (ks : List Str) (ds : List D) (z : Str), dlk (dkv ks ds) z = (ks.zip ds).lookup z
  | [], ds, z => by simp [dkv, dlk]
  | k :: ks, [], z => by simp [dkv, dlk]
  | k :: ks, d :: ds, z => by
    show (if z == k then some d else dlk (dkv ks ds) z) = ((k, d) :: ks.zip ds).lookup z
    rw [List.lookup_cons, dlk_dkv ks ds z]
    cases z == k <;> rfl
theorem zip_none {α : Type} {ks : List Str} {ds : List α} (hl : ks.length = ds.length) {z : Str} (h : (ks.zip ds).lookup z = none) : z ∉ ks := by
  intro hz
  induction ks generalizing ds with
  | nil => cases hz
  | cons k ks ih =>
    cases ds with
    | nil => simp at hl
    | cons d ds =>
      rw [List.zip_cons_cons, List.lookup_cons] at h
      cases e : z == k with
      | true => rw [e] at h; cases h
      | false =>
        rw [e] at h
        have hne : z ≠ k := by simpa using e
        rcases List.mem_cons.mp hz with q | q
        · exact hne q
        · exact ih (by simpa using hl) h q
/-- what stands at a key -/
theorem dct_get {K : PySem.W.Frag} {γ H : Hp} {a : Addr} {ks : List Str} {xs : List V} {ds : List D} (s : Same γ H) (h : DkAt γ a (mergeK [] (kvOf ks xs))) (r : RepAll K γ xs ds) (e : ks.Nodup ∧ ks.length = ds.length) (z : Str) :
    (∃ d v, dlk (dkv ks ds) z = some d ∧ Rep K γ v d ∧ DGet H a (.str z) (some v)) ∨ (dlk (dkv ks ds) z = none ∧ DGet H a (.str z) none) := by
  obtain ⟨oo, hH⟩ := h.mono s
  rw [dlk_dkv]
  cases q : (ks.zip ds).lookup z with
  | some d =>
    obtain ⟨v, hv, rv⟩ := look_rep r q
    exact .inl ⟨d, v, rfl, rv, .inl ⟨_, Sum.inr z, .inr ⟨oo, hH⟩, rfl, (merge_get ks xs [] z v e.1 hv).symm⟩⟩
  | none =>
    have hz := zip_none e.2 q
    exact .inr ⟨rfl, .inl ⟨_, Sum.inr z, .inr ⟨oo, hH⟩, rfl, by rw [merge_keep ks xs [] z hz]; rfl⟩⟩
/-! ### the state: γ is what stays as it is -/
def PoolAt (K : PySem.W.Frag) (γ H : Hp) (a : Addr) : Prop :=
  ∃ (c : Addr) (ns : List Int) (i j k l : Int), H a = some (.lst [.ref c, .int i, .int j, .int k, .int l]) ∧ SqL K γ c (ns.map V.int) ∧ 0 ≤ i
structure Stt (K : PySem.W.Frag) (p : Option Addr) (γ H : Hp) : Prop where
  sub : Same γ H
  pool : ∀ a, p = some a → γ a = none ∧ PoolAt K γ H a
structure Ext (K : PySem.W.Frag) (p : Option Addr) (γ H γ' H' : Hp) : Prop where
  gg : Same γ γ'
  new : ∀ a o, γ' a = some o → γ a = some o ∨ H a = none
  same : ∀ a o, p ≠ some a → H a = some o → H' a = some o
  st : Stt K p γ' H'
section
variable {K : PySem.W.Frag} {p : Option Addr} {γ γ' γ1 γ2 H H' H1 H2 H0 : Hp}
theorem Ext.refl (h : Stt K p γ H) : Ext K p γ H γ H := ⟨Same.refl _, fun _ _ q => .inl q, fun _ _ _ q => q, h⟩
theorem Ext.there (e : Ext K p γ H γ' H') (h : Stt K p γ H) {a : Addr} {o : HO} (q : H a = some o) : ∃ o', H' a = some o' := by
  by_cases hp : p = some a
  · obtain ⟨_, c, ns, i, j, k, l, e1, _⟩ := e.st.pool a hp
    exact ⟨_, e1⟩
  · exact ⟨o, e.same a o hp q⟩
theorem Ext.trans (h : Stt K p γ H) (a : Ext K p γ H γ1 H1) (b : Ext K p γ1 H1 γ2 H2) : Ext K p γ H γ2 H2 where
  gg := a.gg.trans b.gg
  new := fun c o q => by
    rcases b.new c o q with z | z
    · exact a.new c o z
    · cases e : H c with
      | none => exact .inr rfl
      | some o' =>
        obtain ⟨o2, e2⟩ := a.there h e
        rw [z] at e2; cases e2
  same := fun c o hp q => b.same c o hp (a.same c o hp q)
  st := b.st
theorem Stt.upd (h : Stt K p γ H) {a : Addr} {o : HO} (n : H a = none) : Stt K p (upd γ a o) (upd H a o) := by
  have ng : ∀ b o', γ b = some o' → b ≠ a := fun b o' q z => by
    have := h.sub b o' q
    rw [z, n] at this; cases this
  have sg : Same γ (L2.upd γ a o) := fun b o' q => by rw [upd_ne (ng b o' q)]; exact q
  refine ⟨fun b o' q => ?_, fun b hb => ?_⟩
  · by_cases hb : b = a
    · subst hb; rw [upd_same] at q ⊢; exact q
    · rw [upd_ne hb] at q ⊢; exact h.sub b o' q
  · obtain ⟨g, c, ns, i, j, k, l, e1, e2, e3⟩ := h.pool b hb
    have hb : b ≠ a := fun z => by rw [z, n] at e1; cases e1
    exact ⟨by rw [upd_ne hb]; exact g, c, ns, i, j, k, l, by rw [upd_ne hb]; exact e1, sg.seq e2, e3⟩
theorem Ext.upd (h : Stt K p γ H) {a : Addr} {o : HO} (n : H a = none) : Ext K p γ H (upd γ a o) (upd H a o) := by
  have ng : ∀ b o', γ b = some o' → b ≠ a := fun b o' q z => by
    have := h.sub b o' q
    rw [z, n] at this; cases this
  refine ⟨fun b o' q => by rw [upd_ne (ng b o' q)]; exact q, fun b o' q => ?_, fun b o' _ q => ?_, h.upd n⟩
  · by_cases hb : b = a
    · subst hb; exact .inr n
    · rw [upd_ne hb] at q; exact .inl q
  · rw [upd_ne (ne_of_none q n)]; exact q
/-- an object of ours laid that does not belong to what stays -/
theorem Ext.own (h : Stt K p γ H) {a : Addr} {o : HO} (n : H a = none) : Ext K p γ H γ (L2.upd H a o) := by
  have ng : ∀ b o', H b = some o' → b ≠ a := fun b o' q z => by rw [z, n] at q; cases q
  refine ⟨Same.refl _, fun b o' q => .inl q, fun b o' _ q => by rw [upd_ne (ng b o' q)]; exact q, ⟨fun b o' q => ?_, fun b hb => ?_⟩⟩
  · rw [upd_ne (ng b o' (h.sub b o' q))]; exact h.sub b o' q
  · obtain ⟨g, c, ns, i, j, k, l, e1, e2, e3⟩ := h.pool b hb
    exact ⟨g, c, ns, i, j, k, l, by rw [upd_ne (ng _ _ e1)]; exact e1, e2, e3⟩
/-- what is new joins what stays -/
theorem Ext.freeze (h : Stt K p γ H) (e : Ext K p γ H γ' H') {a : Addr} {o : HO} (n : H a = none) (q : H' a = some o) : Ext K p γ H (L2.upd γ' a o) H' := by
  have pa : ∀ b, p = some b → b ≠ a := fun b hb z => by
    obtain ⟨_, c, ns, i, j, k, l, e1, _⟩ := h.pool b hb
    rw [z, n] at e1; cases e1
  have sg : Same γ' (L2.upd γ' a o) := fun b o' q' => by
    by_cases hb : b = a
    · subst hb
      have := e.st.sub b o' q'
      rw [q] at this; cases this; exact upd_same
    · rw [upd_ne hb]; exact q'
  refine ⟨e.gg.trans sg, fun b o' q' => ?_, e.same, ⟨fun b o' q' => ?_, fun b hb => ?_⟩⟩
  · by_cases hb : b = a
    · subst hb; exact .inr n
    · rw [upd_ne hb] at q'; exact e.new b o' q'
  · by_cases hb : b = a
    · subst hb; rw [upd_same] at q'; cases q'; exact q
    · rw [upd_ne hb] at q'; exact e.st.sub b o' q'
  · obtain ⟨g, c, ns, i, j, k, l, e1, e2, e3⟩ := e.st.pool b hb
    exact ⟨by rw [upd_ne (pa b hb)]; exact g, c, ns, i, j, k, l, e1, sg.seq e2, e3⟩
end

/-! ### slots -/
inductive Sl where
  | un | val (d : D) | own (xs : List D) | pool | dic (kvs : List (Key × D))
/-- a dict's items, as data -/
def KVR (K : PySem.W.Frag) (γ : Hp) (ws : List (Key × V)) (ds : List (Key × D)) : Prop := ws.map (·.1) = ds.map (·.1) ∧ RepAll K γ (ws.map (·.2)) (ds.map (·.2))
theorem KVR.mono {K : PySem.W.Frag} {γ γ' : Hp} {ws : List (Key × V)} {ds : List (Key × D)} (h : KVR K γ ws ds) (s : Same γ γ') : KVR K γ' ws ds := ⟨h.1, h.2.mono s⟩
def SlotR (K : PySem.W.Frag) (p : Option Addr) (H0 γ H : Hp) (ov : Option V) : Sl → Prop
  | .un => True
  | .val d => ∃ v, ov = some v ∧ Rep K γ v d
  | .own xs => ∃ a vs, ov = some (.ref a) ∧ H a = some (.lst vs) ∧ γ a = none ∧ p ≠ some a ∧ H0 a = none ∧ RepAll K γ vs xs
  | .pool => ∃ a, ov = some (.ref a) ∧ p = some a
  | .dic kvs => ∃ a ws, ov = some (.ref a) ∧ H a = some (.dK ws) ∧ γ a = none ∧ p ≠ some a ∧ H0 a = none ∧ KVR K γ ws kvs ∧ (kvs.map (·.1)).Nodup ∧ ∀ z, (Sum.inr z : Key) ∈ kvs.map (·.1) → PyData.strOk z = true
structure EnvR (K : PySem.W.Frag) (p : Option Addr) (H0 γ H : Hp) (σ : St) (ρ : List Sl) : Prop where
  len : σ.length = ρ.length
  sl : ∀ (i : Nat) (s : Sl), ρ[i]? = some s → ∃ ov, σ[i]? = some ov ∧ SlotR K p H0 γ H ov s
  ap : ∀ (i j : Nat) (xs ys : List D), i ≠ j → ρ[i]? = some (.own xs) → ρ[j]? = some (.own ys) → σ[i]? ≠ σ[j]?
  apd : ∀ (i j : Nat) (xs ys : List (Key × D)), i ≠ j → ρ[i]? = some (.dic xs) → ρ[j]? = some (.dic ys) → σ[i]? ≠ σ[j]?
section
variable {K : PySem.W.Frag} {p : Option Addr} {γ γ' H H' H0 : Hp} {σ : St} {ρ : List Sl}
theorem SlotR.ext {ov : Option V} {s : Sl} (r : SlotR K p H0 γ H ov s) (e : Ext K p γ H γ' H') : SlotR K p H0 γ' H' ov s := by
  cases s with
  | un => trivial
  | val d => obtain ⟨v, e1, r1⟩ := r; exact ⟨v, e1, r1.mono e.gg⟩
  | own xs =>
    obtain ⟨a, vs, e1, e2, e3, e4, e5, r1⟩ := r
    refine ⟨a, vs, e1, e.same a _ e4 e2, ?_, e4, e5, r1.mono e.gg⟩
    cases q : γ' a with
    | none => rfl
    | some o =>
      rcases e.new a o q with z | z
      · rw [e3] at z; cases z
      · rw [e2] at z; cases z
  | dic kvs =>
    obtain ⟨a, vs, e1, e2, e3, e4, e5, r1, nd⟩ := r
    refine ⟨a, vs, e1, e.same a _ e4 e2, ?_, e4, e5, r1.mono e.gg, nd.1, nd.2⟩
    cases q : γ' a with
    | none => rfl
    | some o =>
      rcases e.new a o q with z | z
      · rw [e3] at z; cases z
      · rw [e2] at z; cases z
  | pool => exact r
theorem EnvR.ext (r : EnvR K p H0 γ H σ ρ) (e : Ext K p γ H γ' H') : EnvR K p H0 γ' H' σ ρ :=
  ⟨r.len, fun i s q => let ⟨ov, e1, z⟩ := r.sl i s q; ⟨ov, e1, z.ext e⟩, r.ap, r.apd⟩
theorem EnvR.val (r : EnvR K p H0 γ H σ ρ) {i : Nat} {d : D} (h : ρ[i]? = some (.val d)) : ∃ v, σ[i]? = some (some v) ∧ Rep K γ v d := by
  obtain ⟨ov, e1, v, e2, z⟩ := r.sl i _ h
  subst e2
  exact ⟨v, e1, z⟩
theorem EnvR.set (r : EnvR K p H0 γ H σ ρ) {i : Nat} {v : V} {s : Sl} (z : SlotR K p H0 γ H (some v) s) (no : ∀ xs, s = .own xs → ∀ (j : Nat) (ys : List D), j ≠ i → ρ[j]? = some (.own ys) → σ[j]? ≠ some (some v))
    (nd : ∀ xs, s = .dic xs → ∀ (j : Nat) (ys : List (Key × D)), j ≠ i → ρ[j]? = some (.dic ys) → σ[j]? ≠ some (some v) := by intro _ e; cases e) : EnvR K p H0 γ H (σ.set i (some v)) (ρ.set i s) := by
  refine ⟨by simp [r.len], fun j t q => ?_, fun j k xs ys hjk q1 q2 => ?_, fun j k xs ys hjk q1 q2 => ?_⟩
  · by_cases hj : i = j
    · subst hj
      by_cases hl : i < ρ.length
      · rw [List.getElem?_set_self hl] at q; cases q
        exact ⟨_, List.getElem?_set_self (by rw [r.len]; exact hl), z⟩
      · rw [List.getElem?_eq_none (by simpa using hl)] at q; cases q
    · rw [List.getElem?_set_ne hj] at q
      obtain ⟨ov, e1, z1⟩ := r.sl j t q
      exact ⟨ov, by rw [List.getElem?_set_ne hj]; exact e1, z1⟩
  · by_cases hj : i = j
    · subst hj
      have hl : i < ρ.length := by
        by_cases hl : i < ρ.length
        · exact hl
        · rw [List.getElem?_eq_none (by simpa using hl)] at q1; cases q1
      rw [List.getElem?_set_self hl] at q1
      rw [List.getElem?_set_ne hjk] at q2
      rw [List.getElem?_set_self (by rw [r.len]; exact hl), List.getElem?_set_ne hjk]
      exact fun e => no xs (Option.some.inj q1) k ys (Ne.symm hjk) q2 e.symm
    · rw [List.getElem?_set_ne hj] at q1
      by_cases hk : i = k
      · subst hk
        have hl : i < ρ.length := by
          by_cases hl : i < ρ.length
          · exact hl
          · rw [List.getElem?_eq_none (by simpa using hl)] at q2; cases q2
        rw [List.getElem?_set_self hl] at q2
        rw [List.getElem?_set_self (by rw [r.len]; exact hl), List.getElem?_set_ne hj]
        exact no ys (Option.some.inj q2) j xs (Ne.symm hj) q1
      · rw [List.getElem?_set_ne hk] at q2
        rw [List.getElem?_set_ne hj, List.getElem?_set_ne hk]
        exact r.ap j k xs ys hjk q1 q2
  · by_cases hj : i = j
    · subst hj
      have hl : i < ρ.length := by
        by_cases hl : i < ρ.length
        · exact hl
        · rw [List.getElem?_eq_none (by simpa using hl)] at q1; cases q1
      rw [List.getElem?_set_self hl] at q1
      rw [List.getElem?_set_ne hjk] at q2
      rw [List.getElem?_set_self (by rw [r.len]; exact hl), List.getElem?_set_ne hjk]
      exact fun e => nd xs (Option.some.inj q1) k ys (Ne.symm hjk) q2 e.symm
    · rw [List.getElem?_set_ne hj] at q1
      by_cases hk : i = k
      · subst hk
        have hl : i < ρ.length := by
          by_cases hl : i < ρ.length
          · exact hl
          · rw [List.getElem?_eq_none (by simpa using hl)] at q2; cases q2
        rw [List.getElem?_set_self hl] at q2
        rw [List.getElem?_set_self (by rw [r.len]; exact hl), List.getElem?_set_ne hj]
        exact nd ys (Option.some.inj q2) j xs (Ne.symm hj) q1
      · rw [List.getElem?_set_ne hk] at q2
        rw [List.getElem?_set_ne hj, List.getElem?_set_ne hk]
        exact r.apd j k xs ys hjk q1 q2
theorem EnvR.setVal (r : EnvR K p H0 γ H σ ρ) {i : Nat} {v : V} {d : D} (z : Rep K γ v d) : EnvR K p H0 γ H (σ.set i (some v)) (ρ.set i (.val d)) :=
  r.set ⟨v, rfl, z⟩ (fun _ e => by cases e)
/-- the own list of slot i joins what stays -/
theorem EnvR.freeze (r : EnvR K p H0 γ H σ ρ) (st : Stt K p γ H) {i : Nat} {xs : List D} (h : ρ[i]? = some (.own xs)) :
    ∃ a vs, H a = some (.lst vs) ∧ H0 a = none ∧ Stt K p (upd γ a (.lst vs)) H ∧ Same γ (upd γ a (.lst vs)) ∧ EnvR K p H0 (upd γ a (.lst vs)) H σ (ρ.set i (.val (.list xs))) := by
  obtain ⟨ov, e0, a, vs, e1, e2, e3, e4, e5, r1⟩ := r.sl i _ h
  have sg : Same γ (upd γ a (.lst vs)) := fun b o q => by
    have hb : b ≠ a := fun z => by rw [z, e3] at q; cases q
    rw [upd_ne hb]; exact q
  have hl : i < ρ.length := (List.getElem?_eq_some_iff.mp h).1
  refine ⟨a, vs, e2, e5, ⟨fun b o q => ?_, fun b hb => ?_⟩, sg, ⟨by simp [r.len], fun j t q => ?_, fun j k ys zs hjk q1 q2 => ?_, fun j k ys zs hjk q1 q2 => ?_⟩⟩
  · by_cases hb : b = a
    · subst hb; rw [upd_same] at q; cases q; exact e2
    · rw [upd_ne hb] at q; exact st.sub b o q
  · obtain ⟨g, c, ns, i', j', k', l', f1, f2, f3⟩ := st.pool b hb
    have hb : b ≠ a := fun z => e4 (by rw [hb, z])
    exact ⟨by rw [upd_ne hb]; exact g, c, ns, i', j', k', l', f1, sg.seq f2, f3⟩
  · by_cases hj : i = j
    · subst hj
      rw [List.getElem?_set_self hl] at q; cases q
      exact ⟨ov, e0, .ref a, e1, Rep.lst upd_same (r1.mono sg)⟩
    · rw [List.getElem?_set_ne hj] at q
      obtain ⟨ov', f0, z⟩ := r.sl j t q
      refine ⟨ov', f0, ?_⟩
      cases t with
      | un => trivial
      | val d => obtain ⟨v, g1, g2⟩ := z; exact ⟨v, g1, g2.mono sg⟩
      | own ys =>
        obtain ⟨b, ws, g1, g2, g3, g4, g5, g6⟩ := z
        have hb : b ≠ a := fun z => r.ap i j xs ys hj h q (by rw [e0, f0, e1, g1, z])
        exact ⟨b, ws, g1, g2, by rw [upd_ne hb]; exact g3, g4, g5, g6.mono sg⟩
      | dic ys =>
        obtain ⟨b, ws, g1, g2, g3, g4, g5, g6, g7⟩ := z
        have hb : b ≠ a := fun z => by rw [z, e2] at g2; cases g2
        exact ⟨b, ws, g1, g2, by rw [upd_ne hb]; exact g3, g4, g5, g6.mono sg, g7⟩
      | pool => exact z
  · by_cases hj : i = j
    · subst hj; rw [List.getElem?_set_self hl] at q1; cases q1
    · rw [List.getElem?_set_ne hj] at q1
      by_cases hk : i = k
      · subst hk; rw [List.getElem?_set_self hl] at q2; cases q2
      · rw [List.getElem?_set_ne hk] at q2
        exact r.ap j k ys zs hjk q1 q2
  · by_cases hj : i = j
    · subst hj; rw [List.getElem?_set_self hl] at q1; cases q1
    · rw [List.getElem?_set_ne hj] at q1
      by_cases hk : i = k
      · subst hk; rw [List.getElem?_set_self hl] at q2; cases q2
      · rw [List.getElem?_set_ne hk] at q2
        exact r.apd j k ys zs hjk q1 q2
/-- a dict's keys, all texts -/
def txK : List (Key × D) → Option (List Str)
  | [] => some []
  | (.inr s, _) :: r => (txK r).map (s :: ·)
  | (.inl _, _) :: _ => none
theorem txK_keys : ∀ {kvs : List (Key × D)} {ks : List Str}, txK kvs = some ks → kvs.map (·.1) = ks.map Sum.inr
  | [], ks, h => by cases h; rfl
  | (.inr s, d) :: r, ks, h => by
    cases e : txK r with
    | none => simp [txK, e] at h
    | some l =>
      have h' : s :: l = ks := by simpa [txK, e] using h
      subst h'
      simp [txK_keys e]
  | (.inl _, _) :: _, ks, h => by cases h
theorem merge_nd : ∀ (more acc : List (Key × V)), ((acc ++ more).map (·.1)).Nodup → mergeK acc more = acc ++ more
  | [], acc, _ => by simp [mergeK]
  | kv :: more, acc, h => by
    have hn : valV acc kv.1 = none := by
      cases e : valV acc kv.1 with
      | none => rfl
      | some v =>
        have hm : kv.1 ∈ acc.map (·.1) := by
          unfold valV at e
          cases f : acc.find? (fun z => decide (z.1 = kv.1)) with
          | none => rw [f] at e; cases e
          | some z =>
            have h1 := List.find?_some f
            have h2 := List.mem_of_find?_eq_some f
            exact List.mem_map.mpr ⟨z, h2, by simpa using h1⟩
        rw [List.map_append, List.map_cons, List.nodup_append] at h
        exact absurd rfl (h.2.2 _ hm _ List.mem_cons_self)
    have e : mergeK acc (kv :: more) = mergeK (putK acc kv.1 kv.2) more := rfl
    rw [e, putK_new kv.2 hn, merge_nd more (acc ++ [(kv.1, kv.2)]) (by rw [List.append_assoc]; exact h), List.append_assoc]
    rfl
theorem kv_zip : ∀ {ks : List Str} {ws : List (Key × V)}, ws.map (·.1) = ks.map Sum.inr → ws = kvOf ks (ws.map (·.2))
  | [], [], _ => rfl
  | [], _ :: _, h => by cases h
  | _ :: _, [], h => by cases h
  | k :: ks, w :: ws, h => by
    have h' : w.1 = Sum.inr k ∧ ws.map (·.1) = ks.map Sum.inr := by simpa using h
    have e := kv_zip h'.2
    unfold kvOf at e ⊢
    rw [List.map_cons, List.zip_cons_cons, List.map_cons, ← e, ← h'.1]
/-- the own dict of slot i joins what stays -/
theorem EnvR.freezeD (r : EnvR K p H0 γ H σ ρ) (st : Stt K p γ H) {i : Nat} {xs : List (Key × D)} {ks : List Str} (h : ρ[i]? = some (.dic xs)) (hk : txK xs = some ks) {al : Addr} {vl : List (Key × V)} (oa : H al = some (.dK vl)) (hs : σ[i]? = some (some (.ref al))) (od : Obj) :
    γ al = none ∧ H0 al = none ∧ Stt K p (upd γ al (.frz od (.dK vl))) (upd H al (.frz od (.dK vl))) ∧ Same γ (upd γ al (.frz od (.dK vl))) ∧ EnvR K p H0 (upd γ al (.frz od (.dK vl))) (upd H al (.frz od (.dK vl))) σ (ρ.set i (.val (.dict (dkv ks (xs.map (·.2)))))) := by
  obtain ⟨ov, e0, a, vs, e1, e2, e3, e4, e5, r1, nd, ntx⟩ := r.sl i _ h
  have ea : a = al := by
    rw [hs] at e0
    cases e0; cases e1; rfl
  subst ea
  have ev : vs = vl := by rw [e2] at oa; cases oa; rfl
  subst ev
  have hks := txK_keys hk
  have hvs : vs = mergeK [] (kvOf ks (vs.map (·.2))) := by
    rw [merge_nd _ [] (by rw [List.nil_append, ← kv_zip (r1.1.trans hks), r1.1]; exact nd), List.nil_append]
    exact kv_zip (r1.1.trans hks)
  have hnd : ks.Nodup := by
    rw [hks] at nd
    exact (List.pairwise_map.mp nd).imp fun h z => h (by rw [z])
  have hlen : ks.length = (xs.map (·.2)).length := by
    have := congrArg List.length hks
    simpa using this.symm
  have htx : ∀ k ∈ ks, PyData.strOk k = true := fun k hk => ntx k (by rw [hks]; exact List.mem_map.mpr ⟨k, hk, rfl⟩)
  have sg : Same γ (upd γ a (.frz od (.dK vs))) := fun b o q => by
    have hb : b ≠ a := fun z => by rw [z, e3] at q; cases q
    rw [upd_ne hb]; exact q
  have hl : i < ρ.length := (List.getElem?_eq_some_iff.mp h).1
  refine ⟨e3, e5, ⟨fun b o q => ?_, fun b hb => ?_⟩, sg, ⟨by simp [r.len], fun j t q => ?_, fun j k ys zs hjk q1 q2 => ?_, fun j k ys zs hjk q1 q2 => ?_⟩⟩
  · by_cases hb : b = a
    · subst hb; rw [upd_same] at q ⊢; exact q
    · rw [upd_ne hb] at q ⊢; exact st.sub b o q
  · obtain ⟨g, c, ns, i', j', k', l', f1, f2, f3⟩ := st.pool b hb
    have hb : b ≠ a := fun z => e4 (by rw [hb, z])
    exact ⟨by rw [upd_ne hb]; exact g, c, ns, i', j', k', l', by rw [upd_ne hb]; exact f1, sg.seq f2, f3⟩
  · by_cases hj : i = j
    · subst hj
      rw [List.getElem?_set_self hl] at q; cases q
      exact ⟨ov, e0, .ref a, e1, Rep.dct ⟨od, by rw [← hvs]; exact upd_same⟩ (r1.2.mono sg) ⟨⟨hnd, hlen⟩, htx⟩⟩
    · rw [List.getElem?_set_ne hj] at q
      obtain ⟨ov', f0, z⟩ := r.sl j t q
      refine ⟨ov', f0, ?_⟩
      cases t with
      | un => trivial
      | val d => obtain ⟨v, g1, g2⟩ := z; exact ⟨v, g1, g2.mono sg⟩
      | own ys =>
        obtain ⟨b, ws, g1, g2, g3, g4, g5, g6⟩ := z
        have hb : b ≠ a := fun z => by rw [z, e2] at g2; cases g2
        exact ⟨b, ws, g1, by rw [upd_ne hb]; exact g2, by rw [upd_ne hb]; exact g3, g4, g5, g6.mono sg⟩
      | dic ys =>
        obtain ⟨b, ws, g1, g2, g3, g4, g5, g6, g7⟩ := z
        have hb : b ≠ a := fun z => r.apd i j xs ys hj h q (by rw [e0, f0, e1, g1, z])
        exact ⟨b, ws, g1, by rw [upd_ne hb]; exact g2, by rw [upd_ne hb]; exact g3, g4, g5, g6.mono sg, g7⟩
      | pool => exact z
  · by_cases hj : i = j
    · subst hj; rw [List.getElem?_set_self hl] at q1; cases q1
    · rw [List.getElem?_set_ne hj] at q1
      by_cases hk : i = k
      · subst hk; rw [List.getElem?_set_self hl] at q2; cases q2
      · rw [List.getElem?_set_ne hk] at q2
        exact r.ap j k ys zs hjk q1 q2
  · by_cases hj : i = j
    · subst hj; rw [List.getElem?_set_self hl] at q1; cases q1
    · rw [List.getElem?_set_ne hj] at q1
      by_cases hk : i = k
      · subst hk; rw [List.getElem?_set_self hl] at q2; cases q2
      · rw [List.getElem?_set_ne hk] at q2
        exact r.apd j k ys zs hjk q1 q2
/-- slots forgotten -/
def wipeR (ρ : List Sl) : List Nat → List Sl
  | [] => ρ
  | v :: vs => (wipeR ρ vs).set v .un
theorem EnvR.unset (r : EnvR K p H0 γ H σ ρ) (i : Nat) (ov : Option V) : EnvR K p H0 γ H (σ.set i ov) (ρ.set i .un) := by
  refine ⟨by simp [r.len], fun j t q => ?_, fun j k xs ys hjk q1 q2 => ?_, fun j k xs ys hjk q1 q2 => ?_⟩
  · by_cases hj : i = j
    · subst hj
      by_cases hl : i < ρ.length
      · rw [List.getElem?_set_self hl] at q; cases q
        exact ⟨_, List.getElem?_set_self (by rw [r.len]; exact hl), trivial⟩
      · rw [List.getElem?_eq_none (by simpa using hl)] at q; cases q
    · rw [List.getElem?_set_ne hj] at q
      obtain ⟨ov', e1, z1⟩ := r.sl j t q
      exact ⟨ov', by rw [List.getElem?_set_ne hj]; exact e1, z1⟩
  · have hj : i ≠ j := fun hj => by
      subst hj
      have hl : i < ρ.length := by
        by_cases hl : i < ρ.length
        · exact hl
        · rw [List.getElem?_eq_none (by simpa using hl)] at q1; cases q1
      rw [List.getElem?_set_self hl] at q1; cases q1
    have hk : i ≠ k := fun hj => by
      subst hj
      have hl : i < ρ.length := by
        by_cases hl : i < ρ.length
        · exact hl
        · rw [List.getElem?_eq_none (by simpa using hl)] at q2; cases q2
      rw [List.getElem?_set_self hl] at q2; cases q2
    rw [List.getElem?_set_ne hj] at q1
    rw [List.getElem?_set_ne hk] at q2
    rw [List.getElem?_set_ne hj, List.getElem?_set_ne hk]
    exact r.ap j k xs ys hjk q1 q2
  · have hj : i ≠ j := fun hj => by
      subst hj
      have hl : i < ρ.length := by
        by_cases hl : i < ρ.length
        · exact hl
        · rw [List.getElem?_eq_none (by simpa using hl)] at q1; cases q1
      rw [List.getElem?_set_self hl] at q1; cases q1
    have hk : i ≠ k := fun hj => by
      subst hj
      have hl : i < ρ.length := by
        by_cases hl : i < ρ.length
        · exact hl
        · rw [List.getElem?_eq_none (by simpa using hl)] at q2; cases q2
      rw [List.getElem?_set_self hl] at q2; cases q2
    rw [List.getElem?_set_ne hj] at q1
    rw [List.getElem?_set_ne hk] at q2
    rw [List.getElem?_set_ne hj, List.getElem?_set_ne hk]
    exact r.apd j k xs ys hjk q1 q2
theorem EnvR.wipe (r : EnvR K p H0 γ H σ ρ) : ∀ vs : List Nat, EnvR K p H0 γ H (wipe σ vs) (wipeR ρ vs)
  | [] => r
  | v :: vs => (EnvR.wipe r vs).unset v none
end

/-! ### readings -/
/-- how an exception of ours stands: its class, its own dict -/
def ExcR (mg : Str → Option Value) (x : Exc) (c : Value) (dd : Option Addr) (H : Hp) : Prop :=
  ∃ C, mg x.cls = some (.ref C) ∧ c = .ref C ∧ x.flds = [] ∧ dd = none
section
variable (K : PySem.W.Frag) (mg : Str → Option Value) (Wx : WX)
def Post (p : Option Addr) (γ H : Hp) (Q : VK) : D → Prop := fun d => ∀ γ' H' v, Ext K p γ H γ' H' → Rep K γ' v d → Q v H'
def PostB (p : Option Addr) (γ H : Hp) (Q : Bool → Hp → Prop) : Bool → Prop := fun b => ∀ γ' H', Ext K p γ H γ' H' → Q b H'
/-- a fresh list -/
def PostF (p : Option Addr) (γ H : Hp) (Q : VK) : List D → Prop := fun xs => ∀ γ' H' a vs, Ext K p γ H γ' H' → H a = none → γ' a = none → H' a = some (.lst vs) → RepAll K γ' vs xs → Q (.ref a) H'
def ExW (p : Option Addr) (γ H : Hp) (σ : St) : Exc → Prop := fun x => ∀ γ' H' c dd, Ext K p γ H γ' H' → ExcR mg x c dd H' → Wx c dd σ H'
/-- what may be read: what stays, or a list of ours as it stands -/
def Ct (p : Option Addr) (γ H : Hp) (v : V) (d : D) : Prop := Rep K γ v d ∨ ∃ a vs xs, v = .ref a ∧ d = .list xs ∧ H a = some (.lst vs) ∧ p ≠ some a ∧ RepAll K γ vs xs
def PostC (p : Option Addr) (γ H : Hp) (Q : VK) : D → Prop := fun d => ∀ γ' H' v, Ext K p γ H γ' H' → Ct K p γ' H' v d → Q v H'

def RdE (m : List Sl → W Exc D) : TE := fun σ H Q => ∃ p H0 γ ρ, Stt K p γ H ∧ EnvR K p H0 γ H σ ρ ∧ (m ρ).run (Post K p γ H Q) (ExW K mg Wx p γ H σ)
def RdO (m : List Sl → W Exc D) : TE := fun σ H Q => ∃ p H0 γ ρ, Stt K p γ H ∧ EnvR K p H0 γ H σ ρ ∧ (m ρ).run (PostC K p γ H Q) (ExW K mg Wx p γ H σ)
def RdF (m : List Sl → W Exc (List D)) : TE := fun σ H Q => ∃ p H0 γ ρ, Stt K p γ H ∧ EnvR K p H0 γ H σ ρ ∧ (m ρ).run (PostF K p γ H Q) (ExW K mg Wx p γ H σ)
def RdT (m : List Sl → W Exc Bool) : TT := fun σ H Q => ∃ p H0 γ ρ, Stt K p γ H ∧ EnvR K p H0 γ H σ ρ ∧ (m ρ).run (PostB K p γ H Q) (ExW K mg Wx p γ H σ)
end
theorem Ct.mono {K : PySem.W.Frag} {p : Option Addr} {γ H γ' H' : Hp} {v : V} {d : D} (c : Ct K p γ H v d) (e : Ext K p γ H γ' H') : Ct K p γ' H' v d := by
  rcases c with c | ⟨a, vs, xs, e1, e2, e3, e4, e5⟩
  · exact .inl (c.mono e.gg)
  · exact .inr ⟨a, vs, xs, e1, e2, e.same _ _ e4 e3, e4, e5.mono e.gg⟩
theorem Ct.dp {K : PySem.W.Frag} {p : Option Addr} {γ H : Hp} {v : V} {d : D} (c : Ct K p γ H v d) (s : Stt K p γ H) : Rep K H v d := by
  rcases c with c | ⟨a, vs, xs, rfl, rfl, e3, e4, e5⟩
  · exact c.mono s.sub
  · exact .lst e3 (e5.mono s.sub)
end Ev

/-! Ev2: rules over data. -/
namespace Ev
open PySem PySem.Spec PyProof.Rows L2

/-! ### a reading is weakened -/
section
variable {X : Cx} {e : Expr} {es : List Expr} {st : Stmt} {sts : List Stmt}
theorem pe_of {t t' : TE} (h : PE X e t) (k : ∀ σ H Q, t' σ H Q → t σ H Q) : PE X e t' := ⟨fun pins s σ H Q I q => h.run pins s σ H Q I (k _ _ _ q)⟩
/-- an object of ours locked behind a value -/
theorem pe_lockZ {t : TE} (h : PE X e t) : PE X e (fun σ H Q => t σ H fun v H' => ∃ d u, H' d = some u ∧ Mut (some u) ∧ ∀ od, Q v (upd H' d (.frz od u))) := ⟨fun pins s σ H Q I q => thn (h.run pins s σ H _ I q) fun v s1 ⟨x, H1, I1, rx, d, u, hd, mu, q1⟩ => by
  obtain ⟨od, I2⟩ := I1.lock hd mu
  exact ⟨x, _, I2, rx, q1 od⟩⟩
/-- .. ahead of a statement, or none -/
theorem ps_lockZ {t : TS} (h : PS X st t) : PS X st (fun D σ H => t D σ H ∨ ∃ d u, H d = some u ∧ Mut (some u) ∧ ∀ od, t D σ (upd H d (.frz od u))) := ⟨fun pins s σ H D I q => by
  rcases q with q | ⟨d, u, hd, mu, q⟩
  · exact h.run pins s σ H D I q
  · obtain ⟨od, I2⟩ := I.lock hd mu
    exact h.run pins s σ _ D I2 (q od)⟩
theorem pt_of {t t' : TT} (h : PT X e t) (k : ∀ σ H Q, t' σ H Q → t σ H Q) : PT X e t' := ⟨fun pins s σ H Q I q => h.run pins s σ H Q I (k _ _ _ q)⟩
theorem pw_of {t t' : TT} (h : PW X e t) (k : ∀ σ H Q, t' σ H Q → t σ H Q) : PW X e t' := ⟨fun wh pins s σ H Q I q => h.run wh pins s σ H Q I (k _ _ _ q)⟩
theorem pa_of {t t' : TA} (h : PA X es t) (k : ∀ σ H Q, t' σ H Q → t σ H Q) : PA X es t' := ⟨fun pos pins s σ H Q I q => h.run pos pins s σ H Q I (k _ _ _ q)⟩
theorem ps_of {t t' : TS} (h : PS X st t) (k : ∀ D σ H, t' D σ H → t D σ H) : PS X st t' := ⟨fun pins s σ H D I q => h.run pins s σ H D I (k _ _ _ q)⟩
theorem pss_of {t t' : TS} (h : PSs X sts t) (k : ∀ D σ H, t' D σ H → t D σ H) : PSs X sts t' := ⟨fun pins s σ H D I q => h.run pins s σ H D I (k _ _ _ q)⟩
end

/-! ### posts move along -/
section
variable {K : PySem.W.Frag} {mg : Str → Option Value} {Wx : WX} {p : Option Addr} {γ γ' γ1 H H' H1 : Hp} {σ : St}
theorem Post.ext {Q : VK} {d : D} (h : Post K p γ H Q d) (st : Stt K p γ H) (e : Ext K p γ H γ1 H1) : Post K p γ1 H1 Q d := fun γ' H' v e' r => h γ' H' v (Ext.trans st e e') r
theorem PostB.ext {Q : Bool → Hp → Prop} {d : Bool} (h : PostB K p γ H Q d) (st : Stt K p γ H) (e : Ext K p γ H γ1 H1) : PostB K p γ1 H1 Q d := fun γ' H' e' => h γ' H' (Ext.trans st e e')
theorem PostC.ext {Q : VK} {d : D} (h : PostC K p γ H Q d) (st : Stt K p γ H) (e : Ext K p γ H γ1 H1) : PostC K p γ1 H1 Q d := fun γ' H' v e' r => h γ' H' v (Ext.trans st e e') r
theorem PostF.ext {Q : VK} {d : List D} (h : PostF K p γ H Q d) (st : Stt K p γ H) (e : Ext K p γ H γ1 H1) : PostF K p γ1 H1 Q d := fun γ' H' a vs e' n n' q r =>
  h γ' H' a vs (Ext.trans st e e') (by
    cases z : H a with
    | none => rfl
    | some o =>
      obtain ⟨o', z'⟩ := e.there st z
      rw [n] at z'; cases z') n' q r
theorem ExW.ext {x : Exc} (h : ExW K mg Wx p γ H σ x) (st : Stt K p γ H) (e : Ext K p γ H γ1 H1) : ExW K mg Wx p γ1 H1 σ x := fun γ' H' c dd e' r => h γ' H' c dd (Ext.trans st e e') r
/-- what comes of scalars -/
theorem Post.int {Q : VK} {i : Int} (h : Post K p γ H Q (.int i)) (st : Stt K p γ H) : Q (.int i) H := h γ H _ (.refl st) .int
theorem Post.bool {Q : VK} {i : Bool} (h : Post K p γ H Q (.bool i)) (st : Stt K p γ H) : Q (.bl i) H := h γ H _ (.refl st) .bl
theorem Post.str {Q : VK} {i : Str} (h : Post K p γ H Q (.str i)) (st : Stt K p γ H) (ok : PyData.strOk i = true) : Q (.str i) H := h γ H _ (.refl st) (.str ok)
theorem Post.non {Q : VK} (h : Post K p γ H Q .none) (st : Stt K p γ H) : Q .non H := h γ H _ (.refl st) .non
theorem Post.here {Q : VK} {d : D} {v : V} (h : Post K p γ H Q d) (st : Stt K p γ H) (r : Rep K γ v d) : Q v H := h γ H v (.refl st) r
/-- a new tuple -/
theorem Post.tup {Q : VK} {ds : List D} {vs : List V} (h : Post K p γ H Q (.tuple ds)) (st : Stt K p γ H) (r : RepAll K γ vs ds) : ∀ (a : Addr) (o : Obj), o.dict = none → H a = none → Q (.ref a) (upd H a (.frz o (.tup vs))) := fun a o od n => by
  have e : Ext K p γ H (upd γ a (.frz o (.tup vs))) (upd H a (.frz o (.tup vs))) := .upd st n
  exact h _ _ _ e (Rep.tup (.inl ⟨o, upd_same, od⟩) (r.mono e.gg))
/-- a new list -/
theorem Post.lst {Q : VK} {ds : List D} {vs : List V} (h : Post K p γ H Q (.list ds)) (st : Stt K p γ H) (r : RepAll K γ vs ds) : ∀ (a : Addr), H a = none → Q (.ref a) (upd H a (.lst vs)) := fun a n => by
  have e : Ext K p γ H (upd γ a (.lst vs)) (upd H a (.lst vs)) := .upd st n
  exact h _ _ _ e (Rep.lst upd_same (r.mono e.gg))
/-- .. ours -/
theorem PostF.lst {Q : VK} {ds : List D} {vs : List V} (h : PostF K p γ H Q ds) (st : Stt K p γ H) (r : RepAll K γ vs ds) : ∀ (a : Addr), H a = none → Q (.ref a) (upd H a (.lst vs)) := fun a n => by
  have ng : γ a = none := by
    cases z : γ a with
    | none => rfl
    | some o => have := st.sub a o z; rw [n] at this; cases this
  exact h γ _ a vs (.own st n) n ng upd_same r
end

/-! ### contexts: from one reading to the other -/
section
variable {X : Cx} {Wx : WX} {e : Expr}
abbrev TEe (X : Cx) (Wx : WX) (m : List Sl → W Exc D) : TE := RdE X.K X.mg Wx m
abbrev TEo (X : Cx) (Wx : WX) (m : List Sl → W Exc D) : TE := RdO X.K X.mg Wx m
abbrev TEf (X : Cx) (Wx : WX) (m : List Sl → W Exc (List D)) : TE := RdF X.K X.mg Wx m
abbrev TTt (X : Cx) (Wx : WX) (m : List Sl → W Exc Bool) : TT := RdT X.K X.mg Wx m
/-- what is clean may be read -/
theorem pe_EO {m : List Sl → W Exc D} (h : PE X e (TEe X Wx m)) : PE X e (TEo X Wx m) := pe_of h fun σ H Q ⟨p, H0, γ, ρ, st, er, hm⟩ =>
  ⟨p, H0, γ, ρ, st, er, (m ρ).mono (fun d q γ' H' v x r => q γ' H' v x (.inl r)) (fun _ q => q) hm⟩
/-- a fresh list joins what stays -/
theorem pe_FE {m : List Sl → W Exc (List D)} (h : PE X e (TEf X Wx m)) : PE X e (TEe X Wx fun ρ => (m ρ).bind fun xs => .ret (.list xs)) := pe_of h fun σ H Q ⟨p, H0, γ, ρ, st, er, hm⟩ =>
  ⟨p, H0, γ, ρ, st, er, (m ρ).mono (fun xs q γ' H' a vs x n n' hq r =>
    q _ _ _ (Ext.freeze st x n hq) (Rep.lst upd_same (r.mono (fun b o z => by
      have hb : b ≠ a := fun w => by rw [w, n'] at z; cases z
      rw [upd_ne hb]; exact z)))) (fun _ q => q) hm⟩
end

/-! ### operations of two -/
/-- op is what r is, over data -/
def Br2 (K : PySem.W.Frag) (op : D → D → W Exc D) (r : R2) : Prop :=
  ∀ (p : Option Addr) (γ H : Hp) (x y : V) (d e : D) (Q : VK) (XX : Exc → Prop), Stt K p γ H → Ct K p γ H x d → Ct K p γ H y e → (op d e).run (Post K p γ H Q) XX → r x y H Q
def Br2F (K : PySem.W.Frag) (op : D → D → W Exc (List D)) (r : R2) : Prop :=
  ∀ (p : Option Addr) (γ H : Hp) (x y : V) (d e : D) (Q : VK) (XX : Exc → Prop), Stt K p γ H → Ct K p γ H x d → Ct K p γ H y e → (op d e).run (PostF K p γ H Q) XX → r x y H Q
/-- a comparison -/
def BrC (K : PySem.W.Frag) (op : D → D → W Exc Bool) (r : R2) : Prop :=
  ∀ (p : Option Addr) (γ H : Hp) (x y : V) (d e : D) (Q : VK) (XX : Exc → Prop), Stt K p γ H → Ct K p γ H x d → Ct K p γ H y e → (op d e).run (fun b => Q (.bl b) H) XX → r x y H Q
section
variable {X : Cx} {Wx : WX} {a b c : Expr} {pos : Pos} {ma mb mc : List Sl → W Exc D}
abbrev m2 {α : Type} (op : D → D → W Exc α) (ma mb : List Sl → W Exc D) : List Sl → W Exc α := fun ρ => (ma ρ).bind fun d => (mb ρ).bind fun e => op d e
theorem rd2 {op : D → D → W Exc D} {r : R2} (hr : Br2 X.K op r) (σ : St) (H : Hp) (Q : VK) (h : TEe X Wx (m2 op ma mb) σ H Q) : tOp r (TEo X Wx ma) (TEo X Wx mb) σ H Q := by
  obtain ⟨p, H0, γ, ρ, st, er, hm⟩ := h
  refine ⟨p, H0, γ, ρ, st, er, (ma ρ).mono (fun d h1 γ1 H1 x e1 c1 => ?_) (fun _ q => q) hm⟩
  refine ⟨p, H0, γ1, ρ, e1.st, er.ext e1, (mb ρ).mono (fun e h2 γ2 H2 y e2 c2 => ?_) (fun _ q => q.ext st e1) h1⟩
  exact hr p γ2 H2 x y d e Q (fun _ => True) e2.st (c1.mono e2) c2 ((op d e).mono (fun z q => q.ext st (Ext.trans st e1 e2)) (fun _ _ => trivial) h2)
theorem rd2F {op : D → D → W Exc (List D)} {r : R2} (hr : Br2F X.K op r) (σ : St) (H : Hp) (Q : VK) (h : TEf X Wx (m2 op ma mb) σ H Q) : tOp r (TEo X Wx ma) (TEo X Wx mb) σ H Q := by
  obtain ⟨p, H0, γ, ρ, st, er, hm⟩ := h
  refine ⟨p, H0, γ, ρ, st, er, (ma ρ).mono (fun d h1 γ1 H1 x e1 c1 => ?_) (fun _ q => q) hm⟩
  refine ⟨p, H0, γ1, ρ, e1.st, er.ext e1, (mb ρ).mono (fun e h2 γ2 H2 y e2 c2 => ?_) (fun _ q => q.ext st e1) h1⟩
  exact hr p γ2 H2 x y d e Q (fun _ => True) e2.st (c1.mono e2) c2 ((op d e).mono (fun z q => q.ext st (Ext.trans st e1 e2)) (fun _ _ => trivial) h2)
theorem rdC {op : D → D → W Exc Bool} {r : R2} (hr : BrC X.K op r) (σ : St) (H : Hp) (Q : Bool → Hp → Prop) (h : TTt X Wx (m2 op ma mb) σ H Q) : tTest (tOp r (TEo X Wx ma) (TEo X Wx mb)) σ H Q := by
  obtain ⟨p, H0, γ, ρ, st, er, hm⟩ := h
  refine ⟨p, H0, γ, ρ, st, er, (ma ρ).mono (fun d h1 γ1 H1 x e1 c1 => ?_) (fun _ q => q) hm⟩
  refine ⟨p, H0, γ1, ρ, e1.st, er.ext e1, (mb ρ).mono (fun e h2 γ2 H2 y e2 c2 => ?_) (fun _ q => q.ext st e1) h1⟩
  exact hr p γ2 H2 x y d e _ (fun _ => True) e2.st (c1.mono e2) c2 ((op d e).mono (fun z q => ⟨z, rfl, q _ _ (Ext.trans st e1 e2)⟩) (fun _ _ => trivial) h2)
theorem rdCV {op : D → D → W Exc Bool} {r : R2} (hr : BrC X.K op r) (σ : St) (H : Hp) (Q : VK) (h : TEe X Wx (m2 (fun d e => (op d e).bind fun b => .ret (.bool b)) ma mb) σ H Q) : tOp r (TEo X Wx ma) (TEo X Wx mb) σ H Q := by
  obtain ⟨p, H0, γ, ρ, st, er, hm⟩ := h
  refine ⟨p, H0, γ, ρ, st, er, (ma ρ).mono (fun d h1 γ1 H1 x e1 c1 => ?_) (fun _ q => q) hm⟩
  refine ⟨p, H0, γ1, ρ, e1.st, er.ext e1, (mb ρ).mono (fun e h2 γ2 H2 y e2 c2 => ?_) (fun _ q => q.ext st e1) h1⟩
  refine hr p γ2 H2 x y d e _ (fun _ => True) e2.st (c1.mono e2) c2 ((op d e).mono (fun z q => ?_) (fun _ _ => trivial) h2)
  exact Post.bool (Post.ext q st (Ext.trans st e1 e2)) e2.st
theorem pE_bin {o : Operator} {op : D → D → W Exc D} {r : R2} (ho : OpR X (binaryOp o) r) (hr : Br2 X.K op r) (ha : PE X a (TEo X Wx ma)) (hb : PE X b (TEo X Wx mb)) :
    PE X (.BinOp a o b pos) (TEe X Wx (m2 op ma mb)) := pe_of (pe_op ho ha hb) (rd2 hr)
theorem pF_bin {o : Operator} {op : D → D → W Exc (List D)} {r : R2} (ho : OpR X (binaryOp o) r) (hr : Br2F X.K op r) (ha : PE X a (TEo X Wx ma)) (hb : PE X b (TEo X Wx mb)) :
    PE X (.BinOp a o b pos) (TEf X Wx (m2 op ma mb)) := pe_of (pe_op ho ha hb) (rd2F hr)
theorem pE_cmp {o : CmpOp} {op : D → D → W Exc Bool} {r : R2} (ho : OpR X (compareOp o) r) (hr : BrC X.K op r) (hm : behindInMarks o b = false) (ha : PE X a (TEo X Wx ma)) (hb : PE X b (TEo X Wx mb)) :
    PE X (.Compare a [o] [b] pos) (TEe X Wx (m2 (fun d e => (op d e).bind fun b => .ret (.bool b)) ma mb)) := pe_of (pe_cmpR ho ha hb hm) (rdCV hr)
theorem pT_cmp {o : CmpOp} {op : D → D → W Exc Bool} {r : R2} (ho : OpR X (compareOp o) r) (hr : BrC X.K op r) (hm : behindInMarks o b = false) (ha : PE X a (TEo X Wx ma)) (hb : PE X b (TEo X Wx mb)) :
    PT X (.Compare a [o] [b] pos) (TTt X Wx (m2 op ma mb)) := pt_of (pt_cmpR ho ha hb hm) (rdC hr)
end

/-! ### what the operations are -/
def addD : D → D → W Exc D
  | .int i, .int j => .ret (.int (i + j))
  | .tuple xs, .tuple ys => (W.ask (xs.length + ys.length ≤ sizeLine)).bind fun _ => .ret (.tuple (xs ++ ys))
  | .list xs, .list ys => (W.ask (xs.length + ys.length ≤ sizeLine)).bind fun _ => .ret (.list (xs ++ ys))
  | .str x, .str y => (W.ask (x.length + y.length ≤ sizeLine)).bind fun _ => .ret (.str (x ++ y))
  | _, _ => .stuck
def catF : D → D → W Exc (List D)
  | .list xs, .list ys => (W.ask (xs.length + ys.length ≤ sizeLine)).bind fun _ => .ret (xs ++ ys)
  | _, _ => .stuck
def repF : D → D → W Exc (List D)
  | .list xs, .int k => (W.ask ((-(2 ^ 63) ≤ k ∧ k < 2 ^ 63) ∧ xs.length * k.toNat ≤ sizeLine)).bind fun _ => .ret (List.replicate k.toNat xs).flatten
  | _, _ => .stuck
def subD : D → D → W Exc D
  | .int i, .int j => .ret (.int (i - j))
  | _, _ => .stuck
def mulD : D → D → W Exc D
  | .int i, .int j => (W.ask (CMul i j)).bind fun _ => .ret (.int (i * j))
  | _, _ => .stuck
def modD : D → D → W Exc D
  | .int i, .int j => (W.ask (0 < j)).bind fun _ => .ret (.int (i % j))
  | _, _ => .stuck
def divD : D → D → W Exc D
  | .int i, .int j => (W.ask (CDiv i j)).bind fun _ => .ret (.int (i / j))
  | _, _ => .stuck
/-- not too deep to be compared -/
def sh : D → Bool
  | .list xs => decide (PyData.depth (.list xs) ≤ 64) && ndAll xs
  | .tuple xs => decide (PyData.depth (.tuple xs) ≤ 64) && ndAll xs
  | .dict _ => false
  | _ => true
theorem sh_nd {d : D} (h : sh d = true) : nd d = true := by
  cases d <;> simp [sh, nd] at h ⊢
  · exact h.2
  · exact h.2
theorem sh_depth {d : D} (h : sh d = true) : d.depth ≤ 64 := by
  cases d with
  | list xs => simp [sh] at h; exact h.1
  | tuple xs => simp [sh] at h; exact h.1
  | dict kvs => simp [sh] at h
  | _ => simp [PyData.depth]
theorem sh_shaped {d : D} (h : sh d = true) (l : d.canLay0 = true) : SeqAt.shaped d = true := by
  show (d.canLay0 && decide (d.depth ≤ 64)) = true
  rw [l, Bool.true_and]
  exact decide_eq_true (sh_depth h)
def isNon : D → Bool
  | .none => true
  | _ => false
def eqD (neg : Bool) (d e : D) : W Exc Bool := (W.ask (sh d = true ∧ sh e = true)).bind fun _ => .ret (if neg then !PyData.eqv d e else PyData.eqv d e)
def ltD (f : Int → Int → Bool) : D → D → W Exc Bool
  | .int i, .int j => .ret (f i j)
  | _, _ => .stuck
def isD (neg : Bool) : D → D → W Exc Bool
  | d, .none => .ret (if neg then !isNon d else isNon d)
  | _, _ => .stuck
section
variable {X : Cx}
theorem ct_dp {K : PySem.W.Frag} {p : Option Addr} {γ H : Hp} {x : V} {d : D} (c : Ct K p γ H x d) (st : Stt K p γ H) (n : nd d = true) : Dp K H x d := (dq_dp _ _ n (c.dp st).1).1
theorem ct_lay {K : PySem.W.Frag} {p : Option Addr} {γ H : Hp} {x : V} {d : D} (c : Ct K p γ H x d) (st : Stt K p γ H) (n : nd d = true) : d.canLay0 = true := (dq_dp _ _ n (c.dp st).1).2
theorem ct_int {K : PySem.W.Frag} {p : Option Addr} {γ H : Hp} {x : V} {i : Int} (c : Ct K p γ H x (.int i)) : x = .int i := by
  rcases c with c | ⟨_, _, _, _, e, _⟩
  · exact c.ofInt
  · cases e
theorem ct_str {K : PySem.W.Frag} {p : Option Addr} {γ H : Hp} {x : V} {i : Str} (c : Ct K p γ H x (.str i)) : x = .str i ∧ PyData.strOk i = true := by
  rcases c with c | ⟨_, _, _, _, e, _⟩
  · exact ⟨c.ofStr, c.strOk⟩
  · cases e
theorem ct_bool {K : PySem.W.Frag} {p : Option Addr} {γ H : Hp} {x : V} {i : Bool} (c : Ct K p γ H x (.bool i)) : x = .bl i := by
  rcases c with c | ⟨_, _, _, _, e, _⟩
  · exact c.ofBool
  · cases e
theorem ct_non {K : PySem.W.Frag} {p : Option Addr} {γ H : Hp} {x : V} (c : Ct K p γ H x .none) : x = .non := by
  rcases c with c | ⟨_, _, _, _, e, _⟩
  · exact c.ofNone
  · cases e
theorem ct_tup {K : PySem.W.Frag} {p : Option Addr} {γ H : Hp} {x : V} {ds : List D} (c : Ct K p γ H x (.tuple ds)) : ∃ a vs, x = .ref a ∧ TupAt K γ a vs ∧ RepAll K γ vs ds := by
  rcases c with c | ⟨_, _, _, _, e, _⟩
  · exact c.ofTup
  · cases e
theorem ct_lst {K : PySem.W.Frag} {p : Option Addr} {γ H : Hp} {x : V} {ds : List D} (c : Ct K p γ H x (.list ds)) (st : Stt K p γ H) : ∃ a vs, x = .ref a ∧ H a = some (.lst vs) ∧ RepAll K γ vs ds := by
  rcases c with c | ⟨a, vs, xs, e, e2, e3, _, e4⟩
  · obtain ⟨a, vs, e1, e2, e3⟩ := c.ofLst
    exact ⟨a, vs, e1, st.sub _ _ e2, e3⟩
  · cases e2; exact ⟨a, vs, e, e3, e4⟩
theorem ct_dct {K : PySem.W.Frag} {p : Option Addr} {γ H : Hp} {x : V} {kvs : List (D × D)} (c : Ct K p γ H x (.dict kvs)) : ∃ a ks xs ds, x = .ref a ∧ DkAt γ a (mergeK [] (kvOf ks xs)) ∧ RepAll K γ xs ds ∧ KsOk ks ds ∧ kvs = dkv ks ds := by
  rcases c with c | ⟨_, _, _, _, e, _⟩
  · exact c.ofDct
  · cases e
theorem strOk_app {x y : Str} (hx : PyData.strOk x = true) (hy : PyData.strOk y = true) : PyData.strOk (x ++ y) = true := by
  have e : (x ++ y).cps = x.cps ++ y.cps := rfl
  unfold PyData.strOk at *
  rw [e, Array.all_append, hx, hy]; rfl

abbrev rInt (f : Int → Int → Int) : R2 := rI0 fun i j => .int (f i j)
/-- t + u, the new tuple known to bear no dict -/
def rCatN (K : PySem.W.Frag) : R2 := fun x y H Q => ∃ a b xs ys, x = .ref a ∧ y = .ref b ∧ SqT K H a xs ∧ SqT K H b ys ∧ xs.length + ys.length ≤ sizeLine ∧
  (xs = [] → Q (.ref b) H) ∧ (ys = [] → Q (.ref a) H) ∧ ∀ (l : Addr) (o : Obj), o.dict = none → H l = none → Q (.ref l) (upd H l (.frz o (.tup (xs ++ ys))))
theorem laidT {pins : List (Addr × Obj)} {σ : St} {H : Hp} {s : Shared} {xs : List V} {us : List Value} (I : Inv X pins σ H s) (r : Vals xs us) (z : xs.length ≤ sizeLine) :
    Inv X pins σ (upd H s.heap.objs.size (.frz { cls := .type "tuple", data := .seq us.toArray } (.tup xs))) { s with heap := s.heap.push { cls := .type "tuple", data := .seq us.toArray } } :=
  I.laid (t' := s.toks) (fun _ _ q => Heap.get?_push_of_some _ q) (Nat.le_refl _) ⟨Heap.get?_push_size _ rfl, z, us, r, IsTup.new _ _⟩
theorem op_catN : OpR X (binaryOp .Add) (rCatN X.K) := by
  intro pins s σ H x y v u Q I rx ry h
  obtain ⟨a, b, xs, ys, rfl, rfl, ha, hb, hz, q0, q1, q2⟩ := h
  by_cases hx : xs = []
  · exact op_catA pins s σ H _ _ v u Q I rx ry ⟨a, b, xs, ys, rfl, rfl, ha, hb, hz, q0, fun _ => q1, fun z => absurd hx z⟩
  · cases rx
    cases ry
    obtain ⟨its, r1, p1, _⟩ := I.tuple ha
    obtain ⟨its2, r2, p2, _⟩ := I.tuple hb
    refine HT.cat_tup p1 p2 (fun z => hx (r1.nil_iff.mp z)) (fun z => ⟨.ref a, H, I, rfl, q1 (r2.nil_iff.mp z)⟩) (fun _ => ?_) (by rw [← r1.length, ← r2.length]; exact hz)
    exact ⟨.ref s.heap.objs.size, _, laidT I (r1.append r2) (by rw [List.length_append]; exact hz), rfl, q2 _ _ rfl (I.hok.fresh (Nat.le_refl _))⟩
theorem op_addD : OpR X (binaryOp .Add) (fun x y H Q => ((rInt (· + ·) x y H Q ∨ rCatN X.K x y H Q) ∨ (rCat x y H Q ∨ ∃ i j, x = .str i ∧ y = .str j ∧ i.length + j.length ≤ sizeLine ∧ Q (.str (i ++ j)) H))) :=
  (op_add.or op_catN).or (op_cat.or op_add_str)
theorem br_add : Br2 X.K addD (fun x y H Q => ((rInt (· + ·) x y H Q ∨ rCatN X.K x y H Q) ∨ (rCat x y H Q ∨ ∃ i j, x = .str i ∧ y = .str j ∧ i.length + j.length ≤ sizeLine ∧ Q (.str (i ++ j)) H))) := by
  intro p γ H x y d e Q XX st cx cy h
  cases d <;> cases e <;> first
    | exact False.elim h
    | skip
  · rw [ct_int cx, ct_int cy]
    exact .inl (.inl ⟨_, _, rfl, rfl, Post.int h st⟩)
  · rename_i i j
    obtain ⟨e1, k1⟩ := ct_str cx
    obtain ⟨e2, k2⟩ := ct_str cy
    exact .inr (.inr ⟨_, _, e1, e2, h.1, Post.str h.2 st (strOk_app k1 k2)⟩)
  · rename_i xs ys
    obtain ⟨a, vs, rfl, ha, ra⟩ := ct_lst cx st
    obtain ⟨b, ws, rfl, hb, rb⟩ := ct_lst cy st
    exact .inr (.inl ⟨a, b, vs, ws, rfl, rfl, ha, hb, by rw [ra.length, rb.length]; exact h.1, fun l n => Post.lst h.2 st (ra.append rb) l n⟩)
  · rename_i xs ys
    obtain ⟨a, vs, rfl, ha, ra⟩ := ct_tup cx
    obtain ⟨b, ws, rfl, hb, rb⟩ := ct_tup cy
    refine .inl (.inr ⟨a, b, vs, ws, rfl, rfl, (ha.mono st.sub).sq, (hb.mono st.sub).sq, by rw [ra.length, rb.length]; exact h.1, fun z => ?_, fun z => ?_, fun l o od n => Post.tup h.2 st (ra.append rb) l o od n⟩)
    · subst z
      have : xs = [] := List.length_eq_zero_iff.mp (by rw [← ra.length]; rfl)
      subst this
      exact Post.here h.2 st (Rep.tup hb rb)
    · subst z
      have : ys = [] := List.length_eq_zero_iff.mp (by rw [← rb.length]; rfl)
      subst this
      have q : Post X.K p γ H Q (.tuple xs) := by have := h.2; rw [List.append_nil] at this; exact this
      exact Post.here q st (Rep.tup ha ra)
theorem br_catF : Br2F X.K catF rCat := by
  intro p γ H x y d e Q XX st cx cy h
  cases d <;> cases e <;> first
    | exact False.elim h
    | skip
  obtain ⟨a, vs, rfl, ha, ra⟩ := ct_lst cx st
  obtain ⟨b, ws, rfl, hb, rb⟩ := ct_lst cy st
  exact ⟨a, b, vs, ws, rfl, rfl, ha, hb, by rw [ra.length, rb.length]; exact h.1, fun l n => PostF.lst h.2 st (ra.append rb) l n⟩
theorem repAll_rep {K : PySem.W.Frag} {γ : Hp} {vs : List V} {ds : List D} (h : RepAll K γ vs ds) : ∀ n : Nat, RepAll K γ (List.replicate n vs).flatten (List.replicate n ds).flatten
  | 0 => .nil
  | n + 1 => by
    rw [List.replicate_succ, List.replicate_succ, List.flatten_cons, List.flatten_cons]
    exact h.append (repAll_rep h n)
theorem br_repF : Br2F X.K repF rRep := by
  intro p γ H x y d e Q XX st cx cy h
  cases d <;> cases e <;> first
    | exact False.elim h
    | skip
  obtain ⟨a, vs, rfl, ha, ra⟩ := ct_lst cx st
  have hi := ct_int cy
  refine ⟨a, _, vs, rfl, hi, ha, h.1.1.1, h.1.1.2, by rw [ra.length]; exact h.1.2, fun l n => PostF.lst h.2 st (repAll_rep ra _) l n⟩
theorem br_sub : Br2 X.K subD (rInt (· - ·)) := by
  intro p γ H x y d e Q XX st cx cy h
  cases d <;> cases e <;> first
    | exact False.elim h
    | exact ⟨_, _, ct_int cx, ct_int cy, Post.int h st⟩
theorem br_mul : Br2 X.K mulD (rI CMul fun i j => .int (i * j)) := by
  intro p γ H x y d e Q XX st cx cy h
  cases d <;> cases e <;> first
    | exact False.elim h
    | exact ⟨_, _, ct_int cx, ct_int cy, h.1, Post.int h.2 st⟩
theorem br_mod : Br2 X.K modD (rI (fun _ j => 0 < j) fun i j => .int (i % j)) := by
  intro p γ H x y d e Q XX st cx cy h
  cases d <;> cases e <;> first
    | exact False.elim h
    | exact ⟨_, _, ct_int cx, ct_int cy, h.1, Post.int h.2 st⟩
theorem br_div : Br2 X.K divD (rI CDiv fun i j => .int (i / j)) := by
  intro p γ H x y d e Q XX st cx cy h
  cases d <;> cases e <;> first
    | exact False.elim h
    | exact ⟨_, _, ct_int cx, ct_int cy, h.1, Post.int h.2 st⟩
theorem br_eq : BrC X.K (eqD false) (rEqD X.K) := by
  intro p γ H x y d e Q XX st cx cy h
  exact ⟨d, e, ct_dp cx st (sh_nd h.1.1), ct_dp cy st (sh_nd h.1.2), sh_shaped h.1.1 (ct_lay cx st (sh_nd h.1.1)), sh_shaped h.1.2 (ct_lay cy st (sh_nd h.1.2)), h.2⟩
theorem br_ne : BrC X.K (eqD true) (rNeD X.K) := by
  intro p γ H x y d e Q XX st cx cy h
  exact ⟨d, e, ct_dp cx st (sh_nd h.1.1), ct_dp cy st (sh_nd h.1.2), sh_shaped h.1.1 (ct_lay cx st (sh_nd h.1.1)), sh_shaped h.1.2 (ct_lay cy st (sh_nd h.1.2)), h.2⟩
theorem br_lt {f : Int → Int → Bool} : BrC X.K (ltD f) (rI0 fun i j => .bl (f i j)) := by
  intro p γ H x y d e Q XX st cx cy h
  cases d <;> cases e <;> first
    | exact False.elim h
    | exact ⟨_, _, ct_int cx, ct_int cy, h⟩
theorem ct_non_iff {K : PySem.W.Frag} {p : Option Addr} {γ H : Hp} {x : V} {d : D} (c : Ct K p γ H x d) (st : Stt K p γ H) : decide (x = .non) = isNon d := by
  cases d with
  | none => rw [ct_non c]; rfl
  | bool b => rw [ct_bool c]; rfl
  | int b => rw [ct_int c]; rfl
  | str b => rw [(ct_str c).1]; rfl
  | list b => obtain ⟨a, vs, rfl, _⟩ := ct_lst c st; rfl
  | tuple b => obtain ⟨a, vs, rfl, _⟩ := ct_tup c; rfl
  | dict b => obtain ⟨a, ks, xs, ds, rfl, _⟩ := ct_dct c; rfl
theorem br_is : BrC X.K (isD false) (fun x y H Q => y = .non ∧ Q (.bl (decide (x = .non))) H) := by
  intro p γ H x y d e Q XX st cx cy h
  cases e <;> first
    | exact False.elim h
    | skip
  refine ⟨ct_non cy, ?_⟩
  rw [ct_non_iff cx st]
  exact h
theorem br_isnot : BrC X.K (isD true) (fun x y H Q => y = .non ∧ Q (.bl (!decide (x = .non))) H) := by
  intro p γ H x y d e Q XX st cx cy h
  cases e <;> first
    | exact False.elim h
    | skip
  refine ⟨ct_non cy, ?_⟩
  rw [ct_non_iff cx st]
  exact h
end
end Ev

/-! Ev3: names, displays, subscripts, tests, built-ins. -/
namespace Ev
open PySem PySem.Spec PyProof.Rows L2
section
variable {X : Cx} {Wx : WX} {a b c e : Expr} {es rest : List Expr} {pos : Pos} {ma mb mc m : List Sl → W Exc D}

/-! ### names, constants -/
def getV (ρ : List Sl) (i : Nat) : W Exc D := match ρ[i]? with
  | some (.val d) => .ret d
  | _ => .stuck
def getO (ρ : List Sl) (i : Nat) : W Exc D := match ρ[i]? with
  | some (.val d) => .ret d
  | some (.own xs) => .ret (.list xs)
  | _ => .stuck
theorem pE_var {i : Nat} {x : Str} (hN : X.N[i]? = some x) (hv : Vis X.env.scope x) (hd : (x == ("__debug__" : Str)) = false) (hcd : (x == ("__classdict__" : Str)) = false) : PE X (.Name x pos) (TEe X Wx fun ρ => getV ρ i) := by
  refine pe_of (pe_var hN hv hd hcd) fun σ H Q ⟨p, H0, γ, ρ, st, er, hm⟩ => ?_
  have h : (getV ρ i).run (Post X.K p γ H Q) (ExW X.K X.mg Wx p γ H σ) := hm
  unfold getV at h
  split at h
  · rename_i d e
    obtain ⟨v, e1, r⟩ := er.val e
    exact ⟨v, e1, Post.here h st r⟩
  · exact h.elim
theorem pO_var {i : Nat} {x : Str} (hN : X.N[i]? = some x) (hv : Vis X.env.scope x) (hd : (x == ("__debug__" : Str)) = false) (hcd : (x == ("__classdict__" : Str)) = false) : PE X (.Name x pos) (TEo X Wx fun ρ => getO ρ i) := by
  refine pe_of (pe_var hN hv hd hcd) fun σ H Q ⟨p, H0, γ, ρ, st, er, hm⟩ => ?_
  have h : (getO ρ i).run (PostC X.K p γ H Q) (ExW X.K X.mg Wx p γ H σ) := hm
  unfold getO at h
  split at h
  · rename_i d e
    obtain ⟨v, e1, r⟩ := er.val e
    exact ⟨v, e1, h γ H v (.refl st) (.inl r)⟩
  · rename_i xs e
    obtain ⟨ov, e0, al, vs, e1, e2, e3, e4, e5, r⟩ := er.sl i _ e
    subst e1
    exact ⟨.ref al, e0, h γ H _ (.refl st) (.inr ⟨al, vs, xs, rfl, rfl, e2, e4, r⟩)⟩
  · exact h.elim
theorem pE_of_C {v : V} {d : D} (h : PE X e (tC v)) (r : ∀ γ, Rep X.K γ v d) : PE X e (TEe X Wx fun _ => .ret d) := pe_of h fun σ H Q ⟨p, H0, γ, ρ, st, er, hm⟩ => Post.here hm st (r γ)
def cstD : Const → Option D
  | .none => some .none
  | .bool b => some (.bool b)
  | .int i => some (.int i)
  | .str s => if PyData.strOk s then some (.str s) else none
  | _ => none
theorem pE_cst {k : Const} {d : D} {j : Nat} (h : cstD k = some d) : PE X (.Constant k j pos) (TEe X Wx fun _ => .ret d) := by
  cases k <;> simp only [cstD] at h
  · cases h; exact pE_of_C pe_non fun _ => .non
  · cases h; exact pE_of_C pe_bl fun _ => .bl
  · cases h; exact pE_of_C pe_int fun _ => .int
  · cases h
  · cases h
  · split at h
    · rename_i hs
      cases h; exact pE_of_C pe_str fun _ => .str hs
    · cases h
  · cases h
  · cases h
/-- a constant of the module -/
theorem pE_glob {x : Str} {v : V} {u : Value} {d : D} (hg : Gl X x) (hm : X.mg x = some u) (r : RelV v u) (hr : ∀ γ, Rep X.K γ v d) (hd : (x == ("__debug__" : Str)) = false) : PE X (.Name x pos) (TEe X Wx fun _ => .ret d) :=
  pE_of_C (pe_glob hg hm r hd) hr

/-! ### displays -/
def PostL (K : PySem.W.Frag) (p : Option Addr) (γ H : Hp) (Q : List V → Hp → Prop) : List D → Prop := fun ds => ∀ γ' H' vs, Ext K p γ H γ' H' → RepAll K γ' vs ds → Q vs H'
abbrev TAl (X : Cx) (Wx : WX) (m : List Sl → W Exc (List D)) : TA := fun σ H Q => ∃ p H0 γ ρ, Stt X.K p γ H ∧ EnvR X.K p H0 γ H σ ρ ∧ (m ρ).run (PostL X.K p γ H Q) (ExW X.K X.mg Wx p γ H σ)
theorem star1 (h : ∀ e' p, e ≠ .Starred e' p) (env : Env) : starEach (e :: es) env = (false, eval e env) :: starEach es env := by
  cases e <;> first
    | rfl
    | exact absurd rfl (h _ _)
theorem pL_nil : PA X [] (TAl X Wx fun _ => .ret []) := pa_of pa_nil fun σ H Q ⟨p, H0, γ, ρ, st, er, hm⟩ => hm γ H [] (.refl st) .nil
theorem pL_cons {mr : List Sl → W Exc (List D)} (hs : ∀ e' p, e ≠ .Starred e' p) (ha : PE X e (TEe X Wx ma)) (hr : PA X es (TAl X Wx mr)) : PA X (e :: es) (TAl X Wx fun ρ => (ma ρ).bind fun d => (mr ρ).bind fun ds => .ret (d :: ds)) := by
  refine pa_of (pa_cons ha hr (star1 hs X.env)) fun σ H Q ⟨p, H0, γ, ρ, st, er, hm⟩ => ?_
  refine ⟨p, H0, γ, ρ, st, er, (ma ρ).mono (fun d h1 γ1 H1 x e1 c1 => ?_) (fun _ q => q) hm⟩
  refine ⟨p, H0, γ1, ρ, e1.st, er.ext e1, (mr ρ).mono (fun ds h2 γ2 H2 vs e2 c2 => ?_) (fun _ q => q.ext st e1) h1⟩
  exact h2 γ2 H2 _ (Ext.trans st e1 e2) (.cons (c1.mono e2.gg) c2)
def tTupN (t : TA) : TE := fun σ H Q => t σ H fun xs H1 => xs.length ≤ sizeLine ∧ ∀ (l : Addr) (o : Obj), o.dict = none → H1 l = none → Q (.ref l) (upd H1 l (.frz o (.tup xs)))
theorem pe_tupN {k : Nat} {t : TA} (h : PA X es t) : PE X (.Tuple es k pos) (tTupN t) := by
  refine ⟨fun pins s σ H Q I hq => wpAny_Tuple_spliced (thn (h.run pos pins s σ H _ I hq) fun us s1 hh => ?_)⟩
  obtain ⟨xs, H1, I1, r, z, q⟩ := hh
  exact ⟨by rw [← r.length]; exact z, .ref s1.heap.objs.size, _, laidT I1 r z, rfl, q _ _ rfl (I1.hok.fresh (Nat.le_refl _))⟩
theorem small_of {n : Nat} (h : n ≤ 1000) : n ≤ sizeLine := Nat.le_trans h (by decide)
theorem pE_tup {k : Nat} {mr : List Sl → W Exc (List D)} (h : PA X es (TAl X Wx mr)) : PE X (.Tuple es k pos) (TEe X Wx fun ρ => (mr ρ).bind fun ds => (W.ask (ds.length ≤ sizeLine)).bind fun _ => .ret (.tuple ds)) := by
  refine pe_of (pe_tupN h) fun σ H Q ⟨p, H0, γ, ρ, st, er, hm⟩ => ?_
  refine ⟨p, H0, γ, ρ, st, er, (mr ρ).mono (fun ds h1 γ1 H1 vs e1 r1 => ?_) (fun _ q => q) hm⟩
  exact ⟨by rw [r1.length]; exact h1.1, fun l o od n => Post.tup (Post.ext h1.2 st e1) e1.st r1 l o od n⟩
theorem pF_lst {mr : List Sl → W Exc (List D)} (h : PA X es (TAl X Wx mr)) : PE X (.List es pos) (TEf X Wx fun ρ => (mr ρ).bind fun ds => (W.ask (ds.length ≤ sizeLine)).bind fun _ => .ret ds) := by
  refine pe_of (pe_lst h) fun σ H Q ⟨p, H0, γ, ρ, st, er, hm⟩ => ?_
  refine ⟨p, H0, γ, ρ, st, er, (mr ρ).mono (fun ds h1 γ1 H1 vs e1 r1 => ?_) (fun _ q => q) hm⟩
  exact ⟨by rw [r1.length]; exact h1.1, fun l n => PostF.lst (PostF.ext h1.2 st e1) e1.st r1 l n⟩

/-! ### subscripts -/
def ixD : D → D → W Exc D
  | .list xs, .int i => match atI xs i with
    | some d => .ret d
    | none => .stuck
  | .tuple xs, .int i => match atI xs i with
    | some d => .ret d
    | none => .stuck
  | .str z, .int i => (W.ask (z.length ≤ sizeLine)).bind fun _ => match atI z.cps.toList i with
    | some c => .ret (.str ⟨#[c]⟩)
    | none => .stuck
  | .dict kvs, .str z => match dlk kvs z with
    | some d => .ret d
    | none => .stuck
  | _, _ => .stuck
def rIxDk : R2 := fun x y H Q => ∃ a v, x = .ref a ∧ DGet H a y (some v) ∧ Q v H
theorem ix_dk (hu : X.A.units + 1 < cLine) : IxR X rIxDk := by
  intro value slice pins s σ H x y v u Q I rx ry h hs
  obtain ⟨a, w, rfl, g, q⟩ := h
  cases rx
  exact tail_any (dict_typeIs I g) PySem.F.slot_dict_getitem.lookup (d_getItem hu I g ry fun w' s3 I3 rw' => ⟨w, H, I3, rw', q⟩) hs
theorem atI_rep {K : PySem.W.Frag} {γ : Hp} {vs : List V} {ds : List D} {i : Int} {d : D} (r : RepAll K γ vs ds) (h : atI ds i = some d) : ∃ v, atI vs i = some v ∧ Rep K γ v d := by
  unfold atI at h ⊢
  rw [r.length]
  cases e : ixN ds.length i with
  | none => rw [e] at h; cases h
  | some j =>
    rw [e] at h
    exact r.get (show ds[j]? = some d from h)
theorem br_ix : Br2 X.K ixD (fun x y H Q => rIx X.K x y H Q ∨ rIxDk x y H Q) := by
  intro p γ H x y d e Q XX st cx cy h
  cases d <;> cases e <;> first
    | exact False.elim h
    | skip
  · rename_i z i
    obtain ⟨e1, k1⟩ := ct_str cx
    obtain ⟨hz, h⟩ := h
    cases q : atI z.cps.toList i with
    | none => rw [q] at h; exact h.elim
    | some cc =>
      rw [q] at h
      refine .inl (.inr (.inr ⟨z, i, cc, e1, ct_int cy, hz, q, Post.str h st ?_⟩))
      obtain ⟨j, _, e3, _⟩ := atI_get q
      have hm := List.mem_of_getElem? e3
      have hh := Array.all_eq_true_iff_forall_mem.mp k1 cc (by simpa using hm)
      simp [PyData.strOk]; simpa using hh
  · rename_i xs i
    obtain ⟨al, vs, rfl, ha, ra⟩ := ct_lst cx st
    have h' : (match atI xs i with | some d => W.ret d | none => W.stuck : W Exc D).run (Post X.K p γ H Q) XX := h
    cases q : atI xs i with
    | none => rw [q] at h'; exact h'.elim
    | some dd =>
      rw [q] at h'
      obtain ⟨v, e1, r1⟩ := atI_rep ra q
      exact .inl (.inl ⟨al, vs, i, v, rfl, ct_int cy, .of ha, e1, Post.here h' st r1⟩)
  · rename_i xs i
    obtain ⟨al, vs, rfl, ha, ra⟩ := ct_tup cx
    have h' : (match atI xs i with | some d => W.ret d | none => W.stuck : W Exc D).run (Post X.K p γ H Q) XX := h
    cases q : atI xs i with
    | none => rw [q] at h'; exact h'.elim
    | some dd =>
      rw [q] at h'
      obtain ⟨v, e1, r1⟩ := atI_rep ra q
      exact .inl (.inr (.inl ⟨al, vs, i, v, rfl, ct_int cy, (ha.mono st.sub).sq, e1, Post.here h' st r1⟩))
  · rename_i kvs z
    obtain ⟨a, ks, xs, ds, rfl, ha, ra, e, rfl⟩ := ct_dct cx
    have h' : (match dlk (dkv ks ds) z with | some d => W.ret d | none => W.stuck : W Exc D).run (Post X.K p γ H Q) XX := h
    rcases dct_get st.sub ha ra e.1 z with ⟨d, v, q1, q2, q3⟩ | ⟨q1, q2⟩
    · rw [q1] at h'
      exact .inr ⟨a, v, rfl, by rw [(ct_str cy).1]; exact q3, Post.here h' st q2⟩
    · rw [q1] at h'
      exact h'.elim
theorem pE_ix (hu : X.A.units + 1 < cLine) (ha : PE X a (TEo X Wx ma)) (hb : PE X b (TEo X Wx mb)) (hs : PlainIx b) : PE X (.Subscript a b pos) (TEe X Wx (m2 ixD ma mb)) := pe_of (pe_ix (ix_seq.or (ix_dk hu)) ha hb hs) (rd2 br_ix)
theorem plainIx_of (h : ∀ l u s p, b ≠ .Slice l u s p) : PlainIx b := by
  intro o i
  cases b <;> first
    | rfl
    | exact absurd rfl (h _ _ _ _)

/-! ### slices -/
def cutD (xs : List D) (lo hi : Option Int) : List D := (xs.drop (HT.sIx xs.length 0 lo)).take (HT.sIx xs.length xs.length hi - HT.sIx xs.length 0 lo)
def slD : D → Option Int → Option Int → W Exc D
  | .list xs, lo, hi => .ret (.list (cutD xs lo hi))
  | .tuple xs, lo, hi => .ret (.tuple (cutD xs lo hi))
  | .str z, lo, hi => (W.ask (z.length ≤ sizeLine)).bind fun _ => .ret (.str (cutS z lo hi))
  | _, _, _ => .stuck
/-- t[lo:hi], the new tuple known to bear no dict -/
def rSlN (K : PySem.W.Frag) : V → Option Int → Option Int → Hp → VK → Prop := fun x lo hi H Q => ∃ a xs, x = .ref a ∧ SqT K H a xs ∧
  (cutV xs lo hi = xs → Q (.ref a) H) ∧ ∀ (l : Addr) (o : Obj), o.dict = none → H l = none → Q (.ref l) (upd H l (.frz o (.tup (cutV xs lo hi))))
theorem sl_tupN : SlR X (rSlN X.K) := by
  intro pins s σ H x v vl vu lo hi sl Q I rx hs pl pu h
  obtain ⟨al, xs, rfl, hx, q0, q1⟩ := h
  by_cases hw : HT.sIx xs.length 0 lo = 0 ∧ HT.sIx xs.length xs.length hi = xs.length
  · refine sl_tupA pins s σ H _ v vl vu lo hi sl Q I rx hs pl pu ⟨al, xs, rfl, hx, fun _ => q0 ?_, fun z => absurd hw z⟩
    unfold cutV
    rw [hw.1, hw.2]
    simp
  · cases rx
    obtain ⟨its, r, ht, hz⟩ := I.tuple hx
    have hl : its.toArray.size = xs.length := by rw [List.size_toArray]; exact r.length.symm
    refine ⟨"tuple", _, PyProof.Rows.slot_tuple_getitem.lookup, ht.typeIs, HT.getItem_tuple_cut ht hs pl pu (by rw [hl]; exact hw) ?_ (by rw [hl]; exact hz)⟩
    rw [hl]
    exact ⟨.ref s.heap.objs.size, _, laidT I ((r.drop (HT.sIx xs.length 0 lo)).take (HT.sIx xs.length xs.length hi - HT.sIx xs.length 0 lo)) (Nat.le_trans (cutV_length xs lo hi) hz), rfl, q1 _ _ rfl (I.hok.fresh (Nat.le_refl _))⟩
def PostP (K : PySem.W.Frag) (p : Option Addr) (γ H : Hp) (Q : Option Int → Hp → Prop) : Option Int → Prop := fun o => ∀ γ' H', Ext K p γ H γ' H' → Q o H'
abbrev TOp (X : Cx) (Wx : WX) (m : List Sl → W Exc (Option Int)) : TO := fun σ H Q => ∃ p H0 γ ρ, Stt X.K p γ H ∧ EnvR X.K p H0 γ H σ ρ ∧ (m ρ).run (PostP X.K p γ H Q) (ExW X.K X.mg Wx p γ H σ)
def intW : D → W Exc (Option Int)
  | .int i => .ret (some i)
  | _ => .stuck
theorem po_of {lo : Option Expr} {t t' : TO} (h : PO X lo t) (k : ∀ σ H Q, t' σ H Q → t σ H Q) : PO X lo t' := ⟨fun pins s σ H Q I q => h.run pins s σ H Q I (k _ _ _ q)⟩
theorem pP_none : PO X none (TOp X Wx fun _ => .ret none) := po_of po_none fun σ H Q ⟨p, H0, γ, ρ, st, er, hm⟩ => hm γ H (.refl st)
theorem pP_some (h : PE X e (TEe X Wx ma)) : PO X (some e) (TOp X Wx fun ρ => (ma ρ).bind intW) := po_of (po_some h) fun σ H Q ⟨p, H0, γ, ρ, st, er, hm⟩ =>
  ⟨p, H0, γ, ρ, st, er, (ma ρ).mono (fun d h1 γ1 H1 x e1 c1 => by
    cases d with
    | int i => exact ⟨i, c1.ofInt, h1 γ1 H1 e1⟩
    | _ => exact False.elim h1) (fun _ q => q) hm⟩
theorem pE_sl {lo hi : Option Expr} {p2 : Pos} {ml mh : List Sl → W Exc (Option Int)} (he : PE X e (TEo X Wx ma)) (hl : PO X lo (TOp X Wx ml)) (hu : PO X hi (TOp X Wx mh)) :
    PE X (.Subscript e (.Slice lo hi none p2) pos) (TEe X Wx fun ρ => (ma ρ).bind fun d => (ml ρ).bind fun l => (mh ρ).bind fun h => slD d l h) := by
  refine pe_of (pe_slice (sl_list.or (sl_tupN.or sl_str)) he hl hu) fun σ H Q ⟨p, H0, γ, ρ, st, er, hm⟩ => ?_
  refine ⟨p, H0, γ, ρ, st, er, (ma ρ).mono (fun d h1 γ1 H1 x e1 c1 => ?_) (fun _ q => q) hm⟩
  refine ⟨p, H0, γ1, ρ, e1.st, er.ext e1, (ml ρ).mono (fun l h2 γ2 H2 e2 => ?_) (fun _ q => q.ext st e1) h1⟩
  have e12 := Ext.trans st e1 e2
  refine ⟨p, H0, γ2, ρ, e2.st, (er.ext e1).ext e2, (mh ρ).mono (fun u h3 γ3 H3 e3 => ?_) (fun _ q => q.ext st e12) h2⟩
  have e13 := Ext.trans st e12 e3
  have c3 : Ct X.K p γ3 H3 x d := (c1.mono e2).mono e3
  cases d with
  | list xs =>
    obtain ⟨al, vs, rfl, ha, ra⟩ := ct_lst c3 e3.st
    refine .inl ⟨al, vs, rfl, .of ha, fun l' n => Post.lst (Post.ext h3 st e13) e3.st ?_ l' n⟩
    unfold cutV cutD
    rw [ra.length]
    exact (ra.drop _).take _
  | tuple xs =>
    obtain ⟨al, vs, rfl, ha, ra⟩ := ct_tup c3
    have rc : RepAll X.K γ3 (cutV vs l u) (cutD xs l u) := by
      unfold cutV cutD
      rw [ra.length]
      exact (ra.drop _).take _
    refine .inr (.inl ⟨al, vs, rfl, (ha.mono e3.st.sub).sq, fun ew => ?_, fun l' o od n => Post.tup (Post.ext h3 st e13) e3.st rc l' o od n⟩)
    rw [ew] at rc
    exact Post.here (Post.ext h3 st e13) e3.st (Rep.tup ha rc)
  | str z =>
    obtain ⟨ez, kz⟩ := ct_str c3
    refine .inr (.inr ⟨z, ez, h3.1, Post.str (Post.ext h3.2 st e13) e3.st ?_⟩)
    unfold PyData.strOk at *
    rw [Array.all_eq_true_iff_forall_mem] at kz ⊢
    intro cc hc
    refine kz cc ?_
    have hc' : cc ∈ (cutS z l u).cps.toList := by simpa using hc
    have : cc ∈ z.cps.toList := by
      unfold cutS at hc'
      first
        | exact List.mem_of_mem_drop (List.mem_of_mem_take (by simpa using hc'))
        | simpa using hc'
    simpa using this
  | _ => exact False.elim h3
end
end Ev

/-! Ev4: truth, and, or, not; built-ins. -/
namespace Ev
open PySem PySem.Spec PyProof.Rows L2
section
variable {X : Cx} {Wx : WX} {a b c e : Expr} {es rest : List Expr} {pos : Pos} {ma mb mc m : List Sl → W Exc D} {ta tb tc : List Sl → W Exc Bool}

/-! ### truth -/
def truthD : D → W Exc Bool
  | .none => .ret false
  | .bool b => .ret b
  | .int i => .ret (i != 0)
  | .str z => (W.ask (z.length ≤ sizeLine)).bind fun _ => .ret ((z.length : Int) != 0)
  | .list xs => .ret (!xs.isEmpty)
  | .tuple xs => .ret (!xs.isEmpty)
  | .dict _ => .stuck
theorem RepAll.isEmpty {K : PySem.W.Frag} {γ : Hp} {vs : List V} {ds : List D} (r : RepAll K γ vs ds) : vs.isEmpty = ds.isEmpty := by
  cases vs with
  | nil => cases ds with
    | nil => rfl
    | cons _ _ => cases r.1
  | cons _ _ => cases ds with
    | nil => cases r.1
    | cons _ _ => rfl
theorem tru_of {K : PySem.W.Frag} {p : Option Addr} {γ H : Hp} {x : V} {d : D} {R : Bool → Prop} {XX : Exc → Prop} (cx : Ct K p γ H x d) (st : Stt K p γ H) (h : (truthD d).run R XX) : ∃ k, TruV K x H k ∧ R k := by
  cases d with
  | none => rw [ct_non cx]; exact ⟨false, rfl, h⟩
  | bool b => rw [ct_bool cx]; exact ⟨b, rfl, h⟩
  | int i => rw [ct_int cx]; exact ⟨_, rfl, h⟩
  | str z => rw [(ct_str cx).1]; exact ⟨_, ⟨h.1, rfl⟩, h.2⟩
  | list xs => obtain ⟨al, vs, rfl, ha, ra⟩ := ct_lst cx st; exact ⟨_, .inl ⟨vs, .of ha, by rw [ra.isEmpty]⟩, h⟩
  | tuple xs => obtain ⟨al, vs, rfl, ha, ra⟩ := ct_tup cx; exact ⟨_, .inr (.inl ⟨vs, (ha.mono st.sub).sq, by rw [ra.isEmpty]⟩), h⟩
  | dict _ => exact False.elim h
theorem pT_tru (ha : PE X a (TEo X Wx ma)) (he : ∀ whole, isTrue a X.env whole = (do let v ← whole; standAt a.pos; holding [v] (truthy v))) : PT X a (TTt X Wx fun ρ => (ma ρ).bind truthD) := by
  refine pt_of (pt_truth ha he) fun σ H Q ⟨p, H0, γ, ρ, st, er, hm⟩ => ?_
  refine ⟨p, H0, γ, ρ, st, er, (ma ρ).mono (fun d h1 γ1 H1 x e1 c1 => ?_) (fun _ q => q) hm⟩
  exact tru_of c1 e1.st ((truthD d).mono (fun k q => q γ1 H1 e1) (fun _ q => q) h1)
theorem plainT (h1 : ∀ x p, a ≠ .UnaryOp .Not x p) (h2 : ∀ o x p, a ≠ .BoolOp o x p) (h3 : ∀ x y z p, a ≠ .IfExp x y z p) (h4 : ∀ x y z p, a ≠ .Compare x y z p) (env : Env) (whole : Sem Value) :
    isTrue a env whole = (do let v ← whole; standAt a.pos; holding [v] (truthy v)) := by
  cases a <;> first
    | rfl
    | exact absurd rfl (h2 _ _ _)
    | exact absurd rfl (h3 _ _ _ _)
    | exact absurd rfl (h4 _ _ _ _)
    | skip
  rename_i o _ _
  cases o <;> first
    | rfl
    | exact absurd rfl (h1 _ _)

/-! ### and, or, not, if -/
theorem rdT_after {σ : St} {H : Hp} {Q : Bool → Hp → Prop} {p : Option Addr} {H0 γ γ1 H1 : Hp} {ρ : List Sl} (st : Stt X.K p γ H) (er : EnvR X.K p H0 γ H σ ρ) (e1 : Ext X.K p γ H γ1 H1) {w : W Exc Bool}
    (h : w.run (PostB X.K p γ H Q) (ExW X.K X.mg Wx p γ H σ)) (hw : w = tb ρ) : TTt X Wx tb σ H1 Q := by
  subst hw
  exact ⟨p, H0, γ1, ρ, e1.st, er.ext e1, (tb ρ).mono (fun _ q => q.ext st e1) (fun _ q => q.ext st e1) h⟩
theorem rdE_after {σ : St} {H : Hp} {Q : VK} {p : Option Addr} {H0 γ γ1 H1 : Hp} {ρ : List Sl} (st : Stt X.K p γ H) (er : EnvR X.K p H0 γ H σ ρ) (e1 : Ext X.K p γ H γ1 H1) {w : W Exc D}
    (h : w.run (Post X.K p γ H Q) (ExW X.K X.mg Wx p γ H σ)) (hw : w = mb ρ) : TEe X Wx mb σ H1 Q := by
  subst hw
  exact ⟨p, H0, γ1, ρ, e1.st, er.ext e1, (mb ρ).mono (fun _ q => q.ext st e1) (fun _ q => q.ext st e1) h⟩
theorem pW_and1 (ha : PT X a (TTt X Wx ta)) : PW X (.BoolOp .And [a] pos) (TTt X Wx ta) := pw_and1 ha
theorem pW_or1 (ha : PT X a (TTt X Wx ta)) : PW X (.BoolOp .Or [a] pos) (TTt X Wx ta) := pw_or1 ha
theorem pW_and (ha : PT X a (TTt X Wx ta)) (hb : PW X (.BoolOp .And (b :: rest) pos) (TTt X Wx tb)) : PW X (.BoolOp .And (a :: b :: rest) pos) (TTt X Wx fun ρ => (ta ρ).bind fun k => if k then tb ρ else .ret false) := by
  refine pw_of (pw_and ha hb) fun σ H Q ⟨p, H0, γ, ρ, st, er, hm⟩ => ?_
  refine ⟨p, H0, γ, ρ, st, er, (ta ρ).mono (fun k h1 γ1 H1 e1 => ?_) (fun _ q => q) hm⟩
  cases k with
  | true => exact rdT_after st er e1 h1 rfl
  | false => exact h1 γ1 H1 e1
theorem pW_or (ha : PT X a (TTt X Wx ta)) (hb : PW X (.BoolOp .Or (b :: rest) pos) (TTt X Wx tb)) : PW X (.BoolOp .Or (a :: b :: rest) pos) (TTt X Wx fun ρ => (ta ρ).bind fun k => if k then .ret true else tb ρ) := by
  refine pw_of (pw_or ha hb) fun σ H Q ⟨p, H0, γ, ρ, st, er, hm⟩ => ?_
  refine ⟨p, H0, γ, ρ, st, er, (ta ρ).mono (fun k h1 γ1 H1 e1 => ?_) (fun _ q => q) hm⟩
  cases k with
  | false => exact rdT_after st er e1 h1 rfl
  | true => exact h1 γ1 H1 e1
theorem pT_not (ha : PT X a (TTt X Wx ta)) : PT X (.UnaryOp .Not a pos) (TTt X Wx fun ρ => (ta ρ).bind fun k => .ret (!k)) := by
  refine pt_of (pt_not ha) fun σ H Q ⟨p, H0, γ, ρ, st, er, hm⟩ => ?_
  exact ⟨p, H0, γ, ρ, st, er, (ta ρ).mono (fun k h1 γ1 H1 e1 => h1 γ1 H1 e1) (fun _ q => q) hm⟩
theorem pE_not (ha : PE X a (TEo X Wx ma)) : PE X (.UnaryOp .Not a pos) (TEe X Wx fun ρ => (ma ρ).bind fun d => (truthD d).bind fun k => .ret (.bool (!k))) := by
  refine pe_of (pe_notT ha) fun σ H Q ⟨p, H0, γ, ρ, st, er, hm⟩ => ?_
  refine ⟨p, H0, γ, ρ, st, er, (ma ρ).mono (fun d h1 γ1 H1 x e1 c1 => ?_) (fun _ q => q) hm⟩
  exact tru_of c1 e1.st ((truthD d).mono (fun k q => Post.bool (Post.ext q st e1) e1.st) (fun _ q => q) h1)
theorem pE_one {o : BoolOp} (ha : PE X a (TEe X Wx ma)) : PE X (.BoolOp o [a] pos) (TEe X Wx ma) := pe_one ha
theorem pE_and (ha : PE X a (TEe X Wx ma)) (hb : PE X (.BoolOp .And (b :: rest) pos) (TEe X Wx mb)) : PE X (.BoolOp .And (a :: b :: rest) pos) (TEe X Wx fun ρ => (ma ρ).bind fun d => (truthD d).bind fun k => if k then mb ρ else .ret d) := by
  refine pe_of (pe_andT ha hb) fun σ H Q ⟨p, H0, γ, ρ, st, er, hm⟩ => ?_
  refine ⟨p, H0, γ, ρ, st, er, (ma ρ).mono (fun d h1 γ1 H1 x e1 c1 => ?_) (fun _ q => q) hm⟩
  obtain ⟨k, tv, q⟩ := tru_of (.inl c1) e1.st h1
  refine ⟨k, tv, ?_⟩
  cases k with
  | true => exact rdE_after st er e1 q rfl
  | false => exact Post.here (Post.ext q st e1) e1.st c1
theorem pE_or (ha : PE X a (TEe X Wx ma)) (hb : PE X (.BoolOp .Or (b :: rest) pos) (TEe X Wx mb)) : PE X (.BoolOp .Or (a :: b :: rest) pos) (TEe X Wx fun ρ => (ma ρ).bind fun d => (truthD d).bind fun k => if k then .ret d else mb ρ) := by
  refine pe_of (pe_orT ha hb) fun σ H Q ⟨p, H0, γ, ρ, st, er, hm⟩ => ?_
  refine ⟨p, H0, γ, ρ, st, er, (ma ρ).mono (fun d h1 γ1 H1 x e1 c1 => ?_) (fun _ q => q) hm⟩
  obtain ⟨k, tv, q⟩ := tru_of (.inl c1) e1.st h1
  refine ⟨k, tv, ?_⟩
  cases k with
  | false => exact rdE_after st er e1 q rfl
  | true => exact Post.here (Post.ext q st e1) e1.st c1
theorem pE_ife (hc : PT X c (TTt X Wx tc)) (ha : PE X a (TEe X Wx ma)) (hb : PE X b (TEe X Wx mb)) : PE X (.IfExp c a b pos) (TEe X Wx fun ρ => (tc ρ).bind fun k => if k then ma ρ else mb ρ) := by
  refine pe_of (pe_ifExp hc ha hb) fun σ H Q ⟨p, H0, γ, ρ, st, er, hm⟩ => ?_
  refine ⟨p, H0, γ, ρ, st, er, (tc ρ).mono (fun k h1 γ1 H1 e1 => ?_) (fun _ q => q) hm⟩
  cases k with
  | true => exact rdE_after (mb := ma) st er e1 h1 rfl
  | false => exact rdE_after st er e1 h1 rfl
def negD : D → W Exc D
  | .int i => .ret (.int (-i))
  | _ => .stuck
theorem pE_neg (ha : PE X a (TEe X Wx ma)) : PE X (.UnaryOp .USub a pos) (TEe X Wx fun ρ => (ma ρ).bind negD) := by
  refine pe_of (pe_un un_neg ha) fun σ H Q ⟨p, H0, γ, ρ, st, er, hm⟩ => ?_
  refine ⟨p, H0, γ, ρ, st, er, (ma ρ).mono (fun d h1 γ1 H1 x e1 c1 => ?_) (fun _ q => q) hm⟩
  cases d <;> first
    | exact False.elim h1
    | exact ⟨_, c1.ofInt, Post.int (Post.ext h1 st e1) e1.st⟩
/-- a < b < c of ints -/
abbrev chW (o o' : D → D → W Exc Bool) (ma mb mc : List Sl → W Exc D) : List Sl → W Exc Bool := fun ρ => (ma ρ).bind fun x => (mb ρ).bind fun y => (o x y).bind fun k => if k then (mc ρ).bind fun z => o' y z else .ret false
theorem rdCh {o o' : D → D → W Exc Bool} {r r' : R2} (hr : BrC X.K o r) (hr' : BrC X.K o' r') (σ : St) (H : Hp) (Q : VK) (R : Bool → Prop) (h : RdT X.K X.mg Wx (chW o o' ma mb mc) σ H fun k H' => Q (.bl k) H') : tChain r r' (TEo X Wx ma) (TEo X Wx mb) (TEo X Wx mc) σ H Q := by
  obtain ⟨p, H0, γ, ρ, st, er, hm⟩ := h
  refine ⟨p, H0, γ, ρ, st, er, (ma ρ).mono (fun d h1 γ1 H1 x e1 c1 => ?_) (fun _ q => q) hm⟩
  refine ⟨p, H0, γ1, ρ, e1.st, er.ext e1, (mb ρ).mono (fun e h2 γ2 H2 y e2 c2 => ?_) (fun _ q => q.ext st e1) h1⟩
  have e12 := Ext.trans st e1 e2
  refine hr p γ2 H2 x y d e _ _ e2.st (c1.mono e2) c2 ((o d e).mono (fun k q => ?_) (fun _ q => q) h2)
  refine ⟨k, rfl, ?_⟩
  cases k with
  | false => exact q γ2 H2 e12
  | true =>
    refine ⟨p, H0, γ2, ρ, e2.st, (er.ext e1).ext e2, (mc ρ).mono (fun f h3 γ3 H3 z e3 c3 => ?_) (fun _ q => q.ext st e12) q⟩
    have e13 := Ext.trans st e12 e3
    exact hr' p γ3 H3 y z e f _ _ e3.st (c2.mono e3) c3 ((o' e f).mono (fun k q => q γ3 H3 e13) (fun _ q => q) h3)
end
end Ev

/-! Ev5: chains, built-ins by name. -/
namespace Ev
open PySem PySem.Spec PyProof.Rows L2
section
variable {X : Cx} {Wx : WX} {a b c e : Expr} {es rest : List Expr} {pos pp : Pos} {ma mb mc m : List Sl → W Exc D} {ta tb tc : List Sl → W Exc Bool}
theorem pE_chn {op op' : CmpOp} {o o' : D → D → W Exc Bool} {r r' : R2} (ho : OpR X (compareOp op) r) (ho' : OpR X (compareOp op') r') (hr : BrC X.K o r) (hr' : BrC X.K o' r') (hm : lastMarks [op, op'] [b, c] = false)
    (ha : PE X a (TEo X Wx ma)) (hb : PE X b (TEo X Wx mb)) (hc : PE X c (TEo X Wx mc)) : PE X (.Compare a [op, op'] [b, c] pos) (TEe X Wx fun ρ => (chW o o' ma mb mc ρ).bind fun k => .ret (.bool k)) :=
  pe_of (pe_chain ho ho' ha hb hc hm) fun σ H Q ⟨p, H0, γ, ρ, st, er, hm⟩ => rdCh hr hr' σ H Q (fun _ => True)
    ⟨p, H0, γ, ρ, st, er, (chW o o' ma mb mc ρ).mono (fun k q γ' H' e => q γ' H' _ e .bl) (fun _ q => q) hm⟩
theorem pT_chn {op op' : CmpOp} {o o' : D → D → W Exc Bool} {r r' : R2} (ho : OpR X (compareOp op) r) (ho' : OpR X (compareOp op') r') (hr : BrC X.K o r) (hr' : BrC X.K o' r') (hm : lastMarks [op, op'] [b, c] = false)
    (ha : PE X a (TEo X Wx ma)) (hb : PE X b (TEo X Wx mb)) (hc : PE X c (TEo X Wx mc)) : PT X (.Compare a [op, op'] [b, c] pos) (TTt X Wx (chW o o' ma mb mc)) :=
  pt_of (pt_chain ho ho' ha hb hc hm) fun σ H Q ⟨p, H0, γ, ρ, st, er, hm⟩ => rdCh hr hr' σ H _ (fun _ => True)
    ⟨p, H0, γ, ρ, st, er, (chW o o' ma mb mc ρ).mono (fun k q γ' H' e => ⟨k, rfl, q γ' H' e⟩) (fun _ q => q) hm⟩

/-! ### calls of built-ins -/
def BrK1 (K : PySem.W.Frag) (op : D → W Exc D) (r : List V → Hp → VK → Prop) : Prop :=
  ∀ (p : Option Addr) (γ H : Hp) (x : V) (d : D) (Q : VK) (XX : Exc → Prop), Stt K p γ H → Ct K p γ H x d → (op d).run (Post K p γ H Q) XX → r [x] H Q
def BrK1F (K : PySem.W.Frag) (op : D → W Exc (List D)) (r : List V → Hp → VK → Prop) : Prop :=
  ∀ (p : Option Addr) (γ H : Hp) (x : V) (d : D) (Q : VK) (XX : Exc → Prop), Stt K p γ H → Ct K p γ H x d → (op d).run (PostF K p γ H Q) XX → r [x] H Q
def BrK2 (K : PySem.W.Frag) (op : D → D → W Exc D) (r : List V → Hp → VK → Prop) : Prop :=
  ∀ (p : Option Addr) (γ H : Hp) (x y : V) (d e : D) (Q : VK) (XX : Exc → Prop), Stt K p γ H → Ct K p γ H x d → Ct K p γ H y e → (op d e).run (Post K p γ H Q) XX → r [x, y] H Q
theorem rdK1 {op : D → W Exc D} {r : List V → Hp → VK → Prop} (hr : BrK1 X.K op r) (σ : St) (H : Hp) (Q : VK) (h : TEe X Wx (fun ρ => (ma ρ).bind op) σ H Q) : tCB r (tCons (TEo X Wx ma) tNil) σ H Q := by
  obtain ⟨p, H0, γ, ρ, st, er, hm⟩ := h
  refine ⟨p, H0, γ, ρ, st, er, (ma ρ).mono (fun d h1 γ1 H1 x e1 c1 => ?_) (fun _ q => q) hm⟩
  exact hr p γ1 H1 x d Q _ e1.st c1 ((op d).mono (fun z q => q.ext st e1) (fun _ q => q) h1)
theorem rdK1F {op : D → W Exc (List D)} {r : List V → Hp → VK → Prop} (hr : BrK1F X.K op r) (σ : St) (H : Hp) (Q : VK) (h : TEf X Wx (fun ρ => (ma ρ).bind op) σ H Q) : tCB r (tCons (TEo X Wx ma) tNil) σ H Q := by
  obtain ⟨p, H0, γ, ρ, st, er, hm⟩ := h
  refine ⟨p, H0, γ, ρ, st, er, (ma ρ).mono (fun d h1 γ1 H1 x e1 c1 => ?_) (fun _ q => q) hm⟩
  exact hr p γ1 H1 x d Q _ e1.st c1 ((op d).mono (fun z q => q.ext st e1) (fun _ q => q) h1)
theorem rdK2 {op : D → D → W Exc D} {r : List V → Hp → VK → Prop} (hr : BrK2 X.K op r) (σ : St) (H : Hp) (Q : VK) (h : TEe X Wx (m2 op ma mb) σ H Q) : tCB r (tCons (TEo X Wx ma) (tCons (TEo X Wx mb) tNil)) σ H Q := by
  obtain ⟨p, H0, γ, ρ, st, er, hm⟩ := h
  refine ⟨p, H0, γ, ρ, st, er, (ma ρ).mono (fun d h1 γ1 H1 x e1 c1 => ?_) (fun _ q => q) hm⟩
  refine ⟨p, H0, γ1, ρ, e1.st, er.ext e1, (mb ρ).mono (fun e h2 γ2 H2 y e2 c2 => ?_) (fun _ q => q.ext st e1) h1⟩
  exact hr p γ2 H2 x y d e Q (fun _ => True) e2.st (c1.mono e2) c2 ((op d e).mono (fun z q => q.ext st (Ext.trans st e1 e2)) (fun _ _ => trivial) h2)
theorem back0 (p : Pos) (env : Env) : (backTo p (starEach [] env)).any (·.1) = false := rfl
theorem back1 (h : ∀ e' p, e ≠ .Starred e' p) (p : Pos) (env : Env) : (backTo p (starEach [e] env)).any (·.1) = false := by
  rw [star1 h]; rfl
section
variable {x id T : _root_.String} {nm : Str} {op : D → W Exc D} {opF : D → W Exc (List D)} {op2 : D → D → W Exc D} {r : List V → Hp → VK → Prop}
theorem pE_blt1 (hc : CallR X (.builtin id) r) (hr : BrK1 X.K op r) (hg : Gl X nm) (hm : X.mg nm = none) (hv : bootBuiltins nm = some (.builtin id)) (hn : nm ≠ "__name__") (hdb : (nm == ("__debug__" : Str)) = false)
    (hs : ∀ e' p, e ≠ .Starred e' p) (ha : PE X e (TEo X Wx ma)) : PE X (.Call (.Name nm pp) [e] [] pos) (TEe X Wx fun ρ => (ma ρ).bind op) :=
  pe_of (pe_callB hc hg hm hv (pa_cons ha pa_nil (star1 hs X.env)) hn hdb (star1 hs X.env) (back0 _ _)) (rdK1 hr)
theorem pF_blt1 (hc : CallR X (.builtin id) r) (hr : BrK1F X.K opF r) (hg : Gl X nm) (hm : X.mg nm = none) (hv : bootBuiltins nm = some (.builtin id)) (hn : nm ≠ "__name__") (hdb : (nm == ("__debug__" : Str)) = false)
    (hs : ∀ e' p, e ≠ .Starred e' p) (ha : PE X e (TEo X Wx ma)) : PE X (.Call (.Name nm pp) [e] [] pos) (TEf X Wx fun ρ => (ma ρ).bind opF) :=
  pe_of (pe_callB hc hg hm hv (pa_cons ha pa_nil (star1 hs X.env)) hn hdb (star1 hs X.env) (back0 _ _)) (rdK1F hr)
theorem pE_ty1 (hc : CallR X (.type T) r) (hr : BrK1 X.K op r) (hg : Gl X nm) (hm : X.mg nm = none) (hv : bootBuiltins nm = some (.type T)) (hn : nm ≠ "__name__") (hdb : (nm == ("__debug__" : Str)) = false)
    (hs : ∀ e' p, e ≠ .Starred e' p) (ha : PE X e (TEo X Wx ma)) : PE X (.Call (.Name nm pp) [e] [] pos) (TEe X Wx fun ρ => (ma ρ).bind op) :=
  pe_of (pe_callTy hc hg hm hv (pa_cons ha pa_nil (star1 hs X.env)) hn hdb (star1 hs X.env) (back0 _ _)) (rdK1 hr)
theorem pF_ty1 (hc : CallR X (.type T) r) (hr : BrK1F X.K opF r) (hg : Gl X nm) (hm : X.mg nm = none) (hv : bootBuiltins nm = some (.type T)) (hn : nm ≠ "__name__") (hdb : (nm == ("__debug__" : Str)) = false)
    (hs : ∀ e' p, e ≠ .Starred e' p) (ha : PE X e (TEo X Wx ma)) : PE X (.Call (.Name nm pp) [e] [] pos) (TEf X Wx fun ρ => (ma ρ).bind opF) :=
  pe_of (pe_callTy hc hg hm hv (pa_cons ha pa_nil (star1 hs X.env)) hn hdb (star1 hs X.env) (back0 _ _)) (rdK1F hr)
theorem pE_blt2 (hc : CallR X (.builtin id) r) (hr : BrK2 X.K op2 r) (hg : Gl X nm) (hm : X.mg nm = none) (hv : bootBuiltins nm = some (.builtin id)) (hn : nm ≠ "__name__") (hdb : (nm == ("__debug__" : Str)) = false)
    (hs : ∀ e' p, e ≠ .Starred e' p) (hs2 : ∀ e' p, c ≠ .Starred e' p) (ha : PE X e (TEo X Wx ma)) (hb : PE X c (TEo X Wx mb)) : PE X (.Call (.Name nm pp) [e, c] [] pos) (TEe X Wx (m2 op2 ma mb)) :=
  pe_of (pe_callB hc hg hm hv (pa_cons ha (pa_cons hb pa_nil (star1 hs2 X.env)) (star1 hs X.env)) hn hdb (star1 hs X.env) (back1 hs2 _ _)) (rdK2 hr)
end

/-! ### what they are -/
def lenD : D → W Exc D
  | .list xs => (W.given (xs.length ≤ sizeLine)).bind fun _ => .ret (.int xs.length)
  | .tuple xs => (W.given (xs.length ≤ sizeLine)).bind fun _ => .ret (.int xs.length)
  | .str z => (W.ask (z.length ≤ sizeLine)).bind fun _ => .ret (.int z.length)
  | _ => .stuck
def rLenG (K : PySem.W.Frag) : List V → Hp → VK → Prop := fun xs H Q => (∃ p ys, xs = [.ref p] ∧ (SqL K H p ys ∨ SqT K H p ys) ∧ (ys.length ≤ sizeLine → Q (.int ys.length) H)) ∨ ∃ z, xs = [.str z] ∧ z.length ≤ sizeLine ∧ Q (.int z.length) H
theorem call_lenG : CallR X (.builtin "len") (rLenG X.K) := by
  intro pins s σ H xs us Q I rx h
  rcases h with ⟨p, ys, rfl, hq, q⟩ | ⟨z, rfl, hz, q⟩
  · have hl : ys.length ≤ sizeLine := by
      rcases hq with hq | hq
      · obtain ⟨_, _, _, z⟩ := I.list hq; exact z
      · obtain ⟨_, _, _, z⟩ := I.tuple hq; exact z
    exact call_len_seq pins s σ H _ us Q I rx ⟨p, ys, rfl, hq, q hl⟩
  · exact call_len_str pins s σ H _ us Q I rx ⟨z, rfl, hz, q⟩
theorem br_len : BrK1 X.K lenD (rLenG X.K) := by
  intro p γ H x d Q XX st cx h
  cases d <;> first
    | exact False.elim h
    | skip
  · obtain ⟨e1, _⟩ := ct_str cx
    exact .inr ⟨_, by rw [e1], h.1, Post.int h.2 st⟩
  · obtain ⟨al, vs, rfl, ha, ra⟩ := ct_lst cx st
    exact .inl ⟨al, vs, rfl, .inl (.of ha), fun z => by rw [ra.length] at z ⊢; exact Post.int (h z) st⟩
  · obtain ⟨al, vs, rfl, ha, ra⟩ := ct_tup cx
    exact .inl ⟨al, vs, rfl, .inr (ha.mono st.sub).sq, fun z => by rw [ra.length] at z ⊢; exact Post.int (h z) st⟩
def intD : D → W Exc D
  | .int i => .ret (.int i)
  | .bool b => .ret (.int (if b then 1 else 0))
  | _ => .stuck
theorem br_int : BrK1 X.K intD (fun xs H Q => (∃ i, xs = [.int i] ∧ Q (.int i) H) ∨ ∃ k, xs = [.bl k] ∧ Q (.int (if k then 1 else 0)) H) := by
  intro p γ H x d Q XX st cx h
  cases d <;> first
    | exact False.elim h
    | exact .inr ⟨_, by rw [ct_bool cx], Post.int h st⟩
    | exact .inl ⟨_, by rw [ct_int cx], Post.int h st⟩
/-- tuple(x) -/
def tupleD : D → W Exc D
  | .list xs => .ret (.tuple xs)
  | .tuple xs => .ret (.tuple xs)
  | _ => .stuck
def rTupleN (K : PySem.W.Frag) : List V → Hp → VK → Prop := fun xs H Q => ∃ p ys, xs = [.ref p] ∧ ((SqL K H p ys ∧ ∀ (l : Addr) (o : Obj), o.dict = none → H l = none → Q (.ref l) (upd H l (.frz o (.tup ys)))) ∨ (SqT K H p ys ∧ Q (.ref p) H))
theorem call_tupleN : CallR X (.type "tuple") (rTupleN X.K) := by
  intro pins s σ H xs us Q I rx h
  obtain ⟨p, ys, rfl, h⟩ := h
  rcases h with ⟨hq, q⟩ | ⟨hq, q⟩
  · obtain ⟨u, rfl, rv⟩ := vals1 rx
    cases rv
    obtain ⟨its, r', pl, hz⟩ := I.list hq
    have hl := r'.length
    refine call_tuple_list pl.isList (fun h' kp => ?_) (by simp only [List.size_toArray] <;> omega)
    have I1 : Inv X pins σ H { s with heap := h' } := I.kept (t' := s.toks) kp
    exact ⟨.ref h'.objs.size, _, laidT I1 r' hz, rfl, q _ _ rfl (I1.hok.fresh (Nat.le_refl _))⟩
  · exact call_tuple_of pins s σ H _ us Q I rx ⟨p, ys, rfl, .inr ⟨hq, q⟩⟩
theorem br_tuple : BrK1 X.K tupleD (rTupleN X.K) := by
  intro p γ H x d Q XX st cx h
  cases d <;> first
    | exact False.elim h
    | skip
  · obtain ⟨al, vs, rfl, ha, ra⟩ := ct_lst cx st
    exact ⟨al, vs, rfl, .inl ⟨.of ha, fun l o od n => Post.tup h st ra l o od n⟩⟩
  · obtain ⟨al, vs, rfl, ha, ra⟩ := ct_tup cx
    exact ⟨al, vs, rfl, .inr ⟨(ha.mono st.sub).sq, Post.here h st (Rep.tup ha ra)⟩⟩
/-- list(x) -/
def listF : D → W Exc (List D)
  | .list xs => .ret xs
  | .tuple xs => .ret xs
  | _ => .stuck
theorem br_list : BrK1F X.K listF (fun xs H Q => ∃ p ys, xs = [.ref p] ∧ (SqL X.K H p ys ∨ SqT X.K H p ys) ∧ ∀ l, H l = none → Q (.ref l) (upd H l (.lst ys))) := by
  intro p γ H x d Q XX st cx h
  cases d <;> first
    | exact False.elim h
    | skip
  · obtain ⟨al, vs, rfl, ha, ra⟩ := ct_lst cx st
    exact ⟨al, vs, rfl, .inl (.of ha), fun l n => PostF.lst h st ra l n⟩
  · obtain ⟨al, vs, rfl, ha, ra⟩ := ct_tup cx
    exact ⟨al, vs, rfl, .inr (ha.mono st.sub).sq, fun l n => PostF.lst h st ra l n⟩
/-- bools, ints of a list -/
def boolsOf : List D → Option (List Bool)
  | [] => some []
  | .bool b :: r => (boolsOf r).map (b :: ·)
  | _ => none
def intsOf : List D → Option (List Int)
  | [] => some []
  | .int b :: r => (intsOf r).map (b :: ·)
  | _ => none
theorem boolsOf_eq : ∀ {ds : List D} {bs : List Bool}, boolsOf ds = some bs → ds = bs.map .bool
  | [], bs, h => by cases h; rfl
  | d :: ds, bs, h => by
    cases d <;> simp only [boolsOf] at h <;> first
      | cases h
      | skip
    cases e : boolsOf ds with
    | none => rw [e] at h; cases h
    | some cs => rw [e] at h; cases h; rw [boolsOf_eq e]; rfl
theorem intsOf_eq : ∀ {ds : List D} {bs : List Int}, intsOf ds = some bs → ds = bs.map .int
  | [], bs, h => by cases h; rfl
  | d :: ds, bs, h => by
    cases d <;> simp only [intsOf] at h <;> first
      | cases h
      | skip
    cases e : intsOf ds with
    | none => rw [e] at h; cases h
    | some cs => rw [e] at h; cases h; rw [intsOf_eq e]; rfl
theorem intsOf_map : ∀ bs : List Int, intsOf (bs.map .int) = some bs
  | [] => rfl
  | b :: bs => by simp [intsOf, intsOf_map bs]
theorem boolsOf_map : ∀ bs : List Bool, boolsOf (bs.map .bool) = some bs
  | [] => rfl
  | b :: bs => by simp [boolsOf, boolsOf_map bs]
theorem rep_ints {K : PySem.W.Frag} {γ : Hp} : ∀ {vs : List V} {is : List Int}, RepAll K γ vs (is.map .int) → vs = is.map V.int
  | [], [], _ => rfl
  | [], _ :: _, r => by cases r.1
  | _ :: _, [], r => by cases r.1
  | v :: vs, i :: is, r => by rw [List.map_cons, rep_ints r.tail, r.head.ofInt]
theorem rep_bools {K : PySem.W.Frag} {γ : Hp} : ∀ {vs : List V} {is : List Bool}, RepAll K γ vs (is.map .bool) → vs = is.map V.bl
  | [], [], _ => rfl
  | [], _ :: _, r => by cases r.1
  | _ :: _, [], r => by cases r.1
  | v :: vs, i :: is, r => by rw [List.map_cons, rep_bools r.tail, r.head.ofBool]
theorem ints_rep {K : PySem.W.Frag} {γ : Hp} : ∀ (is : List Int), RepAll K γ (is.map V.int) (is.map .int)
  | [] => .nil
  | i :: is => .cons .int (ints_rep is)
def optW {α β : Type} (o : Option α) (f : α → W Exc β) : W Exc β := match o with
  | some a => f a
  | none => .stuck
def allD : D → W Exc D
  | .list xs => optW (boolsOf xs) fun bs => .ret (.bool (bs.all id))
  | _ => .stuck
def anyD : D → W Exc D
  | .list xs => optW (boolsOf xs) fun bs => .ret (.bool (bs.any id))
  | _ => .stuck
def sumD : D → W Exc D
  | .list xs => optW (intsOf xs) fun bs => .ret (.int bs.sum)
  | _ => .stuck
def leastI : List Int → Int
  | [] => 0
  | i :: is => is.foldl min i
def mostI : List Int → Int
  | [] => 0
  | i :: is => is.foldl max i
def minD : D → W Exc D
  | .list xs => optW (intsOf xs) fun bs => (W.ask (0 < bs.length)).bind fun _ => .ret (.int (leastI bs))
  | _ => .stuck
def maxD : D → W Exc D
  | .list xs => optW (intsOf xs) fun bs => (W.ask (0 < bs.length)).bind fun _ => .ret (.int (mostI bs))
  | _ => .stuck
theorem optW_run {α β : Type} {o : Option α} {f : α → W Exc β} {Q : β → Prop} {XX : Exc → Prop} (h : (optW o f).run Q XX) : ∃ a, o = some a ∧ (f a).run Q XX := by
  cases o with
  | none => exact False.elim h
  | some a => exact ⟨a, rfl, h⟩
theorem br_all : BrK1 X.K allD (rAll X.K) := by
  intro p γ H x d Q XX st cx h
  cases d <;> first
    | exact False.elim h
    | skip
  obtain ⟨al, vs, rfl, ha, ra⟩ := ct_lst cx st
  obtain ⟨bs, e, h⟩ := optW_run h
  rw [boolsOf_eq e] at ra
  exact ⟨al, bs, rfl, by rw [← rep_bools ra]; exact .of ha, Post.bool h st⟩
theorem br_any : BrK1 X.K anyD (rAny X.K) := by
  intro p γ H x d Q XX st cx h
  cases d <;> first
    | exact False.elim h
    | skip
  obtain ⟨al, vs, rfl, ha, ra⟩ := ct_lst cx st
  obtain ⟨bs, e, h⟩ := optW_run h
  rw [boolsOf_eq e] at ra
  exact ⟨al, bs, rfl, by rw [← rep_bools ra]; exact .of ha, Post.bool h st⟩
theorem br_sum : BrK1 X.K sumD (rSum X.K) := by
  intro p γ H x d Q XX st cx h
  cases d <;> first
    | exact False.elim h
    | skip
  obtain ⟨al, vs, rfl, ha, ra⟩ := ct_lst cx st
  obtain ⟨bs, e, h⟩ := optW_run h
  rw [intsOf_eq e] at ra
  exact ⟨al, bs, rfl, by rw [← rep_ints ra]; exact .of ha, Post.int h st⟩
theorem foldl_min_le : ∀ (is : List Int) (i : Int), is.foldl min i ≤ i ∧ ∀ y ∈ is, is.foldl min i ≤ y
  | [], i => ⟨Int.le_refl _, fun _ h => nomatch h⟩
  | j :: is, i => by
    obtain ⟨h1, h2⟩ := foldl_min_le is (min i j)
    have a1 : min i j ≤ i := Int.min_le_left _ _
    have a2 : min i j ≤ j := Int.min_le_right _ _
    refine ⟨Int.le_trans h1 a1, fun y hy => ?_⟩
    rcases List.mem_cons.mp hy with rfl | hy
    · exact Int.le_trans h1 a2
    · exact h2 y hy
theorem foldl_max_ge : ∀ (is : List Int) (i : Int), i ≤ is.foldl max i ∧ ∀ y ∈ is, y ≤ is.foldl max i
  | [], i => ⟨Int.le_refl _, fun _ h => nomatch h⟩
  | j :: is, i => by
    obtain ⟨h1, h2⟩ := foldl_max_ge is (max i j)
    have a1 : i ≤ max i j := Int.le_max_left _ _
    have a2 : j ≤ max i j := Int.le_max_right _ _
    refine ⟨Int.le_trans a1 h1, fun y hy => ?_⟩
    rcases List.mem_cons.mp hy with rfl | hy
    · exact Int.le_trans a2 h1
    · exact h2 y hy
theorem foldl_min_mem : ∀ (is : List Int) (i : Int), is.foldl min i = i ∨ is.foldl min i ∈ is
  | [], i => .inl rfl
  | j :: is, i => by
    rcases foldl_min_mem is (min i j) with h | h
    · rcases (show min i j = i ∨ min i j = j by omega) with e | e
      · exact .inl (by rw [List.foldl_cons, h, e])
      · exact .inr (by rw [List.foldl_cons, h, e]; exact List.mem_cons_self)
    · exact .inr (List.mem_cons_of_mem _ h)
theorem foldl_max_mem : ∀ (is : List Int) (i : Int), is.foldl max i = i ∨ is.foldl max i ∈ is
  | [], i => .inl rfl
  | j :: is, i => by
    rcases foldl_max_mem is (max i j) with h | h
    · rcases (show max i j = i ∨ max i j = j by omega) with e | e
      · exact .inl (by rw [List.foldl_cons, h, e])
      · exact .inr (by rw [List.foldl_cons, h, e]; exact List.mem_cons_self)
    · exact .inr (List.mem_cons_of_mem _ h)
theorem leastI_le {is : List Int} {y : Int} (h : y ∈ is) : leastI is ≤ y := by
  cases is with
  | nil => cases h
  | cons i is =>
    rcases List.mem_cons.mp h with rfl | h
    · exact (foldl_min_le is y).1
    · exact (foldl_min_le is i).2 y h
theorem leastI_mem {is : List Int} (h : 0 < is.length) : leastI is ∈ is := by
  cases is with
  | nil => cases h
  | cons i is =>
    rcases foldl_min_mem is i with e | e
    · show is.foldl min i ∈ _; rw [e]; exact List.mem_cons_self
    · exact List.mem_cons_of_mem _ e
theorem mostI_ge {is : List Int} {y : Int} (h : y ∈ is) : y ≤ mostI is := by
  cases is with
  | nil => cases h
  | cons i is =>
    rcases List.mem_cons.mp h with rfl | h
    · exact (foldl_max_ge is y).1
    · exact (foldl_max_ge is i).2 y h
theorem mostI_mem {is : List Int} (h : 0 < is.length) : mostI is ∈ is := by
  cases is with
  | nil => cases h
  | cons i is =>
    rcases foldl_max_mem is i with e | e
    · show is.foldl max i ∈ _; rw [e]; exact List.mem_cons_self
    · exact List.mem_cons_of_mem _ e
theorem br_min : BrK1 X.K minD (rMin X.K) := by
  intro p γ H x d Q XX st cx h
  cases d <;> first
    | exact False.elim h
    | skip
  obtain ⟨al, vs, rfl, ha, ra⟩ := ct_lst cx st
  obtain ⟨bs, e, h1, h⟩ := optW_run h
  rw [intsOf_eq e] at ra
  refine ⟨al, bs, rfl, by rw [← rep_ints ra]; exact .of ha, h1, fun m hm hle => ?_⟩
  have : m = leastI bs := Int.le_antisymm (hle _ (leastI_mem h1)) (leastI_le hm)
  rw [this]; exact Post.int h st
theorem br_max : BrK1 X.K maxD (rMax X.K) := by
  intro p γ H x d Q XX st cx h
  cases d <;> first
    | exact False.elim h
    | skip
  obtain ⟨al, vs, rfl, ha, ra⟩ := ct_lst cx st
  obtain ⟨bs, e, h1, h⟩ := optW_run h
  rw [intsOf_eq e] at ra
  refine ⟨al, bs, rfl, by rw [← rep_ints ra]; exact .of ha, h1, fun m hm hle => ?_⟩
  have : m = mostI bs := Int.le_antisymm (mostI_ge hm) (hle _ (mostI_mem h1))
  rw [this]; exact Post.int h st
def min2D : D → D → W Exc D
  | .int i, .int j => .ret (.int (if j < i then j else i))
  | _, _ => .stuck
def max2D : D → D → W Exc D
  | .int i, .int j => .ret (.int (if j > i then j else i))
  | _, _ => .stuck
theorem br_min2 : BrK2 X.K min2D (fun xs H Q => ∃ i j, xs = [.int i, .int j] ∧ Q (.int (if j < i then j else i)) H) := by
  intro p γ H x y d e Q XX st cx cy h
  cases d <;> cases e <;> first
    | exact False.elim h
    | exact ⟨_, _, by rw [ct_int cx, ct_int cy], Post.int h st⟩
theorem br_max2 : BrK2 X.K max2D (fun xs H Q => ∃ i j, xs = [.int i, .int j] ∧ Q (.int (if j > i then j else i)) H) := by
  intro p γ H x y d e Q XX st cx cy h
  cases d <;> cases e <;> first
    | exact False.elim h
    | exact ⟨_, _, by rw [ct_int cx, ct_int cy], Post.int h st⟩
def absD : D → W Exc D
  | .int i => .ret (.int (if i < 0 then -i else i))
  | _ => .stuck
theorem br_abs : BrK1 X.K absD (fun xs H Q => ∃ i, xs = [.int i] ∧ Q (.int (if i < 0 then -i else i)) H) := by
  intro p γ H x d Q XX st cx h
  cases d <;> first
    | exact False.elim h
    | exact ⟨_, by rw [ct_int cx], Post.int h st⟩

/-! ### isinstance -/
def tyName : D → _root_.String
  | .none => "NoneType"
  | .bool _ => "bool"
  | .int _ => "int"
  | .str _ => "str"
  | .list _ => "list"
  | .tuple _ => "tuple"
  | .dict _ => "dict"
def isiB (a b : _root_.String) : Bool := a == b || (a == "bool" && b == "int")
theorem kit_all : ∀ a ∈ ["NoneType", "bool", "int", "str", "list", "tuple", "dict"], ∀ b ∈ ["bool", "int", "str", "list", "tuple"], kitB a b = some (isiB a b) := by decide +kernel
theorem ty_mem (d : D) : tyName d ∈ ["NoneType", "bool", "int", "str", "list", "tuple", "dict"] := by
  cases d <;> simp [tyName]
theorem ct_ty {K : PySem.W.Frag} {p : Option Addr} {γ H : Hp} {x : V} {d : D} (c : Ct K p γ H x d) (st : Stt K p γ H) : TyX K H x (.type (tyName d)) := by
  cases d with
  | none => rw [ct_non c]; exact .base .non
  | bool b => rw [ct_bool c]; exact .base (.bl b)
  | int b => rw [ct_int c]; exact .base (.int b)
  | str b => rw [(ct_str c).1]; exact .base (.str b)
  | list b => obtain ⟨a, vs, rfl, ha, _⟩ := ct_lst c st; exact .base (.lst ha)
  | tuple b =>
    obtain ⟨a, vs, rfl, ha, _⟩ := ct_tup c
    rcases ha with ⟨o, ha, _⟩ | ⟨o, its, n, hk, hc, _⟩
    · exact .fTuple (st.sub _ _ ha)
    · exact .kTuple hk hc
  | dict b =>
    obtain ⟨a, ks, xs, ds, rfl, ⟨o, ha⟩, _⟩ := ct_dct c
    exact .fDict (st.sub _ _ ha)
def isiD (T : _root_.String) (d : D) : W Exc Bool := .ret (isiB (tyName d) T)
theorem pE_isi {T : _root_.String} {nT : Str} {p2 : Pos} (hT : T ∈ ["bool", "int", "str", "list", "tuple"]) (hg : Gl X "isinstance") (hm : X.mg "isinstance" = none) (hgT : Gl X nT) (hmT : X.mg nT = none) (hvT : bootBuiltins nT = some (.type T)) (hnT : nT ≠ "__name__") (hdT : (nT == ("__debug__" : Str)) = false)
    (hs : ∀ e' p, e ≠ .Starred e' p) (ha : PE X e (TEo X Wx ma)) : PE X (.Call (.Name "isinstance" pp) [e, .Name nT p2] [] pos) (TEe X Wx fun ρ => (ma ρ).bind fun d => .ret (.bool (isiB (tyName d) T))) := by
  refine pe_of (pe_callB (call_isi (X := X)) hg hm (by decide +kernel) (pa_cons ha (pa_cons (pe_bltn (v := .ty T) hgT hmT hvT rfl hnT hdT) pa_nil rfl) (star1 hs X.env)) (by decide) (by decide) (star1 hs X.env) rfl) fun σ H Q ⟨p, H0, γ, ρ, st, er, hm⟩ => ?_
  refine ⟨p, H0, γ, ρ, st, er, (ma ρ).mono (fun d h1 γ1 H1 x e1 c1 => ?_) (fun _ q => q) hm⟩
  exact ⟨x, .ty T, _, _, _, rfl, .ty T, ct_ty c1 e1.st, kit_ty (kit_all _ (ty_mem d) _ hT), Post.bool (Post.ext h1 st e1) e1.st⟩
end
end Ev

/-! Ev5s: set(xs), xs a list of ints; lists in strict order. -/
namespace Ev
open PySem PySem.Spec PyProof.Rows L2
abbrev set0 (w : World) : Obj := { cls := .type "set", dict := none, data := .set #[] 0 (.fresh 0 0 (!w.params.followText "set-order")) }
section
variable {P : Program} {w : World} {A : Around} {E : Value → Shared → Prop} {s : Shared}
theorem set_of_ints {l : Addr} {its : Array Value} (ns : List Int) {Q : Value → Shared → Prop} (hh : A.handled = none) (hl : s.heap.IsList l its) (hit : IntsAre its.toList ns) (hb : ns.length + 1 < scanBound)
    (k : ∀ (g : Heap) (tk c : Nat), SetR w g s.heap.objs.size (fun j => decide (j ∈ ns)) c → c ≤ ns.length → (∀ b o, s.heap.get? b = some o → g.get? b = some o) → Q (.ref s.heap.objs.size) { s with heap := g, toks := tk }) :
    wpAny (model P w) A (call (.type "set") [.ref l]) Q E s := by
  have hsz : its.size = ns.length := by
    have q := IntsAre.length hit
    rwa [Array.length_toList] at q
  obtain ⟨c, tl, hmro⟩ := PySem.F.called_set.mro
  have f1 := PySem.F.called_set.made
  have f2 := PySem.F.called_set.sub
  refine wpAny_call (codeAny_of_tree ?_)
  show wpAny _ _ (callAny (.type "set") _) _ _ _
  refine wpAny_pure ⟨Code.quiet_builtin _ (by decide +kernel), codeAny_builtin PySem.F.entry_type_call ?_⟩
  rw [Around.under_plain (weight_type_call_type "set" [.ref l] []) rfl]
  have f3 := PySem.F.called_set.notType
  have f4 := PySem.F.called_set.canCreate
  have f5 := PySem.F.typeCall_set_1 (.ref l)
  repeat (any_goals (first | assumption | wp_step))
  refine codeAny_mono (code_set_led1 (.ref l) (E := E) (Q₁ := fun ob sa => ob = .ref s.heap.objs.size ∧ sa = { s with heap := s.heap.push (set0 w) }) ⟨rfl, rfl⟩) fun r sa hr => ?_
  cases r with
  | error e => exact hr
  | ok fl =>
    cases fl with
    | ret ob =>
      obtain ⟨rfl, rfl⟩ := hr
      have eS : (s.heap.push (set0 w)).get? s.heap.objs.size = some (set0 w) := Heap.get?_push_size _ rfl
      have eT : Shared.TypeIs { s with heap := s.heap.push (set0 w) } (.ref s.heap.objs.size) "set" := ⟨_, eS, rfl⟩
      have e1 := PySem.F.called_set.init.lookup
      have e2 := PySem.F.called_set.init.bind (.ref s.heap.objs.size)
      repeat (any_goals (first | assumption | wp_step))
      refine codeAny_mono (codeAny_call_builtin (R := wants (fun r sb => r = .none ∧ ∃ g tk c, sb = { s with heap := g, toks := tk } ∧ SetR w g s.heap.objs.size (fun j => decide (j ∈ ns)) c ∧ c ≤ ns.length ∧
          (∀ b o, s.heap.get? b = some o → g.get? b = some o)) E) PySem.F.called_set.init.plain PySem.F.entry_set_init (check_set_init_1 eT ?_)) fun r2 sb hr2 => ?_
      · obtain ⟨ol, hol, hcl, nl, hdl⟩ := hl
        obtain ⟨oc, od, odata, oslots⟩ := ol
        simp only at hcl hdl
        subst hcl hdl
        have hol' : (s.heap.push (set0 w)).get? l = some { cls := .type "list", dict := od, data := .seq its nl, slots := oslots } := Heap.get?_push_of_some _ hol
        have q1 := PySem.F.sub_list_set
        have q2 := PySem.F.sub_list_frozenset
        have q3 : (Value.type "list" == Value.type "dict") = false := by decide
        have hl1 : (s.heap.push (set0 w)).IsList l its := ⟨_, hol', rfl, nl, rfl⟩
        unfold Builtin.«set.__init__» noKeywords Builtin.Frozenset.updateFrom
        generalize hPI : pyIter = PI
        wp_walk
        subst hPI
        refine wpAny_pyIter_list hl1 ?_
        refine wpAny_bind (wpAny_runValue ?_)
        have lS : l < s.heap.objs.size := Heap.lt_size hol
        have h3 : A.in1.in1.in1.handled = none := by simp [hh]
        have sz : (s.heap.push (set0 w)).objs.size = s.heap.objs.size + 1 := Heap.size_push ..
        have nI : l ≠ (s.heap.push (set0 w)).objs.size := by
          rw [sz]; exact Nat.ne_of_lt (Nat.lt_succ_of_lt lS)
        have nS : s.heap.objs.size ∉ [(s.heap.push (set0 w)).objs.size, l] := by
          rw [sz]
          intro z
          rcases List.mem_cons.mp z with z | z
          · exact Nat.ne_of_lt (Nat.lt_succ_self _) z
          · rcases List.mem_cons.mp z with z | z
            · exact Nat.ne_of_gt lS z
            · cases z
        have hval : ∀ (i : Nat) (v : Value), its[i]? = some v → ∃ k t, ns[i]? = some k ∧ v = .int k t := fun i v hv => by
          have hi : i < ns.length := by rw [← hsz]; exact (Array.getElem?_eq_some_iff.mp hv).1
          obtain ⟨t, e⟩ := PyProof.Rows.IntsAre.int_at hit i v (by rw [Array.getElem?_toList]; exact hv)
          exact ⟨ns[i], t, List.getElem?_eq_getElem hi, by rw [e, List.getD_eq_getElem?_getD, List.getElem?_eq_getElem hi]; rfl⟩
        refine set_update_ints ((Walks.list h3 _ l nI its).toS) s.heap.objs.size nS ns hsz hb hval (its.size - 0) 0 _ (by omega) (Nat.zero_le _) ⟨⟨_, Heap.get?_push_size _ rfl, rfl, rfl⟩, (hl1.push _)⟩ ?h0 ?hR
        case h0 => exact ⟨0, Nat.le_refl 0, setR_new_at (Heap.get?_push_of_some _ eS)⟩
        case hR =>
          intro sc cc hm hc' hS'
          obtain ⟨g, g2, d', tk', os'⟩ := sc
          have eg : g2 = s.gens := hm.gens
          have ed : d' = s.drawn := hm.drawn
          have eo : os' = s.os := hm.os
          subst eg ed eo
          show wpAny _ _ _ _ _ _
          refine wpAny_pure ?_
          show wpAny _ _ (ret Value.none) _ _ _
          rw [hsz] at hc'
          refine wpAny_pure ⟨rfl, g, tk', cc, rfl, hS', hc', fun b o e => ?_⟩
          have hb0 : b < s.heap.objs.size := Heap.lt_size e
          refine hm.heap b o ?_ (Heap.get?_push_of_some _ (Heap.get?_push_of_some _ e))
          intro z
          rcases List.mem_cons.mp z with z | z
          · exact Nat.ne_of_lt hb0 z
          · rcases List.mem_cons.mp z with z | z
            · rw [sz] at z; exact Nat.ne_of_lt (Nat.lt_succ_of_lt hb0) z
            · cases z
      · cases r2 with
        | error e => exact hr2
        | ok fl2 =>
          cases fl2 with
          | ret r =>
            obtain ⟨rfl, g, tk, cc, rfl, z1, z2, z3⟩ := hr2
            repeat (any_goals (first | assumption | wp_step))
            exact k _ _ _ z1 z2 z3
          | _ => exact hr2.elim
    | _ => exact hr.elim
end
theorem nodup_len {α : Type} [DecidableEq α] : ∀ {l m : List α}, l.Nodup → (∀ x ∈ l, x ∈ m) → l.length ≤ m.length
  | [], _, _, _ => Nat.zero_le _
  | x :: l, m, h, k => by
    have hx := k x List.mem_cons_self
    have e := List.length_erase_of_mem hx
    have hp : 0 < m.length := List.length_pos_of_mem hx
    have ih := nodup_len (l := l) (m := m.erase x) (List.nodup_cons.mp h).2 fun y hy => by
      have ne : y ≠ x := fun z => (List.nodup_cons.mp h).1 (by rw [← z]; exact hy)
      exact (List.mem_erase_of_ne ne).mpr (k y (List.mem_cons_of_mem _ hy))
    rw [e] at ih
    simp
    omega
/-! ### each once, in order -/
section
variable {α : Type} (lt : α → α → Bool)
def insU (x : α) : List α → List α
  | [] => [x]
  | y :: ys => if lt x y then x :: y :: ys else if lt y x then y :: insU x ys else y :: ys
def uniq (xs : List α) : List α := xs.foldr (insU lt) []
variable {lt}
/-- a strict order, any two comparable -/
structure Lin (lt : α → α → Bool) : Prop where
  irr : ∀ x, lt x x = false
  tr : ∀ x y z, lt x y = true → lt y z = true → lt x z = true
  tot : ∀ x y, lt x y = false → lt y x = false → x = y
theorem insU_mem (L : Lin lt) (x : α) : ∀ (ys : List α) (z : α), z ∈ insU lt x ys ↔ z = x ∨ z ∈ ys
  | [], z => by simp [insU]
  | y :: ys, z => by
    unfold insU
    split
    · simp
    · split
      · simp [insU_mem L x ys z]
        constructor
        · rintro (h | h | h)
          · exact .inr (.inl h)
          · exact .inl h
          · exact .inr (.inr h)
        · rintro (h | h | h)
          · exact .inr (.inl h)
          · exact .inl h
          · exact .inr (.inr h)
      · rename_i h1 h2
        have e : x = y := L.tot x y (by simpa using h1) (by simpa using h2)
        subst e
        simp
theorem insU_sorted (L : Lin lt) (x : α) : ∀ (ys : List α), ys.Pairwise (fun a b => lt a b = true) → (insU lt x ys).Pairwise fun a b => lt a b = true
  | [], _ => by simp [insU]
  | y :: ys, h => by
    obtain ⟨h1, h2⟩ := List.pairwise_cons.mp h
    unfold insU
    split
    · rename_i q
      exact List.pairwise_cons.mpr ⟨fun z hz => by
        rcases List.mem_cons.mp hz with e | e
        · rw [e]; exact q
        · exact L.tr _ _ _ q (h1 z e), h⟩
    · split
      · rename_i q
        refine List.pairwise_cons.mpr ⟨fun z hz => ?_, insU_sorted L x ys h2⟩
        rcases (insU_mem L x ys z).mp hz with e | e
        · rw [e]; exact q
        · exact h1 z e
      · exact h
theorem uniq_mem (L : Lin lt) : ∀ (xs : List α) (z : α), z ∈ uniq lt xs ↔ z ∈ xs
  | [], z => by simp [uniq]
  | x :: xs, z => by
    show z ∈ insU lt x (uniq lt xs) ↔ _
    rw [insU_mem L, uniq_mem L xs z, List.mem_cons]
theorem uniq_sorted (L : Lin lt) : ∀ (xs : List α), (uniq lt xs).Pairwise fun a b => lt a b = true
  | [] => .nil
  | x :: xs => insU_sorted L x _ (uniq_sorted L xs)
theorem sorted_nodup (L : Lin lt) {xs : List α} (h : xs.Pairwise fun a b => lt a b = true) : xs.Nodup := h.imp fun {a b} q z => by subst z; rw [L.irr] at q; cases q
/-- two lists in strict order with the same members are one -/
theorem sorted_unique (L : Lin lt) : ∀ {xs ys : List α}, xs.Pairwise (fun a b => lt a b = true) → ys.Pairwise (fun a b => lt a b = true) → (∀ z, z ∈ xs ↔ z ∈ ys) → xs = ys
  | [], [], _, _, _ => rfl
  | [], y :: ys, _, _, h => by have := (h y).mpr List.mem_cons_self; cases this
  | x :: xs, [], _, _, h => by have := (h x).mp List.mem_cons_self; cases this
  | x :: xs, y :: ys, h1, h2, h => by
    obtain ⟨a1, a2⟩ := List.pairwise_cons.mp h1
    obtain ⟨b1, b2⟩ := List.pairwise_cons.mp h2
    have e : x = y := by
      rcases List.mem_cons.mp ((h x).mp List.mem_cons_self) with e | e
      · exact e
      · rcases List.mem_cons.mp ((h y).mpr List.mem_cons_self) with e' | e'
        · exact e'.symm
        · have q := L.tr _ _ _ (a1 y e') (b1 x e)
          rw [L.irr] at q; cases q
    subst e
    have nx : x ∉ xs := fun z => by have := a1 x z; rw [L.irr] at this; cases this
    have ny : x ∉ ys := fun z => by have := b1 x z; rw [L.irr] at this; cases this
    congr 1
    refine sorted_unique L a2 b2 fun z => ⟨fun hz => ?_, fun hz => ?_⟩
    · rcases List.mem_cons.mp ((h z).mp (List.mem_cons_of_mem _ hz)) with e | e
      · exact absurd (e ▸ hz) nx
      · exact e
    · rcases List.mem_cons.mp ((h z).mpr (List.mem_cons_of_mem _ hz)) with e | e
      · exact absurd (e ▸ hz) ny
      · exact e
end
def ltI (a b : Int) : Bool := decide (a < b)
theorem linI : Lin ltI := ⟨fun x => by simp [ltI], fun x y z h1 h2 => by simp [ltI] at *; omega, fun x y h1 h2 => by simp [ltI] at *; omega⟩
abbrev uniqI (xs : List Int) : List Int := uniq ltI xs
section
variable {X : Cx}
/-- set(xs), xs a list of ints -/
def rSetLI (K : PySem.W.Frag) (w : World) : List V → Hp → VK → Prop := fun xs H Q => ∃ (l : Addr) (ns : List Int), xs = [.ref l] ∧ SqL K H l (ns.map V.int) ∧ ns.length + 1 < scanBound ∧
  ∀ (a : Addr) (c : Nat), H a = none → c ≤ (uniqI ns).length → Q (.ref a) (upd H a (SetO w a (fun j => decide (j ∈ ns)) c))
theorem cr_setLI (hc : X.calm = true) : CallR X (.type "set") (rSetLI X.K X.w) := by
  intro pins s σ H xs us Q I r h
  obtain ⟨l, ns, rfl, hl, hb, q⟩ := h
  rw [Vals.ref1 r]
  obtain ⟨its, rv, pl, hz⟩ := I.list hl
  have hn : H s.heap.objs.size = none := I.hok.fresh (Nat.le_refl _)
  refine set_of_ints ns (I.ok.hd hc) pl.isList (by simpa using ints_of_vals rv) hb fun g tk c R hcn k => ?_
  refine ⟨.ref s.heap.objs.size, upd H s.heap.objs.size (SetO X.w s.heap.objs.size (fun j => decide (j ∈ ns)) c), I.laid (t' := tk) k (Nat.le_refl _) (setO_new R), rfl, q _ c hn ?_⟩
  obtain ⟨o, es, ep, t, _, _, _, _, nd, hm, _, _, hn2, _⟩ := R
  have e : c = (es.toList.map keyOf).length := by rw [← hn2]; simp
  rw [e]
  refine nodup_len nd fun x hx => (uniq_mem linI ns x).mpr ?_
  have := (hm x).mpr hx
  simpa using this
theorem crOr {f : Value} {r1 r2 : List V → Hp → VK → Prop} (h1 : CallR X f r1) (h2 : CallR X f r2) : CallR X f (fun xs H Q => r1 xs H Q ∨ r2 xs H Q) := by
  intro pins s σ H xs us Q I r h
  rcases h with h | h
  · exact h1 pins s σ H xs us Q I r h
  · exact h2 pins s σ H xs us Q I r h
end
end Ev

/-! Ev6: calls of our defs, what is walked, targets. -/
namespace Ev
open PySem PySem.Spec PyProof.Rows L2
section
variable {X : Cx} {Wx : WX} {a b c e : Expr} {es rest : List Expr} {pos pp : Pos} {ma mb mc m : List Sl → W Exc D} {ta tb tc : List Sl → W Exc Bool}

/-! ### arguments -/
inductive Ar where
  | d (x : D) | pool
def ArR (K : PySem.W.Frag) (p : Option Addr) (γ : Hp) (v : V) : Ar → Prop
  | .d x => Rep K γ v x
  | .pool => ∃ a, v = .ref a ∧ p = some a
abbrev ArAll (K : PySem.W.Frag) (p : Option Addr) (γ : Hp) : List V → List Ar → Prop := Paired (ArR K p γ)
theorem ArR.mono {K : PySem.W.Frag} {p : Option Addr} {γ γ' : Hp} {v : V} {r : Ar} (h : ArR K p γ v r) (s : Same γ γ') : ArR K p γ' v r := by
  cases r with
  | d x => exact Rep.mono h s
  | pool => exact h
def PostA (K : PySem.W.Frag) (p : Option Addr) (γ H : Hp) (Q : List V → Hp → Prop) : List Ar → Prop := fun as => ∀ γ' H' vs, Ext K p γ H γ' H' → ArAll K p γ' vs as → Q vs H'
abbrev TAa (X : Cx) (Wx : WX) (m : List Sl → W Exc (List Ar)) : TA := fun σ H Q => ∃ p H0 γ ρ, Stt X.K p γ H ∧ EnvR X.K p H0 γ H σ ρ ∧ (m ρ).run (PostA X.K p γ H Q) (ExW X.K X.mg Wx p γ H σ)
theorem pA_nil : PA X [] (TAa X Wx fun _ => .ret []) := pa_of pa_nil fun σ H Q ⟨p, H0, γ, ρ, st, er, hm⟩ => hm γ H [] (.refl st) .nil
theorem pA_cons {mr : List Sl → W Exc (List Ar)} (hs : ∀ e' p, e ≠ .Starred e' p) (ha : PE X e (TEe X Wx ma)) (hr : PA X es (TAa X Wx mr)) : PA X (e :: es) (TAa X Wx fun ρ => (ma ρ).bind fun d => (mr ρ).bind fun ds => .ret (.d d :: ds)) := by
  refine pa_of (pa_cons ha hr (star1 hs X.env)) fun σ H Q ⟨p, H0, γ, ρ, st, er, hm⟩ => ?_
  refine ⟨p, H0, γ, ρ, st, er, (ma ρ).mono (fun d h1 γ1 H1 x e1 c1 => ?_) (fun _ q => q) hm⟩
  refine ⟨p, H0, γ1, ρ, e1.st, er.ext e1, (mr ρ).mono (fun ds h2 γ2 H2 vs e2 c2 => ?_) (fun _ q => q.ext st e1) h1⟩
  exact h2 γ2 H2 _ (Ext.trans st e1 e2) (.cons (c1.mono e2.gg) c2)
def getP (ρ : List Sl) (i : Nat) : W Exc Unit := match ρ[i]? with
  | some .pool => .ret ()
  | _ => .stuck
theorem pA_pool {i : Nat} {x : Str} {mr : List Sl → W Exc (List Ar)} (hN : X.N[i]? = some x) (hv : Vis X.env.scope x) (hd : (x == ("__debug__" : Str)) = false) (hcd : (x == ("__classdict__" : Str)) = false) (hr : PA X es (TAa X Wx mr)) :
    PA X (.Name x pos :: es) (TAa X Wx fun ρ => (getP ρ i).bind fun _ => (mr ρ).bind fun ds => .ret (.pool :: ds)) := by
  refine pa_of (pa_cons (pe_var hN hv hd hcd) hr rfl) fun σ H Q ⟨p, H0, γ, ρ, st, er, hm⟩ => ?_
  have h : (getP ρ i).run (fun _ => ((mr ρ).bind fun ds => .ret (.pool :: ds)).run (PostA X.K p γ H Q) (ExW X.K X.mg Wx p γ H σ)) (ExW X.K X.mg Wx p γ H σ) := hm
  unfold getP at h
  split at h
  · rename_i e
    obtain ⟨ov, e0, al, e1, e2⟩ := er.sl i _ e
    subst e1
    refine ⟨.ref al, e0, p, H0, γ, ρ, st, er, (mr ρ).mono (fun ds h2 γ2 H2 vs e2' c2 => ?_) (fun _ q => q) h⟩
    exact h2 γ2 H2 _ e2' (.cons ⟨al, rfl, e2⟩ c2)
  · exact h.elim

/-! ### a def of ours: its promise by data -/
def spD (K : PySem.W.Frag) (mg : Str → Option Value) (n : Nat) (F : List Ar → W Exc D) : Sp := fun vs H Q E => vs.length = n ∧ ∃ p γ as, Stt K p γ H ∧ ArAll K p γ vs as ∧
  (F as).run (Post K p γ H Q) (fun x => ∀ γ' H' c dd, Ext K p γ H γ' H' → ExcR mg x c dd H' → E c dd H')
theorem spD_len {K : PySem.W.Frag} {mg : Str → Option Value} {n : Nat} {F : List Ar → W Exc D} (vs : List V) (H : Hp) (Q : VK) (E : XK) (h : spD K mg n F vs H Q E) : vs.length = n := h.1
section
variable {k : Nat} {f : Addr} {fd : FuncData} {ps : List Str} {F : List Ar → W Exc D} {x : Str}
abbrev FnD (X : Cx) (k : Nat) (f : Addr) (fd : FuncData) (ps : List Str) (F : List Ar → W Exc D) : Prop := FnOk X.prog X.w X.K X.mg X.base (L2.CX X.prog X.w) k f fd ps (spD X.K X.mg ps.length F)
theorem rdCall {mas : List Sl → W Exc (List Ar)} (hF : ∀ as Q XX, (F as).run Q XX → as.length = ps.length) (σ : St) (H : Hp) (Q : VK) (h : TEe X Wx (fun ρ => (mas ρ).bind F) σ H Q) : tCallS (spD X.K X.mg ps.length F) (WE Wx) (TAa X Wx mas) σ H Q := by
  obtain ⟨p, H0, γ, ρ, st, er, hm⟩ := h
  refine ⟨p, H0, γ, ρ, st, er, (mas ρ).mono (fun as h1 γ1 H1 vs e1 c1 => ?_) (fun _ q => q) hm⟩
  have hl : vs.length = ps.length := (Paired.length c1).trans (hF as _ _ h1)
  exact ⟨hl, p, γ1, as, e1.st, c1, (F as).mono (fun d q => q.ext st e1) (fun x' q γ' H' cc dd e' r => (q.ext st e1) γ' H' cc dd e' r) h1⟩
theorem pE_call {mas : List Sl → W Exc (List Ar)} (tk : Takes X Wx) (hr : Room k X.A) (hF : ∀ as Q XX, (F as).run Q XX → as.length = ps.length) (G : FnD X k f fd ps F) (hg : Gl X x) (hm : X.mg x = some (.ref f)) (hk : PySem.W.keepIn X.K (.ref f) = true) (hb : Binds X.K fd ps [])
    (ha : PA X (e :: es) (TAa X Wx mas)) (hdb : (x == ("__debug__" : Str)) = false) (he : starEach (e :: es) X.env = (false, eval e X.env) :: starEach es X.env) (hpl : (backTo pos (starEach es X.env)).any (·.1) = false) :
    PE X (.Call (.Name x pp) (e :: es) [] pos) (TEe X Wx fun ρ => (mas ρ).bind F) :=
  pe_of (pe_callS (CX := L2.CX X.prog X.w) G hr hg hm hk hb (fun σ => passAt tk σ) ha hdb he hpl) (rdCall hF)
theorem pe_callS0 {CX : CXT} {sp : Sp} {E : St → XK} (G : FnOk X.prog X.w X.K X.mg X.base CX k f fd ps sp) (hr : Room k X.A) (hg : Gl X x) (hm : X.mg x = some (.ref f)) (hk : PySem.W.keepIn X.K (.ref f) = true) (hb : Binds X.K fd ps []) (hx : ∀ σ, PassesAt CX X σ (E σ))
    (hdb : (x == ("__debug__" : Str)) = false) : PE X (.Call (.Name x pp) [] [] pos) (tCallS sp E tNil) :=
  ⟨fun pins s σ H Q I h => wpAny_Call_Name_kw (ld_glob I hg hm (PySem.W.callWith_K0 I.kIn hk (run_fnS (us := []) G hr hb (hx σ) I .nil h)) hdb)⟩
theorem pE_call0 (tk : Takes X Wx) (hr : Room k X.A) (hF : ∀ as Q XX, (F as).run Q XX → as.length = ps.length) (G : FnD X k f fd ps F) (hg : Gl X x) (hm : X.mg x = some (.ref f)) (hk : PySem.W.keepIn X.K (.ref f) = true) (hb : Binds X.K fd ps [])
    (hdb : (x == ("__debug__" : Str)) = false) : PE X (.Call (.Name x pp) [] [] pos) (TEe X Wx fun _ => F []) := by
  refine pe_of (pe_callS0 (CX := L2.CX X.prog X.w) G hr hg hm hk hb (fun σ => passAt tk σ) hdb) fun σ H Q ⟨p, H0, γ, ρ, st, er, hq⟩ => ?_
  exact ⟨hF [] _ _ hq, p, γ, [], st, .nil, (F []).mono (fun d q => q) (fun x' q γ' H' cc dd e' r => q γ' H' cc dd e' r) hq⟩
end

/-! ### what is walked -/
/-- an item that comes (a pair of zip's may be told no more of than its items) -/
def IRep (K : PySem.W.Frag) (γ H : Hp) (x : V) (d : D) : Prop := Rep K γ x d ∨ ∃ a vs ds, x = .ref a ∧ d = .tuple ds ∧ SqT K H a vs ∧ RepAll K γ vs ds
structure ItD (K : PySem.W.Frag) (p : Option Addr) (γ : Hp) (J : It) (ds : List D) (pl : Bool := true) : Prop where
  go : ∀ (γ' H' : Hp) (i : Nat), Same γ γ' → Stt K p γ' H' → i < ds.length → J.go i H'
  stop : ∀ (γ' H' : Hp) (i : Nat), Same γ γ' → Stt K p γ' H' → ds.length ≤ i → J.stop i H'
  yld : ∀ (γ' H' : Hp) (i : Nat) (x : V) (H'' : Hp), Same γ γ' → Stt K p γ' H' → i < ds.length → J.yld i H' x H'' → ∃ d, ds[i]? = some d ∧ IRep K γ' H'' x d ∧ (pl = true → Rep K γ' x d) ∧ Ext K p γ' H' γ' H''
theorem ItD.mono {K : PySem.W.Frag} {p : Option Addr} {γ γ1 : Hp} {J : It} {ds : List D} {pl : Bool} (h : ItD K p γ J ds pl) (s : Same γ γ1) : ItD K p γ1 J ds pl :=
  ⟨fun γ' H' i s' => h.go γ' H' i (s.trans s'), fun γ' H' i s' => h.stop γ' H' i (s.trans s'), fun γ' H' i x H'' s' => h.yld γ' H' i x H'' (s.trans s')⟩
def PostI (K : PySem.W.Frag) (p : Option Addr) (γ H : Hp) (pl : Bool) (R : It → Hp → Prop) : List D → Prop := fun ds => ∀ γ' H' J, Ext K p γ H γ' H' → ItD K p γ' J ds pl → R J H'
abbrev TIi (X : Cx) (Wx : WX) (m : List Sl → W Exc (List D)) (pl : Bool := true) : TI := fun σ H R => ∃ p H0 γ ρ, Stt X.K p γ H ∧ EnvR X.K p H0 γ H σ ρ ∧ (m ρ).run (PostI X.K p γ H pl R) (ExW X.K X.mg Wx p γ H σ)
theorem itd_list {K : PySem.W.Frag} {p : Option Addr} {γ : Hp} {al : Addr} {vs : List V} {ds : List D} (ha : γ al = some (.lst vs)) (ra : RepAll K γ vs ds) : ItD K p γ (Itl K al) ds where
  go := fun γ' H' i s st hi => ⟨vs, vs[i]'(by rw [ra.length]; exact hi), .of (st.sub _ _ (s _ _ ha)), by simp⟩
  stop := fun γ' H' i s st hi => ⟨vs, .of (st.sub _ _ (s _ _ ha)), by rw [ra.length]; exact hi⟩
  yld := fun γ' H' i x H'' s st hi ⟨e, h⟩ => by
    obtain ⟨d, hd, r⟩ := ra.getV (h vs (.of (st.sub _ _ (s _ _ ha))))
    subst e
    exact ⟨d, hd, .inl (r.mono s), fun _ => r.mono s, .refl st⟩
theorem itd_tup {K : PySem.W.Frag} {p : Option Addr} {γ : Hp} {al : Addr} {vs : List V} {ds : List D} (ha : TupAt K γ al vs) (ra : RepAll K γ vs ds) : ItD K p γ (Itt K al) ds where
  go := fun γ' H' i s st hi => ⟨vs, vs[i]'(by rw [ra.length]; exact hi), (ha.mono (s.trans st.sub)).sq, by simp⟩
  stop := fun γ' H' i s st hi => ⟨vs, (ha.mono (s.trans st.sub)).sq, by rw [ra.length]; exact hi⟩
  yld := fun γ' H' i x H'' s st hi ⟨e, h⟩ => by
    obtain ⟨d, hd, r⟩ := ra.getV (h vs (ha.mono (s.trans st.sub)).sq)
    subst e
    exact ⟨d, hd, .inl (r.mono s), fun _ => r.mono s, .refl st⟩
def signsD (z : Str) : List D := z.cps.toList.map fun c => .str ⟨#[c]⟩
theorem strOk_sign {z : Str} (h : PyData.strOk z = true) {c : Nat} (hc : c ∈ z.cps.toList) : PyData.strOk ⟨#[c]⟩ = true := by
  have hh := Array.all_eq_true_iff_forall_mem.mp h c (by simpa using hc)
  simp [PyData.strOk]; simpa using hh
theorem itd_str {K : PySem.W.Frag} {p : Option Addr} {γ : Hp} {z : Str} (h : PyData.strOk z = true) : ItD K p γ (Its z) (signsD z) where
  go := fun γ' H' i s st hi => by
    show i < z.cps.size
    simpa [signsD] using hi
  stop := fun γ' H' i s st hi => by
    show z.cps.size ≤ i
    simpa [signsD] using hi
  yld := fun γ' H' i x H'' s st hi ⟨e, c, hc, ex⟩ => by
    subst e ex
    have hm : c ∈ z.cps.toList := by
      have := Array.mem_of_getElem? hc
      simpa using this
    have hl : z.cps.toList[i]? = some c := by simpa using hc
    exact ⟨.str ⟨#[c]⟩, by simp [signsD, hl], .inl (.str (strOk_sign h hm)), fun _ => .str (strOk_sign h hm), .refl st⟩
theorem dkv_keys {ks : List Str} {ds : List D} (h : ks.length = ds.length) : (dkv ks ds).map (·.1) = ks.map PyData.str := by
  unfold dkv
  rw [List.map_map]
  have e : ((fun q : D × D => q.1) ∘ fun q : Str × D => (PyData.str q.1, q.2)) = PyData.str ∘ fun q : Str × D => q.1 := rfl
  rw [e, ← List.map_map, List.map_fst_zip (by omega)]
theorem kvOf_keys {ks : List Str} {xs : List V} (h : ks.length = xs.length) : (kvOf ks xs).map (·.1) = ks.map (Sum.inr : Str → Key) := by
  unfold kvOf
  rw [List.map_map]
  have e : ((fun q : Key × V => q.1) ∘ fun q : Str × V => ((Sum.inr q.1 : Key), q.2)) = (Sum.inr : Str → Key) ∘ fun q : Str × V => q.1 := rfl
  rw [e, ← List.map_map, List.map_fst_zip (by omega)]
theorem itd_keys {K : PySem.W.Frag} {p : Option Addr} {γ : Hp} {al : Addr} {o : Obj} {ks : List Str} {xs : List V} {ds : List D} (ha : γ al = some (.frz o (.dK (mergeK [] (kvOf ks xs))))) (ra : RepAll K γ xs ds) (e : KsOk ks ds) : ItD K p γ (Itk al o (mergeK [] (kvOf ks xs))) ((dkv ks ds).map (·.1)) := by
  have hl : ks.length = xs.length := e.1.2.trans ra.length.symm
  have hk := kvOf_keys hl
  have hnd : (ks.map (Sum.inr : Str → Key)).Nodup := List.Pairwise.map _ (fun a b hab z => hab (by cases z; rfl)) e.1.1
  have hm : mergeK [] (kvOf ks xs) = kvOf ks xs := by
    rw [merge_nd _ [] (by rw [List.nil_append, hk]; exact hnd), List.nil_append]
  rw [hm] at ha ⊢
  have hlen : (kvOf ks xs).length = ks.length := by have := congrArg List.length hk; simpa using this
  have hlk : ((dkv ks ds).map (·.1)).length = ks.length := by rw [dkv_keys e.1.2, List.length_map]
  refine ⟨fun γ' H' i s st hi => ⟨st.sub _ _ (s _ _ ha), by omega⟩, fun γ' H' i s st hi => ⟨st.sub _ _ (s _ _ ha), by omega⟩, fun γ' H' i x H'' s st hi ⟨e1, k, v, e2, e3⟩ => ?_⟩
  subst e1
  have h1 : (ks.map (Sum.inr : Str → Key))[i]? = some k := by rw [← hk, List.getElem?_map, e2]; rfl
  rw [List.getElem?_map] at h1
  cases h2 : ks[i]? with
  | none => rw [h2] at h1; cases h1
  | some z =>
    rw [h2] at h1
    cases h1
    have hz := e.2 z (List.mem_of_getElem? h2)
    refine ⟨.str z, by rw [dkv_keys e.1.2, List.getElem?_map, h2]; rfl, .inl ?_, fun _ => ?_, .refl st⟩
    · rw [e3]; exact .str hz
    · rw [e3]; exact .str hz
def iterD : D → W Exc (List D)
  | .list xs => (W.given (xs.length ≤ sizeLine)).bind fun _ => .ret xs
  | .tuple xs => (W.given (xs.length ≤ sizeLine)).bind fun _ => .ret xs
  | .str z => .ret (signsD z)
  | .dict kvs => .ret (kvs.map (·.1))
  | _ => .stuck
theorem pI_seq {tg : Expr} (he : PE X e (TEe X Wx ma)) : PI X tg e (TIi X Wx fun ρ => (ma ρ).bind iterD) := by
  refine ⟨fun pins s σ H R I ⟨p, H0, γ, ρ, st, er, hm⟩ => ?_⟩
  have hq : TEe X Wx ma σ H fun x H1 => ∃ γ1 d, Ext X.K p γ H γ1 H1 ∧ Rep X.K γ1 x d ∧ (iterD d).run (PostI X.K p γ H true R) (ExW X.K X.mg Wx p γ H σ) :=
    ⟨p, H0, γ, ρ, st, er, (ma ρ).mono (fun d h1 γ1 H1 x e1 c1 => ⟨γ1, d, e1, c1, h1⟩) (fun _ q => q) hm⟩
  refine thn (he.run pins s σ H _ I hq) fun v s1 hh => ?_
  obtain ⟨x, H1, I1, r1, γ1, d, e1, c1, h1⟩ := hh
  cases d with
  | list xs =>
    obtain ⟨al, vs, rfl, ha, ra⟩ := c1.ofLst
    obtain rfl : v = Value.ref al := r1
    have sq : SqL X.K H1 al vs := .of (e1.st.sub _ _ ha)
    obtain ⟨its, rv, pl, hz⟩ := I1.list sq
    exact wpAny_pyIter_list pl.isList (pi_one (tk := s1.toks) I1 _ (turn_list al _) ⟨_, Heap.get?_push_size _ rfl, rfl, rfl⟩ (h1 (by rw [← ra.length]; exact hz) γ1 H1 _ e1 (itd_list ha ra)))
  | tuple xs =>
    obtain ⟨al, vs, rfl, ha, ra⟩ := c1.ofTup
    obtain rfl : v = Value.ref al := r1
    have sq : SqT X.K H1 al vs := (ha.mono e1.st.sub).sq
    obtain ⟨its, rv, pl, hz⟩ := I1.tuple sq
    exact wpAny_pyIter_tuple (show s1.heap.IsTuple al its.toArray from pl) (pi_one (tk := s1.toks) I1 _ (turn_tuple al _) ⟨_, Heap.get?_push_size _ rfl, rfl, rfl⟩ (h1 (by rw [← ra.length]; exact hz) γ1 H1 _ e1 (itd_tup ha ra)))
  | str z =>
    rw [c1.ofStr] at r1
    obtain ⟨t, rfl⟩ := r1
    have q := h1 γ1 H1 _ e1 (itd_str c1.strOk)
    cases hb : z.cps.all (· < 128)
    · exact wpAny_pyIter_wide hb (pi_one (tk := s1.toks) I1 _ (turn_str _ z t "str_iterator" (.inr rfl)) ⟨_, Heap.get?_push_size _ rfl, rfl, rfl⟩ q)
    · exact wpAny_pyIter_ascii hb (pi_one (tk := s1.toks) I1 _ (turn_str _ z t "str_ascii_iterator" (.inl rfl)) ⟨_, Heap.get?_push_size _ rfl, rfl, rfl⟩ q)
  | dict kvs =>
    obtain ⟨al, ks, xs, ds, rfl, ⟨o, ha⟩, ra, ek, rfl⟩ := c1.ofDct
    obtain rfl : v = Value.ref al := r1
    have q := h1 γ1 H1 _ e1 (itd_keys ha ra ek)
    obtain ⟨hs, hgd, hx, es, ep, vs, hdt, hsz, kv, hm⟩ := I1.frzK (e1.st.sub _ _ ha)
    refine iter_keys hs hgd hx hdt (pi_one (tk := s1.toks) I1 _ (turn_keys _ hdt) ⟨_, Heap.get?_push_size _ rfl, rfl, ?_⟩ q)
    rw [hsz] <;> rfl
  | _ => exact False.elim h1
def upto (lo : Int) (n : Nat) : List D := (List.range n).map fun i => .int (lo + (i : Nat))
theorem itd_rng {K : PySem.W.Frag} {p : Option Addr} {γ : Hp} {lo : Int} {n : Nat} : ItD K p γ (Itr lo n) (upto lo n) where
  go := fun γ' H' i s st hi => by
    show i < n
    simpa [upto] using hi
  stop := fun γ' H' i s st hi => by
    show n ≤ i
    simpa [upto] using hi
  yld := fun γ' H' i x H'' s st hi ⟨e, ex⟩ => by
    subst e ex
    have hi' : i < n := by simpa [upto] using hi
    exact ⟨_, by simp [upto, hi'], .inl .int, fun _ => .int, .refl st⟩
def rng1D : D → W Exc (List D)
  | .int j => (W.ask (-(2 ^ 62) ≤ j ∧ j < 2 ^ 62)).bind fun _ => .ret (upto 0 j.toNat)
  | _ => .stuck
def rng2D : D → D → W Exc (List D)
  | .int i, .int j => (W.ask (-(2 ^ 62) ≤ i ∧ i < 2 ^ 62 ∧ -(2 ^ 62) ≤ j ∧ j < 2 ^ 62)).bind fun _ => .ret (upto i (j - i).toNat)
  | _, _ => .stuck
theorem pi_of {tg iter : Expr} {t t' : TI} (h : PI X tg iter t) (k : ∀ σ H R, t' σ H R → t σ H R) : PI X tg iter t' := ⟨fun pins s σ H R I q => h.run pins s σ H R I (k _ _ _ q)⟩
theorem pI_rng1 {tg : Expr} (hg : Gl X "range") (hm : X.mg "range" = none) (hs : ∀ e' p, e ≠ .Starred e' p) (he : PE X e (TEe X Wx ma)) : PI X tg (.Call (.Name "range" pp) [e] [] pos) (TIi X Wx fun ρ => (ma ρ).bind rng1D) := by
  refine pi_of (pi_range1 hg hm (pa_cons he pa_nil (star1 hs X.env)) (star1 hs X.env)) fun σ H R ⟨p, H0, γ, ρ, st, er, hq⟩ => ?_
  refine ⟨p, H0, γ, ρ, st, er, (ma ρ).mono (fun d h1 γ1 H1 x e1 c1 => ?_) (fun _ q => q) hq⟩
  cases d <;> first
    | exact False.elim h1
    | skip
  exact ⟨_, by rw [c1.ofInt], h1.1.1, h1.1.2, h1.2 γ1 H1 _ e1 itd_rng⟩
theorem pI_rng2 {tg : Expr} (hg : Gl X "range") (hm : X.mg "range" = none) (hs : ∀ e' p, e ≠ .Starred e' p) (hs2 : ∀ e' p, c ≠ .Starred e' p) (he : PE X e (TEe X Wx ma)) (hc : PE X c (TEe X Wx mb)) :
    PI X tg (.Call (.Name "range" pp) [e, c] [] pos) (TIi X Wx fun ρ => (ma ρ).bind fun d => (mb ρ).bind fun f => rng2D d f) := by
  refine pi_of (pi_range2 hg hm (pa_cons he (pa_cons hc pa_nil (star1 hs2 X.env)) (star1 hs X.env)) (by rw [star1 hs, star1 hs2]; rfl) (star1 hs2 X.env)) fun σ H R ⟨p, H0, γ, ρ, st, er, hq⟩ => ?_
  refine ⟨p, H0, γ, ρ, st, er, (ma ρ).mono (fun d h1 γ1 H1 x e1 c1 => ?_) (fun _ q => q) hq⟩
  refine ⟨p, H0, γ1, ρ, e1.st, er.ext e1, (mb ρ).mono (fun f h2 γ2 H2 y e2 c2 => ?_) (fun _ q => q.ext st e1) h1⟩
  cases d <;> cases f <;> first
    | exact False.elim h2
    | skip
  exact ⟨_, _, by rw [c1.ofInt, c2.ofInt], h2.1, h2.2 γ2 H2 _ (Ext.trans st e1 e2) itd_rng⟩
/-- reversed(x) -/
theorem itd_rev {K : PySem.W.Frag} {p : Option Addr} {γ : Hp} {al : Addr} {vs : List V} {ds : List D} (ha : γ al = some (.lst vs)) (ra : RepAll K γ vs ds) : ItD K p γ (Itv K al vs.length) ds.reverse where
  go := fun γ' H' i s st hi => by
    have hi' : i < vs.length := by rw [ra.length]; simpa using hi
    exact ⟨hi', vs, vs[vs.length - 1 - i]'(by omega), .of (st.sub _ _ (s _ _ ha)), by simp⟩
  stop := fun γ' H' i s st hi => by
    show vs.length ≤ i
    rw [ra.length]; simpa using hi
  yld := fun γ' H' i x H'' s st hi ⟨e, h⟩ => by
    have hi' : i < ds.length := by simpa using hi
    obtain ⟨d, hd, r⟩ := ra.getV (h vs (.of (st.sub _ _ (s _ _ ha))))
    subst e
    exact ⟨d, by rw [List.getElem?_reverse hi', ← ra.length]; exact hd, .inl (r.mono s), fun _ => r.mono s, .refl st⟩
theorem itd_revT {K : PySem.W.Frag} {p : Option Addr} {γ : Hp} {al : Addr} {vs : List V} {ds : List D} (ha : TupAt K γ al vs) (ra : RepAll K γ vs ds) : ItD K p γ (RT.ItvT K al vs.length) ds.reverse where
  go := fun γ' H' i s st hi => by
    have hi' : i < vs.length := by rw [ra.length]; simpa using hi
    exact ⟨hi', vs, vs[vs.length - 1 - i]'(by omega), (ha.mono (s.trans st.sub)).sq, by simp⟩
  stop := fun γ' H' i s st hi => by
    show vs.length ≤ i
    rw [ra.length]; simpa using hi
  yld := fun γ' H' i x H'' s st hi ⟨e, h⟩ => by
    have hi' : i < ds.length := by simpa using hi
    obtain ⟨d, hd, r⟩ := ra.getV (h vs (ha.mono (s.trans st.sub)).sq)
    subst e
    exact ⟨d, by rw [List.getElem?_reverse hi', ← ra.length]; exact hd, .inl (r.mono s), fun _ => r.mono s, .refl st⟩
def revD : D → W Exc (List D)
  | .list xs => .ret xs.reverse
  | .tuple xs => .ret xs.reverse
  | _ => .stuck
theorem pI_rev {tg : Expr} (hg : Gl X "reversed") (hm : X.mg "reversed" = none) (hs : ∀ e' p, e ≠ .Starred e' p) (he : PE X e (TEe X Wx ma)) : PI X tg (.Call (.Name "reversed" pp) [e] [] pos) (TIi X Wx fun ρ => (ma ρ).bind revD) := by
  refine pi_of (RT.pi_revA hg hm he (star1 hs X.env)) fun σ H R ⟨p, H0, γ, ρ, st, er, hq⟩ => ?_
  refine ⟨p, H0, γ, ρ, st, er, (ma ρ).mono (fun d h1 γ1 H1 x e1 c1 => ?_) (fun _ q => q) hq⟩
  cases d <;> first
    | exact False.elim h1
    | skip
  · obtain ⟨al, vs, rfl, ha, ra⟩ := c1.ofLst
    exact ⟨al, vs, rfl, .inl ⟨.of (e1.st.sub _ _ ha), h1 γ1 H1 _ e1 (itd_rev ha ra)⟩⟩
  · obtain ⟨al, vs, rfl, ha, ra⟩ := c1.ofTup
    exact ⟨al, vs, rfl, .inr ⟨(ha.mono e1.st.sub).sq, h1 γ1 H1 _ e1 (itd_revT ha ra)⟩⟩
/-- zip(x, y): the items are pairs -/
def pairsD (xs ys : List D) : List D := (xs.zip ys).map fun q => .tuple [q.1, q.2]
theorem pairsD_get {xs ys : List D} {i : Nat} {x y : D} (hx : xs[i]? = some x) (hy : ys[i]? = some y) : (pairsD xs ys)[i]? = some (.tuple [x, y]) := by
  unfold pairsD
  rw [List.getElem?_map, show (xs.zip ys)[i]? = some (x, y) from List.getElem?_zip_eq_some.mpr ⟨hx, hy⟩]
  rfl
theorem pairsD_len (xs ys : List D) : (pairsD xs ys).length = min xs.length ys.length := by simp [pairsD]
theorem itd_zip {K : PySem.W.Frag} {p : Option Addr} {γ : Hp} {al bl : Addr} {vs ws : List V} {ds es : List D} (ha : γ al = some (.lst vs)) (ra : RepAll K γ vs ds) (hb : γ bl = some (.lst ws)) (rb : RepAll K γ ws es) : ItD K p γ (Itz K al bl) (pairsD ds es) false where
  go := fun γ' H' i s st hi => by
    rw [pairsD_len, ← ra.length, ← rb.length] at hi
    exact ⟨vs, ws, vs[i]'(by omega), ws[i]'(by omega), .of (st.sub _ _ (s _ _ ha)), .of (st.sub _ _ (s _ _ hb)), by simp, by simp⟩
  stop := fun γ' H' i s st hi => by
    rw [pairsD_len, ← ra.length, ← rb.length] at hi
    exact ⟨vs, ws, .of (st.sub _ _ (s _ _ ha)), .of (st.sub _ _ (s _ _ hb)), by omega⟩
  yld := fun γ' H' i x H'' s st hi ⟨T, x1, y1, ex, hT, eH, h1, h2⟩ => by
    obtain ⟨d, hd, rd⟩ := ra.getV (h1 vs (.of (st.sub _ _ (s _ _ ha))))
    obtain ⟨f, hf, rf⟩ := rb.getV (h2 ws (.of (st.sub _ _ (s _ _ hb))))
    subst ex eH
    exact ⟨_, pairsD_get hd hf, .inr ⟨T, [x1, y1], [d, f], rfl, rfl, .of upd_same, .cons (rd.mono s) (.cons (rf.mono s) .nil)⟩, fun z => (nomatch z), .own st hT⟩
theorem itd_zipT {K : PySem.W.Frag} {p : Option Addr} {γ : Hp} {al bl : Addr} {vs ws : List V} {ds es : List D} (ha : TupAt K γ al vs) (ra : RepAll K γ vs ds) (hb : TupAt K γ bl ws) (rb : RepAll K γ ws es) : ItD K p γ (RZ.ItzT K al bl) (pairsD ds es) false where
  go := fun γ' H' i s st hi => by
    rw [pairsD_len, ← ra.length, ← rb.length] at hi
    exact ⟨vs, ws, vs[i]'(by omega), ws[i]'(by omega), (ha.mono (s.trans st.sub)).sq, (hb.mono (s.trans st.sub)).sq, by simp, by simp⟩
  stop := fun γ' H' i s st hi => by
    rw [pairsD_len, ← ra.length, ← rb.length] at hi
    exact ⟨vs, ws, (ha.mono (s.trans st.sub)).sq, (hb.mono (s.trans st.sub)).sq, by omega⟩
  yld := fun γ' H' i x H'' s st hi ⟨T, x1, y1, ex, hT, eH, h1, h2⟩ => by
    obtain ⟨d, hd, rd⟩ := ra.getV (h1 vs (ha.mono (s.trans st.sub)).sq)
    obtain ⟨f, hf, rf⟩ := rb.getV (h2 ws (hb.mono (s.trans st.sub)).sq)
    subst ex eH
    exact ⟨_, pairsD_get hd hf, .inr ⟨T, [x1, y1], [d, f], rfl, rfl, .of upd_same, .cons (rd.mono s) (.cons (rf.mono s) .nil)⟩, fun z => (nomatch z), .own st hT⟩
def zipD : D → D → W Exc (List D)
  | .list xs, .list ys => .ret (pairsD xs ys)
  | .tuple xs, .tuple ys => .ret (pairsD xs ys)
  | _, _ => .stuck
theorem pI_zip {elts : List Expr} {kk : Nat} {tpos : Pos} (hg : Gl X "zip") (hm : X.mg "zip" = none) (hs : ∀ e' p, e ≠ .Starred e' p) (hs2 : ∀ e' p, c ≠ .Starred e' p) (he : PE X e (TEe X Wx ma)) (hc : PE X c (TEe X Wx mb)) :
    PI X (.Tuple elts kk tpos) (.Call (.Name "zip" pp) [e, c] [] pos) (TIi X Wx (fun ρ => (ma ρ).bind fun d => (mb ρ).bind fun f => zipD d f) false) := by
  refine pi_of (RZ.pi_zipA hg hm (pa_cons he (pa_cons hc pa_nil (star1 hs2 X.env)) (star1 hs X.env)) (star1 hs X.env) (back1 hs2 _ _)) fun σ H R ⟨p, H0, γ, ρ, st, er, hq⟩ => ?_
  refine ⟨p, H0, γ, ρ, st, er, (ma ρ).mono (fun d h1 γ1 H1 x e1 c1 => ?_) (fun _ q => q) hq⟩
  refine ⟨p, H0, γ1, ρ, e1.st, er.ext e1, (mb ρ).mono (fun f h2 γ2 H2 y e2 c2 => ?_) (fun _ q => q.ext st e1) h1⟩
  have e12 := Ext.trans st e1 e2
  cases d <;> cases f <;> first
    | exact False.elim h2
    | skip
  · obtain ⟨al, vs, rfl, ha, ra⟩ := (c1.mono e2.gg).ofLst
    obtain ⟨bl, ws, rfl, hb, rb⟩ := c2.ofLst
    exact ⟨al, bl, vs, ws, rfl, .inl ⟨.of (e2.st.sub _ _ ha), .of (e2.st.sub _ _ hb), h2 γ2 H2 _ e12 (itd_zip ha ra hb rb)⟩⟩
  · obtain ⟨al, vs, rfl, ha, ra⟩ := (c1.mono e2.gg).ofTup
    obtain ⟨bl, ws, rfl, hb, rb⟩ := c2.ofTup
    exact ⟨al, bl, vs, ws, rfl, .inr ⟨(ha.mono e2.st.sub).sq, (hb.mono e2.st.sub).sq, h2 γ2 H2 _ e12 (itd_zipT ha ra hb rb)⟩⟩

/-! ### targets -/
inductive T where
  | nm (i : Nat) | tup (is : List Nat)
def setAll : List Nat → List D → List Sl → List Sl
  | i :: is, d :: ds, ρ => setAll is ds (ρ.set i (.val d))
  | _, _, ρ => ρ
def asgT : T → D → List Sl → W Exc (List Sl)
  | .nm i, d, ρ => .ret (ρ.set i (.val d))
  | .tup is, .tuple ds, ρ => (W.ask (ds.length = is.length)).bind fun _ => .ret (setAll is ds ρ)
  | .tup is, .list ds, ρ => (W.ask (ds.length = is.length)).bind fun _ => .ret (setAll is ds ρ)
  | _, _, _ => .stuck
def gAll : List Nat → TGs
  | [] => gNil
  | i :: is => gCons (gName i) (gAll is)
def gT (K : PySem.W.Frag) : T → TG
  | .nm i => gName i
  | .tup is => fun v σ H Q => gTup K is.length (gAll is) v σ H Q ∨ gLst K is.length (gAll is) v σ H Q
/-- the slots is alone changed -/
def OnlyAt (is : List Nat) (σ σ' : St) : Prop := ∀ vs : List Nat, (∀ i ∈ is, i ∈ vs) → wipe σ' vs = wipe σ vs
theorem wipe_at (σ : St) : ∀ (vs : List Nat) (j : Nat), (wipe σ vs)[j]? = if j ∈ vs then (if j < σ.length then some none else none) else σ[j]?
  | [], j => by simp [wipe]
  | v :: vs, j => by
    unfold wipe
    rw [List.getElem?_set, wipe_length, wipe_at σ vs j]
    by_cases h : v = j
    · subst h; simp
    · have h' : ¬ j = v := fun e => h e.symm
      simp [h, h']
theorem wipe_set {σ : St} {i : Nat} {v : Option V} {vs : List Nat} (h : i ∈ vs) : wipe (σ.set i v) vs = wipe σ vs := by
  apply List.ext_getElem?
  intro j
  rw [wipe_at, wipe_at, List.length_set]
  by_cases hj : j ∈ vs
  · rw [if_pos hj, if_pos hj]
  · rw [if_neg hj, if_neg hj, List.getElem?_set_ne (fun e => hj (by rw [← e]; exact h))]
theorem wipe_wipe (σ : St) (vs : List Nat) : wipe (wipe σ vs) vs = wipe σ vs := by
  apply List.ext_getElem?
  intro j
  rw [wipe_at, wipe_at, wipe_length]
  by_cases hj : j ∈ vs
  · rw [if_pos hj, if_pos hj]
  · rw [if_neg hj, if_neg hj]
theorem OnlyAt.refl (is : List Nat) (σ : St) : OnlyAt is σ σ := fun _ _ => rfl
/-- where the old slots are right the new ones are -/
def Carry (K : PySem.W.Frag) (p : Option Addr) (H0 γ : Hp) (σ : St) (ρ : List Sl) (σ' : St) (ρ' : List Sl) : Prop := ∀ γ' H', Same γ γ' → EnvR K p H0 γ' H' σ ρ → EnvR K p H0 γ' H' σ' ρ'
def T.idx : T → List Nat
  | .nm i => [i]
  | .tup is => is
theorem gAll_ok {K : PySem.W.Frag} {p : Option Addr} {H0 γ H : Hp} : ∀ {is : List Nat} {vs : List V} {ds : List D} {σ : St} {ρ : List Sl} {Q : St → Hp → Prop}, RepAll K γ vs ds → ds.length = is.length → EnvR K p H0 γ H σ ρ →
    (∀ σ', EnvR K p H0 γ H σ' (setAll is ds ρ) → OnlyAt is σ σ' → Carry K p H0 γ σ ρ σ' (setAll is ds ρ) → Q σ' H) → gAll is vs σ H Q
  | [], [], [], σ, ρ, Q, _, _, er, h => ⟨rfl, h σ er (.refl _ _) fun _ _ _ r => r⟩
  | [], _ :: _, [], _, _, _, r, _, _, _ => by cases r.1
  | [], _, _ :: _, _, _, _, _, hl, _, _ => by cases hl
  | i :: is, [], [], _, _, _, _, hl, _, _ => by cases hl
  | i :: is, [], _ :: _, _, _, _, r, _, _, _ => by cases r.1
  | i :: is, _ :: _, [], _, _, _, r, _, _, _ => by cases r.1
  | i :: is, v :: vs, d :: ds, σ, ρ, Q, r, hl, er, h => ⟨v, vs, rfl, gAll_ok r.tail (by simpa using hl) (er.setVal r.head) fun σ' e o cy => h σ' e (fun ws hw => by
      rw [o ws (fun k hk => hw k (List.mem_cons_of_mem _ hk)), wipe_set (hw i List.mem_cons_self)]) fun γ' H' sm r' => cy γ' H' sm (r'.setVal (r.head.mono sm))⟩
theorem gT_ok {K : PySem.W.Frag} {p : Option Addr} {H0 γ H : Hp} {t : T} {v : V} {d : D} {σ : St} {ρ : List Sl} {Q : St → Hp → Prop} {R : List Sl → Prop} {XX : Exc → Prop} (st : Stt K p γ H) (r : IRep K γ H v d) (ht : ∀ i, t = .nm i → Rep K γ v d) (er : EnvR K p H0 γ H σ ρ)
    (h : (asgT t d ρ).run R XX) (k : ∀ ρ' σ', R ρ' → EnvR K p H0 γ H σ' ρ' → OnlyAt t.idx σ σ' → Carry K p H0 γ σ ρ σ' ρ' → Q σ' H) : gT K t v σ H Q := by
  cases t with
  | nm i => exact k _ _ h (er.setVal (ht i rfl)) (fun vs hv => wipe_set (hv i List.mem_cons_self)) fun γ' H' sm r' => r'.setVal ((ht i rfl).mono sm)
  | tup is =>
    cases d <;> first
      | exact False.elim h
      | skip
    · rename_i ds
      rcases r with r | ⟨_, _, _, _, e, _⟩
      · obtain ⟨al, vs, rfl, ha, ra⟩ := r.ofLst
        exact .inr ⟨al, vs, rfl, .of (st.sub _ _ ha), by rw [ra.length]; exact h.1, gAll_ok ra h.1 er fun σ' e' o cy => k _ _ h.2 e' o cy⟩
      · cases e
    · rename_i ds
      rcases r with r | ⟨al, vs, ds', rfl, e, ha, ra⟩
      · obtain ⟨al, vs, rfl, ha, ra⟩ := r.ofTup
        exact .inl ⟨al, vs, rfl, (ha.mono st.sub).sq, by rw [ra.length]; exact h.1, gAll_ok ra h.1 er fun σ' e' o cy => k _ _ h.2 e' o cy⟩
      · cases e
        exact .inl ⟨al, vs, rfl, ha, by rw [ra.length]; exact h.1, gAll_ok ra h.1 er fun σ' e' o cy => k _ _ h.2 e' o cy⟩
end
end Ev

/-! Ev7: comprehensions. -/
namespace Ev
open PySem PySem.Spec PyProof.Rows L2

/-- what must not raise -/
def noErr {α : Type} (m : W Exc α) : W Exc α := ⟨fun Q _ => m.run Q fun _ => False, fun h _ q => m.mono h (fun _ z => z) q⟩
@[simp] theorem noErr_run {α : Type} {m : W Exc α} {Q : α → Prop} {XX : Exc → Prop} : (noErr m).run Q XX = m.run Q (fun _ => False) := rfl
def lcD (body : D → W Exc (Option D)) : List D → List D → W Exc (List D)
  | [], acc => .ret acc
  | x :: xs, acc => (body x).bind fun o => match o with
    | none => lcD body xs acc
    | some y => lcD body xs (acc ++ [y])
/-- one turn -/
def turnB (t : T) (mt : List Sl → W Exc Bool) (me : List Sl → W Exc D) (ρ : List Sl) (x : D) : W Exc (Option D) :=
  (asgT t x ρ).bind fun ρ1 => noErr ((mt ρ1).bind fun b => if b then (me ρ1).bind fun y => .ret (some y) else .ret none)
def lcW (t : T) (vs : List Nat) (mi : List Sl → W Exc (List D)) (mt : List Sl → W Exc Bool) (me : List Sl → W Exc D) : List Sl → W Exc (List D) := fun ρ =>
  (mi ρ).bind fun xs => (W.ask (xs.length ≤ sizeLine)).bind fun _ => lcD (turnB t mt me (wipeR ρ vs)) xs []
abbrev W0 : WX := fun _ _ _ _ => False
theorem Ext.mut {K : PySem.W.Frag} {p : Option Addr} {γ H γ' H' : Hp} {a : Addr} {o : HO} (st : Stt K p γ H) (e : Ext K p γ H γ' H') (n : H a = none) (n' : γ' a = none) : Ext K p γ H γ' (L2.upd H' a o) := by
  refine ⟨e.gg, e.new, fun b o' hp q => ?_, ⟨fun b o' q => ?_, fun b hb => ?_⟩⟩
  · rw [upd_ne (fun z => by rw [z, n] at q; cases q)]; exact e.same b o' hp q
  · rw [upd_ne (fun z => by rw [z, n'] at q; cases q)]; exact e.st.sub b o' q
  · obtain ⟨g, c, ns, i, j, k, l, e1, e2, e3⟩ := e.st.pool b hb
    obtain ⟨_, _, _, _, _, _, _, f1, _⟩ := st.pool b hb
    exact ⟨g, c, ns, i, j, k, l, by rw [upd_ne (fun z => by rw [z, n] at f1; cases f1)]; exact e1, e2, e3⟩
theorem Ext.fre {K : PySem.W.Frag} {p : Option Addr} {γ H γ' H' : Hp} {a : Addr} (e : Ext K p γ H γ' H') (st : Stt K p γ H) (n : H' a = none) : H a = none := by
  cases z : H a with
  | none => rfl
  | some o => obtain ⟨_, w⟩ := e.there st z; rw [n] at w; cases w
theorem Ext.gnone {K : PySem.W.Frag} {p : Option Addr} {γ H γ' H' : Hp} {a : Addr} {o : HO} (e : Ext K p γ H γ' H') (n : γ a = none) (h : H a = some o) : γ' a = none := by
  cases z : γ' a with
  | none => rfl
  | some o' =>
    rcases e.new a o' z with w | w
    · rw [n] at w; cases w
    · rw [h] at w; cases w
section
variable {X : Cx} {Wx : WX} {e : Expr} {pos : Pos}
theorem rdLc {t : T} {vs : List Nat} {mi : List Sl → W Exc (List D)} {mt : List Sl → W Exc Bool} {me : List Sl → W Exc D} (hv : ∀ i ∈ t.idx, i ∈ vs) {pl : Bool} (hpl : ∀ i, t = .nm i → pl = true) (σ : St) (H : Hp) (Q : VK) (h : TEf X Wx (lcW t vs mi mt me) σ H Q) :
    tLc (TIi X Wx mi pl) (gT X.K t) (RdT X.K X.mg W0 mt) (RdE X.K X.mg W0 me) vs σ H Q := by
  obtain ⟨p, H0, γ, ρ, st, er, hm⟩ := h
  refine ⟨p, H0, γ, ρ, st, er, (mi ρ).mono (fun xs h1 γ1 H1 J e1 it => ?_) (fun _ q => q) hm⟩
  obtain ⟨hz, h1⟩ := h1
  intro a hn
  have hpa : p ≠ some a := fun hp => by
    obtain ⟨_, _, _, _, _, _, _, f1, _⟩ := e1.st.pool a hp
    rw [hn] at f1; cases f1
  have ng1 : γ1 a = none := by
    cases z : γ1 a with
    | none => rfl
    | some o => have := e1.st.sub a o z; rw [hn] at this; cases this
  have hnH : H a = none := e1.fre st hn
  refine ⟨fun i m H' => m = xs.length - i ∧ i ≤ xs.length ∧ ∃ γ' acc vacc, Ext X.K p γ1 H1 γ' H' ∧ H' a = some (.lst vacc) ∧ RepAll X.K γ' vacc acc ∧ γ' a = none ∧ acc.length ≤ i ∧
    (lcD (turnB t mt me (wipeR ρ vs)) (xs.drop i) acc).run (PostF X.K p γ H Q) (ExW X.K X.mg Wx p γ H σ), ⟨xs.length, by simp, Nat.zero_le _, γ1, [], [], .own e1.st hn, upd_same, .nil, ng1, Nat.le_refl _, h1⟩, ?_⟩
  rintro i m H' ⟨rfl, hi, γ', acc, vacc, e2, hD, ra, ng, hl, hr⟩
  by_cases hlt : i < xs.length
  · have hdrop : xs.drop i = xs[i] :: xs.drop (i + 1) := List.drop_eq_getElem_cons hlt
    rw [hdrop] at hr
    refine .inr ⟨it.go γ' H' i e2.gg e2.st hlt, fun H'' => ∃ γ'' acc' vacc', Ext X.K p γ1 H1 γ'' H'' ∧ H'' a = some (.lst vacc') ∧ RepAll X.K γ'' vacc' acc' ∧ γ'' a = none ∧ acc'.length ≤ i + 1 ∧
      (lcD (turnB t mt me (wipeR ρ vs)) (xs.drop (i + 1)) acc').run (PostF X.K p γ H Q) (ExW X.K X.mg Wx p γ H σ), fun H'' q => ⟨xs.length - (i + 1), by omega, rfl, hlt, q⟩, fun x H'' hy => ?_⟩
    obtain ⟨d, hd, r, rp, e3⟩ := it.yld γ' H' i x H'' e2.gg e2.st hlt hy
    have hd' : xs[i] = d := by rw [List.getElem?_eq_getElem hlt] at hd; exact Option.some.inj hd
    rw [hd'] at hr
    have e13 := Ext.trans e1.st e2 e3
    have e03 := Ext.trans st e1 e13
    refine gT_ok e3.st r (fun i hi => rp (hpl i hi)) ((er.ext e03).wipe vs) hr fun ρ1 σ2 h2 er2 o2 _ => ⟨?_, ?_⟩
    · rw [o2 vs hv, wipe_wipe]
    refine ⟨p, H0, γ', ρ1, e3.st, er2, (mt ρ1).mono (fun b h3 γ3 H3 e4 => ?_) (fun _ z => z.elim) h2⟩
    have e14 := Ext.trans e1.st e13 e4
    have hD3 : H3 a = some (.lst vacc) := e4.same a _ hpa (e3.same a _ hpa hD)
    have ng3 : γ3 a = none := e4.gnone (e3.gnone ng hD) (e3.same a _ hpa hD)
    cases b with
    | false => exact ⟨γ3, acc, vacc, e14, hD3, ra.mono e4.gg, ng3, Nat.le_succ_of_le hl, h3⟩
    | true =>
      refine ⟨p, H0, γ3, ρ1, e4.st, er2.ext e4, (me ρ1).mono (fun y h5 γ4 H4 v e5 r5 => ?_) (fun _ z => z.elim) h3⟩
      have hD4 : H4 a = some (.lst vacc) := e5.same a _ hpa hD3
      have ng4 : γ4 a = none := e5.gnone ng3 hD3
      have hla : vacc.length = acc.length := ra.length
      refine ⟨vacc, hD4, by omega, γ4, acc ++ [y], vacc ++ [v], Ext.mut e1.st (Ext.trans e1.st e14 e5) hn ng4, upd_same, ((ra.mono e4.gg).mono e5.gg).append (.cons r5 .nil), ng4, by simp; omega, h5⟩
  · have ei : i = xs.length := by omega
    subst ei
    rw [List.drop_length] at hr
    exact .inl ⟨it.stop γ' H' _ e2.gg e2.st (Nat.le_refl _), hr γ' H' a vacc (Ext.trans st e1 e2) hnH ng hD ra⟩

/-! ### two clauses -/
def foldA (f : D → List D → W Exc (List D)) : List D → List D → W Exc (List D)
  | [], acc => .ret acc
  | x :: xs, acc => (f x acc).bind fun acc' => foldA f xs acc'
def lc2In (t1 : T) (vs1 : List Nat) (mt1 : List Sl → W Exc Bool) (me : List Sl → W Exc D) (ρ1 : List Sl) (y : D) (acc : List D) : W Exc (List D) :=
  (asgT t1 y (wipeR ρ1 vs1)).bind fun ρ2 => (mt1 ρ2).bind fun b => if b then (me ρ2).bind fun z => (W.ask (acc.length < sizeLine)).bind fun _ => .ret (acc ++ [z]) else .ret acc
def lc2Out (t t1 : T) (vs1 : List Nat) (mt : List Sl → W Exc Bool) (mi1 : List Sl → W Exc (List D)) (mt1 : List Sl → W Exc Bool) (me : List Sl → W Exc D) (ρ : List Sl) (x : D) (acc : List D) : W Exc (List D) :=
  (asgT t x ρ).bind fun ρ1 => noErr ((mt ρ1).bind fun b => if b then (mi1 ρ1).bind fun ys => foldA (lc2In t1 vs1 mt1 me ρ1) ys acc else .ret acc)
def lc2W (t : T) (vs : List Nat) (mi : List Sl → W Exc (List D)) (mt : List Sl → W Exc Bool) (t1 : T) (vs1 : List Nat) (mi1 : List Sl → W Exc (List D)) (mt1 : List Sl → W Exc Bool) (me : List Sl → W Exc D) : List Sl → W Exc (List D) := fun ρ =>
  (mi ρ).bind fun xs => foldA (lc2Out t t1 vs1 mt mi1 mt1 me (wipeR ρ vs)) xs []
theorem rdLc2 {t t1 : T} {vs vs1 : List Nat} {mi mi1 : List Sl → W Exc (List D)} {mt mt1 : List Sl → W Exc Bool} {me : List Sl → W Exc D} (hv : ∀ i ∈ t.idx, i ∈ vs) (hv1 : ∀ i ∈ t1.idx, i ∈ vs1) {pl pl1 : Bool} (hpl : ∀ i, t = .nm i → pl = true) (hpl1 : ∀ i, t1 = .nm i → pl1 = true)
    (σ : St) (H : Hp) (Q : VK) (h : TEf X Wx (lc2W t vs mi mt t1 vs1 mi1 mt1 me) σ H Q) :
    tLc2 (TIi X Wx mi pl) (gT X.K t) (RdT X.K X.mg W0 mt) (TIi X W0 mi1 pl1) (gT X.K t1) (RdT X.K X.mg W0 mt1) (RdE X.K X.mg W0 me) vs vs1 σ H Q := by
  obtain ⟨p, H0, γ, ρ, st, er, hm⟩ := h
  refine ⟨p, H0, γ, ρ, st, er, (mi ρ).mono (fun xs h1 γ1 H1 J e1 it => ?_) (fun _ q => q) hm⟩
  intro a hn
  have hpa : p ≠ some a := fun hp => by
    obtain ⟨_, _, _, _, _, _, _, f1, _⟩ := e1.st.pool a hp
    rw [hn] at f1; cases f1
  have ng1 : γ1 a = none := by
    cases z : γ1 a with
    | none => rfl
    | some o => have := e1.st.sub a o z; rw [hn] at this; cases this
  have hnH : H a = none := e1.fre st hn
  refine ⟨fun i m H' => m = xs.length - i ∧ i ≤ xs.length ∧ ∃ γ' acc vacc, Ext X.K p γ1 H1 γ' H' ∧ H' a = some (.lst vacc) ∧ RepAll X.K γ' vacc acc ∧ γ' a = none ∧
    (foldA (lc2Out t t1 vs1 mt mi1 mt1 me (wipeR ρ vs)) (xs.drop i) acc).run (PostF X.K p γ H Q) (ExW X.K X.mg Wx p γ H σ), ⟨xs.length, by simp, Nat.zero_le _, γ1, [], [], .own e1.st hn, upd_same, .nil, ng1, h1⟩, ?_⟩
  rintro i m H' ⟨rfl, hi, γ', acc, vacc, e2, hD, ra, ng, hr⟩
  by_cases hlt : i < xs.length
  · have hdrop : xs.drop i = xs[i] :: xs.drop (i + 1) := List.drop_eq_getElem_cons hlt
    rw [hdrop] at hr
    refine .inr ⟨it.go γ' H' i e2.gg e2.st hlt, fun H'' => ∃ γ'' acc' vacc', Ext X.K p γ1 H1 γ'' H'' ∧ H'' a = some (.lst vacc') ∧ RepAll X.K γ'' vacc' acc' ∧ γ'' a = none ∧
      (foldA (lc2Out t t1 vs1 mt mi1 mt1 me (wipeR ρ vs)) (xs.drop (i + 1)) acc').run (PostF X.K p γ H Q) (ExW X.K X.mg Wx p γ H σ), fun H'' q => ⟨xs.length - (i + 1), by omega, rfl, hlt, q⟩, fun x H'' hy => ?_⟩
    obtain ⟨d, hd, r, rp, e3⟩ := it.yld γ' H' i x H'' e2.gg e2.st hlt hy
    have hd' : xs[i] = d := by rw [List.getElem?_eq_getElem hlt] at hd; exact Option.some.inj hd
    rw [hd'] at hr
    have e13 := Ext.trans e1.st e2 e3
    have e03 := Ext.trans st e1 e13
    refine gT_ok e3.st r (fun i hi => rp (hpl i hi)) ((er.ext e03).wipe vs) hr fun ρ1 σ2 h2 er2 o2 cy => ⟨?_, ?_⟩
    · rw [o2 vs hv, wipe_wipe]
    refine ⟨p, H0, γ', ρ1, e3.st, er2, (mt ρ1).mono (fun b h3 γ3 H3 e4 => ?_) (fun _ z => z.elim) h2⟩
    have e14 := Ext.trans e1.st e13 e4
    have hD3 : H3 a = some (.lst vacc) := e4.same a _ hpa (e3.same a _ hpa hD)
    have ng3 : γ3 a = none := e4.gnone (e3.gnone ng hD) (e3.same a _ hpa hD)
    cases b with
    | false => exact ⟨γ3, acc, vacc, e14, hD3, ra.mono e4.gg, ng3, h3⟩
    | true =>
      refine ⟨p, H0, γ3, ρ1, e4.st, er2.ext e4, (mi1 ρ1).mono (fun ys h4 γ4 H4 J1 e5 it1 => ?_) (fun _ z => z.elim) h3⟩
      have e15 := Ext.trans e1.st e14 e5
      have hD4 : H4 a = some (.lst vacc) := e5.same a _ hpa hD3
      refine ⟨fun j k H' => k = ys.length - j ∧ j ≤ ys.length ∧ ∃ γ5 acc' vacc', Same γ4 γ5 ∧ Ext X.K p γ1 H1 γ5 H' ∧ H' a = some (.lst vacc') ∧ RepAll X.K γ5 vacc' acc' ∧ γ5 a = none ∧
        (foldA (lc2In t1 vs1 mt1 me ρ1) (ys.drop j) acc').run (fun acc'' => (foldA (lc2Out t t1 vs1 mt mi1 mt1 me (wipeR ρ vs)) (xs.drop (i + 1)) acc'').run (PostF X.K p γ H Q) (ExW X.K X.mg Wx p γ H σ)) (fun _ => False),
        ⟨ys.length, by simp, Nat.zero_le _, γ4, acc, vacc, .refl _, e15, hD4, (ra.mono e4.gg).mono e5.gg, e5.gnone ng3 hD3, h4⟩, ?_⟩
      rintro j k H5 ⟨rfl, hj, γ5, acc5, vacc5, s45, e6, hD5, ra5, ng5, hr5⟩
      by_cases hjl : j < ys.length
      · have hdr : ys.drop j = ys[j] :: ys.drop (j + 1) := List.drop_eq_getElem_cons hjl
        rw [hdr] at hr5
        refine .inr ⟨it1.go γ5 H5 j s45 e6.st hjl, fun H'' => ∃ γ'' acc' vacc', Same γ4 γ'' ∧ Ext X.K p γ1 H1 γ'' H'' ∧ H'' a = some (.lst vacc') ∧ RepAll X.K γ'' vacc' acc' ∧ γ'' a = none ∧
          (foldA (lc2In t1 vs1 mt1 me ρ1) (ys.drop (j + 1)) acc').run (fun acc'' => (foldA (lc2Out t t1 vs1 mt mi1 mt1 me (wipeR ρ vs)) (xs.drop (i + 1)) acc'').run (PostF X.K p γ H Q) (ExW X.K X.mg Wx p γ H σ)) (fun _ => False),
          fun H'' q => ⟨ys.length - (j + 1), by omega, rfl, hjl, q⟩, fun x1 H6 hy1 => ?_⟩
        obtain ⟨d1, hd1, r1, rp1, e7⟩ := it1.yld γ5 H5 j x1 H6 s45 e6.st hjl hy1
        have hd1' : ys[j] = d1 := by rw [List.getElem?_eq_getElem hjl] at hd1; exact Option.some.inj hd1
        rw [hd1'] at hr5
        have e17 := Ext.trans e1.st e6 e7
        have e07 := Ext.trans st e1 e17
        have er6 : EnvR X.K p H0 γ5 H6 σ2 ρ1 := cy γ5 H6 (e4.gg.trans (e5.gg.trans s45)) ((er.ext e07).wipe vs)
        refine gT_ok e7.st r1 (fun i hi => rp1 (hpl1 i hi)) (er6.wipe vs1) hr5 fun ρ2 σ3 h6 er7 o3 _ => ⟨?_, ?_⟩
        · rw [o3 vs1 hv1, wipe_wipe]
        refine ⟨p, H0, γ5, ρ2, e7.st, er7, (mt1 ρ2).mono (fun b1 h7 γ7 H7 e8 => ?_) (fun _ z => z.elim) h6⟩
        have e18 := Ext.trans e1.st e17 e8
        have hD7 : H7 a = some (.lst vacc5) := e8.same a _ hpa (e7.same a _ hpa hD5)
        have ng7 : γ7 a = none := e8.gnone (e7.gnone ng5 hD5) (e7.same a _ hpa hD5)
        cases b1 with
        | false => exact ⟨γ7, acc5, vacc5, s45.trans e8.gg, e18, hD7, ra5.mono e8.gg, ng7, h7⟩
        | true =>
          refine ⟨p, H0, γ7, ρ2, e8.st, er7.ext e8, (me ρ2).mono (fun y h8 γ8 H8 v e9 r9 => ?_) (fun _ z => z.elim) h7⟩
          obtain ⟨hlen, h8⟩ := h8
          have hD8 : H8 a = some (.lst vacc5) := e9.same a _ hpa hD7
          have ng8 : γ8 a = none := e9.gnone ng7 hD7
          exact ⟨vacc5, hD8, by rw [ra5.length]; exact hlen, γ8, acc5 ++ [y], vacc5 ++ [v], s45.trans (e8.gg.trans e9.gg), Ext.mut e1.st (Ext.trans e1.st e18 e9) hn ng8, upd_same, ((ra5.mono e8.gg).mono e9.gg).append (.cons r9 .nil), ng8, h8⟩
      · have ej : j = ys.length := by omega
        subst ej
        rw [List.drop_length] at hr5
        exact .inl ⟨it1.stop γ5 H5 _ s45 e6.st (Nat.le_refl _), γ5, acc5, vacc5, e6, hD5, ra5, ng5, hr5⟩
  · have ei : i = xs.length := by omega
    subst ei
    rw [List.drop_length] at hr
    exact .inl ⟨it.stop γ' H' _ e2.gg e2.st (Nat.le_refl _), hr γ' H' a vacc (Ext.trans st e1 e2) hnH ng hD ra⟩
end
end Ev

/-! Ev5d: a dict display with text keys, looked into at once. -/
namespace Ev
open PySem PySem.Spec PyProof.Rows L2
section
variable {X : Cx} {Wx : WX} {e k v : Expr} {pos dpos kp : Pos} {keys : List (Option Expr)} {values : List Expr} {ks : List Str} {ma me : List Sl → W Exc D} {m : List Sl → W Exc (List D)}
def PDs (X : Cx) (Wx : WX) (pos : Pos) (keys : List (Option Expr)) (values : List Expr) (ks : List Str) (m : List Sl → W Exc (List D)) : Prop :=
  ∃ trs, PPs X pos keys values trs ∧ ∀ σ H (R : List (V × V) → Hp → Prop), TAl X Wx m σ H (fun vs H' => R ((ks.zip vs).map fun q => (V.str q.1, q.2)) H') → tPairs trs σ H R
theorem pd_nil : PDs X Wx pos [] [] [] (fun _ => .ret []) := ⟨[], pps_nil, fun σ H R ⟨p, H0, γ, ρ, st, er, hm⟩ => hm γ H [] (.refl st) .nil⟩
theorem pd_cons {j : Nat} {x : Str} {mr : List Sl → W Exc (List D)} (hv : PE X v (TEe X Wx ma)) (hr : PDs X Wx pos keys values ks mr) : PDs X Wx pos (some (.Constant (.str x) j kp) :: keys) (v :: values) (x :: ks) (fun ρ => (ma ρ).bind fun d => (mr ρ).bind fun ds => .ret (d :: ds)) := by
  obtain ⟨trs, h1, h2⟩ := hr
  refine ⟨(tC (.str x), TEe X Wx ma) :: trs, pps_cons pe_str hv h1, fun σ H R ⟨p, H0, γ, ρ, st, er, hm⟩ => ?_⟩
  refine ⟨p, H0, γ, ρ, st, er, (ma ρ).mono (fun d q1 γ1 H1 y e1 c1 => ?_) (fun _ q => q) hm⟩
  refine h2 σ H1 (fun ps H3 => R ((V.str x, y) :: ps) H3) ⟨p, H0, γ1, ρ, e1.st, er.ext e1, (mr ρ).mono (fun ds q2 γ2 H2 vs e2 c2 => ?_) (fun _ q => q.ext st e1) q1⟩
  exact q2 γ2 H2 (y :: vs) (Ext.trans st e1 e2) (.cons (c1.mono e2.gg) c2)
theorem kvOf_v (ks : List Str) (vs : List V) : (ks.zip vs).map (fun q => (V.str q.1, q.2)) = (kvOf ks vs).map fun kv => (kV kv.1, kv.2) := by
  unfold kvOf
  rw [List.map_map]
  rfl
def dsubD (ks : List Str) (ds : List D) : D → W Exc D
  | .str z => optW ((ks.zip ds).lookup z) .ret
  | _ => .stuck
theorem noSl_of (h : ∀ l u s p, k ≠ .Slice l u s p) : NoSl k := by
  intro o i
  cases k <;> first
    | rfl
    | exact absurd rfl (h _ _ _ _)
theorem pE_dsub (hu : X.A.units + 1 < cLine) (h : PDs X Wx dpos keys values ks m) (hall : keys.all (·.isSome) = true) (hl : keys.length = values.length) (h0 : keys ≠ []) (h15 : keys.length ≤ 15) (hk15 : ks.length ≤ 15) (hnd : ks.Nodup) (hk : PE X k (TEe X Wx me)) (hs : ∀ l u s p, k ≠ .Slice l u s p) :
    PE X (.Subscript (.Dict keys values dpos) k pos) (TEe X Wx fun ρ => (m ρ).bind fun ds => (me ρ).bind fun d => dsubD ks ds d) := by
  obtain ⟨trs, h1, h2⟩ := h
  refine pe_of (pe_dget hu (pe_disp h1 hall hl h0 h15) hk (noSl_of hs)) fun σ H Q ⟨p, H0, γ, ρ, st, er, hm⟩ => ?_
  intro q hq
  have hp : p ≠ some q := fun hp => by
    obtain ⟨_, _, _, _, _, _, _, f1, _⟩ := st.pool q hp
    rw [hq] at f1; cases f1
  have ng : γ q = none := by
    cases z : γ q with
    | none => rfl
    | some o => have := st.sub q o z; rw [hq] at this; cases this
  have e0 : Ext X.K p γ H γ (upd H q (.dK [])) := .own st hq
  refine h2 σ _ _ ⟨p, H0, γ, ρ, e0.st, er.ext e0, (m ρ).mono (fun ds q1 γ1 H1 vs e1 r1 => ?_) (fun _ q => q.ext st e0) hm⟩
  have hq1 : H1 q = some (.dK []) := e1.same q _ hp upd_same
  refine ⟨hq1, kvOf ks vs, kvOf_v ks vs, by unfold kvOf; simp; omega, ?_⟩
  have ng1 : γ1 q = none := e1.gnone ng upd_same
  have e2 : Ext X.K p γ H γ1 (upd H1 q (.dK (mergeK [] (kvOf ks vs)))) := Ext.mut st (Ext.trans st e0 e1) hq ng1
  refine ⟨p, H0, γ1, ρ, e2.st, er.ext e2, (me ρ).mono (fun d q2 γ2 H2 y e3 c3 => ?_) (fun _ q => q.ext st e2) q1⟩
  cases d <;> first
    | exact False.elim q2
    | skip
  rename_i z
  obtain ⟨dd, hlk, q3⟩ := optW_run q2
  obtain ⟨v, hv, rv⟩ := look_rep r1 hlk
  exact ⟨q, v, rfl, .inl ⟨_, Sum.inr z, .inl (e3.same q _ hp upd_same), c3.ofStr, (merge_get ks vs [] z v hnd hv).symm⟩, q3 γ2 H2 v (Ext.trans st e2 e3) (rv.mono e3.gg)⟩
theorem upd_same_of {γ : Hp} {q : Addr} {o : HO} (n : γ q = none) : Same γ (upd γ q o) := fun b o' hb => by
  by_cases e : b = q
  · subst e; rw [n] at hb; cases hb
  · rw [upd_ne e]; exact hb
/-- {k: v, ..} as a value -/
theorem pE_dct (h : PDs X Wx dpos keys values ks m) (hall : keys.all (·.isSome) = true) (hl : keys.length = values.length) (h0 : keys ≠ []) (h15 : keys.length ≤ 15) (hk15 : ks.length ≤ 15) (hnd : ks.Nodup) (htx : ∀ k ∈ ks, PyData.strOk k = true) :
    PE X (.Dict keys values dpos) (TEe X Wx fun ρ => (m ρ).bind fun ds => (W.ask (ks.length = ds.length)).bind fun _ => .ret (.dict (dkv ks ds))) := by
  obtain ⟨trs, h1, h2⟩ := h
  refine pe_of (pe_lockZ (pe_disp h1 hall hl h0 h15)) fun σ H Q ⟨p, H0, γ, ρ, st, er, hm⟩ => ?_
  intro q hq
  have hp : p ≠ some q := fun hp => by
    obtain ⟨_, _, _, _, _, _, _, f1, _⟩ := st.pool q hp
    rw [hq] at f1; cases f1
  have ng : γ q = none := by
    cases z : γ q with
    | none => rfl
    | some o => have := st.sub q o z; rw [hq] at this; cases this
  have e0 : Ext X.K p γ H γ (upd H q (.dK [])) := .own st hq
  refine h2 σ _ _ ⟨p, H0, γ, ρ, e0.st, er.ext e0, (m ρ).mono (fun ds q1 γ1 H1 vs e1 r1 => ?_) (fun _ q => q.ext st e0) hm⟩
  have hq1 : H1 q = some (.dK []) := e1.same q _ hp upd_same
  refine ⟨hq1, kvOf ks vs, kvOf_v ks vs, by unfold kvOf; simp; omega, ?_⟩
  have ng1 : γ1 q = none := e1.gnone ng upd_same
  have e2 : Ext X.K p γ H γ1 (upd H1 q (.dK (mergeK [] (kvOf ks vs)))) := Ext.mut st (Ext.trans st e0 e1) hq ng1
  refine ⟨q, _, upd_same, trivial, fun od => ?_⟩
  have e3 := Ext.freeze st (Ext.mut (o := .frz od (.dK (mergeK [] (kvOf ks vs)))) st e2 hq ng1) hq upd_same
  exact q1.2 _ _ _ e3 (Rep.dct ⟨od, upd_same⟩ (r1.mono (upd_same_of ng1)) ⟨⟨hnd, q1.1⟩, htx⟩)
theorem pE_dct0 : PE X (.Dict [] [] dpos) (TEe X Wx fun _ => .ret (.dict [])) := by
  refine pe_of (pe_lockZ pe_dnewK) fun σ H Q ⟨p, H0, γ, ρ, st, er, hm⟩ => ?_
  intro q hq
  have ng : γ q = none := by
    cases z : γ q with
    | none => rfl
    | some o => have := st.sub q o z; rw [hq] at this; cases this
  refine ⟨q, _, upd_same, trivial, fun od => ?_⟩
  have e := Ext.freeze (a := q) (o := .frz od (.dK [])) st (Ext.mut (o := .frz od (.dK [])) st (.own (o := .dK []) st hq) hq ng) hq upd_same
  exact hm _ _ _ e (Rep.dct (ks := []) (xs := []) (ds := []) ⟨od, upd_same⟩ .nil ⟨⟨List.nodup_nil, rfl⟩, fun _ h => by cases h⟩)
end
end Ev

/-! Ev5t: sorted(a list or a tuple of data); list(range), tuple(range), tuple(reversed). -/
namespace Ev
open PySem PySem.Spec PyProof.Rows L2
section
variable {prog : Program} {w : World} {A : Around} {E : Value → Shared → Prop} {s : Shared}
theorem collect_tup {l : Addr} {vs : List Value} {o : Obj} {n : Nat} {Q : List Value → Shared → Prop} (ho : s.heap.get? l = some o) (hc : o.cls = .type "tuple") (hd : o.data = .seq vs.toArray n)
    (h : Q vs { s with heap := (s.heap.push (seqObj "list" #[] 0)).update s.heap.objs.size (Obj.mapSeq (· ++ vs.toArray)) }) (hsz : vs.length ≤ sizeLine) :
    wpAny (model prog w) A (collect (.ref l)) Q E s := by
  unfold collect
  refine wpAny_bind (wpAny_runValue (codeAny_builtin entry_proto_collect' ?_))
  show wpAny _ _ (do again (.builtin "list.__iadd__" ⟨[← newList [], .ref l], []⟩)) _ _ s
  refine wpAny_bind (wpAny_newList (wpAny_pure ⟨Code.quiet_builtin _ (by decide +kernel), codeAny_builtin entry_list_iadd' ?_⟩))
  show wpAny _ _ (Builtin.List.listExtendWith (.ref s.heap.objs.size) (.ref l) (.ref s.heap.objs.size)) _ _ { s with heap := s.heap.push (seqObj "list" #[] 0) }
  unfold Builtin.List.listExtendWith
  have ho' : (s.heap.push (seqObj "list" #[] 0)).get? l = some o := Heap.get?_push_of_some _ ho
  refine wpAny_bind (wpAny_typeOf (T := "tuple") ⟨o, ho', hc⟩ ?_)
  have ht : (Value.type "tuple" == Value.type "tuple") = true := by rfl
  rw [if_pos (by rw [ht]; simp)]
  refine wpAny_bind (listItems_at ho' hd ?_)
  refine wpAny_bind (listItems_at (xs := #[]) (n := 0) (Heap.get?_push_size _ rfl) rfl ?_)
  rw [if_neg (by simp)]
  refine wpAny_bind (listUpdate_at (xs := #[]) (n := 0) (Heap.get?_push_size _ rfl) rfl ?_ (Nat.zero_le _) (by show (#[] ++ vs.toArray).size ≤ sizeLine + 1; simp only [Array.size_append, List.size_toArray, List.length_nil]; omega))
  refine wpAny_pure ?_
  show wpAny (model prog w) A (do
      let o ← load s.heap.objs.size
      match o.data with
      | .seq xs _ => pure xs.toList
      | _ => unsupported "internal:collect") Q E { s with heap := (s.heap.push (seqObj "list" #[] 0)).update s.heap.objs.size (Obj.mapSeq (· ++ vs.toArray)) }
  refine wpAny_bind (wpAny_load (get?_update_seq (Heap.get?_push_size _ rfl) _) ?_)
  show wpAny _ _ (pure ((#[] : Array Value) ++ vs.toArray).toList) Q E _
  rw [show ((#[] : Array Value) ++ vs.toArray).toList = vs by simp]
  exact wpAny_pure h
open PySem.W in
theorem sorted_vals_t {κ : PyProof.Rows.KeyKind} {l : Addr} {vs : List Value} {o : Obj} {n : Nat} {Q : Value → Shared → Prop} (ho : s.heap.get? l = some o) (hc : o.cls = .type "tuple") (hd : o.data = .seq vs.toArray n)
    (S : SortsAt prog w A.in1.in1 { s with heap := sortingHeap (copyHeap s.heap vs) (s.heap.objs.size + 1) vs } κ vs) (hL : vs.length ≤ sizeLine)
    (h : Q (.ref (s.heap.objs.size + 1)) { s with heap := sortedAll s.heap vs (sortVals κ false vs vs).toArray }) : wpAny (model prog w) A (call (.builtin "sorted") [.ref l]) Q E s := by
  refine PyProof.Rows.call_function_entry_kw kind_sorted plain_sorted entry_sorted (args_sorted1 _) ?_
  unfold Builtin.«sorted»
  refine wpAny_bind (m := checkCount "sorted" 1 1 _) (wpAny_pure ?_)
  refine wpAny_bind (collect_tup ho hc hd ?_ hL)
  refine wpAny_bind (wpAny_newList ?_ hL)
  have hsz : ((s.heap.push (seqObj "list" #[] 0)).update s.heap.objs.size (Obj.mapSeq (· ++ vs.toArray))).objs.size = s.heap.objs.size + 1 := by
    rw [Heap.size_update, PyProof.Rows.size_push']
  show wpAny _ _ _ _ _ { s with heap := copyHeap s.heap vs }
  rw [hsz]
  refine wpAny_bind (wpAny_holding (PyProof.Rows.wpAny_call_entry_kw slot_list_sort ⟨_, copyHeap_at s.heap vs, rfl⟩ entry_list_sort ?body (args_list_sort _)))
  case body =>
    show wpAny (model prog w) A.in1.in1 (Builtin.«list.sort» ⟨[.ref (s.heap.objs.size + 1)], []⟩) _ _ _
    refine wpAny_mono (list_sort_vals (s := { s with heap := copyHeap s.heap vs }) (P := fun f s' => f = .done (.ret .none) ∧ Q (.ref (s.heap.objs.size + 1)) s') (copyHeap_at s.heap vs) S hL ⟨rfl, h⟩) (fun f s' hf => ?_) fun _ _ e => e
    obtain ⟨rfl, hq⟩ := hf
    exact ⟨_, rfl, wpAny_pure ⟨_, rfl, hq⟩⟩
open PySem.W in
theorem sorted_data_t {β : Type} {vs : List Value} {bs : List β} {enc : β → PyData} {R : Value → β → Prop} {l : Addr} {o : Obj} {n : Nat} {Q : Value → Shared → Prop} (ho : s.heap.get? l = some o) (hc : o.cls = .type "tuple") (hd : o.data = .seq vs.toArray n)
    (e : EachIs R vs bs) (er : EachIs (fun v b => ∃ as, Reads s.heap v (enc b) as) vs bs) (hal : AllAlike (bs.map enc)) (hk : PySem.W.Sortable (bs.map enc)) (hL : bs.length ≤ sizeLine)
    (hu : ∀ b, b ∈ bs → A.units + 2 + (enc b).depth < cLine) (h : ∀ out, out.length = bs.length → EachIs R out (bs.mergeSort (dataLe false enc)) → Q (.ref (s.heap.objs.size + 1)) { s with heap := sortedAll s.heap vs (List.toArray out) }) :
    wpAny (model prog w) A (call (.builtin "sorted") [.ref l]) Q E s := by
  have er' : EachIs (fun v b => ∃ as, Reads (sortingHeap (copyHeap s.heap vs) (s.heap.objs.size + 1) vs) v (enc b) as) vs bs := er.mono fun _ _ ⟨as, r⟩ => ⟨as, PyProof.Rows.Reads.keeps (fun _ _ => sorting_copy_old) r⟩
  exact sorted_vals_t ho hc hd (SortsAt.data (s := { s with heap := sortingHeap (copyHeap s.heap vs) (s.heap.objs.size + 1) vs }) (each_map (R := fun v d => ∃ as, Reads (sortingHeap (copyHeap s.heap vs) (s.heap.objs.size + 1) vs) v d as) enc er') hal hk (bound_map hu)) (by rw [e.length]; exact hL)
    (h _ (by rw [sortVals_length false rfl]; exact e.length) (sortVals_data false e er' hal))
end
/-- the order of data -/
abbrev leD : D → D → Bool := PySem.W.dataLe false id
def srtOk (ds : List D) : Prop := ndAll ds = true ∧ PySem.W.AllAlike ds ∧ PySem.W.Sortable ds ∧ ∀ d ∈ ds, d.depth ≤ 60
def srtD : D → W Exc (List D)
  | .list ds => (W.ask (srtOk ds)).bind fun _ => .ret (ds.mergeSort leD)
  | .tuple ds => (W.ask (srtOk ds)).bind fun _ => .ret (ds.mergeSort leD)
  | _ => .stuck
def srtZ (vs : List V) (ds : List D) : List (V × D) := (vs.zip ds).mergeSort (PySem.W.dataLe false Prod.snd)
theorem map_srt {α β : Type} (f : α → β) (le : α → α → Bool) (le' : β → β → Bool) (h : ∀ a b, le a b = le' (f a) (f b)) {l : List α} : (l.mergeSort le).map f = (l.map f).mergeSort le' := by
  exact List.map_mergeSort (fun a _ b _ => h a b)
theorem zip_snd {vs : List V} {ds : List D} (h : vs.length = ds.length) : (vs.zip ds).map Prod.snd = ds := List.map_snd_zip (by omega)
theorem zip_fst {vs : List V} {ds : List D} (h : vs.length = ds.length) : (vs.zip ds).map Prod.fst = vs := List.map_fst_zip (by omega)
theorem srtZ_snd {vs : List V} {ds : List D} (h : vs.length = ds.length) : (srtZ vs ds).map Prod.snd = ds.mergeSort leD := by
  unfold srtZ
  have e := map_srt Prod.snd (PySem.W.dataLe false Prod.snd) leD (fun _ _ => rfl) (l := vs.zip ds)
  rw [zip_snd h] at e
  exact e
theorem repAll_mem {K : PySem.W.Frag} {γ : Hp} : ∀ {vs : List V} {ds : List D}, RepAll K γ vs ds → ∀ p ∈ vs.zip ds, Rep K γ p.1 p.2
  | [], _, _, p, h => by cases h
  | _ :: _, [], _, p, h => by cases h
  | v :: vs, d :: ds, r, p, h => by
    rw [List.zip_cons_cons] at h
    rcases List.mem_cons.mp h with e | e
    · rw [e]; exact r.head
    · exact repAll_mem r.tail p e
theorem repAll_of {K : PySem.W.Frag} {γ : Hp} : ∀ {l : List (V × D)}, (∀ p ∈ l, Rep K γ p.1 p.2) → RepAll K γ (l.map Prod.fst) (l.map Prod.snd)
  | [], _ => .nil
  | p :: l, h => .cons (h p List.mem_cons_self) (repAll_of fun q hq => h q (List.mem_cons_of_mem _ hq))
theorem srtZ_rep {K : PySem.W.Frag} {γ : Hp} {vs : List V} {ds : List D} (r : RepAll K γ vs ds) : RepAll K γ ((srtZ vs ds).map Prod.fst) (ds.mergeSort leD) := by
  rw [← srtZ_snd r.length]
  refine repAll_of fun p hp => repAll_mem r p ?_
  unfold srtZ at hp
  exact List.mem_mergeSort.mp hp
theorem each_zip {h : Heap} : ∀ {vs : List V} {its : List Value} {ds : List D} {as : List Addr}, Vals vs its → ReadsAll h its ds as → vs.length = ds.length → PySem.W.EachIs (fun v (b : V × D) => RelV b.1 v ∧ ∃ as, Reads h v b.2 as) its (vs.zip ds)
  | _, _, [], _, .nil, _, _ => .nil
  | _, _, [], _, .cons _ _, _, hl => by simp at hl
  | _, _, _ :: _, _, .nil, _, hl => by simp at hl
  | _, _, d :: ds, _, .cons a b, r, hl => by
    cases r with
    | cons h1 h2 => exact .cons ⟨a, _, h1⟩ (each_zip b h2 (by simpa using hl))
theorem vals_each : ∀ {out : List Value} {bs : List (V × D)}, PySem.W.EachIs (fun v (b : V × D) => RelV b.1 v) out bs → Vals (bs.map Prod.fst) out
  | _, _, .nil => .nil
  | _, _, .cons a b => .cons a (vals_each b)
section
variable {X : Cx}
def rSrtD (K : PySem.W.Frag) : List V → Hp → VK → Prop := fun xs H Q => ∃ (al : Addr) (vs : List V) (ds : List D), xs = [.ref al] ∧ (SqL K H al vs ∨ SqT K H al vs) ∧ DpAll K H vs ds ∧ vs.length = ds.length ∧ srtOk ds ∧ PyData.canLayAll0 ds = true ∧
  ∀ l, H l = none → Q (.ref l) (upd H l (.lst ((srtZ vs ds).map Prod.fst)))
theorem cr_srtD (hu : X.A.units + 65 < cLine) : CallR X (.builtin "sorted") (rSrtD X.K) := by
  intro pins s σ H xs us Q I r h
  obtain ⟨al, vs, ds, rfl, hs, hd, hl, ⟨_, ho1, ho2, ho3⟩, hcan, q⟩ := h
  rw [Vals.ref1 r]
  have main : ∀ (its : List Value), Vals vs its → its.length ≤ sizeLine → (∀ (out : List Value), out.length = its.length → PySem.W.EachIs (fun v (b : V × D) => RelV b.1 v) out (srtZ vs ds) → EP X pins σ Q (.ref (s.heap.objs.size + 1)) { s with heap := sortedAll s.heap its out.toArray }) := by
    intro its rv hz out hlen ho
    obtain ⟨ep, he'⟩ := PyProof.Rows.sortedAll_at s.heap its out.toArray
    have hv := vals_each ho
    exact ⟨.ref _, upd H (s.heap.objs.size + 1) (.lst ((srtZ vs ds).map Prod.fst)), I.laid (t' := s.toks) (fun _ _ => PyProof.Rows.sortedAll_old) (Nat.le_succ _) ⟨by rw [hv.length, hlen]; exact hz, out, ep, hv, he'⟩, rfl, q _ (I.hok.fresh (Nat.le_succ _))⟩
  have hmap : (vs.zip ds).map Prod.snd = ds := zip_snd hl
  rcases hs with hs | hs
  · obtain ⟨its, rv, pl, hz⟩ := I.list hs
    obtain ⟨as, ra⟩ := Dp.readsAll I ds _ its hd rv
    have e0 := each_zip rv ra hl
    have hlen : its.length = (vs.zip ds).length := e0.length
    refine PySem.W.sorted_data (enc := Prod.snd) (R := fun v (b : V × D) => RelV b.1 v) pl.isList (e0.mono fun _ _ z => z.1) (e0.mono fun _ _ z => z.2) (by rw [hmap]; exact ho1) (by rw [hmap]; exact ho2) (by rw [← hlen, ← rv.length]; exact hz) (fun b hb => ?_) fun out ho eo => main its rv (by rw [← rv.length]; exact hz) out (by rw [ho, hlen]) eo
    have : b.2 ∈ ds := by rw [← hmap]; exact List.mem_map_of_mem hb
    have := ho3 _ this
    omega
  · obtain ⟨its, rv, ⟨⟨cls, dd, data, sls⟩, hob, hc, n, hdt⟩, hz⟩ := I.tuple hs
    obtain ⟨as, ra⟩ := Dp.readsAll I ds _ its hd rv
    have e0 := each_zip rv ra hl
    have hlen : its.length = (vs.zip ds).length := e0.length
    refine sorted_data_t (enc := Prod.snd) (R := fun v (b : V × D) => RelV b.1 v) hob hc hdt (e0.mono fun _ _ z => z.1) (e0.mono fun _ _ z => z.2) (by rw [hmap]; exact ho1) (by rw [hmap]; exact ho2) (by rw [← hlen, ← rv.length]; exact hz) (fun b hb => ?_) fun out ho eo => main its rv (by rw [← rv.length]; exact hz) out (by rw [ho, hlen]) eo
    have : b.2 ∈ ds := by rw [← hmap]; exact List.mem_map_of_mem hb
    have := ho3 _ this
    omega
theorem br_srtD : BrK1F X.K srtD (rSrtD X.K) := by
  intro p γ H x d Q XX st cx h
  cases d <;> first
    | exact False.elim h
    | skip
  · obtain ⟨al, vs, rfl, ha, ra⟩ := ct_lst cx st
    obtain ⟨ho, q⟩ := h
    exact ⟨al, vs, _, rfl, .inl (.of ha), (dqAll_dp _ _ ho.1 (dqAll_mono st.sub _ _ ra.1)).1, ra.length, ho, (dqAll_dp _ _ ho.1 ra.1).2, fun l n => PostF.lst q st (srtZ_rep ra) l n⟩
  · obtain ⟨al, vs, rfl, ha, ra⟩ := ct_tup cx
    obtain ⟨ho, q⟩ := h
    exact ⟨al, vs, _, rfl, .inr (ha.mono st.sub).sq, (dqAll_dp _ _ ho.1 (dqAll_mono st.sub _ _ ra.1)).1, ra.length, ho, (dqAll_dp _ _ ho.1 ra.1).2, fun l n => PostF.lst q st (srtZ_rep ra) l n⟩
end
/-! ### list(range(..)), tuple(range(..)) -/
def rgL1 : D → W Exc (List D)
  | .int j => (W.ask (RgOk 0 j)).bind fun _ => .ret (upto 0 j.toNat)
  | _ => .stuck
def rgL2 : D → D → W Exc (List D)
  | .int i, .int j => (W.ask (RgOk i j)).bind fun _ => .ret (upto i (j - i).toNat)
  | _, _ => .stuck
theorem rg_rep {K : PySem.W.Frag} {γ : Hp} (a b : Int) : RepAll K γ (rgV a b) (upto a (b - a).toNat) := by
  have h := ints_rep (K := K) (γ := γ) ((List.range (b - a).toNat).map fun (i : Nat) => a + (i : Int))
  rw [List.map_map, List.map_map] at h
  exact h
section
variable {X : Cx} {Wx : WX} {e c : Expr} {pos pp ps2 pp2 : Pos} {ma mb : List Sl → W Exc D}
theorem pF_listR1 (hc : X.calm = true) (hg : Gl X "list") (hm : X.mg "list" = none) (hg2 : Gl X "range") (hm2 : X.mg "range" = none) (hs : ∀ e' p, e ≠ .Starred e' p) (he : PE X e (TEe X Wx ma)) :
    PE X (.Call (.Name "list" pp) [.Call (.Name "range" pp2) [e] [] ps2] [] pos) (TEf X Wx fun ρ => (ma ρ).bind rgL1) := by
  refine pe_of (pe_listRg hc hg hm (prg_1 hg2 hm2 he (star1 hs X.env))) fun σ H Q ⟨p, H0, γ, ρ, st, er, hq⟩ => ?_
  refine ⟨p, H0, γ, ρ, st, er, (ma ρ).mono (fun d h1 γ1 H1 x e1 c1 => ?_) (fun _ q => q) hq⟩
  cases d <;> first
    | exact False.elim h1
    | skip
  rename_i j
  refine ⟨j, c1.ofInt, h1.1, fun q hn => ?_⟩
  have h2 := h1.2
  rw [show j.toNat = (j - 0).toNat by simp] at h2
  exact PostF.lst (PostF.ext h2 st e1) e1.st (rg_rep 0 j) q hn
theorem pF_listR2 (hc : X.calm = true) (hg : Gl X "list") (hm : X.mg "list" = none) (hg2 : Gl X "range") (hm2 : X.mg "range" = none) (hs : ∀ e' p, e ≠ .Starred e' p) (hs2 : ∀ e' p, c ≠ .Starred e' p) (he : PE X e (TEe X Wx ma)) (hf : PE X c (TEe X Wx mb)) :
    PE X (.Call (.Name "list" pp) [.Call (.Name "range" pp2) [e, c] [] ps2] [] pos) (TEf X Wx fun ρ => (ma ρ).bind fun d => (mb ρ).bind fun f => rgL2 d f) := by
  refine pe_of (pe_listRg hc hg hm (prg_2 hg2 hm2 he hf (star1 hs X.env) (star1 hs2 X.env) (by rw [star1 hs2]; rfl))) fun σ H Q ⟨p, H0, γ, ρ, st, er, hq⟩ => ?_
  refine ⟨p, H0, γ, ρ, st, er, (ma ρ).mono (fun d h1 γ1 H1 x e1 c1 => ?_) (fun _ q => q) hq⟩
  refine ⟨p, H0, γ1, ρ, e1.st, er.ext e1, (mb ρ).mono (fun f h2 γ2 H2 y e2 c2 => ?_) (fun _ q => q.ext st e1) h1⟩
  cases d <;> cases f <;> first
    | exact False.elim h2
    | skip
  rename_i i j
  refine ⟨i, j, c1.ofInt, c2.ofInt, h2.1, fun q hn => ?_⟩
  have e12 := Ext.trans st e1 e2
  exact PostF.lst (PostF.ext h2.2 st e12) e12.st (rg_rep i j) q hn
theorem pF_srtL (hu : X.A.units + 65 < cLine) (hg : Gl X "sorted") (hm : X.mg "sorted" = none) (hs : ∀ e' p, e ≠ .Starred e' p) (ha : PE X e (TEo X Wx ma)) : PE X (.Call (.Name "sorted" pp) [e] [] pos) (TEf X Wx fun ρ => (ma ρ).bind srtD) :=
  pF_blt1 (cr_srtD hu) br_srtD hg hm (by decide +kernel) (by decide +kernel) (by decide +kernel) hs ha
end
end Ev

/-! Ev5k: tables of the module (str keys, ints): k in T, T[k]. -/
namespace Ev
open PySem PySem.Spec PyProof.Rows L2
abbrev Tb := List (Str × Option Int)
def entB : Option (Option Value) → Option Int → Bool
  | some (some (.int j _)), some i => decide (j = i)
  | some none, none => true
  | _, _ => false
theorem entB_some {r : Option (Option Value)} {i : Int} (h : entB r (some i) = true) : ∃ t, r = some (some (.int i t)) := by
  unfold entB at h
  split at h
  · rename_i j t i' e1 e2
    cases e2
    have := of_decide_eq_true h
    subst this
    exact ⟨_, rfl⟩
  · rename_i e; cases e
  · cases h
theorem entB_none {r : Option (Option Value)} (h : entB r none = true) : r = some none := by
  unfold entB at h
  split at h
  · rename_i e; cases e
  · rfl
  · cases h
theorem lookup_mem {z : Str} {o : Option Int} : ∀ {t : Tb}, t.lookup z = some o → (z, o) ∈ t
  | [], h => by cases h
  | q :: t, h => by
    rw [List.lookup_cons] at h
    cases e : z == q.1 with
    | true =>
      rw [e] at h
      have e' : z = q.1 := by simpa using e
      cases h
      rw [e']
      exact List.mem_cons_self
    | false =>
      rw [e] at h
      exact List.mem_cons_of_mem _ (lookup_mem h)
/-- what a table has at a text -/
def tbo (t : Tb) (z : Str) : Option Int := (t.lookup z).join
/-- a table of the module -/
def TblAt (K : PySem.W.Frag) (w : World) (mg : Str → Option Value) (x : Str) (t : Tb) : Prop :=
  ∃ a es n, mg x = some (.ref a) ∧ KDict K w a es n ∧ ∀ z, entB (PySem.W.nsIn K a z) (tbo t z) = true
def kinD (neg : Bool) (t : Tb) : D → W Exc Bool
  | .str z => .ret (if neg then !(tbo t z).isSome else (tbo t z).isSome)
  | _ => .stuck
def kixD (t : Tb) : D → W Exc D
  | .str z => optW (tbo t z) fun i => .ret (.int i)
  | _ => .stuck
section
variable {X : Cx} {Wx : WX} {e : Expr} {pos pp : Pos} {ma : List Sl → W Exc D} {x : Str} {t : Tb}
theorem pT_kin {neg : Bool} (T : TblAt X.K X.w X.mg x t) (hg : Gl X x) (hdb : (x == ("__debug__" : Str)) = false) (ha : PE X e (TEo X Wx ma)) :
    PT X (.Compare e [if neg then .NotIn else .In] [.Name x pp] pos) (TTt X Wx fun ρ => (ma ρ).bind (kinD neg t)) := by
  obtain ⟨a, es, n, hm, kd, hk⟩ := T
  have key : ∀ z, ∃ r, PySem.W.nsIn X.K a z = some r ∧ r.isSome = (tbo t z).isSome := by
    intro z
    have hb := hk z
    cases o : tbo t z with
    | none => rw [o] at hb; exact ⟨none, entB_none hb, rfl⟩
    | some i => rw [o] at hb; obtain ⟨t, e⟩ := entB_some hb; exact ⟨_, e, rfl⟩
  cases neg with
  | false =>
    refine pt_of (pt_cmpR (op_in_kd kd) ha (pe_glob (v := .ref a) hg hm rfl hdb) rfl) fun σ H Q ⟨p, H0, γ, ρ, st, er, hm⟩ => ?_
    refine ⟨p, H0, γ, ρ, st, er, (ma ρ).mono (fun d h1 γ1 H1 y e1 c1 => ?_) (fun _ q => q) hm⟩
    cases d <;> first
      | exact False.elim h1
      | skip
    obtain ⟨r, hr, ho⟩ := key _
    refine ⟨_, r, (ct_str c1).1, rfl, hr, _, rfl, ?_⟩
    rw [ho]
    exact h1 γ1 H1 e1
  | true =>
    refine pt_of (pt_cmpR (op_notIn_kd kd) ha (pe_glob (v := .ref a) hg hm rfl hdb) rfl) fun σ H Q ⟨p, H0, γ, ρ, st, er, hm⟩ => ?_
    refine ⟨p, H0, γ, ρ, st, er, (ma ρ).mono (fun d h1 γ1 H1 y e1 c1 => ?_) (fun _ q => q) hm⟩
    cases d <;> first
      | exact False.elim h1
      | skip
    obtain ⟨r, hr, ho⟩ := key _
    refine ⟨_, r, (ct_str c1).1, rfl, hr, _, rfl, ?_⟩
    rw [ho]
    exact h1 γ1 H1 e1
theorem pE_kix (T : TblAt X.K X.w X.mg x t) (hg : Gl X x) (hdb : (x == ("__debug__" : Str)) = false) (ha : PE X e (TEo X Wx ma)) (hns : ∀ l u s p, e ≠ .Slice l u s p) :
    PE X (.Subscript (.Name x pp) e pos) (TEe X Wx fun ρ => (ma ρ).bind (kixD t)) := by
  obtain ⟨a, es, n, hm, kd, hk⟩ := T
  refine pe_of (pe_ix ix_kdict (pe_glob (v := .ref a) hg hm rfl hdb) ha (plainIx_of hns)) fun σ H Q ⟨p, H0, γ, ρ, st, er, hm⟩ => ?_
  refine ⟨p, H0, γ, ρ, st, er, (ma ρ).mono (fun d h1 γ1 H1 y e1 c1 => ?_) (fun _ q => q) hm⟩
  cases d <;> first
    | exact False.elim h1
    | skip
  obtain ⟨i, hz, q⟩ := optW_run h1
  have hb := hk (by assumption)
  rw [hz] at hb
  obtain ⟨tk, e⟩ := entB_some hb
  exact ⟨a, _, .int i, rfl, (ct_str c1).1, ⟨es, n, _, kd.at_, kd.lit, e, ⟨tk, rfl⟩⟩, Post.int (Post.ext q st e1) e1.st⟩
end
end Ev

/-! Ev5m: sets of tuples of ints and texts, less than 64 of them, of whatever many given. -/
namespace Ev
open PySem PySem.Spec PyProof.Rows L2
abbrev IsM (P : Program) (w : World) (h : Heap) (k : List Key) (a : Addr) : Prop := IsTupleKey (mixKind P w) h k a
abbrev mH (P : Program) (w : World) (k : List Key) : Int := tupleKeyHash (mixKind P w) k
/-- an int or a text -/
def Atm (v : Value) : Prop := (∃ i t, v = Value.int i t) ∨ ∃ x t, v = Value.str x t
section
variable {P : Program} {w : World} {A : Around} {E : Value → Shared → Prop} {s : Shared}
theorem atm_all {k : List Key} {vs : List Value} (h : ItemsAre (mixKind P w) k vs) : ∀ v ∈ vs, Atm v := by
  induction h with
  | nil => exact fun v hv => nomatch hv
  | @cons k0 v0 ks us h1 _ ih =>
    intro v hv
    rcases List.mem_cons.mp hv with rfl | hv
    · rcases keyIs_shape h1 with ⟨i, t, _, e⟩ | ⟨x, t, _, e⟩
      · exact .inl ⟨i, t, e⟩
      · exact .inr ⟨x, t, e⟩
    · exact ih v hv
theorem atm_class {v : Value} (h : Atm v) (n : Nat) : ofAClassStatement n v = pure false := by
  rcases h with ⟨i, t, rfl⟩ | ⟨x, t, rfl⟩ <;> cases n <;> rfl
theorem atm_byval {v : Value} (h : Atm v) (n : Nat) : ∃ b, hashByValue n v = pure b := by
  rcases h with ⟨i, t, rfl⟩ | ⟨x, t, rfl⟩
  · exact ⟨true, by cases n <;> rfl⟩
  · exact ⟨false, by cases n <;> rfl⟩
theorem mix_class {k : List Key} {b : Addr} {Q : Bool → Shared → Prop} (hk : IsM P w s.heap k b) (q : Q false s) : wpAny (model P w) A (ofAClassStatement 8 (.ref b)) Q E s := by
  have ty := hk.typeIs
  obtain ⟨ob, its, n, hob, _, hdt, hits⟩ := hk
  unfold ofAClassStatement
  refine wpAny_bind (wpAny_typeOf ty ?_)
  dsimp only
  rw [if_pos (by decide)]
  try refine wpAny_bind (wpAny_pure ?_)
  rw [if_neg (by decide)]
  try refine wpAny_bind (wpAny_pure ?_)
  show wpAny _ _ (seqItems? (.ref b) >>= _) _ _ s
  refine wpAny_bind (wpAny_seqItems hob hdt ?_)
  dsimp only
  refine wpAny_bind ?_
  show wpAny _ _ (forIn its _ _) _ _ s
  rw [← Array.forIn_toList]
  refine wpAny_forIn_list _ (fun rest r s1 => r.1 = none ∧ s1 = s ∧ ∀ v ∈ rest, Atm v) _ ?_ ?_ _ _ ⟨rfl, rfl, atm_all hits⟩
  · rintro v rest r s1 ⟨hr, rfl, hall⟩
    rw [atm_class (hall v List.mem_cons_self)]
    refine wpAny_bind (wpAny_pure ?_)
    rw [if_neg (by decide)]
    exact wpAny_pure ⟨rfl, rfl, fun u hu => hall u (List.mem_cons_of_mem _ hu)⟩
  · rintro ⟨r1, r2⟩ s1 ⟨hr, rfl, _⟩
    cases hr
    exact wpAny_pure q
theorem mix_byval {k : List Key} {b : Addr} {Q : Bool → Shared → Prop} (hk : IsM P w s.heap k b) (q : ∀ r, Q r s) : wpAny (model P w) A (hashByValue 8 (.ref b)) Q E s := by
  have ty := hk.typeIs
  obtain ⟨ob, its, n, hob, _, hdt, hits⟩ := hk
  unfold hashByValue
  refine wpAny_bind (wpAny_specialOf ty F.slot_tuple_hash.lookup ?_)
  show wpAny _ _ (seqItems? (.ref b) >>= _) _ _ s
  refine wpAny_bind (wpAny_seqItems hob hdt ?_)
  refine wpAny_bind ?_
  show wpAny _ _ (forIn its _ _) _ _ s
  rw [← Array.forIn_toList]
  refine wpAny_forIn_list _ (fun rest r s1 => r.1 = none ∧ s1 = s ∧ ∀ v ∈ rest, Atm v) _ ?_ ?_ _ _ ⟨rfl, rfl, atm_all hits⟩
  · rintro v rest r s1 ⟨hr, rfl, hall⟩
    obtain ⟨c, ec⟩ := atm_byval (hall v List.mem_cons_self) 7
    rw [ec]
    refine wpAny_bind (wpAny_pure ?_)
    cases c with
    | true =>
      rw [if_neg (by decide)]
      exact wpAny_pure ⟨rfl, rfl, fun u hu => hall u (List.mem_cons_of_mem _ hu)⟩
    | false =>
      rw [if_pos (by decide)]
      exact wpAny_pure (wpAny_pure (q false))
  · rintro ⟨r1, r2⟩ s1 ⟨hr, rfl, _⟩
    cases hr
    exact wpAny_pure (q true)
/-- a search among such tuples shows nothing -/
theorem mix_seen {k : List Key} {b : Addr} {Q : Bool → Shared → Prop} (hk : IsM P w s.heap k b) {ys : List Value} (hy : ∀ y ∈ ys, ∃ j c, y = Value.ref c ∧ IsM P w s.heap j c) (q : Q false s) :
    wpAny (model P w) A (searchCouldBeSeen (.ref b) ys) Q E s := by
  unfold searchCouldBeSeen
  refine wpAny_bind ?_
  refine wpAny_forIn_list _ (fun rest r s1 => r.1 = none ∧ s1 = s ∧ ∀ y ∈ rest, ∃ j c, y = Value.ref c ∧ IsM P w s.heap j c) _ ?_ ?_ _ _ ⟨rfl, rfl, hy⟩
  · rintro v rest r s1 ⟨hr, rfl, hall⟩
    obtain ⟨j, c, rfl, hc⟩ := hall v List.mem_cons_self
    have more : ∀ y ∈ rest, ∃ j c, y = Value.ref c ∧ IsM P w s1.heap j c := fun u hu => hall u (List.mem_cons_of_mem _ hu)
    dsimp only
    by_cases same : (b == c || (carriedByValue (.ref b) && carriedByValue (.ref c))) = true
    · refine wp_if_pos same (wpAny_pure ⟨rfl, rfl, more⟩)
    · refine wp_if_neg same ?_
      refine wpAny_bind (wpAny_eqIsQuiet_tuple hk ?_)
      rw [if_neg (by decide)]
      try refine wpAny_bind (wpAny_pure ?_)
      refine wpAny_bind (wpAny_eqIsQuiet_tuple hc ?_)
      rw [if_neg (by decide)]
      try refine wpAny_bind (wpAny_pure ?_)
      refine wpAny_bind (mix_class hk ?_)
      rw [if_neg (by decide)]
      try refine wpAny_bind (wpAny_pure ?_)
      refine wpAny_bind (mix_class hc ?_)
      rw [if_neg (by decide)]
      exact wpAny_pure ⟨rfl, rfl, more⟩
  · rintro ⟨r1, r2⟩ s1 ⟨hr, rfl, _⟩
    cases hr
    exact wpAny_pure q
/-! ### the table -/
def rws (P : Program) (w : World) (L : List (Addr × List Key)) : List (Int × Value) := L.map fun p => (mH P w p.2, Value.ref p.1)
abbrev hss (P : Program) (w : World) (L : List (Addr × List Key)) : List Int := L.map fun p => mH P w p.2
structure TabM (P : Program) (w : World) (h : Heap) (a : Addr) (L : List (Addr × List Key)) (es : Array (Int × Value)) (ep : Nat) (t : SetTable) : Prop where
  ob : ∃ o, h.get? a = some o ∧ o.ExactSet ∧ o.data = .set es ep t
  rows : es.toList = rws P w L
  tab : TabOk t (hss P w L)
  nd : (L.map (·.2)).Nodup
  tup : ∀ p ∈ L, IsM P w h p.2 p.1
  led : w.params.followText "set-order" = true ∨ t.led = true
  room : L.length * 5 < t.mask * 3
  few : L.length < 64
variable {a : Addr} {L : List (Addr × List Key)} {es : Array (Int × Value)} {ep : Nat} {t : SetTable}
theorem rws_size (h : es.toList = rws P w L) : es.size = L.length := by
  rw [← Array.length_toList, h]
  simp [rws]
theorem rws_at (h : es.toList = rws P w L) {i : Nat} {p : Addr × List Key} (hp : L[i]? = some p) : es[i]? = some (mH P w p.2, Value.ref p.1) := by
  rw [← Array.getElem?_toList, h]
  unfold rws
  rw [List.getElem?_map, hp]
  rfl
theorem fits_of (T : TabOk t (hss P w L)) (h : es.size = L.length) (hm : es.size ≤ t.mask) : t.fits es.size = true := by
  have e := T.sz
  rw [List.length_map] at e
  unfold SetTable.fits SetTable.fill
  rw [T.dm, Bool.and_eq_true, beq_iff_eq, decide_eq_true_eq]
  exact ⟨by omega, by show t.place.size + 0 ≤ t.mask; omega⟩
theorem TabM.fits (R : TabM P w s.heap a L es ep t) : t.fits es.size = true := by
  have := rws_size R.rows
  have := R.room
  exact fits_of R.tab (rws_size R.rows) (by omega)
theorem TabM.gave (R : TabM P w s.heap a L es ep t) : ¬ t.gaveWay = true := by
  unfold SetTable.gaveWay
  rw [mask_odd R.tab.mok]
  decide
theorem TabM.plc (R : TabM P w s.heap a L es ep t) : t.place.toList.length = L.length := by
  have e := R.tab.sz
  rw [List.length_map] at e
  rw [Array.length_toList, e]
/-- the c-th step of the way of a hash -/
abbrev stp_ (m : Nat) (hv : Int) (c : Nat) : SetTable.Probe := nth m (runAt m (SetTable.bits hv % (m + 1)) (SetTable.bits hv)) c
theorem stp_dummy (m : Nat) (hv : Int) (c : Nat) : (stp_ m hv c).dummy = none := by
  have gen : ∀ (n : Nat) (p : SetTable.Probe), p.dummy = none → (nth m p n).dummy = none := by
    intro n
    induction n with
    | zero => exact fun p h => h
    | succ n ih =>
      intro p h
      refine ih (adv m p) ?_
      unfold adv
      split <;> exact h
  exact gen c _ rfl
theorem stp_add (m : Nat) (hv : Int) (c q : Nat) : nth m (stp_ m hv c) q = stp_ m hv (c + q) := (nth_add m c _ q).symm
theorem stp_j (m : Nat) (hv : Int) (c q : Nat) : (nth m (stp_ m hv c) q).j = way m hv (c + q) := congrArg SetTable.Probe.j (stp_add m hv c q)
theorem mix_find (R : TabM P w s.heap a L es ep t) {x : Addr} {k : List Key} (hx : IsM P w s.heap k x) (hu : A.units < cLine) {hv : Int} (ehv : hv = mH P w k) {K : Nat} (kf : K < 10 * SetTable.turns t.mask)
    (free : way t.mask hv K ∉ t.place.toList) (busy : ∀ c, c < K → way t.mask hv c ∈ t.place.toList) {Q : SetFound → Shared → Prop} (qin : k ∈ L.map (·.2) → Q (.there none) s) (qout : k ∉ L.map (·.2) → Q (.free (way t.mask hv K) false) s) :
    ∀ (f c : Nat) (st : Option SetTable.Probe), st.getD (t.probeStart hv) = stp_ t.mask hv c → c ≤ K → K - c < f →
      (∀ (i : Nat) p, L[i]? = some p → p.2 = k → ∃ d, c ≤ d ∧ d < K ∧ t.place.toList[i]? = some (way t.mask hv d)) → wpAny (model P w) A (setSearchFrom a (.ref x) hv true f st) Q E s
  | 0, _, _, _, _, z, _ => absurd z (Nat.not_lt_zero _)
  | f + 1, c, st, hst, hc, hf, reach => by
    obtain ⟨ob, hob, hex, hdt⟩ := R.ob
    rw [setSearchFrom_succ]
    refine wpAny_bind (wpAny_setState_of hob hdt R.fits ?_)
    dsimp only
    refine wp_if_neg R.gave ?_
    try refine wpAny_bind (wpAny_pure ?_)
    rw [hst]
    have at_ : ∀ (i : Nat) p, L[i]? = some p → (fun i => (es[i]?.map (·.1)).getD 0) i = mH P w p.2 := fun i p hp => by
      show (es[i]?.map (·.1)).getD 0 = _
      rw [rws_at R.rows hp]
      rfl
    rcases go_spec t R.tab.ris R.tab.dm (fun i => (es[i]?.map (·.1)).getD 0) hv (10 * SetTable.turns t.mask) (K - c) (stp_ t.mask hv c) (stp_dummy _ _ _) (by omega)
      (fun q hq => by rw [stp_j]; exact busy (c + q) (by omega)) (by rw [stp_j, show c + (K - c) = K by omega]; exact free) with ⟨q, i, hq, hi, hh, hno, hpr⟩ | ⟨hno, hpr⟩
    · rw [stp_j] at hi hpr
      rw [stp_add] at hpr
      rw [show t.probe (fun i => (es[i]?.map (·.1)).getD 0) hv (stp_ t.mask hv c) = _ from hpr]
      dsimp only
      have hil : i < L.length := by
        have := (List.getElem?_eq_some_iff.mp hi).1
        rw [R.plc] at this
        exact this
      obtain ⟨p, hp⟩ : ∃ p, L[i]? = some p := ⟨L[i], List.getElem?_eq_getElem hil⟩
      have hpm : p ∈ L := List.mem_of_getElem? hp
      have slot_i := slot_live R.tab.ris hi
      have go : wpAny (model P w) A (searchRest a (.ref x) hv true f es t (way t.mask hv (c + q)) i (stp_ t.mask hv (c + (q + 1)))) Q E s := by
        unfold searchRest
        rw [rws_at R.rows hp]
        dsimp only
        refine wpAny_bind (wpAny_holding (wpAny_eqBool_tuple hu (R.tup p hpm) hx ?_))
        refine wpAny_bind (wpAny_setState_of hob hdt R.fits ?_)
        dsimp only
        by_cases hpk : p.2 = k
        · refine wp_if_pos (by simp [hpk]) ?_
          exact wpAny_pure (qin (List.mem_map.mpr ⟨p, hpm, hpk⟩))
        refine wp_if_neg (by simp [hpk]) ?_
        try refine wpAny_bind (wpAny_pure ?_)
        rw [sameMem]
        dsimp only
        simp only [if_true, slot_i, rws_at R.rows hp]
        refine wpAny_bind (wpAny_isSame_ref_self (wpAny_bind (wpAny_pure ?_)))
        simp only [if_true]
        refine wp_if_neg (by simp [hpk]) ?_
        refine mix_find R hx hu ehv kf free busy qin qout f (c + (q + 1)) _ rfl (by omega) (by omega) fun i0 p0 h0 k0 => ?_
        obtain ⟨d, d1, d2, d3⟩ := reach i0 p0 h0 k0
        refine ⟨d, ?_, d2, d3⟩
        rcases Nat.lt_trichotomy d (c + q) with z | z | z
        · refine absurd ((at_ i0 p0 h0).trans ?_) (hno (d - c) i0 (by omega) (by rw [stp_j, show c + (d - c) = d by omega]; exact d3))
          rw [k0, ehv]
        · rw [z] at d3
          have e := slot_live R.tab.ris d3
          rw [slot_i] at e
          injection e with e
          rw [← e, hp] at h0
          cases h0
          exact absurd k0 hpk
        · omega
      by_cases hl : t.led = true
      · refine wp_if_neg (by simp [hl]) ?_
        try refine wpAny_bind (wpAny_pure ?_)
        exact go
      · refine wp_if_pos (by simp [hl]) ?_
        refine wpAny_bind (mix_seen hx (fun y hy => ?_) ?_)
        · obtain ⟨z, hz, ez⟩ := List.mem_map.mp hy
          have hz1 : z ∈ es.toList := by
            have : z ∈ es ∧ z.1 = hv := by simpa using hz
            simpa using this.1
          rw [R.rows] at hz1
          obtain ⟨p1, hp1, e1⟩ := List.mem_map.mp hz1
          exact ⟨p1.2, p1.1, by rw [← ez, ← e1], R.tup p1 hp1⟩
        · refine wp_if_neg (by decide) ?_
          try refine wpAny_bind (wpAny_pure ?_)
          exact go
    · rw [stp_j, show c + (K - c) = K by omega] at hpr
      rw [show t.probe (fun i => (es[i]?.map (·.1)).getD 0) hv (stp_ t.mask hv c) = _ from hpr]
      dsimp only
      refine wpAny_pure (qout fun hm => ?_)
      obtain ⟨p0, hp0, k0⟩ := List.mem_map.mp hm
      obtain ⟨i0, hi0, e0⟩ := List.getElem_of_mem hp0
      have h0 : L[i0]? = some p0 := by rw [List.getElem?_eq_getElem hi0, e0]
      obtain ⟨d, d1, d2, d3⟩ := reach i0 p0 h0 k0
      refine absurd ((at_ i0 p0 h0).trans ?_) (hno (d - c) i0 (by omega) (by rw [stp_j, show c + (d - c) = d by omega]; exact d3))
      rw [k0, ehv]
theorem mix_search (R : TabM P w s.heap a L es ep t) {x : Addr} {k : List Key} (hx : IsM P w s.heap k x) (hu : A.units < cLine) {hv : Int} (ehv : hv = mH P w k) {Q : SetFound → Shared → Prop} (qin : k ∈ L.map (·.2) → Q (.there none) s)
    (qout : ∀ K, k ∉ L.map (·.2) → way t.mask hv K ∉ t.place.toList → (∀ c, c < K → way t.mask hv c ∈ t.place.toList) → Q (.free (way t.mask hv K) false) s) : wpAny (model P w) A (setSearch a (.ref x) hv true) Q E s := by
  have room := R.room
  obtain ⟨K, kf, free, busy⟩ := R.tab.first (by rw [List.length_map]; omega) hv
  have small : 10 * SetTable.turns t.mask ≤ 1420 := by
    unfold SetTable.turns
    rcases R.tab.mok with e | e | e <;> omega
  unfold setSearch
  refine mix_find R hx hu ehv kf free busy qin (fun z => qout K z free busy) 100000 0 none rfl (Nat.zero_le _) (by omega) fun i p hp hk => ?_
  have hi : (hss P w L)[i]? = some hv := by
    rw [List.getElem?_map, hp, ehv, ← hk]
    rfl
  have hil : i < t.place.toList.length := by
    rw [R.plc]
    exact (List.getElem?_eq_some_iff.mp hp).1
  obtain ⟨d, d1, d2⟩ := R.tab.before free hi (List.getElem?_eq_getElem hil)
  exact ⟨d, Nat.zero_le _, d1, by rw [List.getElem?_eq_getElem hil, d2]⟩
end
end Ev

/-! Ev5n: adding to such a set; set(a list). -/
namespace Ev
open PySem PySem.Spec PyProof.Rows L2
section
variable {P : Program} {w : World} {A : Around} {E : Value → Shared → Prop} {s : Shared}
theorem isM_but {h h' : Heap} {k : List Key} {a b : Addr} {o : Obj} {es : Array (Int × Value)} {ep : Nat} {t : SetTable} (hk : IsM P w h k b) (ho : h.get? a = some o) (hd : o.data = .set es ep t) (sb : Heap.SameBut a h h') : IsM P w h' k b := by
  obtain ⟨ob, its, n, h1, h2, h3, h4⟩ := hk
  refine ⟨ob, its, n, (sb.2 b fun e => ?_).trans h1, h2, h3, h4⟩
  rw [e, ho] at h1
  cases h1
  rw [hd] at h3
  cases h3
theorem isM_up {h h' : Heap} {k : List Key} {b : Addr} (hk : IsM P w h k b) (up : ∀ c o, h.get? c = some o → h'.get? c = some o) : IsM P w h' k b := by
  obtain ⟨ob, its, n, h1, h2⟩ := hk
  exact ⟨ob, its, n, up b ob h1, h2⟩
theorem fm_range {α : Type} (L : List α) : (List.range L.length).filterMap (fun i => L[i]?) = L := by
  have gen : ∀ (l : List α) (pre : List α), (List.range' pre.length l.length).filterMap (fun i => (pre ++ l)[i]?) = l := by
    intro l
    induction l with
    | nil => exact fun _ => rfl
    | cons x l ih =>
      intro pre
      rw [List.length_cons, List.range'_succ, List.filterMap_cons_some (b := x) (by simp)]
      have e := ih (pre ++ [x])
      rw [List.append_assoc, List.singleton_append] at e
      rw [List.length_append, List.length_singleton] at e
      rw [e]
  have e := gen L []
  rw [List.nil_append] at e
  rw [List.range_eq_range']
  exact e
theorem rws_order {L : List (Addr × List Key)} {es : Array (Int × Value)} {order : Array Nat} (hr : es.toList = rws P w L) (hp : order.toList.Perm (List.range L.length)) :
    ∃ M, (order.filterMap (es[·]?)).toList = rws P w M ∧ M.Perm L ∧ hss P w M = order.toList.map fun i => (es.map (·.1)).getD i 0 := by
  have lt : ∀ i ∈ order.toList, i < L.length := fun i hi => List.mem_range.mp (hp.mem_iff.mp hi)
  have one : ∀ i, i < L.length → ∃ p, L[i]? = some p ∧ es[i]? = some (mH P w p.2, Value.ref p.1) := fun i hi => ⟨L[i], List.getElem?_eq_getElem hi, rws_at hr (List.getElem?_eq_getElem hi)⟩
  refine ⟨order.toList.filterMap fun i => L[i]?, ?_, ?_, ?_⟩
  · rw [Array.toList_filterMap]
    revert lt
    generalize order.toList = l
    intro lt
    induction l with
    | nil => rfl
    | cons i l ih =>
      obtain ⟨p, h1, h2⟩ := one i (lt i List.mem_cons_self)
      rw [List.filterMap_cons_some h2, List.filterMap_cons_some h1, ih fun j hj => lt j (List.mem_cons_of_mem _ hj)]
      rfl
  · have e := hp.filterMap fun i => L[i]?
    rw [fm_range] at e
    exact e
  · revert lt
    generalize order.toList = l
    intro lt
    induction l with
    | nil => rfl
    | cons i l ih =>
      obtain ⟨p, h1, h2⟩ := one i (lt i List.mem_cons_self)
      rw [List.filterMap_cons_some h1, List.map_cons]
      have e5 : (es.map (·.1))[i]? = some (mH P w p.2) := by rw [Array.getElem?_map, h2]; rfl
      have e6 : (es.map (·.1)).getD i 0 = mH P w p.2 := by simp [Array.getD_eq_getD_getElem?, e5]
      rw [e6]
      exact congrArg (List.cons _) (ih fun j hj => lt j (List.mem_cons_of_mem _ hj))
variable {a : Addr} {L : List (Addr × List Key)} {es : Array (Int × Value)} {ep : Nat} {t : SetTable}
/-- all but the room in the table -/
structure TabR (P : Program) (w : World) (h : Heap) (a : Addr) (L : List (Addr × List Key)) (es : Array (Int × Value)) (ep : Nat) (t : SetTable) : Prop where
  ob : ∃ o, h.get? a = some o ∧ o.ExactSet ∧ o.data = .set es ep t
  rows : es.toList = rws P w L
  tab : TabOk t (hss P w L)
  nd : (L.map (·.2)).Nodup
  tup : ∀ p ∈ L, IsM P w h p.2 p.1
  led : w.params.followText "set-order" = true ∨ t.led = true
  few : L.length < 64
theorem mix_relay (R : TabR P w s.heap a L es ep t) (hm : L.length ≤ t.mask) {wanted M : Nat} (hw : SetTable.sizeAbove wanted - 1 = M) (hM : MaskOk M) (hw2 : SetTable.sizeAbove wanted ≤ 128) (hn : L.length * 5 < M * 3) {Q : Unit → Shared → Prop}
    (q : ∀ h1 L1 es1 ep1 t1, Heap.SameBut a s.heap h1 → TabM P w h1 a L1 es1 ep1 t1 → L1.Perm L → Q () { s with heap := h1 }) : wpAny (model P w) A (setRelay a wanted) Q E s := by
  obtain ⟨ob, hob, hex, hdt⟩ := R.ob
  have sz := rws_size R.rows
  have few := R.few
  obtain ⟨t1, order, e1, pm, T1, em, el, _, _⟩ := relaid_ok t (hs := es.map (·.1)) (wanted := wanted) hw hM (by rw [Array.size_map, sz]; omega)
  rw [Array.size_map, sz] at pm
  obtain ⟨L1, r1, r2, r3⟩ := rws_order R.rows pm
  rw [← r3] at T1
  have sz1 : (order.filterMap (es[·]?)).size = L.length := by rw [rws_size r1, r2.length_eq]
  rw [setRelay_eq]
  refine wpAny_bind (wpAny_setState_of hob hdt (fits_of R.tab sz (by omega)) ?_)
  dsimp only
  refine wp_if_neg (by rw [sizeLine_eq]; omega) ?_
  try refine wpAny_bind (wpAny_pure ?_)
  rw [e1]
  dsimp only
  refine wpAny_bind ?_
  refine wp_if_neg (by rw [sz1, sz]; simp) ?_
  try refine wpAny_bind (wpAny_pure ?_)
  refine wpAny_pure ?_
  dsimp only
  refine wpAny_storeSet_of hob hdt ?_ (by rw [sz1, sizeLine_eq]; omega)
  have sb : Heap.SameBut a s.heap (s.heap.update a (Obj.putSet (order.filterMap (es[·]?)) t1)) := Heap.SameBut.update ..
  refine q _ L1 (order.filterMap (es[·]?)) (ep + 1) t1 sb ⟨⟨_, store_at hob hdt, ⟨hex.1, hex.2.1, hex.2.2⟩, rfl⟩, r1, T1, (r2.map (·.2)).nodup_iff.mpr R.nd, fun p hp => isM_but (R.tup p (r2.mem_iff.mp hp)) hob hdt sb, by rw [el]; exact R.led, ?_, by rw [r2.length_eq]; exact few⟩ r2
  rw [r2.length_eq, em]
  exact hn
theorem tabOk_flag {t : SetTable} {hs : List Int} (T : TabOk t hs) (b : Bool) : TabOk { t with plain := b } hs := ⟨T.ris, T.dm, T.sz, T.mok, T.bd, T.reach⟩
theorem mix_add (R : TabM P w s.heap a L es ep t) {x : Addr} {k : List Key} (hx : IsM P w s.heap k x) (hu : A.units < cLine) (few : k ∉ L.map (·.2) → L.length + 1 < 64) {Q : Bool → Shared → Prop}
    (q : ∀ b h1 L1 es1 ep1 t1, Heap.SameBut a s.heap h1 → TabM P w h1 a L1 es1 ep1 t1 → (k ∈ L.map (·.2) → L1 = L) → (k ∉ L.map (·.2) → L1.Perm ((x, k) :: L)) → Q b { s with heap := h1 }) :
    wpAny (model P w) A (setAddHashed a (.ref x) (mH P w k)) Q E s := by
  obtain ⟨ob, hob, hex, hdt⟩ := R.ob
  have sz := rws_size R.rows
  have room := R.room
  unfold setAddHashed
  refine wpAny_holding ?_
  rw [show (100000 : Nat) = 99999 + 1 from rfl, setAddHashedIn_succ]
  refine wpAny_bind (wpAny_setState_of hob hdt R.fits ?_)
  dsimp only
  refine wp_if_neg (by simp [byScan, Value.scannable]) ?_
  try refine wpAny_bind (wpAny_pure ?_)
  refine wpAny_bind (mix_search R hx hu rfl (fun hm => ?_) fun K hm free busy => ?_)
  · dsimp only
    exact wpAny_pure (q false s.heap L es ep t (Heap.SameBut.refl a s.heap) R (fun _ => rfl) fun z => absurd hm z)
  dsimp only
  refine wpAny_bind (wpAny_setState_of hob hdt R.fits ?_)
  dsimp only
  have few1 := few hm
  obtain ⟨p1, p2, p3, p4, p5, p6, p7, p8, p9⟩ := R.tab.put free busy
  have hput : t.put (way t.mask (mH P w k) K) = ((t.put (way t.mask (mH P w k) K)).1, SetTable.below t.place (way t.mask (mH P w k) K)) := by rw [← p1]
  rw [hput]
  dsimp only
  generalize (t.put (way t.mask (mH P w k) K)).1 = t1 at p3 p4 p5 p9
  have hrow : (SetTable.insertAt es (SetTable.below t.place (way t.mask (mH P w k) K)) (mH P w k, Value.ref x)).toList = rws P w (L.take (SetTable.below t.place (way t.mask (mH P w k) K)) ++ (x, k) :: L.drop (SetTable.below t.place (way t.mask (mH P w k) K))) := by
    rw [SetTable.toList_insertAt, R.rows]
    unfold rws
    rw [List.map_append, List.map_cons, List.map_take, List.map_drop]
  generalize hpos : SetTable.below t.place (way t.mask (mH P w k) K) = pos at p2 p3 hrow
  have hhs : (hss P w L).take pos ++ mH P w k :: (hss P w L).drop pos = hss P w (L.take pos ++ (x, k) :: L.drop pos) := by
    show _ = List.map _ _
    rw [List.map_append, List.map_cons, List.map_take, List.map_drop]
  rw [hhs] at p3
  have pm : (L.take pos ++ (x, k) :: L.drop pos).Perm ((x, k) :: L) := put_perm L pos (x, k)
  generalize SetTable.insertAt es pos (mH P w k, Value.ref x) = es1 at hrow
  generalize L.take pos ++ (x, k) :: L.drop pos = L1 at p3 hrow pm
  have len1 : L1.length = L.length + 1 := pm.length_eq
  have sz1 := rws_size hrow
  have nd1 : (L1.map (·.2)).Nodup := by
    refine (pm.map (·.2)).nodup_iff.mpr ?_
    rw [List.map_cons]
    exact List.nodup_cons.mpr ⟨hm, R.nd⟩
  rw [List.length_map] at p9
  have fin : ∀ t2 : SetTable, TabOk t2 (hss P w L1) → t2.mask = t.mask → t2.led = t.led → t2.fill = L.length + 1 → wpAny (model P w) A (do
      storeSet a es1 t2
      if (!false && t2.tooFull) = true then do
        setRelay a (SetTable.grown (es.size + 1))
        pure true
      else pure true) Q E s := by
    intro t2 T2 m2 l2 f2
    refine wpAny_bind (wpAny_storeSet_of hob hdt ?_ (by rw [sz1, len1, sizeLine_eq]; omega))
    have sb : Heap.SameBut a s.heap (s.heap.update a (Obj.putSet es1 t2)) := Heap.SameBut.update ..
    have at2 := store_at (es' := es1) (t' := t2) hob hdt
    generalize s.heap.update a (Obj.putSet es1 t2) = h2 at sb at2 ⊢
    have tup2 : ∀ p ∈ L1, IsM P w h2 p.2 p.1 := fun p hp => by
      rcases List.mem_cons.mp (pm.mem_iff.mp hp) with e | hp
      · rw [e]; exact isM_but hx hob hdt sb
      · exact isM_but (R.tup p hp) hob hdt sb
    have led2 : w.params.followText "set-order" = true ∨ t2.led = true := by rw [l2]; exact R.led
    have ob2 : ∃ o, h2.get? a = some o ∧ o.ExactSet ∧ o.data = .set es1 (ep + 1) t2 := ⟨_, at2, ⟨hex.1, hex.2.1, hex.2.2⟩, rfl⟩
    by_cases full : t2.tooFull = true
    · have big : t2.mask * 3 ≤ (L.length + 1) * 5 := by
        have z := full
        unfold SetTable.tooFull at z
        rw [decide_eq_true_eq, f2] at z
        exact z
      rw [m2] at big
      refine wp_if_pos (by simp [full]) (wpAny_bind ?_)
      rw [sz]
      have two : (t.mask = 7 ∧ L.length = 4) ∨ (t.mask = 31 ∧ L.length = 18) := by
        rcases R.tab.mok with e | e | e <;> rw [e] at big room
        · exact .inl ⟨e, by omega⟩
        · exact .inr ⟨e, by omega⟩
        · omega
      have go : ∀ M, SetTable.sizeAbove (SetTable.grown (L.length + 1)) - 1 = M → MaskOk M → SetTable.sizeAbove (SetTable.grown (L.length + 1)) ≤ 128 → (L.length + 1) * 5 < M * 3 →
          wpAny (model P w) A (setRelay a (SetTable.grown (L.length + 1))) (fun _ s1 => wpAny (model P w) A (pure true) Q E s1) E { s with heap := h2 } := fun M g1 g2 g3 g4 => by
        refine mix_relay (s := { s with heap := h2 }) ⟨ob2, hrow, T2, nd1, tup2, led2, by omega⟩ (by rw [len1, m2]; rcases two with ⟨e, e2⟩ | ⟨e, e2⟩ <;> omega) g1 g2 g3 (by rw [len1]; exact g4) ?_
        intro h3 L3 es3 ep3 t3 sb3 R3 pm3
        exact wpAny_pure (q true h3 L3 es3 ep3 t3 (sb.trans sb3) R3 (fun z => absurd z hm) fun _ => pm3.trans pm)
      rcases two with ⟨_, e2⟩ | ⟨_, e2⟩
      · exact go 31 (by rw [e2, size_20]) (.inr (.inl rfl)) (by rw [e2, size_20]; decide) (by omega)
      · exact go 127 (by rw [e2, size_76]) (.inr (.inr rfl)) (by rw [e2, size_76]; decide) (by omega)
    · have some_ : (L.length + 1) * 5 < t2.mask * 3 := by
        have z := full
        unfold SetTable.tooFull at z
        rw [decide_eq_true_eq, f2] at z
        omega
      refine wp_if_neg (by simp [full]) (wpAny_pure (q true h2 L1 es1 (ep + 1) t2 sb ⟨ob2, hrow, T2, nd1, tup2, led2, by rw [len1]; exact some_, by omega⟩ (fun z => absurd z hm) fun _ => pm))
  by_cases pl : t1.plain = true
  · refine wp_if_pos pl (wpAny_bind (mix_byval hx fun r => ?_))
    cases r with
    | true => exact fin t1 p3 p4 p5 p9
    | false => exact fin { t1 with plain := false } (tabOk_flag p3 false) p4 p5 p9
  · refine wp_if_neg pl (wpAny_bind (wpAny_pure ?_))
    exact fin t1 p3 p4 p5 p9
end
end Ev

/-! Ev5o: set(a list of such tuples). -/
namespace Ev
open PySem PySem.Spec PyProof.Rows L2
/-- L: what the first i items have left in the set -/
structure Has (ks : List (Addr × List Key)) (i : Nat) (L : List (Addr × List Key)) : Prop where
  sub : ∀ p ∈ L, p ∈ ks.take i
  all : ∀ p ∈ ks.take i, p.2 ∈ L.map (·.2)
def FewM (ks : List (Addr × List Key)) : Prop := ∀ l : List (List Key), l.Nodup → (∀ x ∈ l, x ∈ ks.map (·.2)) → l.length < 64
theorem Has.step {ks L M : List (Addr × List Key)} {i : Nat} {x : Addr × List Key} (g : Has ks i L) (h : ks[i]? = some x) (h1 : x.2 ∈ L.map (·.2) → M = L) (h2 : x.2 ∉ L.map (·.2) → M.Perm (x :: L)) : Has ks (i + 1) M := by
  have e : ks.take (i + 1) = ks.take i ++ [x] := by
    rw [List.take_succ, h]
    rfl
  have memE : ∀ p, p ∈ ks.take (i + 1) ↔ p ∈ ks.take i ∨ p = x := fun p => by rw [e, List.mem_append, List.mem_singleton]
  by_cases q : x.2 ∈ L.map (·.2)
  · rw [h1 q]
    refine ⟨fun p hp => (memE p).mpr (.inl (g.sub p hp)), fun p hp => ?_⟩
    rcases (memE p).mp hp with hp | rfl
    · exact g.all p hp
    · exact q
  · have pm := h2 q
    refine ⟨fun p hp => (memE p).mpr ?_, fun p hp => (pm.map (·.2)).mem_iff.mpr ?_⟩
    · rcases List.mem_cons.mp (pm.mem_iff.mp hp) with rfl | hp
      · exact .inr rfl
      · exact .inl (g.sub p hp)
    · rw [List.map_cons]
      rcases (memE p).mp hp with hp | rfl
      · exact List.mem_cons_of_mem _ (g.all p hp)
      · exact List.mem_cons_self
section
variable {P : Program} {w : World} {A : Around} {E : Value → Shared → Prop} {s : Shared}
theorem TabM.up {h h' : Heap} {a : Addr} {L : List (Addr × List Key)} {es : Array (Int × Value)} {ep : Nat} {t : SetTable} (R : TabM P w h a L es ep t) (ha : ∀ o, h.get? a = some o → h'.get? a = some o) (ht : ∀ p ∈ L, IsM P w h' p.2 p.1) : TabM P w h' a L es ep t := by
  obtain ⟨o, ho, r⟩ := R.ob
  exact ⟨⟨o, ha o ho, r⟩, R.rows, R.tab, R.nd, ht, R.led, R.room, R.few⟩
theorem tabM_new {h : Heap} {a : Addr} (ho : h.get? a = some (set0 w)) : TabM P w h a [] #[] 0 (.fresh 0 0 (!w.params.followText "set-order")) where
  ob := ⟨_, ho, ⟨rfl, rfl, rfl⟩, rfl⟩
  rows := rfl
  tab := ⟨List.Pairwise.nil, rfl, rfl, .inl rfl, fun x hx => (by cases hx), fun i h j hi => (by simp at hi)⟩
  nd := List.nodup_nil
  tup := fun p hp => (by cases hp)
  led := by
    show _ ∨ (!w.params.followText "set-order") = true
    cases w.params.followText "set-order"
    · exact .inr rfl
    · exact .inl rfl
  room := by
    show 0 * 5 < 7 * 3
    decide
  few := by
    show 0 < 64
    decide
theorem mix_loop {I : Addr} {fp wr : List Addr} {G : Array GenState → Array GenState → Prop} {n : Nat} {Pv : Nat → Value → Prop} {St : Nat → Shared → Prop} {R : Result → Shared → Prop} (W : WalksS P w A.in1 I fp wr G n Pv St) (S : Addr) (nS : S ∉ fp)
    (ks : List (Addr × List Key)) (hn : n = ks.length) (few : FewM ks) (val : ∀ i v, Pv i v → ∃ p, ks[i]? = some p ∧ v = .ref p.1) (h0 : Heap) (hk : ∀ p ∈ ks, IsM P w h0 p.2 p.1) (hS0 : h0.get? S = none) (hw0 : ∀ b ∈ wr, h0.get? b = none) (hu : A.in1.units < cLine) :
    ∀ (k i : Nat) (s : Shared), n - i = k → i ≤ n → St i s → (∀ b o, h0.get? b = some o → s.heap.get? b = some o) → (∃ L es ep t, TabM P w s.heap S L es ep t ∧ Has ks i L) →
      (∀ s' L es ep t, Moved (S :: wr) G s s' → TabM P w s'.heap S L es ep t → Has ks n L → (∀ b o, h0.get? b = some o → s'.heap.get? b = some o) → R (.ok (.ret .none)) s') →
      codeAny (model P w) A (.builtin "set.update.loop" ⟨[.ref S, .ref I], []⟩) R s := by
  have nSw : S ∉ wr := fun z => nS (W.sub _ z)
  have wr' : ∀ b ∈ wr, b ∈ S :: wr := fun b hb => List.mem_cons_of_mem _ hb
  have upM : ∀ {s1 s2 : Shared}, Moved wr G s1 s2 → (∀ b o, h0.get? b = some o → s1.heap.get? b = some o) → ∀ b o, h0.get? b = some o → s2.heap.get? b = some o := fun m u b o e =>
    m.heap b o (fun hb => by rw [hw0 b hb] at e; cases e) (u b o e)
  intro k
  induction k with
  | zero =>
    intro i s ek hi hst up ⟨L, es, ep, t, hT, g⟩ hR
    obtain rfl : i = n := by omega
    refine codeAny_builtin F.entry_set_update_loop ?_
    rw [Around.under_plainId F.plain_set_update_loop _]
    show wpAny _ A.in1 (pyNext (.ref I) >>= _) _ _ s
    refine wpAny_bind (W.done s _ _ hst fun s1 m => ?_)
    show wpAny _ A.in1 (ret Value.none) _ _ s1
    have up1 := upM m up
    exact wpAny_pure (hR s1 L es ep t (m.mono wr') (hT.up (fun o e => m.heap S o nSw e) fun p hp => isM_up (hk p (List.mem_of_mem_take (g.sub p hp))) up1) g up1)
  | succ k ih =>
    intro i s ek hi hst up ⟨L, es, ep, t, hT, g⟩ hR
    have lt : i < n := by omega
    refine codeAny_builtin F.entry_set_update_loop ?_
    rw [Around.under_plainId F.plain_set_update_loop _]
    show wpAny _ A.in1 (pyNext (.ref I) >>= _) _ _ s
    refine wpAny_bind (W.item i s _ _ lt hst fun v s1 hP hst1 m => ?_)
    obtain ⟨p, hp, rfl⟩ := val i v hP
    have up1 := upM m up
    have inks : ∀ q ∈ L, q ∈ ks := fun q hq => List.mem_of_mem_take (g.sub q hq)
    have pin : p ∈ ks := List.mem_of_getElem? hp
    have T1 : TabM P w s1.heap S L es ep t := hT.up (fun o e => m.heap S o nSw e) fun q hq => isM_up (hk q (inks q hq)) up1
    have x1 : IsM P w s1.heap p.2 p.1 := isM_up (hk p pin) up1
    show wpAny _ A.in1 (holding [Value.ref p.1] (setAdd S (.ref p.1)) >>= _) _ _ s1
    refine wpAny_bind (wpAny_holding ?_)
    unfold setAdd
    refine wpAny_holding ?_
    refine wpAny_bind (wpAny_pyHash_tuple hu x1 ?_)
    refine mix_add (s := { s1 with toks := s1.toks + (p.2.length + 1) }) T1 x1 hu (fun hm => ?_) fun b h2 L2 es2 ep2 t2 sb T2 c1 c2 => ?_
    · have := few (p.2 :: L.map (·.2)) (List.nodup_cons.mpr ⟨hm, hT.nd⟩) fun y hy => by
        rcases List.mem_cons.mp hy with rfl | hy
        · exact List.mem_map_of_mem pin
        · obtain ⟨q, hq, rfl⟩ := List.mem_map.mp hy
          exact List.mem_map_of_mem (inks q hq)
      simpa using this
    have g2 : Has ks (i + 1) L2 := g.step hp c1 c2
    have up2 : ∀ b o, h0.get? b = some o → h2.get? b = some o := fun b o e => (sb.2 b (fun z => by rw [z, hS0] at e; cases e)).trans (up1 b o e)
    refine wpAny_pure ⟨plainId_quiet F.plain_set_update_loop _, ih (i + 1) _ (by omega) lt (W.frame _ s1 _ _ hst1 (Nat.le_add_right _ _) fun b hb o e => ?_) up2 ⟨L2, es2, ep2, t2, T2, g2⟩ fun s3 L3 es3 ep3 t3 m3 T3 g3 up3 => ?_⟩
    · rw [sb.2 b (fun z : b = S => nS (by rw [← z]; exact hb))]; exact e
    · refine hR s3 L3 es3 ep3 t3 (Moved.trans W.gtrans ((m.mono wr').then_heap (Nat.le_add_right _ _) fun b o hb e => ?_) m3) T3 g3 up3
      rw [sb.2 b (fun z : b = S => hb (by rw [z]; exact List.mem_cons_self))]; exact e
theorem set_of_mix {l : Addr} {its : Array Value} (ks : List (Addr × List Key)) {Q : Value → Shared → Prop} (hh : A.handled = none) (hl : s.heap.IsList l its) (hit : its.toList = ks.map fun p => Value.ref p.1) (hk : ∀ p ∈ ks, IsM P w s.heap p.2 p.1) (few : FewM ks) (hu : A.units + 3 < cLine)
    (k : ∀ (g : Heap) (tk : Nat) L es ep t, TabM P w g s.heap.objs.size L es ep t → Has ks ks.length L → (∀ b o, s.heap.get? b = some o → g.get? b = some o) → Q (.ref s.heap.objs.size) { s with heap := g, toks := tk }) :
    wpAny (model P w) A (call (.type "set") [.ref l]) Q E s := by
  have hsz : its.size = ks.length := by
    rw [← Array.length_toList, hit, List.length_map]
  obtain ⟨c, tl, hmro⟩ := PySem.F.called_set.mro
  have f1 := PySem.F.called_set.made
  have f2 := PySem.F.called_set.sub
  refine wpAny_call (codeAny_of_tree ?_)
  show wpAny _ _ (callAny (.type "set") _) _ _ _
  refine wpAny_pure ⟨Code.quiet_builtin _ (by decide +kernel), codeAny_builtin PySem.F.entry_type_call ?_⟩
  rw [Around.under_plain (weight_type_call_type "set" [.ref l] []) rfl]
  have f3 := PySem.F.called_set.notType
  have f4 := PySem.F.called_set.canCreate
  have f5 := PySem.F.typeCall_set_1 (.ref l)
  repeat (any_goals (first | assumption | wp_step))
  refine codeAny_mono (code_set_led1 (.ref l) (E := E) (Q₁ := fun ob sa => ob = .ref s.heap.objs.size ∧ sa = { s with heap := s.heap.push (set0 w) }) ⟨rfl, rfl⟩) fun r sa hr => ?_
  cases r with
  | error e => exact hr
  | ok fl =>
    cases fl with
    | ret ob =>
      obtain ⟨rfl, rfl⟩ := hr
      have eS : (s.heap.push (set0 w)).get? s.heap.objs.size = some (set0 w) := Heap.get?_push_size _ rfl
      have eT : Shared.TypeIs { s with heap := s.heap.push (set0 w) } (.ref s.heap.objs.size) "set" := ⟨_, eS, rfl⟩
      have e1 := PySem.F.called_set.init.lookup
      have e2 := PySem.F.called_set.init.bind (.ref s.heap.objs.size)
      repeat (any_goals (first | assumption | wp_step))
      refine codeAny_mono (codeAny_call_builtin (R := wants (fun r sb => r = .none ∧ ∃ g tk L es ep t, sb = { s with heap := g, toks := tk } ∧ TabM P w g s.heap.objs.size L es ep t ∧ Has ks ks.length L ∧
          (∀ b o, s.heap.get? b = some o → g.get? b = some o)) E) PySem.F.called_set.init.plain PySem.F.entry_set_init (check_set_init_1 eT ?_)) fun r2 sb hr2 => ?_
      · obtain ⟨ol, hol, hcl, nl, hdl⟩ := hl
        obtain ⟨oc, od, odata, oslots⟩ := ol
        simp only at hcl hdl
        subst hcl hdl
        have hol' : (s.heap.push (set0 w)).get? l = some { cls := .type "list", dict := od, data := .seq its nl, slots := oslots } := Heap.get?_push_of_some _ hol
        have q1 := PySem.F.sub_list_set
        have q2 := PySem.F.sub_list_frozenset
        have q3 : (Value.type "list" == Value.type "dict") = false := by decide
        have hl1 : (s.heap.push (set0 w)).IsList l its := ⟨_, hol', rfl, nl, rfl⟩
        unfold Builtin.«set.__init__» noKeywords Builtin.Frozenset.updateFrom
        generalize hPI : pyIter = PI
        wp_walk
        subst hPI
        refine wpAny_pyIter_list hl1 ?_
        refine wpAny_bind (wpAny_runValue ?_)
        have lS : l < s.heap.objs.size := Heap.lt_size hol
        have h3 : A.in1.in1.in1.handled = none := by simp [hh]
        have sz : (s.heap.push (set0 w)).objs.size = s.heap.objs.size + 1 := Heap.size_push ..
        have nI : l ≠ (s.heap.push (set0 w)).objs.size := by
          rw [sz]; exact Nat.ne_of_lt (Nat.lt_succ_of_lt lS)
        have nS : s.heap.objs.size ∉ [(s.heap.push (set0 w)).objs.size, l] := by
          rw [sz]
          intro z
          rcases List.mem_cons.mp z with z | z
          · exact Nat.ne_of_lt (Nat.lt_succ_self _) z
          · rcases List.mem_cons.mp z with z | z
            · exact Nat.ne_of_gt lS z
            · cases z
        have hval : ∀ (i : Nat) (v : Value), its[i]? = some v → ∃ p, ks[i]? = some p ∧ v = .ref p.1 := fun i v hv => by
          have e : its.toList[i]? = some v := by rw [Array.getElem?_toList]; exact hv
          rw [hit, List.getElem?_map] at e
          cases hq : ks[i]? with
          | none => rw [hq] at e; cases e
          | some p => rw [hq] at e; exact ⟨p, rfl, (Option.some.inj e).symm⟩
        have fresh : ∀ b, s.heap.objs.size ≤ b → s.heap.get? b = none := fun b hb => by
          cases e : s.heap.get? b with
          | none => rfl
          | some o => exact absurd (Nat.lt_of_lt_of_le (Heap.lt_size e) hb) (Nat.lt_irrefl _)
        refine mix_loop ((Walks.list h3 _ l nI its).toS) s.heap.objs.size nS ks hsz few hval s.heap hk (fresh _ (Nat.le_refl _)) (fun b hb => fresh b (by rw [List.mem_singleton.mp hb, sz]; exact Nat.le_succ _)) hu (its.size - 0) 0 _ (by omega) (Nat.zero_le _) ⟨⟨_, Heap.get?_push_size _ rfl, rfl, rfl⟩, (hl1.push _)⟩
          (fun b o e => Heap.get?_push_of_some _ (Heap.get?_push_of_some _ e)) ?h0 ?hR
        case h0 => exact ⟨[], #[], 0, _, tabM_new (Heap.get?_push_of_some _ eS), ⟨fun p hp => (nomatch hp), fun p hp => by simp at hp⟩⟩
        case hR =>
          intro sc L es ep t m T g up
          obtain ⟨gg, g2, d', tk', os'⟩ := sc
          have eg : g2 = s.gens := m.gens
          have ed : d' = s.drawn := m.drawn
          have eo : os' = s.os := m.os
          subst eg ed eo
          show wpAny _ _ _ _ _ _
          refine wpAny_pure ?_
          show wpAny _ _ (ret Value.none) _ _ _
          rw [hsz] at g
          exact wpAny_pure ⟨rfl, gg, tk', L, es, ep, t, rfl, T, g, up⟩
      · cases r2 with
        | error e => exact hr2
        | ok fl2 =>
          cases fl2 with
          | ret r =>
            obtain ⟨rfl, g, tk, L, es, ep, t, rfl, z1, z2, z3⟩ := hr2
            repeat (any_goals (first | assumption | wp_step))
            exact k _ _ _ _ _ _ z1 z2 z3
          | _ => exact hr2.elim
    | _ => exact hr.elim
end
end Ev

/-! Ev5p: sorted(set(xs)), xs a list of ints, or of tuples of ints and texts. -/
namespace Ev
open PySem PySem.Spec PyProof.Rows L2
/-! ### the order of such tuples -/
def encK : Key → D
  | .inl i => .int i
  | .inr x => .str x
def encM (k : List Key) : D := .tuple (k.map encK)
def tokK : Key → Int ⊕ List Nat
  | .inl i => .inl i
  | .inr x => .inr x.cps.toList
def toksM (k : List Key) : List (Int ⊕ List Nat) := PySem.W.keyToks (encM k)
theorem toksM_nil : toksM [] = [.inl 0] := by simp [toksM, encM, PySem.W.keyToks, PySem.W.keyToksAll]
theorem toksM_cons (a : Key) (k : List Key) : toksM (a :: k) = .inl 1 :: tokK a :: toksM k := by
  cases a <;> simp [toksM, encM, encK, tokK, PySem.W.keyToks, PySem.W.keyToksAll]
theorem tokK_inj {a b : Key} (h : tokK a = tokK b) : a = b := by
  cases a <;> cases b <;> simp [tokK] at h ⊢
  · exact h
  · exact PySem.W.str_of_cps (by rw [h])
theorem toksM_inj : ∀ {x y : List Key}, toksM x = toksM y → x = y
  | [], [], _ => rfl
  | [], b :: y, h => by rw [toksM_nil, toksM_cons] at h; injection h with h _; cases h
  | a :: x, [], h => by rw [toksM_nil, toksM_cons] at h; injection h with h _; cases h
  | a :: x, b :: y, h => by
    rw [toksM_cons, toksM_cons] at h
    injection h with _ h
    injection h with h1 h2
    rw [tokK_inj h1, toksM_inj h2]
abbrev ordT : KeyOrd := listOrd itemOrd
def ltM (x y : List Key) : Bool := ordT.blt (toksM x) (toksM y)
theorem linM : Lin ltM := ⟨fun x => ordT.irrefl _, fun x y z => ordT.trans _ _ _, fun x y h1 h2 => toksM_inj (ordT.total _ _ h1 h2)⟩
abbrev uniqM (L : List (List Key)) : List (List Key) := uniq ltM L
/-- what can be sorted -/
def SrtM (L : List (List Key)) : Prop := PySem.W.AllAlike (L.map encM) ∧ ∀ k ∈ L, k ≠ []
theorem SrtM.sub {L M : List (List Key)} (h : SrtM L) (hs : ∀ k ∈ M, k ∈ L) : SrtM M := by
  refine ⟨fun d hd e he => ?_, fun k hk => h.2 k (hs k hk)⟩
  obtain ⟨x, hx, rfl⟩ := List.mem_map.mp hd
  obtain ⟨y, hy, rfl⟩ := List.mem_map.mp he
  exact h.1 _ (List.mem_map_of_mem (hs x hx)) _ (List.mem_map_of_mem (hs y hy))
theorem SrtM.ok {L : List (List Key)} (h : SrtM L) : PySem.W.Sortable (L.map encM) := by
  refine .inl fun d hd => ?_
  obtain ⟨k, hk, rfl⟩ := List.mem_map.mp hd
  cases k with
  | nil => exact absurd rfl (h.2 _ hk)
  | cons a k => exact ⟨_, _, rfl⟩
theorem encM_depth (k : List Key) : (encM k).depth ≤ 1 := by
  have : ∀ k : List Key, PyData.depthAll (k.map encK) = 0 := by
    intro k
    induction k with
    | nil => simp [PyData.depthAll]
    | cons a k ih => cases a <;> simp [PyData.depthAll, PyData.depth, encK, ih]
  simp [encM, PyData.depth, this]
section
variable {P : Program} {w : World} {A : Around} {E : Value → Shared → Prop} {s : Shared}
theorem reads_items {h : Heap} {k : List Key} {vs : List Value} (hi : ItemsAre (mixKind P w) k vs) : ReadsAll h vs (k.map encK) [] := by
  induction hi with
  | nil => exact .nil
  | @cons k0 v0 ks us h1 _ ih =>
    rcases keyIs_shape h1 with ⟨i, t, rfl, rfl⟩ | ⟨x, t, rfl, rfl⟩
    · exact .cons (as := []) (.int i t) ih
    · exact .cons (as := []) (.str x t) ih
theorem reads_isM {h : Heap} {k : List Key} {a : Addr} (hk : IsM P w h k a) : Reads h (.ref a) (encM k) [] := by
  obtain ⟨o, its, n, h1, h2, h3, h4⟩ := hk
  exact .tuple h1 h2 h3 (reads_items h4)
theorem each_refs {R : Value → Addr × List Key → Prop} : ∀ (L : List (Addr × List Key)), (∀ p ∈ L, R (.ref p.1) p) → PySem.W.EachIs R (L.map fun p => Value.ref p.1) L
  | [], _ => .nil
  | p :: L, h => .cons (h p List.mem_cons_self) (each_refs L fun q hq => h q (List.mem_cons_of_mem _ hq))
theorem refs_each : ∀ {out : List Value} {L : List (Addr × List Key)}, PySem.W.EachIs (fun v p => v = Value.ref p.1) out L → out = L.map fun p => Value.ref p.1
  | _, _, .nil => rfl
  | _, _, .cons h t => by rw [h, refs_each t]; rfl
theorem refs_of {L : List (Addr × List Key)} : ∀ {vs : List Value}, (∀ v ∈ vs, ∃ p ∈ L, v = Value.ref p.1) → ∃ M : List (Addr × List Key), vs = M.map (fun p => Value.ref p.1) ∧ ∀ p ∈ M, p ∈ L
  | [], _ => ⟨[], rfl, fun _ h => nomatch h⟩
  | v :: vs, h => by
    obtain ⟨p, hp, rfl⟩ := h v List.mem_cons_self
    obtain ⟨M, rfl, hM⟩ := refs_of (vs := vs) fun u hu => h u (List.mem_cons_of_mem _ hu)
    refine ⟨p :: M, rfl, fun q hq => ?_⟩
    rcases List.mem_cons.mp hq with rfl | hq
    · exact hp
    · exact hM q hq
open PySem.W in
theorem sorted_mix {a : Addr} {L : List (Addr × List Key)} {es : Array (Int × Value)} {ep : Nat} {t : SetTable} {Q : Value → Shared → Prop} (R : TabM P w s.heap a L es ep t) (hh : A.handled = none) (ho : SrtM (L.map (·.2))) (hu : A.units + 8 < cLine)
    (hQ : ∀ s1 p (out : Array Value) (c : Nat) (M : List (Addr × List Key)), (∀ b o, s.heap.get? b = some o → s1.heap.get? b = some o) → s1.gens = s.gens → s1.os = s.os → s.heap.objs.size ≤ p → s1.heap.get? p = some (seqObj "list" out c) → out.toList = M.map (fun q => Value.ref q.1) → M.Perm L →
      M.Pairwise (fun q r => ltM r.2 q.2 = false) → Q (.ref p) s1) : wpAny (model P w) A (call (.builtin "sorted") [.ref a]) Q E s := by
  obtain ⟨ob, hob, hex, hdt⟩ := R.ob
  have sz := rws_size R.rows
  have few := R.few
  refine PyProof.Rows.call_function_entry_kw kind_sorted plain_sorted entry_sorted (args_sorted1 _) ?_
  unfold Builtin.«sorted»
  refine wpAny_bind (m := checkCount "sorted" 1 1 _) (wpAny_pure ?_)
  refine wpAny_bind (collect_set (A := A.in1) hh ⟨ob, hob, hex.1, hdt⟩ R.fits (by unfold scanBound; omega) R.tab.ris R.led fun s1 vs up hz g1 o1 pm => ?_)
  have hes : es.toList.map (·.2) = L.map fun q => Value.ref q.1 := by
    rw [R.rows]
    unfold rws
    rw [List.map_map]
    rfl
  rw [hes] at pm
  obtain ⟨M, rfl, hM⟩ := refs_of (L := L) (vs := vs) fun v hv => by
    obtain ⟨p, hp, e⟩ := List.mem_map.mp (pm.mem_iff.mp hv)
    exact ⟨p, hp, e.symm⟩
  have one : ∀ q ∈ L, ∀ r ∈ L, q.1 = r.1 → q = r := fun q hq r hr e => by
    have x1 := R.tup q hq
    have x2 := R.tup r hr
    rw [e] at x1
    exact Prod.ext e (x1.inj x2)
  have pmM : M.Perm L := by
    have nL : L.Nodup := nodup_of_map R.nd
    have nR : (L.map fun q => Value.ref q.1).Nodup := by
      refine List.pairwise_map.mpr (nL.imp_of_mem fun {q r} hq hr hne e => ?_)
      injection e with e
      exact hne (one q hq r hr e)
    have nM : M.Nodup := nodup_of_map (pm.nodup_iff.mpr nR)
    refine (List.perm_ext_iff_of_nodup nM nL).mpr fun q => ⟨hM q, fun hq => ?_⟩
    obtain ⟨r, hr, e⟩ := List.mem_map.mp (pm.mem_iff.mpr (List.mem_map.mpr ⟨q, hq, rfl⟩))
    injection e with e
    rw [← one r (hM r hr) q hq e]
    exact hr
  have lenM : M.length = L.length := pmM.length_eq
  refine wpAny_bind (wpAny_newList ?_ (by rw [List.length_map, sizeLine_eq]; omega))
  have hoL : (s1.heap.push (seqObj "list" (M.map fun q => Value.ref q.1).toArray 0)).get? s1.heap.objs.size = some (seqObj "list" (M.map fun q => Value.ref q.1).toArray 0) := Heap.get?_push_size _ rfl
  generalize hvs : (M.map fun q => Value.ref q.1) = vs at hoL pm
  have hlv : vs.length = L.length := by rw [← hvs, List.length_map, lenM]
  have upS : ∀ b o, s.heap.get? b = some o → (sortingHeap (s1.heap.push (seqObj "list" vs.toArray 0)) s1.heap.objs.size vs).get? b = some o := fun b o e =>
    sortingHeap_old (Nat.ne_of_lt (Nat.lt_of_lt_of_le (Heap.lt_size e) hz)) (Heap.get?_push_of_some _ (up b o e))
  have sub : ∀ k ∈ M.map (·.2), k ∈ L.map (·.2) := fun k hk => by
    obtain ⟨q, hq, rfl⟩ := List.mem_map.mp hk
    exact List.mem_map_of_mem (hM q hq)
  have hoM := ho.sub sub
  have eM : M.map (fun q => encM q.2) = (M.map (·.2)).map encM := by rw [List.map_map]; rfl
  have er : EachIs (fun v (q : Addr × List Key) => ∃ as, Reads (sortingHeap (s1.heap.push (seqObj "list" vs.toArray 0)) s1.heap.objs.size vs) v (encM q.2) as) vs M := by
    rw [← hvs]
    exact each_refs M fun q hq => ⟨[], by rw [hvs]; exact reads_isM (isM_up (R.tup q (hM q hq)) upS)⟩
  have e0 : EachIs (fun v (q : Addr × List Key) => v = Value.ref q.1) vs M := by
    rw [← hvs]
    exact each_refs M fun q _ => rfl
  have hal : AllAlike (M.map fun q => encM q.2) := by rw [eM]; exact hoM.1
  have S := SortsAt.data (prog := P) (w := w) (A := A.in1.in1) (s := { s1 with heap := sortingHeap (s1.heap.push (seqObj "list" vs.toArray 0)) s1.heap.objs.size vs }) (each_map (R := fun v d => ∃ as, Reads (sortingHeap (s1.heap.push (seqObj "list" vs.toArray 0)) s1.heap.objs.size vs) v d as) (fun q : Addr × List Key => encM q.2) er) hal (by rw [eM]; exact hoM.ok) (fun d hd => by
    obtain ⟨q, hq, rfl⟩ := List.mem_map.mp hd
    have := encM_depth q.2
    have e2 : A.in1.in1.units ≤ A.units + 2 := by simp
    omega)
  refine wpAny_bind (wpAny_holding (PyProof.Rows.wpAny_call_entry_kw slot_list_sort ⟨_, hoL, rfl⟩ entry_list_sort ?body (args_list_sort _)))
  case body =>
    refine wpAny_mono (list_sort_vals (s := { s1 with heap := s1.heap.push (seqObj "list" vs.toArray 0) }) (P := fun f s2 => f = .done (.ret .none) ∧ Q (.ref s1.heap.objs.size) s2) hoL S (by rw [hlv, sizeLine_eq]; omega) ⟨rfl, ?_⟩) (fun f s2 hf => ?_) fun _ _ e => e
    · have eo := sortVals_data (R := fun v (q : Addr × List Key) => v = Value.ref q.1) false e0 er hal
      generalize sortVals _ false vs vs = out at eo
      obtain ⟨c, hc⟩ := sortedHeap_at (out := out.toArray) hoL
      have pmS : (M.mergeSort (dataLe false fun q => encM q.2)).Perm M := List.mergeSort_perm _ _
      refine hQ _ s1.heap.objs.size out.toArray c (M.mergeSort (dataLe false fun q => encM q.2)) (fun b u e => ?_) g1 o1 hz hc (by simpa using refs_each eo) (pmS.trans pmM) ?_
      · have e1 := up b u e
        have lt := Heap.lt_size e1
        show (sortedHeap (s1.heap.push (seqObj "list" vs.toArray 0)) s1.heap.objs.size vs out.toArray).get? b = some u
        rw [sortedHeap_old (Nat.ne_of_lt lt) (by rw [PyProof.Rows.size_push']; exact Nat.lt_succ_of_lt lt)]
        exact Heap.get?_push_of_some _ e1
      · have T := sortLe_total ordT false fun q : Addr × List Key => toksM q.2
        refine (List.pairwise_mergeSort (le := dataLe false fun q : Addr × List Key => encM q.2) (fun a b c => T.trans a b c) (fun a b => ?_) M).imp fun {q r} z => ?_
        · rw [Bool.or_eq_true]; exact T.total a b
        · have z' : (!ltM r.2 q.2) = true := z
          simpa using z'
    · obtain ⟨rfl, hq⟩ := hf
      exact ⟨_, rfl, wpAny_pure ⟨_, rfl, hq⟩⟩
end
/-! ### the rules -/
/-- the set at a, without the tuples themselves -/
structure TabX (P : Program) (w : World) (h : Heap) (a : Addr) (L : List (Addr × List Key)) : Prop where
  ex : ∃ (es : Array (Int × Value)) (ep : Nat) (t : SetTable), (∃ o, h.get? a = some o ∧ o.ExactSet ∧ o.data = .set es ep t) ∧ es.toList = rws P w L ∧ TabOk t (hss P w L) ∧ (L.map (·.2)).Nodup ∧
    (w.params.followText "set-order" = true ∨ t.led = true) ∧ L.length * 5 < t.mask * 3 ∧ L.length < 64
def SetMO (P : Program) (w : World) (a : Addr) (L : List (Addr × List Key)) : HO := .ext fun h => TabX P w h a L
theorem TabM.x {P : Program} {w : World} {h : Heap} {a : Addr} {L : List (Addr × List Key)} {es : Array (Int × Value)} {ep : Nat} {t : SetTable} (R : TabM P w h a L es ep t) : TabX P w h a L := ⟨es, ep, t, R.ob, R.rows, R.tab, R.nd, R.led, R.room, R.few⟩
theorem TabX.full {P : Program} {w : World} {h : Heap} {a : Addr} {L : List (Addr × List Key)} (R : TabX P w h a L) (ht : ∀ p ∈ L, IsM P w h p.2 p.1) : ∃ es ep t, TabM P w h a L es ep t := by
  obtain ⟨es, ep, t, h1, h2, h3, h4, h5, h6, h7⟩ := R.ex
  exact ⟨es, ep, t, h1, h2, h3, h4, ht, h5, h6, h7⟩
theorem setMO_new {P : Program} {w : World} {H : Hp} {h : Heap} {a : Addr} {L : List (Addr × List Key)} (R : TabX P w h a L) : ObjOk P w H h a (SetMO P w a L) := by
  have ⟨es, ep, t, ⟨o, ho, r⟩, _⟩ := R.ex
  refine ⟨R, ⟨o, ho⟩, fun h1 h2 p k => ?_⟩
  have ⟨es', ep', t', ⟨o', ho', r'⟩, q'⟩ := TabX.ex p
  exact ⟨es', ep', t', ⟨o', k o' ho', r'⟩, q'⟩
theorem vals_refs : ∀ {ks : List (Addr × List Key)} {us : List Value}, Vals (ks.map fun p => V.ref p.1) us → us = ks.map fun p => Value.ref p.1
  | [], _, .nil => rfl
  | p :: ks, _, .cons r t => by
    cases r
    rw [vals_refs t]
    rfl
theorem refs_vals : ∀ (ks : List (Addr × List Key)), Vals (ks.map fun p => V.ref p.1) (ks.map fun p => Value.ref p.1)
  | [] => .nil
  | p :: ks => .cons rfl (refs_vals ks)
section
variable {X : Cx}
theorem inv_isM {pins : List (Addr × Obj)} {σ : St} {H : Hp} {s : Shared} {b : Addr} {k : List Key} (I : Inv X pins σ H s) (h : SqT X.K H b (k.map kV)) : IsM X.prog X.w s.heap k b := by
  obtain ⟨its, r, ⟨o, h1, h2, n, h3⟩, _⟩ := I.tuple h
  exact ⟨o, its.toArray, n, h1, h2, h3, by simpa using items_are r⟩
def rSetM (K : PySem.W.Frag) (P : Program) (w : World) : List V → Hp → VK → Prop := fun xs H Q => ∃ (l : Addr) (ks : List (Addr × List Key)), xs = [V.ref l] ∧ SqL K H l (ks.map fun p => V.ref p.1) ∧ (∀ p ∈ ks, SqT K H p.1 (p.2.map kV)) ∧ FewM ks ∧
  ∀ a L, H a = none → (∀ p ∈ L, p ∈ ks) → (∀ p ∈ ks, p.2 ∈ L.map (·.2)) → Q (.ref a) (upd H a (SetMO P w a L))
theorem cr_setM (hc : X.calm = true) (hu : X.A.units + 64 < cLine) : CallR X (.type "set") (rSetM X.K X.prog X.w) := by
  intro pins s σ H xs us Q I r h
  obtain ⟨l, ks, rfl, hl, hk, hf, q⟩ := h
  rw [Vals.ref1 r]
  obtain ⟨its, rv, pl, hz⟩ := I.list hl
  have hn : H s.heap.objs.size = none := I.hok.fresh (Nat.le_refl _)
  refine set_of_mix (P := X.prog) (w := X.w) ks (I.ok.hd hc) pl.isList (by simpa using vals_refs rv) (fun p hp => inv_isM I (hk p hp)) hf (by omega) fun g tk L es ep t R has up => ?_
  refine ⟨.ref s.heap.objs.size, upd H s.heap.objs.size (SetMO X.prog X.w s.heap.objs.size L), I.laid (t' := tk) up (Nat.le_refl _) (setMO_new R.x), rfl, q _ L hn (fun p hp => List.mem_of_mem_take (has.sub p hp)) fun p hp => ?_⟩
  exact has.all p (by rw [List.take_length]; exact hp)
def rSortM (K : PySem.W.Frag) (P : Program) (w : World) : List V → Hp → VK → Prop := fun vs H Q => ∃ (a : Addr) (L : List (Addr × List Key)), vs = [V.ref a] ∧ H a = some (SetMO P w a L) ∧ (∀ p ∈ L, SqT K H p.1 (p.2.map kV)) ∧ SrtM (L.map (·.2)) ∧
  ∀ (M : List (Addr × List Key)) (p : Addr), M.Perm L → (M.map (·.2)).Nodup → M.Pairwise (fun q r => ltM r.2 q.2 = false) → H p = none → Q (.ref p) (upd H p (.lst (M.map fun q => V.ref q.1)))
theorem cr_sortM (hc : X.calm = true) (hu : X.A.units + 64 < cLine) : CallR X (.builtin "sorted") (rSortM X.K X.prog X.w) := by
  intro pins s σ H vs us Q I r h
  obtain ⟨a, L, rfl, ha, hk, ho, q⟩ := h
  have R0 : TabX X.prog X.w s.heap a L := (I.hok a _ ha).1
  obtain ⟨es, ep, t, R⟩ := R0.full fun p hp => inv_isM I (hk p hp)
  rw [Vals.ref1 r]
  refine sorted_mix R (I.ok.hd hc) ho (by omega) fun s1 p out c M up g1 o1 hp hg hout pm pw => ?_
  have few : M.length < 64 := by rw [pm.length_eq]; exact R.few
  have lenz : (M.map fun q => V.ref q.1).length ≤ sizeLine := by rw [List.length_map, sizeLine_eq]; omega
  have hn : H p = none := I.hok.fresh hp
  have hv : Vals (M.map fun q => V.ref q.1) out.toList := by rw [hout]; exact refs_vals M
  have J : Inv X pins σ (upd H p (.lst (M.map fun q => V.ref q.1))) { s with heap := s1.heap, gens := s1.gens, drawn := s1.drawn, toks := s1.toks } :=
    I.call (ch := []) (Un.laid up hp hn) (I.hok.laid up hp ⟨lenz, out.toList, c, hv, hg⟩) (by rw [g1]; exact I.bare) (fun _ z => nomatch z)
  have e : s1 = { s with heap := s1.heap, gens := s1.gens, drawn := s1.drawn, toks := s1.toks } := by
    cases s1
    cases s
    cases o1
    rfl
  rw [e]
  exact ⟨.ref p, _, J, rfl, q M p pm ((pm.map (·.2)).nodup_iff.mpr R.nd) pw hn⟩
end
end Ev

/-! Ev5q: sorted(set(xs)) on data. -/
namespace Ev
open PySem PySem.Spec PyProof.Rows L2
def keysOf : List D → Option (List Key)
  | [] => some []
  | .int i :: r => (keysOf r).map (.inl i :: ·)
  | .str x :: r => (keysOf r).map (.inr x :: ·)
  | _ => none
theorem keysOf_eq : ∀ {ds : List D} {k : List Key}, keysOf ds = some k → ds = k.map encK
  | [], k, h => by cases h; rfl
  | d :: ds, k, h => by
    cases d <;> simp only [keysOf] at h <;> first
      | cases h
      | skip
    all_goals
      cases e : keysOf ds with
      | none => rw [e] at h; cases h
      | some l => rw [e] at h; cases h; rw [List.map_cons, ← keysOf_eq e]; rfl
theorem keysOf_map : ∀ k : List Key, keysOf (k.map encK) = some k
  | [] => rfl
  | .inl i :: k => by simp [encK, keysOf, keysOf_map k]
  | .inr x :: k => by simp [encK, keysOf, keysOf_map k]
def mixOf : List D → Option (List (List Key))
  | [] => some []
  | .tuple xs :: r => (keysOf xs).bind fun l => (mixOf r).map (l :: ·)
  | _ => none
theorem mixOf_eq : ∀ {ds : List D} {L : List (List Key)}, mixOf ds = some L → ds = L.map encM
  | [], L, h => by cases h; rfl
  | d :: ds, L, h => by
    cases d <;> simp only [mixOf] at h <;> first
      | cases h
      | skip
    rename_i xs
    cases e1 : keysOf xs with
    | none => rw [e1] at h; cases h
    | some l =>
      cases e2 : mixOf ds with
      | none => rw [e1, e2] at h; cases h
      | some L' => rw [e1, e2] at h; cases h; rw [List.map_cons, ← mixOf_eq e2, keysOf_eq e1]; rfl
theorem mixOf_map : ∀ L : List (List Key), mixOf (L.map encM) = some L
  | [] => rfl
  | l :: L => by simp [mixOf, encM, keysOf_map, mixOf_map L]
def srtSetD : D → W Exc (List D)
  | .list ds => match intsOf ds with
    | some ns => (W.ask (ns.length + 1 < scanBound ∧ (uniqI ns).length < 64)).bind fun _ => .ret ((uniqI ns).map .int)
    | none => match mixOf ds with
      | some L => (W.ask ((uniqM L).length < 64 ∧ SrtM L)).bind fun _ => .ret ((uniqM L).map encM)
      | none => .stuck
  | _ => .stuck
theorem rep_keys {K : PySem.W.Frag} {γ : Hp} : ∀ {vs : List V} {k : List Key}, RepAll K γ vs (k.map encK) → vs = k.map kV
  | [], [], _ => rfl
  | [], _ :: _, r => by cases r.1
  | _ :: _, [], r => by cases r.1
  | v :: vs, .inl i :: k, r => by rw [List.map_cons, rep_keys (k := k) r.tail, Rep.ofInt (i := i) r.head]; rfl
  | v :: vs, .inr x :: k, r => by rw [List.map_cons, rep_keys (k := k) r.tail, Rep.ofStr (i := x) r.head]; rfl
theorem reps_mix {K : PySem.W.Frag} {γ : Hp} : ∀ {vs : List V} {L : List (List Key)}, RepAll K γ vs (L.map encM) → ∃ ks : List (Addr × List Key), vs = ks.map (fun p => V.ref p.1) ∧ ks.map (·.2) = L ∧ ∀ p ∈ ks, TupAt K γ p.1 (p.2.map kV) ∧ Rep K γ (.ref p.1) (encM p.2)
  | [], [], _ => ⟨[], rfl, rfl, fun _ h => nomatch h⟩
  | [], _ :: _, r => by cases r.1
  | _ :: _, [], r => by cases r.1
  | v :: vs, l :: L, r => by
    obtain ⟨ks, e1, e2, e3⟩ := reps_mix r.tail
    have rh := r.head
    obtain ⟨a, ws, ev, ha, ra⟩ := rh.ofTup
    have ew : ws = l.map kV := rep_keys ra
    subst ew ev
    refine ⟨(a, l) :: ks, by rw [e1]; rfl, by rw [← e2]; rfl, fun p hp => ?_⟩
    rcases List.mem_cons.mp hp with e | e
    · rw [e]; exact ⟨ha, rh⟩
    · exact e3 p e
theorem mix_reps {K : PySem.W.Frag} {γ : Hp} : ∀ {ks : List (Addr × List Key)}, (∀ p ∈ ks, Rep K γ (.ref p.1) (encM p.2)) → RepAll K γ (ks.map fun p => V.ref p.1) ((ks.map (·.2)).map encM)
  | [], _ => .nil
  | p :: ks, h => .cons (h p List.mem_cons_self) (mix_reps fun q hq => h q (List.mem_cons_of_mem _ hq))
section
variable {X : Cx} {Wx : WX} {e : Expr} {pos pp ps2 pp2 : Pos} {ma : List Sl → W Exc D}
abbrev rSetA (K : PySem.W.Frag) (P : Program) (w : World) : List V → Hp → VK → Prop := fun xs H Q => rSetLI K w xs H Q ∨ rSetM K P w xs H Q
abbrev rSrtA (K : PySem.W.Frag) (P : Program) (w : World) : List V → Hp → VK → Prop := fun xs H Q => rSortedSet w xs H Q ∨ rSortM K P w xs H Q
theorem rd_srt {K : PySem.W.Frag} {P : Program} {w : World} {p : Option Addr} {γ H : Hp} {x : V} {d : D} {Q : VK} {XX : Exc → Prop} (st : Stt K p γ H) (cx : Ct K p γ H x d) (h : (srtSetD d).run (PostF K p γ H Q) XX) : rSetA K P w [x] H fun y H2 => rSrtA K P w [y] H2 Q := by
  cases d <;> first
    | exact False.elim h
    | skip
  rename_i ds
  obtain ⟨al, vs, rfl, ha, ra⟩ := ct_lst cx st
  have h' : (match intsOf ds with
    | some ns => (W.ask (ns.length + 1 < scanBound ∧ (uniqI ns).length < 64)).bind fun _ => .ret ((uniqI ns).map .int)
    | none => match mixOf ds with
      | some L => (W.ask ((uniqM L).length < 64 ∧ SrtM L)).bind fun _ => .ret ((uniqM L).map encM)
      | none => .stuck : W Exc (List D)).run (PostF K p γ H Q) XX := h
  cases q : intsOf ds with
  | some ns =>
    rw [q] at h'
    obtain ⟨⟨h1, h2⟩, h3⟩ := h'
    rw [intsOf_eq q] at ra
    have ev := rep_ints ra
    subst ev
    refine .inl ⟨al, ns, rfl, .of ha, h1, fun a c hn hc => .inl ⟨a, _, c, rfl, upd_same, by omega, fun ms pp hs hm hl hpn => ?_⟩⟩
    have em : ms = uniqI ns := sorted_unique linI (hs.imp fun {x y} z => by simpa [ltI] using z) (uniq_sorted linI ns) fun z => by rw [hm, uniq_mem linI]; simp
    subst em
    have e1 : Ext K p γ H γ (upd H a (SetO w a (fun j => decide (j ∈ ns)) c)) := .own st hn
    exact PostF.lst (PostF.ext h3 st e1) e1.st (ints_rep _) pp hpn
  | none =>
    rw [q] at h'
    cases q2 : mixOf ds with
    | none => rw [q2] at h'; exact h'.elim
    | some L =>
      rw [q2] at h'
      obtain ⟨⟨h1, ho⟩, h3⟩ := h'
      rw [mixOf_eq q2] at ra
      obtain ⟨ks, e1, e2, e3⟩ := reps_mix ra
      subst e1 e2
      have sq : ∀ {H' : Hp}, Same γ H' → ∀ p ∈ ks, SqT K H' p.1 (p.2.map kV) := fun s p hp => ((e3 p hp).1.mono s).sq
      have few : FewM ks := fun l hl hs => Nat.lt_of_le_of_lt (nodup_len hl fun x hx => (uniq_mem linM _ x).mpr (hs x hx)) h1
      refine .inr ⟨al, ks, rfl, .of ha, sq st.sub, few, fun a L0 hn hsub hall => .inr ?_⟩
      have x1 : Ext K p γ H γ (upd H a (SetMO P w a L0)) := .own st hn
      refine ⟨a, L0, rfl, upd_same, fun q hq => sq x1.st.sub q (hsub q hq), ho.sub fun k hk => ?_, fun M pp pm nd pw hpn => ?_⟩
      · obtain ⟨q, hq, rfl⟩ := List.mem_map.mp hk
        exact List.mem_map_of_mem (hsub q hq)
      have sub' : ∀ q ∈ M, q ∈ ks := fun q hq => hsub q (pm.mem_iff.mp hq)
      have em : M.map (·.2) = uniqM (ks.map (·.2)) := by
        refine sorted_unique linM ?_ (uniq_sorted linM _) fun z => ?_
        · rw [List.pairwise_map]
          have nd' : M.Pairwise fun q r => q.2 ≠ r.2 := List.pairwise_map.mp nd
          refine (pw.and nd').imp fun {q r} z => ?_
          cases c : ltM q.2 r.2 with
          | true => rfl
          | false => exact absurd (linM.tot _ _ c z.1) z.2
        · rw [uniq_mem linM]
          constructor
          · intro hz
            obtain ⟨q, hq, e⟩ := List.mem_map.mp hz
            exact List.mem_map.mpr ⟨q, sub' q hq, e⟩
          · intro hz
            obtain ⟨q, hq, e⟩ := List.mem_map.mp hz
            obtain ⟨q', hq', e'⟩ := List.mem_map.mp (hall q hq)
            exact List.mem_map.mpr ⟨q', pm.mem_iff.mpr hq', by rw [e', e]⟩
      have h4 : PostF K p γ H Q ((uniqM (ks.map (·.2))).map encM) := h3
      rw [← em] at h4
      exact PostF.lst (PostF.ext h4 st x1) x1.st (mix_reps fun q hq => (e3 q (sub' q hq)).2) pp hpn
theorem pF_srtSet (hc : X.calm = true) (hu : X.A.units + 64 < cLine) (hg : Gl X "sorted") (hm : X.mg "sorted" = none) (hg2 : Gl X "set") (hm2 : X.mg "set" = none) (hs : ∀ e' p, e ≠ .Starred e' p) (ha : PE X e (TEo X Wx ma)) :
    PE X (.Call (.Name "sorted" pp) [.Call (.Name "set" pp2) [e] [] ps2] [] pos) (TEf X Wx fun ρ => (ma ρ).bind srtSetD) := by
  refine pe_of (pe_callB (crOr (cr_sortedSet hc) (cr_sortM hc hu)) hg hm (by decide +kernel) (pa_cons (pe_callTy (crOr (cr_setLI hc) (cr_setM hc hu)) hg2 hm2 (by decide +kernel) (pa_cons ha pa_nil (star1 hs X.env)) (by decide +kernel) (by decide +kernel) (star1 hs X.env) (back0 _ _)) pa_nil rfl) (by decide +kernel) (by decide +kernel) rfl rfl) fun σ H Q ⟨p, H0, γ, ρ, st, er, hm⟩ => ?_
  refine ⟨p, H0, γ, ρ, st, er, (ma ρ).mono (fun d h1 γ1 H1 x e1 c1 => ?_) (fun _ q => q) hm⟩
  exact rd_srt e1.st c1 ((srtSetD d).mono (fun z q => q.ext st e1) (fun _ q => q) h1)
end
end Ev

/-! Ev5r: tuple(reversed(a tuple)). -/
namespace Ev
open PySem PySem.Spec PyProof.Rows L2 RT
theorem nolen_rt : typeLookup (.type "reversed") "__len__" = pure none := by rw [typeLookup_type, builtinLookup_eq_fast]; kernel_rfl
theorem slot_rt_hint : Slot "reversed" "__length_hint__" "reversed.__length_hint__" :=
  .of (owner := "reversed") (n := "__length_hint__") (by rw [typeLookup_type, builtinLookup_eq_fast]; kernel_rfl) (by decide +kernel) (by decide +kernel) (by decide +kernel) (by first | exact .inl (by decide +kernel) | exact .inr (by decide +kernel)) (by rw [isSubtype_type]; kernel_rfl)
theorem entry_rt_hint : entryFor table "reversed.__length_hint__" = some Builtin.«reversed.__length_hint__» := entryFor_of_tree (by kernel_rfl)
theorem args_rt_hint (a : Value) : argsOk "reversed.__length_hint__" ⟨[a], []⟩ := by
  unfold argsOk; rw [signature?_of (id := "reversed.__length_hint__") (n := ['_', '_', 't', 'n', 'i', 'h', '_', 'h', 't', 'g', 'n', 'e', 'l', '_', '_']) (o := ['d', 'e', 's', 'r', 'e', 'v', 'e', 'r']) (by kernel_rfl) owner_rt]; kernel_rfl
section
variable {P : Program} {w : World} {A : Around} {E : Value → Shared → Prop} {s : Shared}
theorem isTup_at {h h' : Heap} {t : Addr} {items : Array Value} (x : IsTup h t items) (e : ∀ o, h.get? t = some o → h'.get? t = some o) : IsTup h' t items := let ⟨o, ho, r⟩ := x; ⟨o, e _ ho, r⟩
theorem walks_rt (hh : A.handled = none) (I t : Addr) (hne : t ≠ I) (items : Array Value) (hz : items.size ≤ sizeLine) :
    Walks P w A I [I, t] [I] items.size (fun i v => items[items.size - 1 - i]? = some v) (fun i h => i ≤ items.size ∧ IsRt h I t ((items.size : Int) - 1 - (i : Int)) ∧ IsTup h t items) where
  sub := fun b hb => by simp at hb; simp [hb]
  frame := fun _ _ _ x hk => ⟨x.1, x.2.1.at fun o e => hk I (by simp) o e, isTup_at x.2.2 fun o e => hk t (by simp) o e⟩
  item := fun i s Q E hi x hQ => by
    obtain ⟨x1, x2, x3⟩ := x
    rw [show (items.size : Int) - 1 - (i : Int) = ((items.size - 1 - i : Nat) : Int) by omega] at x2
    have hx : items[items.size - 1 - i]? = some (items[items.size - 1 - i]'(by omega)) := Array.getElem?_eq_getElem (by omega)
    refine next_rt_item x2 x3 hx hz fun h1 r1 sb => ?_
    rw [show ((items.size - 1 - i : Nat) : Int) - 1 = (items.size : Int) - 1 - ((i + 1 : Nat) : Int) by omega] at r1
    exact hQ _ h1 _ hx ⟨hi, r1, isTup_at x3 fun o eo => (sb.2 t hne).trans eo⟩ fun b o hb eo => (sb.2 b fun z => hb (by simp [z])).trans eo
  done := fun s Q E x hQ => by
    obtain ⟨x1, x2, x3⟩ := x
    rw [show (items.size : Int) - 1 - (items.size : Int) = -1 by omega] at x2
    exact next_rt_end hh x2 fun h1 eb => hQ h1 s.toks fun b o hb eo => eb b o (fun z => hb (by simp [z])) eo
  self := fun _ _ _ _ x hQ => iter_rt x.2.1 hQ
theorem hint_of_rt {it t : Addr} {items : Array Value} {Q : Bool → Shared → Prop} (hit : IsRt s.heap it t ((items.size : Int) - 1)) (ht : IsTup s.heap t items) (hz : items.size ≤ sizeLine) (q : ∀ b tk, Q b { s with toks := tk }) : wpAny (model P w) A (Builtin.List.listLengthHint (.ref it)) Q E s := by
  obtain ⟨o, ho, hc, hd⟩ := id hit
  unfold Builtin.List.listLengthHint
  refine wpAny_bind (wpAny_specialOf hit.typeIs nolen_rt ?_)
  dsimp only
  show wpAny _ A (specialOf (Value.ref it) (Str.ofString "__length_hint__") >>= _) _ _ _
  refine wpAny_bind (wpAny_specialOf hit.typeIs slot_rt_hint.lookup ?_)
  generalize hid : ("reversed.__length_hint__" : String) = id0
  wp_delta
  rw [show splitId id0 = some ("reversed", "__length_hint__") from by subst hid; decide +kernel]
  subst hid
  refine wpAny_bind (wpAny_isInstance (b := true) hit.typeIs (by rw [isSubtype_type]; kernel_rfl) ?_)
  refine wp_if_neg (by decide) ?_
  try refine wpAny_bind (wpAny_pure ?_)
  refine wp_if_neg (by decide +kernel) ?_
  try refine wpAny_bind (wpAny_pure ?_)
  refine wpAny_bind (wpAny_rule ?_)
  refine wpAny_bind (wpAny_of_eq (slot_rt_hint.bind _) ?_)
  dsimp only
  refine wpAny_bind (wpAny_attempt (wpAny_call_entry slot_rt_hint hit.typeIs entry_rt_hint ?_ (args_rt_hint _)))
  unfold Builtin.«reversed.__length_hint__»
  refine wpAny_bind (wpAny_of_eq (a := Value.ref it) rfl ?_)
  try dsimp only
  refine wpAny_bind (wpAny_field ho hd (x := .ref t) rfl ?_)
  try dsimp only
  refine wp_if_neg (by simp) ?_
  try refine wpAny_bind (wpAny_pure ?_)
  have zz := hz
  rw [sizeLine_eq] at zz
  refine wpAny_bind (len_tuple ht (by omega) ?_)
  refine wpAny_bind (wpAny_of_eq (a := some ((items.size : Nat) : Int)) rfl ?_)
  try dsimp only
  refine wpAny_bind (wpAny_field (s := { s with toks := s.toks + 1 + 1 }) ho hd (x := rawInt ((items.size : Int) - 1)) rfl ?_)
  show wpAny _ _ (if ((items.size : Nat) : Int) < (items.size : Int) - 1 + 1 then _ else _) _ _ _
  refine wp_if_neg (by omega) ?_
  unfold retInt
  refine wpAny_bind (wpAny_mkInt ?_)
  refine wpAny_pure ⟨_, rfl, ?_⟩
  dsimp only
  refine wpAny_bind (wpAny_of_eq (a := some ((items.size : Int) - 1 + 1)) rfl ?_)
  try dsimp only
  have e1 : Builtin.List.listFitsIndex ((items.size : Int) - 1 + 1) = true := by
    unfold Builtin.List.listFitsIndex
    simp
    omega
  have e2 : Builtin.List.listTooLong ((items.size : Int) - 1 + 1).toNat = false := by
    unfold Builtin.List.listTooLong
    simp
    omega
  refine wp_if_neg (by rw [e1]; decide) ?_
  try refine wpAny_bind (wpAny_pure ?_)
  refine wp_if_neg (by omega) ?_
  try refine wpAny_bind (wpAny_pure ?_)
  refine wp_if_neg (by rw [e2]; decide) ?_
  try refine wpAny_bind (wpAny_pure ?_)
  exact wpAny_pure (q _ _)
theorem collect_rt {it t : Addr} {items : Array Value} {Q : List Value → Shared → Prop} (hh : A.handled = none) (hit : IsRt s.heap it t ((items.size : Int) - 1)) (ht : IsTup s.heap t items) (hne : t ≠ it) (hz : items.size ≤ sizeLine)
    (q : ∀ (h1 : Heap) (tk : Nat) (acc : Array Value), (∀ b o, b ≠ it → s.heap.get? b = some o → h1.get? b = some o) → ItemsOf (fun i v => items[items.size - 1 - i]? = some v) acc items.size → Q acc.toList { s with heap := h1, toks := tk }) :
    wpAny (model P w) A (collect (.ref it)) Q E s := by
  have W := (walks_rt (P := P) (w := w) (A := A.in1) hh it t hne items hz).toS
  obtain ⟨oi, hoi, _⟩ := id hit
  obtain ⟨ot, hot, _⟩ := id ht
  have lI := Heap.lt_size hoi
  have lT := Heap.lt_size hot
  have nS : s.heap.objs.size ∉ [it, t] := by
    simp only [List.mem_cons, List.not_mem_nil, or_false, not_or]
    exact ⟨Nat.ne_of_gt lI, Nat.ne_of_gt lT⟩
  unfold collect
  refine wpAny_bind (wpAny_runValue (codeAny_builtin F.entry_proto_collect ?_))
  rw [Around.under_plainId F.plain_proto_collect _]
  show wpAny _ A.in1 (newList [] >>= fun l => again (.builtin "list.__iadd__" ⟨[l, .ref it], []⟩)) _ _ s
  refine wpAny_bind (wpAny_newObj_type ?_)
  refine wpAny_pure ⟨plainId_quiet F.plain_list_iadd _, codeAny_builtin F.entry_list_iadd ?_⟩
  rw [Around.under_plainId F.plain_list_iadd _]
  have hS : (s.heap.push { cls := .type "list", data := .seq ([] : List Value).toArray }).get? s.heap.objs.size = some { cls := .type "list", data := .seq ([] : List Value).toArray } := Heap.get?_push_size _ rfl
  have up : ∀ b o, s.heap.get? b = some o → (s.heap.push { cls := .type "list", data := .seq ([] : List Value).toArray }).get? b = some o := fun b o e => Heap.get?_push_of_some _ e
  generalize hH : s.heap.push { cls := .type "list", data := .seq ([] : List Value).toArray } = H1 at hS up ⊢
  have hit1 : IsRt H1 it t ((items.size : Int) - 1) := hit.at fun o e => up _ _ e
  have ht1 : IsTup H1 t items := isTup_at ht fun o e => up _ _ e
  have hT : ({ s with heap := H1 } : Shared).TypeIs (.ref it) "reversed" := IsRt.typeIs (s := { s with heap := H1 }) hit1
  have same : Builtin.List.listSameRef (.ref s.heap.objs.size) (.ref it) = false := by simp [Builtin.List.listSameRef]; exact Nat.ne_of_gt lI
  show wpAny _ A.in1 (Builtin.List.listExtendWith (.ref s.heap.objs.size) (.ref it) (.ref s.heap.objs.size)) _ _ _
  unfold Builtin.List.listExtendWith
  refine wpAny_bind (wpAny_typeOf hT ?_)
  rw [if_neg (by rw [same]; decide)]
  refine wpAny_bind (iter_rt (s := { s with heap := H1 }) hit1 ?_)
  refine wpAny_bind (wpAny_holding (hint_of_rt (s := { s with heap := H1 }) hit1 ht1 hz fun b tk => ?_))
  have loop : ∀ (H2 : Heap) (c tk : Nat), H2.get? s.heap.objs.size = some { cls := .type "list", dict := none, data := .seq #[] c, slots := #[] } → (∀ b o, b ≠ s.heap.objs.size → H1.get? b = some o → H2.get? b = some o) →
      ∀ R : Result → Shared → Prop, (∀ (H3 : Heap) (tk3 : Nat) (acc : Array Value) (c3 : Nat), H3.get? s.heap.objs.size = some { cls := .type "list", dict := none, data := .seq acc c3, slots := #[] } → (∀ b o, b ≠ it → s.heap.get? b = some o → H3.get? b = some o) → ItemsOf (fun i v => items[items.size - 1 - i]? = some v) acc items.size →
        R (.ok (.ret (.ref s.heap.objs.size))) { s with heap := H3, toks := tk3 }) → codeAny (model P w) A (.builtin "list.extend.loop" ⟨[.ref s.heap.objs.size, .ref it, .ref s.heap.objs.size], []⟩) R { s with heap := H2, toks := tk } := by
    intro H2 c tk g2 k2 R hR
    have old : ∀ b o, s.heap.get? b = some o → H2.get? b = some o := fun b o e => k2 b o (Nat.ne_of_lt (Heap.lt_size e)) (up b o e)
    refine codeAny_extend_loopS W hz _ nS _ items.size 0 _ _ _ rfl (Nat.zero_le _) ⟨Nat.zero_le _, ?_, isTup_at ht fun o e => old _ _ e⟩ g2 (ItemsOf.nil _) fun s3 acc c3 m g3 hacc => ?_
    · rw [show (items.size : Int) - 1 - ((0 : Nat) : Int) = (items.size : Int) - 1 by omega]
      exact hit.at fun o e => old _ _ e
    rw [Moved.eq_with m]
    refine hR s3.heap s3.toks acc c3 g3 (fun b o hb e => m.heap b o (fun z => ?_) (old b o e)) hacc
    rcases List.mem_cons.mp z with z | z
    · exact absurd (Heap.lt_size e) (by rw [z]; exact Nat.lt_irrefl _)
    · exact hb (List.mem_singleton.mp z)
  have done : ∀ (H3 : Heap) (tk3 : Nat) (acc : Array Value) (c3 : Nat), H3.get? s.heap.objs.size = some { cls := .type "list", dict := none, data := .seq acc c3, slots := #[] } → (∀ b o, b ≠ it → s.heap.get? b = some o → H3.get? b = some o) → ItemsOf (fun i v => items[items.size - 1 - i]? = some v) acc items.size →
      wpAny (model P w) A (load s.heap.objs.size >>= fun o => match o.data with
        | .seq xs _ => pure xs.toList
        | _ => unsupported "internal:collect") Q E { s with heap := H3, toks := tk3 } := fun H3 tk3 acc c3 g3 k3 hacc =>
    wpAny_bind (wpAny_load g3 (wpAny_pure (q H3 tk3 acc k3 hacc)))
  cases b with
  | false =>
    refine wp_if_neg (by decide +kernel) ?_
    exact wpAny_pure ⟨plainId_quiet F.plain_extend_loop _, loop H1 0 tk hS (fun _ _ _ e => e) _ fun H3 tk3 acc c3 g3 k3 hacc => done H3 tk3 acc c3 g3 k3 hacc⟩
  | true =>
    refine wp_if_pos rfl ?_
    refine wpAny_bind (wpAny_rule ?_)
    unfold Builtin.List.listTouch
    have hS' : H1.get? s.heap.objs.size = some (seqObj "list" #[] 0) := hS
    have g1 := get?_update_seq hS' (fun xs => xs.push Value.none)
    have g2 := get?_update_seq g1 (fun xs => xs.pop)
    refine wpAny_bind (wpAny_bind (PyProof.Rows.listUpdate_at (s := { s with heap := H1, toks := tk }) hS' rfl ?_))
    refine PyProof.Rows.listUpdate_at (s := { s with heap := H1.update s.heap.objs.size (Obj.mapSeq fun xs => xs.push Value.none), toks := tk }) g1 rfl ?_
    exact wpAny_pure ⟨plainId_quiet F.plain_extend_loop _, loop _ _ tk g2 (fun b o hb e => by rw [Heap.get?_update_ne _ _ _ _ hb, Heap.get?_update_ne _ _ _ _ hb]; exact e) _ fun H3 tk3 acc c3 g3 k3 hacc => done H3 tk3 acc c3 g3 k3 hacc⟩
theorem tuple_new_rt {it t : Addr} {items : Array Value} {Q₁ : Value → Shared → Prop} (hh : A.handled = none) (hit : IsRt s.heap it t ((items.size : Int) - 1)) (ht : IsTup s.heap t items) (hne : t ≠ it) (hz : items.size ≤ sizeLine)
    (q : ∀ (h1 : Heap) (tk : Nat) (acc : Array Value), (∀ b o, b ≠ it → s.heap.get? b = some o → h1.get? b = some o) → ItemsOf (fun i v => items[items.size - 1 - i]? = some v) acc items.size → Q₁ (.ref h1.objs.size) { s with heap := h1.push { cls := .type "tuple", data := .seq acc }, toks := tk }) :
    codeAny (model P w) A (.call (.builtin "tuple.__new__") ⟨[.type "tuple", .ref it], []⟩) (wants Q₁ E) s := by
  refine codeAny_of_tree ?_
  show wpAny _ A.in1 (do checkBuiltinCall "tuple.__new__" ⟨[.type "tuple", .ref it], []⟩; again (.builtin "tuple.__new__" ⟨[.type "tuple", .ref it], []⟩)) _ _ s
  refine wpAny_bind (wpAny_of_eq (F.newCall_tuple_1 _) (wpAny_pure ⟨plainId_quiet F.plain_tuple_new _, codeAny_builtin F.entry_tuple_new ?_⟩))
  rw [Around.under_plainId F.plain_tuple_new _]
  have f1 := sub_tuple_self
  have f2 := init_tuple_lookup
  have f3 := madeHere_tuple
  have tI : s.TypeIs (.ref it) "reversed" := hit.typeIs
  have hh1 : A.in1.handled = none := hh
  wp_walk using wpAny_typeOf tI, collect_rt (A := A.in1) hh1 hit ht hne hz
  intro h1 tk acc up hacc
  show wpAny _ _ (Builtin.Tuple.tupleExact acc.toList.toArray >>= fun v => ret v) _ _ _
  unfold Builtin.Tuple.tupleExact
  refine wpAny_bind (wpAny_newObj_type ?_ (by show acc.toList.toArray.size ≤ sizeLine; simp only [Array.toArray_toList]; rw [hacc.1]; exact hz))
  refine wpAny_pure ?_
  rw [show acc.toList.toArray = acc by simp]
  exact q h1 tk acc up hacc
theorem tuple_rt {it t : Addr} {items : Array Value} {Q : Value → Shared → Prop} (hh : A.handled = none) (hit : IsRt s.heap it t ((items.size : Int) - 1)) (ht : IsTup s.heap t items) (hne : t ≠ it) (hz : items.size ≤ sizeLine)
    (q : ∀ (h1 : Heap) (tk : Nat) (acc : Array Value), (∀ b o, b ≠ it → s.heap.get? b = some o → h1.get? b = some o) → ItemsOf (fun i v => items[items.size - 1 - i]? = some v) acc items.size → Q (.ref h1.objs.size) { s with heap := h1.push { cls := .type "tuple", data := .seq acc }, toks := tk }) :
    wpAny (model P w) A (call (.type "tuple") [.ref it]) Q E s := by
  refine callType_codes (Q₁ := fun ob s1 => s1.TypeIs ob "tuple" ∧ Q ob s1) F.called_tuple (F.typeCall_tuple_1 _) F.entry_object_init
    (tuple_new_rt (A := A.in1) hh hit ht hne hz fun h1 tk acc up hacc => ⟨⟨_, Heap.get?_push_size _ rfl, rfl⟩, q h1 tk acc up hacc⟩) fun ob s1 hs => ?_
  exact ⟨hs.1, F.args_object_init_2 ob _, object_init_meets F.called_tuple.init.lookup F.called_tuple.made (by decide) P w A.in1 _ s1 ⟨hs.1, rfl, hs.2⟩⟩
end
/-- tuple(reversed(x)), x a tuple: a new tuple -/
def tTupRevT (K : PySem.W.Frag) (te : TE) : TE := fun σ H Q => te σ H fun v H1 => ∃ (a : Addr) (xs : List V), v = .ref a ∧ SqT K H1 a xs ∧ ∀ (l : Addr) (o : Obj), o.dict = none → H1 l = none → Q (.ref l) (upd H1 l (.frz o (.tup xs.reverse)))
section
variable {X : Cx} {Wx : WX} {e : Expr} {pos pp pos2 pp2 : Pos} {ma : List Sl → W Exc D} {te : TE}
theorem pe_tupRevT (hc : X.calm = true) (hg : Gl X "tuple") (hm : X.mg "tuple" = none) (hg2 : Gl X "reversed") (hm2 : X.mg "reversed" = none) (he : PE X e te)
    (hs : starEach [e] X.env = (false, eval e X.env) :: starEach [] X.env) (hs2 : starEach [.Call (.Name "reversed" pp2) [e] [] pos2] X.env = (false, eval (.Call (.Name "reversed" pp2) [e] [] pos2) X.env) :: starEach [] X.env := by rfl) :
    PE X (.Call (.Name "tuple" pp) [.Call (.Name "reversed" pp2) [e] [] pos2] [] pos) (tTupRevT X.K te) := by
  refine ⟨fun pins s σ H Q I h => ?_⟩
  refine Call_ (ld_blt I hg hm boot_tuple (PyProof.Rows.callWith_type1 (args_cons (Call_ (ld_blt I hg2 hm2 PyProof.Rows.boot_reversed (PyProof.Rows.callWith_type1 (args_cons (thn (he.run pins s σ H _ I h) fun u s1 ⟨v, H1, I1, r1, q1⟩ => args_nil ?_) hs) hs rfl))) hs2) hs2 rfl))
  obtain ⟨a, xs, ev, hq, q⟩ := q1
  subst ev
  obtain rfl : u = Value.ref a := r1
  obtain ⟨its, rv, pt, hz⟩ := I1.tuple hq
  have zz := hz
  rw [sizeLine_eq] at zz
  have hl := rv.length
  refine call_reversed_tup pt (fun A E Q k => len_tuple pt (by simp only [List.size_toArray] <;> omega) k) (args_nil ?_)
  have k0 : ∀ b o, s1.heap.get? b = some o → (s1.heap.push (rtObj a ((its.toArray.size : Int) - 1))).get? b = some o := fun b o e => Heap.get?_push_of_some _ e
  have I2 : Inv X pins σ H1 { s1 with heap := s1.heap.push (rtObj a ((its.toArray.size : Int) - 1)), toks := s1.toks + 1 + 1 } := I1.kept (t' := s1.toks + 1 + 1) k0
  obtain ⟨f0, f1, f2, f3, f4, f5⟩ := I1.fpOk (H' := H1) (b := s1.heap.objs.size) (Nat.le_refl _) (I1.hok.fresh (Nat.le_refl _))
  obtain ⟨ot, hot, _⟩ := id pt
  have hne : a ≠ s1.heap.objs.size := Nat.ne_of_lt (Heap.lt_size hot)
  have hn : its.toArray.size ≤ sizeLine := by rw [List.size_toArray, ← rv.length]; exact hz
  refine tuple_rt (s := { s1 with heap := s1.heap.push (rtObj a ((its.toArray.size : Int) - 1)), toks := s1.toks + 1 + 1 }) (I1.ok.hd hc) ⟨_, Heap.get?_push_size _ rfl, rfl, rfl⟩ (isTup_at pt fun o e => k0 _ _ e) hne hn fun h1 tk acc up hi => ?_
  have I3 : Inv X pins σ H1 { s1 with heap := h1, toks := tk } := I2.turned (t' := tk) (fun b o hb e => up b o hb e) f0 f1 f3 f4 f5
  have L := laidT I3 (vals_rev rv hi) (by rw [List.length_reverse]; exact hz)
  rw [Array.toArray_toList] at L
  exact ⟨.ref h1.objs.size, _, L, rfl, q _ _ rfl (I3.hok.fresh (Nat.le_refl _))⟩
theorem repAll_snoc {K : PySem.W.Frag} {γ : Hp} : ∀ {vs : List V} {ds : List D} {v : V} {d : D}, RepAll K γ vs ds → Rep K γ v d → RepAll K γ (vs ++ [v]) (ds ++ [d])
  | [], [], _, _, _, h => .cons h .nil
  | [], _ :: _, _, _, r, _ => by cases r.1
  | _ :: _, [], _, _, r, _ => by cases r.1
  | _ :: _, _ :: _, _, _, r, h => .cons r.head (repAll_snoc r.tail h)
theorem repAll_rev {K : PySem.W.Frag} {γ : Hp} : ∀ {vs : List V} {ds : List D}, RepAll K γ vs ds → RepAll K γ vs.reverse ds.reverse
  | [], [], _ => .nil
  | [], _ :: _, r => by cases r.1
  | _ :: _, [], r => by cases r.1
  | v :: vs, d :: ds, r => by
    rw [List.reverse_cons, List.reverse_cons]
    exact repAll_snoc (repAll_rev r.tail) r.head
def rvtD : D → W Exc D
  | .tuple xs => .ret (.tuple xs.reverse)
  | _ => .stuck
theorem pE_rvt (hc : X.calm = true) (hg : Gl X "tuple") (hm : X.mg "tuple" = none) (hg2 : Gl X "reversed") (hm2 : X.mg "reversed" = none) (hs : ∀ e' p, e ≠ .Starred e' p) (ha : PE X e (TEo X Wx ma)) :
    PE X (.Call (.Name "tuple" pp) [.Call (.Name "reversed" pp2) [e] [] pos2] [] pos) (TEe X Wx fun ρ => (ma ρ).bind rvtD) := by
  refine pe_of (pe_tupRevT hc hg hm hg2 hm2 ha (star1 hs X.env)) fun σ H Q ⟨p, H0, γ, ρ, st, er, hq⟩ => ?_
  refine ⟨p, H0, γ, ρ, st, er, (ma ρ).mono (fun d h1 γ1 H1 x e1 c1 => ?_) (fun _ q => q) hq⟩
  cases d <;> first
    | exact False.elim h1
    | skip
  obtain ⟨al, vs, rfl, hta, ra⟩ := ct_tup c1
  exact ⟨al, vs, rfl, (hta.mono e1.st.sub).sq, fun l o od n => Post.tup (Post.ext h1 st e1) e1.st (repAll_rev ra) l o od n⟩
end
end Ev

/-! Ev8: statements. -/
namespace Ev
open PySem PySem.Spec PyProof.Rows L2

inductive Out where
  | nx (ρ : List Sl) | rt (d : D) | bk (ρ : List Sl) | ct (ρ : List Sl)
abbrev XS := Exc × List Sl
abbrev S := List Sl → W XS Out
def PostS (K : PySem.W.Frag) (p : Option Addr) (γ0 H0 γ : Hp) (E : Ends) : Out → Prop
  | .nx ρ' => ∀ γ' H' σ', Same γ γ' → Ext K p γ0 H0 γ' H' → EnvR K p H0 γ' H' σ' ρ' → E.nx σ' H'
  | .bk ρ' => ∀ γ' H' σ', Same γ γ' → Ext K p γ0 H0 γ' H' → EnvR K p H0 γ' H' σ' ρ' → E.bk σ' H'
  | .ct ρ' => ∀ γ' H' σ', Same γ γ' → Ext K p γ0 H0 γ' H' → EnvR K p H0 γ' H' σ' ρ' → E.ct σ' H'
  | .rt d => ∀ γ' H' v, Same γ γ' → Ext K p γ0 H0 γ' H' → Rep K γ' v d → E.rt v H'
def ExS (K : PySem.W.Frag) (mg : Str → Option Value) (Wx : WX) (p : Option Addr) (γ0 H0 γ : Hp) : XS → Prop := fun x => ∀ γ' H' σ' c dd, Same γ γ' → Ext K p γ0 H0 γ' H' → EnvR K p H0 γ' H' σ' x.2 → ExcR mg x.1 c dd H' → Wx c dd σ' H'
def RdS (K : PySem.W.Frag) (mg : Str → Option Value) (Wx : WX) (p : Option Addr) (γ0 H0 : Hp) (m : S) : TS := fun E σ H => ∃ γ ρ, Ext K p γ0 H0 γ H ∧ EnvR K p H0 γ H σ ρ ∧ (m ρ).run (PostS K p γ0 H0 γ E) (ExS K mg Wx p γ0 H0 γ)
abbrev TSs (X : Cx) (Wx : WX) (p : Option Addr) (γ0 H0 : Hp) (m : S) : TS := RdS X.K X.mg Wx p γ0 H0 m
def lf {α : Type} (ρ : List Sl) (m : W Exc α) : W XS α := m.mapErr fun x => (x, ρ)
@[simp] theorem lf_run {α : Type} {ρ : List Sl} {m : W Exc α} {Q : α → Prop} {XX : XS → Prop} : (lf ρ m).run Q XX = m.run Q (fun x => XX (x, ρ)) := rfl

section
variable {X : Cx} {Wx : WX} {p : Option Addr} {γ0 H0 : Hp} {e a b c : Expr} {st : Stmt} {sts rest : List Stmt} {pos : Pos} {me ma mb : List Sl → W Exc D} {mt : List Sl → W Exc Bool} {m m1 m2' : S}
theorem PostS.mono {K : PySem.W.Frag} {γ γ1 : Hp} {E : Ends} {o : Out} (h : PostS K p γ0 H0 γ E o) (s : Same γ γ1) : PostS K p γ0 H0 γ1 E o := by
  cases o with
  | nx ρ => exact fun γ' H' σ' s' => h γ' H' σ' (s.trans s')
  | bk ρ => exact fun γ' H' σ' s' => h γ' H' σ' (s.trans s')
  | ct ρ => exact fun γ' H' σ' s' => h γ' H' σ' (s.trans s')
  | rt d => exact fun γ' H' v s' => h γ' H' v (s.trans s')
theorem ExS.toE {K : PySem.W.Frag} {mg : Str → Option Value} {γ H : Hp} {σ : St} {ρ : List Sl} {x : Exc} (st0 : Stt K p γ0 H0) (e0 : Ext K p γ0 H0 γ H) (er : EnvR K p H0 γ H σ ρ) {γb : Hp} (sb : Same γb γ) (h : ExS K mg Wx p γ0 H0 γb (x, ρ)) : ExW K mg Wx p γ H σ x :=
  fun γ' H' cc dd e' r => h γ' H' σ cc dd (sb.trans e'.gg) (Ext.trans st0 e0 e') (er.ext e') r
theorem ExS.mono {K : PySem.W.Frag} {mg : Str → Option Value} {γ γ1 : Hp} {x : XS} (h : ExS K mg Wx p γ0 H0 γ x) (s : Same γ γ1) : ExS K mg Wx p γ0 H0 γ1 x := fun γ' H' σ' cc dd s' => h γ' H' σ' cc dd (s.trans s')

/-! ### blocks -/
theorem pS_nil : PSs X [] (TSs X Wx p γ0 H0 fun ρ => .ret (.nx ρ)) := pss_of pss_nil fun E σ H ⟨γ, ρ, e0, er, hm⟩ => hm γ H σ (.refl _) e0 er
def seqS (m1 m2 : S) : S := fun ρ => (m1 ρ).bind fun o => match o with
  | .nx ρ' => m2 ρ'
  | .rt d => .ret (.rt d)
  | .bk ρ' => .ret (.bk ρ')
  | .ct ρ' => .ret (.ct ρ')
theorem pS_cons (h1 : PS X st (TSs X Wx p γ0 H0 m1)) (h2 : PSs X rest (TSs X Wx p γ0 H0 m2')) : PSs X (st :: rest) (TSs X Wx p γ0 H0 (seqS m1 m2')) := by
  refine pss_of (pss_cons h1 h2) fun E σ H ⟨γ, ρ, e0, er, hm⟩ => ⟨γ, ρ, e0, er, (m1 ρ).mono (fun o h => ?_) (fun _ q => q) hm⟩
  cases o with
  | nx ρ' => exact fun γ' H' σ' s' e' er' => ⟨γ', ρ', e', er', (m2' ρ').mono (fun o q => q.mono s') (fun _ q => q.mono s') h⟩
  | rt d => exact h
  | bk ρ' => exact h
  | ct ρ' => exact h
theorem pS_pass : PS X (.Pass pos) (TSs X Wx p γ0 H0 fun ρ => .ret (.nx ρ)) := ps_of ps_pass fun E σ H ⟨γ, ρ, e0, er, hm⟩ => hm γ H σ (.refl _) e0 er
theorem pS_brk : PS X (.Break pos) (TSs X Wx p γ0 H0 fun ρ => .ret (.bk ρ)) := ps_of ps_break fun E σ H ⟨γ, ρ, e0, er, hm⟩ => hm γ H σ (.refl _) e0 er
theorem pS_cnt : PS X (.Continue pos) (TSs X Wx p γ0 H0 fun ρ => .ret (.ct ρ)) := ps_of ps_continue fun E σ H ⟨γ, ρ, e0, er, hm⟩ => hm γ H σ (.refl _) e0 er

/-! ### values -/
section
variable (st0 : Stt X.K p γ0 H0)
include st0
theorem pS_ret (he : PE X e (TEe X Wx me)) : PS X (.Return (some e) pos) (TSs X Wx p γ0 H0 fun ρ => (lf ρ (me ρ)).bind fun d => .ret (.rt d)) :=
  ps_of (ps_ret he) fun E σ H ⟨γ, ρ, e0, er, hm⟩ => ⟨p, H0, γ, ρ, e0.st, er, (me ρ).mono (fun d h γ' H' v e' r => h γ' H' v e'.gg (Ext.trans st0 e0 e') r) (fun x q => q.toE st0 e0 er (.refl _)) hm⟩
theorem pS_retN : PS X (.Return none pos) (TSs X Wx p γ0 H0 fun ρ => .ret (.rt .none)) := ps_of ps_retN fun E σ H ⟨γ, ρ, e0, er, hm⟩ => hm γ H .non (.refl _) e0 .non
theorem pS_drop (he : PE X e (TEe X Wx me)) (hs : swapsWith e none pos.line X.env = pure false) : PS X (.Expr e pos) (TSs X Wx p γ0 H0 fun ρ => (lf ρ (me ρ)).bind fun _ => .ret (.nx ρ)) :=
  ps_of (ps_expr he hs) fun E σ H ⟨γ, ρ, e0, er, hm⟩ => ⟨p, H0, γ, ρ, e0.st, er, (me ρ).mono (fun d h γ' H' v e' r => h γ' H' σ e'.gg (Ext.trans st0 e0 e') (er.ext e')) (fun x q => q.toE st0 e0 er (.refl _)) hm⟩
theorem pS_set {i : Nat} {x : Str} {pos' : Pos} (hN : X.N.Nodup) (hi : X.N[i]? = some x) (hx : Loc X.env.scope x) (hf : X.fn x = true ∨ X.env.scope.names.lookup x = some .local) (he : PE X e (TEe X Wx me)) (hs : swapsWith e (some (.Name x pos')) pos.line X.env = pure false) :
    PS X (.Assign [.Name x pos'] e pos) (TSs X Wx p γ0 H0 fun ρ => (lf ρ (me ρ)).bind fun d => .ret (.nx (ρ.set i (.val d)))) :=
  ps_of (ps_set hN hi hx he hs hf) fun E σ H ⟨γ, ρ, e0, er, hm⟩ => ⟨p, H0, γ, ρ, e0.st, er, (me ρ).mono (fun d h γ' H' v e' r => h γ' H' _ e'.gg (Ext.trans st0 e0 e') ((er.ext e').setVal r)) (fun x q => q.toE st0 e0 er (.refl _)) hm⟩
/-- name = a fresh list: it is ours -/
theorem own_set {mf : List Sl → W Exc (List D)} {i : Nat} {E : Ends} {σ : St} {H γ : Hp} {ρ : List Sl} (e0 : Ext X.K p γ0 H0 γ H) (er : EnvR X.K p H0 γ H σ ρ) {xs : List D} (h : PostS X.K p γ0 H0 γ E (.nx (ρ.set i (.own xs)))) :
    PostF X.K p γ H (fun v H1 => gName i v σ H1 E.nx) xs := by
  intro γ' H' al vs e' n n' hq r
  have hp : p ≠ some al := fun hp => by
    obtain ⟨_, _, _, _, _, _, _, f1, _⟩ := e0.st.pool al hp
    rw [n] at f1; cases f1
  refine h γ' H' _ e'.gg (Ext.trans st0 e0 e') ((er.ext e').set (s := .own xs) ⟨al, vs, rfl, hq, n', hp, e0.fre st0 n, r⟩ fun xs' _ j ys hj hy => ?_)
  obtain ⟨ov, f1, b, ws, f2, f3, _⟩ := er.sl j _ hy
  rw [f1, f2]
  intro z
  cases z
  rw [n] at f3; cases f3
theorem pS_setF {mf : List Sl → W Exc (List D)} {i : Nat} {x : Str} {pos' : Pos} (hN : X.N.Nodup) (hi : X.N[i]? = some x) (hx : Loc X.env.scope x) (hf : X.fn x = true ∨ X.env.scope.names.lookup x = some .local) (he : PE X e (TEf X Wx mf)) (hs : swapsWith e (some (.Name x pos')) pos.line X.env = pure false) :
    PS X (.Assign [.Name x pos'] e pos) (TSs X Wx p γ0 H0 fun ρ => (lf ρ (mf ρ)).bind fun xs => .ret (.nx (ρ.set i (.own xs)))) :=
  ps_of (ps_set hN hi hx he hs hf) fun E σ H ⟨γ, ρ, e0, er, hm⟩ => ⟨p, H0, γ, ρ, e0.st, er, (mf ρ).mono (fun xs h => own_set (mf := mf) st0 e0 er h) (fun x q => q.toE st0 e0 er (.refl _)) hm⟩
/-- a target, a value -/
theorem pS_asg {tg : Expr} {t : T} (hg : PG X tg (gT X.K t)) (he : PE X e (TEe X Wx me)) (hs : swapsWithSole [tg] e pos.line X.env = pure false) (hw : swappedStores [tg] e X.env = pure none) (h1 : (assignEach [tg] X.env).map (·.2) = [assign tg X.env]) :
    PS X (.Assign [tg] e pos) (TSs X Wx p γ0 H0 fun ρ => (lf ρ (me ρ)).bind fun d => (lf ρ (asgT t d ρ)).bind fun ρ' => .ret (.nx ρ')) :=
  ps_of (ps_asg he hg hs hw h1) fun E σ H ⟨γ, ρ, e0, er, hm⟩ => ⟨p, H0, γ, ρ, e0.st, er, (me ρ).mono (fun d h γ' H' v e' r =>
    gT_ok e'.st (.inl r) (fun _ _ => r) (er.ext e') h fun ρ' σ' h' er' _ _ => h' γ' H' σ' e'.gg (Ext.trans st0 e0 e') er') (fun x q => q.toE st0 e0 er (.refl _)) hm⟩

/-! ### if, for, while -/
theorem pS_if {aa bb : List Stmt} (hc : PT X c (TTt X Wx mt)) (ha : PSs X aa (TSs X Wx p γ0 H0 m1)) (hb : PSs X bb (TSs X Wx p γ0 H0 m2')) : PS X (.If c aa bb pos) (TSs X Wx p γ0 H0 fun ρ => (lf ρ (mt ρ)).bind fun k => if k then m1 ρ else m2' ρ) :=
  ps_of (ps_if hc ha hb) fun E σ H ⟨γ, ρ, e0, er, hm⟩ => ⟨p, H0, γ, ρ, e0.st, er, (mt ρ).mono (fun k h γ' H' e' => by
    cases k with
    | true => exact ⟨γ', ρ, Ext.trans st0 e0 e', er.ext e', (m1 ρ).mono (fun o q => q.mono e'.gg) (fun _ q => q.mono e'.gg) h⟩
    | false => exact ⟨γ', ρ, Ext.trans st0 e0 e', er.ext e', (m2' ρ).mono (fun o q => q.mono e'.gg) (fun _ q => q.mono e'.gg) h⟩) (fun x q => q.toE st0 e0 er (.refl _)) hm⟩
end
/-- what a turn leads to -/
def loopO (k : S) : Out → W XS Out
  | .nx ρ => k ρ
  | .ct ρ => k ρ
  | .bk ρ => .ret (.nx ρ)
  | .rt d => .ret (.rt d)
def forD (t : T) (body : S) : List D → S
  | [], ρ => .ret (.nx ρ)
  | x :: xs, ρ => (lf ρ (asgT t x ρ)).bind fun ρ1 => (body ρ1).bind (loopO (forD t body xs))
def forS (t : T) (mi : List Sl → W Exc (List D)) (body : S) : S := fun ρ => (lf ρ (mi ρ)).bind fun xs => forD t body xs ρ
theorem pS_for {tg iter : Expr} {body : List Stmt} {t : T} {mi : List Sl → W Exc (List D)} {pl : Bool} (st0 : Stt X.K p γ0 H0) (hp : PassesOwn (model X.prog X.w) X.A X.env X.xe) (hc : X.calm = true) (hpl : ∀ i, t = .nm i → pl = true) (hi : PI X tg iter (TIi X Wx mi pl)) (hg : PG X tg (gT X.K t))
    (hb : PSs X body (TSs X Wx p γ0 H0 m)) (hs : ∀ x, foldedSetIterable iter X.env x = pure x) : PS X (.For tg iter body [] pos) (TSs X Wx p γ0 H0 (forS t mi m)) := by
  refine ps_of (ps_for hp hc hi hg hb hs) fun E σ H ⟨γ, ρ, e0, er, hm⟩ => ⟨p, H0, γ, ρ, e0.st, er, (mi ρ).mono (fun xs h1 γ1 H1 J e1 it => ?_) (fun x q => q.toE st0 e0 er (.refl _)) hm⟩
  refine ⟨fun i n σ' H' => n = xs.length - i ∧ i ≤ xs.length ∧ ∃ γ' ρ', Same γ1 γ' ∧ Ext X.K p γ0 H0 γ' H' ∧ EnvR X.K p H0 γ' H' σ' ρ' ∧ (forD t m (xs.drop i) ρ').run (PostS X.K p γ0 H0 γ E) (ExS X.K X.mg Wx p γ0 H0 γ),
    ⟨xs.length, by simp, Nat.zero_le _, γ1, ρ, .refl _, Ext.trans st0 e0 e1, er.ext e1, h1⟩, ?_⟩
  rintro i n σ' H' ⟨rfl, hi, γ', ρ', s1, e2, er2, hr⟩
  by_cases hlt : i < xs.length
  · have hdrop : xs.drop i = xs[i] :: xs.drop (i + 1) := List.drop_eq_getElem_cons hlt
    rw [hdrop] at hr
    refine .inr ⟨it.go γ' H' i s1 e2.st hlt, fun σ'' H'' => ∃ γ'' ρ'', Same γ1 γ'' ∧ Ext X.K p γ0 H0 γ'' H'' ∧ EnvR X.K p H0 γ'' H'' σ'' ρ'' ∧ (forD t m (xs.drop (i + 1)) ρ'').run (PostS X.K p γ0 H0 γ E) (ExS X.K X.mg Wx p γ0 H0 γ),
      fun σ'' H'' q => ⟨xs.length - (i + 1), by omega, rfl, hlt, q⟩, fun x H'' hy => ?_⟩
    obtain ⟨d, hd, r, rp, e3⟩ := it.yld γ' H' i x H'' s1 e2.st hlt hy
    have hd' : xs[i] = d := by rw [List.getElem?_eq_getElem hlt] at hd; exact Option.some.inj hd
    rw [hd'] at hr
    have e03 := Ext.trans st0 e2 e3
    refine gT_ok e3.st r (fun i hi => rp (hpl i hi)) (er2.ext e3) hr fun ρ1 σ1 h2 er3 _ _ => ?_
    refine ⟨γ', ρ1, e03, er3, (m ρ1).mono (fun o h3 => ?_) (fun _ q => q.mono (e1.gg.trans s1)) h2⟩
    cases o with
    | nx ρ3 => exact fun γ4 H4 σ4 s4 e4 er4 => ⟨γ4, ρ3, s1.trans s4, e4, er4, h3⟩
    | ct ρ3 => exact fun γ4 H4 σ4 s4 e4 er4 => ⟨γ4, ρ3, s1.trans s4, e4, er4, h3⟩
    | bk ρ3 => exact fun γ4 H4 σ4 s4 e4 er4 => h3 γ4 H4 σ4 (e1.gg.trans (s1.trans s4)) e4 er4
    | rt d3 => exact fun γ4 H4 v4 s4 e4 r4 => h3 γ4 H4 v4 (e1.gg.trans (s1.trans s4)) e4 r4
  · have ei : i = xs.length := by omega
    subst ei
    rw [List.drop_length] at hr
    exact .inl ⟨it.stop γ' H' _ s1 e2.st (Nat.le_refl _), hr γ' H' σ' (e1.gg.trans s1) e2 er2⟩
/-- some number of turns is enough -/
def someW {ε α : Type} (f : Nat → W ε α) : W ε α := ⟨fun Q X => ∃ n, (f n).run Q X, fun h hx ⟨n, q⟩ => ⟨n, (f n).mono h hx q⟩⟩
@[simp] theorem someW_run {ε α : Type} {f : Nat → W ε α} {Q : α → Prop} {XX : ε → Prop} : (someW f).run Q XX = ∃ n, (f n).run Q XX := rfl
def whileN (mt : List Sl → W Exc Bool) (body : S) : Nat → S
  | 0, _ => .stuck
  | n + 1, ρ => (lf ρ (mt ρ)).bind fun k => if k then (body ρ).bind (loopO (whileN mt body n)) else .ret (.nx ρ)
def whileS (mt : List Sl → W Exc Bool) (body : S) : S := fun ρ => someW fun n => whileN mt body n ρ
theorem pS_while {body : List Stmt} (st0 : Stt X.K p γ0 H0) (hp : PassesOwn (model X.prog X.w) X.A X.env X.xe) (hc : PT X c (TTt X Wx mt)) (hb : PSs X body (TSs X Wx p γ0 H0 m)) : PS X (.While c body [] pos) (TSs X Wx p γ0 H0 (whileS mt m)) := by
  refine ps_of (ps_while hp hc hb) fun E σ H ⟨γ, ρ, e0, er, n0, hm⟩ => ?_
  refine ⟨fun n σ' H' => ∃ γ' ρ', Same γ γ' ∧ Ext X.K p γ0 H0 γ' H' ∧ EnvR X.K p H0 γ' H' σ' ρ' ∧ (whileN mt m n ρ').run (PostS X.K p γ0 H0 γ E) (ExS X.K X.mg Wx p γ0 H0 γ), ⟨n0, γ, ρ, .refl _, e0, er, hm⟩, ?_⟩
  rintro n σ' H' ⟨γ', ρ', s1, e2, er2, hr⟩
  cases n with
  | zero => exact hr.elim
  | succ n =>
    refine ⟨p, H0, γ', ρ', e2.st, er2, (mt ρ').mono (fun k h3 γ3 H3 e3 => ?_) (fun x q => q.toE st0 e2 er2 s1) hr⟩
    have e03 := Ext.trans st0 e2 e3
    cases k with
    | false => exact h3 γ3 H3 σ' (s1.trans e3.gg) e03 (er2.ext e3)
    | true =>
      refine ⟨fun σ'' H'' => ∃ γ'' ρ'', Same γ γ'' ∧ Ext X.K p γ0 H0 γ'' H'' ∧ EnvR X.K p H0 γ'' H'' σ'' ρ'' ∧ (whileN mt m n ρ'').run (PostS X.K p γ0 H0 γ E) (ExS X.K X.mg Wx p γ0 H0 γ), fun σ'' H'' q => ⟨n, Nat.lt_succ_self _, q⟩, γ3, ρ', e03, er2.ext e3, (m ρ').mono (fun o h4 => ?_) (fun _ q => q.mono (s1.trans e3.gg)) h3⟩
      cases o with
      | nx ρ4 => exact fun γ4 H4 σ4 s4 e4 er4 => ⟨γ4, ρ4, s1.trans (e3.gg.trans s4), e4, er4, h4⟩
      | ct ρ4 => exact fun γ4 H4 σ4 s4 e4 er4 => ⟨γ4, ρ4, s1.trans (e3.gg.trans s4), e4, er4, h4⟩
      | bk ρ4 => exact fun γ4 H4 σ4 s4 e4 er4 => h4 γ4 H4 σ4 (s1.trans (e3.gg.trans s4)) e4 er4
      | rt d4 => exact fun γ4 H4 v4 s4 e4 r4 => h4 γ4 H4 v4 (s1.trans (e3.gg.trans s4)) e4 r4

/-! ### comprehensions as statements' values; ghosts -/
/-- the own list of slot i joins what stays -/
def frzR (ρ : List Sl) (i : Nat) : List Sl := match ρ[i]? with
  | some (.own xs) => ρ.set i (.val (.list xs))
  | some (.dic kvs) => match txK kvs with
    | some ks => ρ.set i (.val (.dict (dkv ks (kvs.map (·.2)))))
    | none => ρ
  | _ => ρ
theorem pS_frz {i : Nat} (st0 : Stt X.K p γ0 H0) (h : PS X st (TSs X Wx p γ0 H0 m)) : PS X st (TSs X Wx p γ0 H0 fun ρ => m (frzR ρ i)) := by
  refine ps_of (ps_lockZ h) fun E σ H ⟨γ, ρ, e0, er, hm⟩ => ?_
  have hm' : (m (frzR ρ i)).run (PostS X.K p γ0 H0 γ E) (ExS X.K X.mg Wx p γ0 H0 γ) := hm
  unfold frzR at hm'
  split at hm'
  · rename_i xs e1
    obtain ⟨al, vs, f1, f2, f3, f4, f5⟩ := er.freeze e0.st e1
    refine .inl ⟨upd γ al (.lst vs), _, ⟨e0.gg.trans f4, fun b o q => ?_, e0.same, f3⟩, f5, (m _).mono (fun o q => q.mono f4) (fun _ q => q.mono f4) hm'⟩
    by_cases hb : b = al
    · subst hb; exact .inr f2
    · rw [upd_ne hb] at q; exact e0.new b o q
  · rename_i xs e1
    split at hm'
    · rename_i ks e2
      obtain ⟨ov, g0, al, vl, g1, g2, _⟩ := er.sl i _ e1
      subst g1
      refine .inr ⟨al, _, g2, trivial, fun od => ?_⟩
      obtain ⟨f1, f2, f3, f4, f5⟩ := er.freezeD e0.st e1 e2 g2 g0 od
      have em : Ext X.K p γ0 H0 γ (upd H al (.frz od (.dK vl))) := Ext.mut st0 e0 f2 f1
      refine ⟨upd γ al (.frz od (.dK vl)), _, ⟨e0.gg.trans f4, fun b o q => ?_, em.same, f3⟩, f5, (m _).mono (fun o q => q.mono f4) (fun _ q => q.mono f4) hm'⟩
      by_cases hb : b = al
      · subst hb; exact .inr f2
      · rw [upd_ne hb] at q; exact e0.new b o q
    · exact .inl ⟨γ, ρ, e0, er, hm'⟩
  · exact .inl ⟨γ, ρ, e0, er, hm'⟩
end
end Ev

/-! Ev9: in, index; our own lists changed. -/
namespace Ev
open PySem PySem.Spec PyProof.Rows L2
section
variable {X : Cx} {Wx : WX} {a b c e : Expr} {es rest : List Expr} {pos pp apos : Pos} {ma mb mc m : List Sl → W Exc D}

/-! ### in -/
def inD (neg : Bool) : D → D → W Exc Bool
  | d, .list ds => (W.ask (sh d = true ∧ sh (.list ds) = true)).bind fun _ => .ret (if neg then !(ds.any fun z => PyData.eqv z d) else ds.any fun z => PyData.eqv z d)
  | d, .tuple ds => (W.ask (sh d = true ∧ sh (.tuple ds) = true)).bind fun _ => .ret (if neg then !(ds.any fun z => PyData.eqv z d) else ds.any fun z => PyData.eqv z d)
  | .str x, .str y => .ret (if neg then !(!(Builtin.Str.occurrences y x 0 y.length 1).isEmpty) else !(Builtin.Str.occurrences y x 0 y.length 1).isEmpty)
  | .str z, .dict kvs => .ret (if neg then !(dlk kvs z).isSome else (dlk kvs z).isSome)
  | _, _ => .stuck
def rInDk (neg : Bool) : R2 := fun x y H Q => ∃ a ov, y = .ref a ∧ DGet H a x ov ∧ Q (.bl (if neg then !ov.isSome else ov.isSome)) H
theorem op_inDk (hu : X.A.units + 1 < cLine) : OpR X (compareOp .In) (rInDk false) := by
  intro pins s σ H x y v u Q I rx ry h
  obtain ⟨a, ov, rfl, g, q⟩ := h
  cases ry
  exact d_in hu I g rx fun s3 I3 => ⟨.bl ov.isSome, H, I3, rfl, q⟩
theorem op_notInDk (hu : X.A.units + 1 < cLine) : OpR X (compareOp .NotIn) (rInDk true) := by
  intro pins s σ H x y v u Q I rx ry h
  obtain ⟨a, ov, rfl, g, q⟩ := h
  cases ry
  exact d_notIn hu I g rx fun s3 I3 => ⟨.bl (!ov.isSome), H, I3, rfl, q⟩
theorem rd_inDk {neg : Bool} {p : Option Addr} {γ H : Hp} {x y : V} {z : Str} {kvs : List (D × D)} {Q : VK} (st : Stt X.K p γ H) (cx : Ct X.K p γ H x (.str z)) (cy : Ct X.K p γ H y (.dict kvs)) (h : Q (.bl (if neg then !(dlk kvs z).isSome else (dlk kvs z).isSome)) H) : rInDk neg x y H Q := by
  obtain ⟨a, ks, xs, ds, rfl, ha, ra, e, rfl⟩ := ct_dct cy
  rw [(ct_str cx).1]
  rcases dct_get st.sub ha ra e.1 z with ⟨d, v, q1, q2, q3⟩ | ⟨q1, q2⟩
  · rw [q1] at h; exact ⟨a, _, rfl, q3, h⟩
  · rw [q1] at h; exact ⟨a, _, rfl, q2, h⟩
def rInT (K : PySem.W.Frag) (neg : Bool) : R2 := fun x y H Q => ∃ d ds, Dp K H x d ∧ Dp K H y (.tuple ds) ∧ SeqAt.shaped d = true ∧ SeqAt.shaped (.tuple ds) = true ∧ Q (.bl (if neg then !(ds.any fun z => PyData.eqv z d) else ds.any fun z => PyData.eqv z d)) H
theorem op_inT (hu : X.A.units + 65 < cLine) : OpR X (compareOp .In) (rInT X.K false) := by
  intro pins s σ H x y v u Q I rx ry h
  obtain ⟨d, ds, hd, he, sd, se, q⟩ := h
  obtain ⟨as, r1⟩ := Dp.reads I d x v hd rx
  obtain ⟨bs, r2⟩ := Dp.reads I (.tuple ds) y u he ry
  exact SeqAt.in_tuple_reads r2 r1 (SeqAt.canLay_of_shaped se) (SeqAt.canLay_of_shaped sd) (PyProof.Rows.room_in_shaped sd hu) ⟨.bl _, H, I, rfl, q⟩
theorem op_notInT (hu : X.A.units + 65 < cLine) : OpR X (compareOp .NotIn) (rInT X.K true) := by
  intro pins s σ H x y v u Q I rx ry h
  obtain ⟨d, ds, hd, he, sd, se, q⟩ := h
  obtain ⟨as, r1⟩ := Dp.reads I d x v hd rx
  obtain ⟨bs, r2⟩ := Dp.reads I (.tuple ds) y u he ry
  exact SeqAt.notIn_tuple_reads r2 r1 (SeqAt.canLay_of_shaped se) (SeqAt.canLay_of_shaped sd) (PyProof.Rows.room_in_shaped sd hu) ⟨.bl _, H, I, rfl, q⟩
abbrev rInAll (K : PySem.W.Frag) : R2 := fun x y H Q => rInD K x y H Q ∨ (rInT K false x y H Q ∨ ((∃ i j, x = .str i ∧ y = .str j ∧ Q (.bl (!(Builtin.Str.occurrences j i 0 j.length 1).isEmpty)) H) ∨ rInDk false x y H Q))
abbrev rNotInAll (K : PySem.W.Frag) : R2 := fun x y H Q => rNotInD K x y H Q ∨ (rInT K true x y H Q ∨ ((∃ i j, x = .str i ∧ y = .str j ∧ Q (.bl (!(!(Builtin.Str.occurrences j i 0 j.length 1).isEmpty))) H) ∨ rInDk true x y H Q))
theorem op_inAll (hu : X.A.units + 65 < cLine) : OpR X (compareOp .In) (rInAll X.K) := (op_inD hu).or ((op_inT hu).or (op_in_str.or (op_inDk (by omega))))
theorem op_notInAll (hu : X.A.units + 65 < cLine) : OpR X (compareOp .NotIn) (rNotInAll X.K) := (op_notInD hu).or ((op_notInT hu).or (op_notin_str.or (op_notInDk (by omega))))
theorem br_in : BrC X.K (inD false) (rInAll X.K) := by
  intro p γ H x y d e Q XX st cx cy h
  cases e with
  | list ds => exact .inl ⟨d, ds, ct_dp cx st (sh_nd h.1.1), ct_dp cy st (sh_nd h.1.2), sh_shaped h.1.1 (ct_lay cx st (sh_nd h.1.1)), sh_shaped h.1.2 (ct_lay cy st (sh_nd h.1.2)), h.2⟩
  | tuple ds => exact .inr (.inl ⟨d, ds, ct_dp cx st (sh_nd h.1.1), ct_dp cy st (sh_nd h.1.2), sh_shaped h.1.1 (ct_lay cx st (sh_nd h.1.1)), sh_shaped h.1.2 (ct_lay cy st (sh_nd h.1.2)), h.2⟩)
  | str z =>
    cases d <;> first
      | exact False.elim h
      | exact .inr (.inr (.inl ⟨_, z, (ct_str cx).1, (ct_str cy).1, h⟩))
  | dict kvs =>
    cases d <;> first
      | exact False.elim h
      | exact .inr (.inr (.inr (rd_inDk st cx cy h)))
  | _ => cases d <;> exact False.elim h
theorem br_notIn : BrC X.K (inD true) (rNotInAll X.K) := by
  intro p γ H x y d e Q XX st cx cy h
  cases e with
  | list ds => exact .inl ⟨d, ds, ct_dp cx st (sh_nd h.1.1), ct_dp cy st (sh_nd h.1.2), sh_shaped h.1.1 (ct_lay cx st (sh_nd h.1.1)), sh_shaped h.1.2 (ct_lay cy st (sh_nd h.1.2)), h.2⟩
  | tuple ds => exact .inr (.inl ⟨d, ds, ct_dp cx st (sh_nd h.1.1), ct_dp cy st (sh_nd h.1.2), sh_shaped h.1.1 (ct_lay cx st (sh_nd h.1.1)), sh_shaped h.1.2 (ct_lay cy st (sh_nd h.1.2)), h.2⟩)
  | str z =>
    cases d <;> first
      | exact False.elim h
      | exact .inr (.inr (.inl ⟨_, z, (ct_str cx).1, (ct_str cy).1, h⟩))
  | dict kvs =>
    cases d <;> first
      | exact False.elim h
      | exact .inr (.inr (.inr (rd_inDk st cx cy h)))
  | _ => cases d <;> exact False.elim h

/-! ### methods of built-in types, with one argument -/
/-- the receiver is of the type, by data -/
def tyB (K : PySem.W.Frag) (T : _root_.String) (x : V) (H : Hp) : Prop := match x with
  | .str _ => T = "str"
  | .ref p => (T = "list" ∧ ∃ xs, SqL K H p xs) ∨ (T = "tuple" ∧ ∃ xs, TupAt K H p xs)
  | _ => False
theorem tyB_is {pins : List (Addr × Obj)} {σ : St} {H : Hp} {s : Shared} {T : _root_.String} {x : V} {v : Value} (I : Inv X pins σ H s) (r : RelV x v) (ty : tyB X.K T x H) :
    s.TypeIs v T ∧ ∀ al, v = .ref al → ∃ ob, s.heap.get? al = some ob ∧ ob.dict = none := by
  cases x <;> first
    | exact False.elim ty
    | skip
  · obtain ⟨t, rfl⟩ := r
    obtain rfl : T = "str" := ty
    exact ⟨typeIs_str s _ t, fun _ e => nomatch e⟩
  · rename_i p
    obtain rfl : v = Value.ref p := r
    rcases ty with ⟨rfl, xs, hq⟩ | ⟨rfl, xs, hq⟩
    · obtain ⟨its, _, pl, _⟩ := I.list hq
      refine ⟨pl.isList.typeIs, fun al e => ?_⟩
      cases e
      obtain ⟨o, n, e, c, hd, _⟩ := pl
      exact ⟨o, e, hd⟩
    · rcases hq with ⟨o, hq, od⟩ | ⟨o, its, n, hk, hc, hd, _⟩
      · obtain ⟨ho, _, its, _, o', ho', hc, _⟩ := (show ObjOk X.prog X.w H s.heap p (.frz o (.tup xs)) from I.hok p _ hq)
        rw [ho] at ho'; cases ho'
        exact ⟨⟨o, ho, hc⟩, fun al e => by cases e; exact ⟨o, ho, od⟩⟩
      · exact ⟨⟨o, I.kIn p o hk, hc⟩, fun al e => by cases e; exact ⟨o, I.kIn _ o hk, hd⟩⟩
def tMB (K : PySem.W.Frag) (T : _root_.String) (r : V → List V → Hp → VK → Prop) (to : TE) (t : TA) : TE := fun σ H Q => to σ H fun x H1 => tyB K T x H1 ∧ t σ H1 fun xs H2 => r x xs H2 Q
theorem few1 (h : ∀ e' p, e ≠ .Starred e' p) (cpos : Pos) (env : Env) : ((backTo cpos (starEach [e] env)).all (fun x => !x.1) && (backToKw cpos (keywordEach [] env)).all (fun x => x.1.isSome)
      && decide ([e].length + ([] : List Keyword).length + (if ([] : List Keyword).isEmpty then 0 else 1) < 30)) = true := by
  rw [star1 h]; rfl
theorem pe_mb {o : Expr} {name : Str} {id T : _root_.String} {r : V → List V → Hp → VK → Prop} {to : TE} {t : TA} (pa : PlainAttrs T) (slot : Slot T name id) (hty : typeOf (.builtin id) = pure (.type "method_descriptor")) (hm : MtR X id r) (ho : PE X o to) (ha : PA X [e] t)
    (hbase : attributeBase o name X.env (eval o X.env) = eval o X.env) (hs : ∀ e' p, e ≠ .Starred e' p) (hline : (apos.endLine == pos.line) = true) : PE X (.Call (.Attribute o name apos) [e] [] pos) (tMB X.K T r to t) := by
  refine ⟨fun pins s σ H Q I h => ?_⟩
  refine wpAny_Call_method_late hbase (few1 hs _ _) hline rfl (thn (ho.run pins s σ H _ I h) fun v s1 hh => ?_)
  obtain ⟨x, H1, I1, r1, ty, q1⟩ := hh
  obtain ⟨h1, h2⟩ := tyB_is I1 r1 ty
  refine ⟨T, id, pa, slot, hty, h1, h2, ?_⟩
  have hA := ha.run pos pins s1 σ H1 _ I1 q1
  rw [star1 hs] at hA ⊢
  exact Calls.callWith_builtin rfl (Calls.evalArgs_plain (thn hA fun us s2 ⟨vs, H2, I2, r2, q2⟩ => hm pins s2 σ H2 x vs v us Q I2 r1 r2 q2))
end
end Ev

/-! Ev10: index; our own lists changed; augmented assignments; raise, try. -/
namespace Ev
open PySem PySem.Spec PyProof.Rows L2
section
variable {X : Cx} {Wx : WX} {a b c e : Expr} {es rest : List Expr} {pos pp apos : Pos} {ma mb mc m : List Sl → W Exc D}

/-! ### index -/
def findD (ds : List D) (d : D) : Option Nat := ds.findIdx? fun z => PyData.eqv z d
def indexD : D → D → W Exc D
  | .list ds, d => (W.ask (sh d = true ∧ sh (.list ds) = true)).bind fun _ => match findD ds d with
    | some j => .ret (.int j)
    | none => .stuck
  | .tuple ds, d => (W.ask (sh d = true ∧ sh (.tuple ds) = true)).bind fun _ => match findD ds d with
    | some j => .ret (.int j)
    | none => .stuck
  | _, _ => .stuck
theorem findD_some {ds : List D} {d : D} {j : Nat} (h : findD ds d = some j) : ∃ z, ds[j]? = some z ∧ PyData.eqv z d = true ∧ ∀ (m : Nat) (z' : D), m < j → ds[m]? = some z' → PyData.eqv z' d = false := by
  unfold findD at h
  rw [List.findIdx?_eq_some_iff_getElem] at h
  obtain ⟨h1, h2, h3⟩ := h
  refine ⟨ds[j], List.getElem?_eq_getElem h1, h2, fun m z' hm hz => ?_⟩
  obtain ⟨h4, h5⟩ := List.getElem?_eq_some_iff.mp hz
  have := h3 m hm
  rw [h5] at this
  cases q : PyData.eqv z' d with
  | false => rfl
  | true => exact absurd q this
def rIndexT (K : PySem.W.Frag) : V → List V → Hp → VK → Prop := fun x xs H Q => ∃ (al : Addr) (y : V) (d : D) (ds : List D) (j : Nat) (z : D), x = V.ref al ∧ xs = [y] ∧ Dp K H (V.ref al) (.tuple ds) ∧ Dp K H y d ∧
  SeqAt.shaped (.tuple ds) = true ∧ SeqAt.shaped d = true ∧ ds[j]? = some z ∧ PyData.eqv z d = true ∧ (∀ (m : Nat) (z' : D), m < j → ds[m]? = some z' → PyData.eqv z' d = false) ∧ Q (.int (j : Nat)) H
theorem mt_indexT (hu : X.A.units + 65 < cLine) : MtR X "tuple.index" (rIndexT X.K) := by
  intro pins s σ H x xs v us Q I rx rxs h
  obtain ⟨al, y, d, ds, j, z, rfl, rfl, hl, hy, sl, sd, hz, hzj, hno, q⟩ := h
  obtain rfl : v = Value.ref al := rx
  obtain ⟨uy, rfl, ry⟩ := vals1 rxs
  obtain ⟨bs, r1⟩ := Dp.reads I d y uy hy ry
  have hxs : PyData.canLayAll0 ds = true := SeqAt.canLay_of_shaped sl
  cases hl with
  | tup hs ha =>
    obtain ⟨its, rv, ⟨⟨cls, dd, data, sls⟩, ho, hc, n, hdt⟩, hlen⟩ := I.tuple hs
    simp only at hc hdt
    subst hc hdt
    obtain ⟨as, h4⟩ := Dp.readsAll I ds _ its ha rv
    have hn : its.length = ds.length := SeqAt.ReadsAll.length ds its as h4
    have hmap : its.map (SeqAt.readOf s.heap) = ds := SeqAt.readsAll_map ds its as hxs h4
    obtain ⟨hjd, _⟩ := List.getElem?_eq_some_iff.mp hz
    have hj : j < its.toArray.size := by simp; omega
    have at_ : ∀ (m : Nat) (hm : m < its.toArray.size) (z' : D), ds[m]? = some z' → SeqAt.readOf s.heap its.toArray[m] = z' := fun m hm z' hz' => by
      have hml : m < its.length := by simpa using hm
      rw [← hmap, List.getElem?_map, List.getElem?_eq_getElem hml] at hz'
      simpa using Option.some.inj hz'
    refine call_meets PySem.F.slot_tuple_index ⟨_, ho, rfl⟩ PySem.F.entry_tuple_index (PySem.F.args_tuple_index_2 _ _)
      (TI.tuple_indexAt al its.toArray n dd sls uy (fun u => PyData.eqv (SeqAt.readOf s.heap u) d) j hj ?_ fun m hm hmj => ?_) ⟨ho, SeqAt.items_eqAt (vs := its.toArray) (show ReadsAll s.heap its.toArray.toList ds as from h4) r1 hxs (SeqAt.canLay_of_shaped sd) (PyProof.Rows.room_in_shaped sd hu), ?_⟩
    · show PyData.eqv (SeqAt.readOf s.heap its.toArray[j]) d = true
      rw [at_ j hj z hz]; exact hzj
    · have hmd : m < ds.length := by omega
      show PyData.eqv (SeqAt.readOf s.heap its.toArray[m]) d = false
      rw [at_ m hm _ (List.getElem?_eq_getElem hmd)]
      exact hno m _ hmj (List.getElem?_eq_getElem hmd)
    · exact ⟨.int (j : Nat), H, I.tok _, ⟨_, rfl⟩, q⟩
/-- a method of lists and of tuples -/
def tMB2 (K : PySem.W.Frag) (r1 r2 : V → List V → Hp → VK → Prop) (to : TE) (t : TA) : TE := fun σ H Q => to σ H fun x H1 => (tyB K "list" x H1 ∧ t σ H1 fun xs H2 => r1 x xs H2 Q) ∨ (tyB K "tuple" x H1 ∧ t σ H1 fun xs H2 => r2 x xs H2 Q)
theorem pe_mb2 {o : Expr} {name : Str} {id1 id2 : _root_.String} {r1 r2 : V → List V → Hp → VK → Prop} {to : TE} {t : TA} (slot1 : Slot "list" name id1) (slot2 : Slot "tuple" name id2) (hty1 : typeOf (.builtin id1) = pure (.type "method_descriptor")) (hty2 : typeOf (.builtin id2) = pure (.type "method_descriptor"))
    (hm1 : MtR X id1 r1) (hm2 : MtR X id2 r2) (ho : PE X o to) (ha : PA X [e] t) (hbase : attributeBase o name X.env (eval o X.env) = eval o X.env) (hs : ∀ e' p, e ≠ .Starred e' p) (hline : (apos.endLine == pos.line) = true) :
    PE X (.Call (.Attribute o name apos) [e] [] pos) (tMB2 X.K r1 r2 to t) := by
  refine ⟨fun pins s σ H Q I h => ?_⟩
  refine wpAny_Call_method_late hbase (few1 hs _ _) hline rfl (thn (ho.run pins s σ H _ I h) fun v s1 hh => ?_)
  obtain ⟨x, H1, I1, r1', hq⟩ := hh
  rcases hq with ⟨ty, q1⟩ | ⟨ty, q1⟩
  · obtain ⟨h1, h2⟩ := tyB_is I1 r1' ty
    refine ⟨"list", id1, PySem.F.plainAttrs_list, slot1, hty1, h1, h2, ?_⟩
    have hA := ha.run pos pins s1 σ H1 _ I1 q1
    rw [star1 hs] at hA ⊢
    exact Calls.callWith_builtin rfl (Calls.evalArgs_plain (thn hA fun us s2 ⟨vs, H2, I2, r2, q2⟩ => hm1 pins s2 σ H2 x vs v us Q I2 r1' r2 q2))
  · obtain ⟨h1, h2⟩ := tyB_is I1 r1' ty
    refine ⟨"tuple", id2, PySem.F.plainAttrs_tuple, slot2, hty2, h1, h2, ?_⟩
    have hA := ha.run pos pins s1 σ H1 _ I1 q1
    rw [star1 hs] at hA ⊢
    exact Calls.callWith_builtin rfl (Calls.evalArgs_plain (thn hA fun us s2 ⟨vs, H2, I2, r2, q2⟩ => hm2 pins s2 σ H2 x vs v us Q I2 r1' r2 q2))
def seqOnly : D → W Exc Unit
  | .list _ => .ret ()
  | .tuple _ => .ret ()
  | _ => .stuck
abbrev indexW (ma mb : List Sl → W Exc D) : List Sl → W Exc D := fun ρ => (ma ρ).bind fun d => (seqOnly d).bind fun _ => (mb ρ).bind fun e => indexD d e
theorem pE_index {o : Expr} (hu : X.A.units + 65 < cLine) (ho : PE X o (TEo X Wx ma)) (ha : PE X e (TEo X Wx mb)) (hbase : attributeBase o "index" X.env (eval o X.env) = eval o X.env) (hs : ∀ e' p, e ≠ .Starred e' p) (hline : (apos.endLine == pos.line) = true) :
    PE X (.Call (.Attribute o "index" apos) [e] [] pos) (TEe X Wx (indexW ma mb)) := by
  refine pe_of (pe_mb2 (r1 := rIndexD X.K) (r2 := rIndexT X.K) PySem.F.slot_list_index PySem.F.slot_tuple_index PySem.F.type_list_index PySem.F.type_tuple_index (mt_indexD hu) (mt_indexT hu) ho (pa_cons ha pa_nil (star1 hs X.env)) hbase hs hline) fun σ H Q ⟨p, H0, γ, ρ, st, er, hm⟩ => ?_
  refine ⟨p, H0, γ, ρ, st, er, (ma ρ).mono (fun d h1 γ1 H1 x e1 c1 => ?_) (fun _ q => q) hm⟩
  cases d <;> first
    | exact False.elim h1
    | skip
  · rename_i ds
    obtain ⟨al, vs, ex, hal, _⟩ := ct_lst c1 e1.st
    refine .inl ⟨by rw [ex]; exact .inl ⟨rfl, vs, .of hal⟩, p, H0, γ1, ρ, e1.st, er.ext e1, (mb ρ).mono (fun f h2 γ2 H2 y e2 c2 => ?_) (fun _ q => q.ext st e1) h1⟩
    obtain ⟨⟨s1, s2⟩, h2⟩ := h2
    have c1' := c1.mono e2
    cases q : findD ds f with
    | none => rw [q] at h2; exact h2.elim
    | some j =>
      rw [q] at h2
      obtain ⟨z, hz, hzj, hno⟩ := findD_some q
      exact ⟨al, y, f, ds, j, z, ex, rfl, by rw [← ex]; exact ct_dp c1' e2.st (sh_nd s2), ct_dp c2 e2.st (sh_nd s1), sh_shaped s2 (ct_lay c1' e2.st (sh_nd s2)), sh_shaped s1 (ct_lay c2 e2.st (sh_nd s1)), hz, hzj, hno, Post.int (Post.ext h2 st (Ext.trans st e1 e2)) e2.st⟩
  · rename_i ds
    obtain ⟨al, vs, ex, hal, _⟩ := ct_tup c1
    refine .inr ⟨by rw [ex]; exact .inr ⟨rfl, vs, hal.mono e1.st.sub⟩, p, H0, γ1, ρ, e1.st, er.ext e1, (mb ρ).mono (fun f h2 γ2 H2 y e2 c2 => ?_) (fun _ q => q.ext st e1) h1⟩
    obtain ⟨⟨s1, s2⟩, h2⟩ := h2
    have c1' := c1.mono e2
    cases q : findD ds f with
    | none => rw [q] at h2; exact h2.elim
    | some j =>
      rw [q] at h2
      obtain ⟨z, hz, hzj, hno⟩ := findD_some q
      exact ⟨al, y, f, ds, j, z, ex, rfl, by rw [← ex]; exact ct_dp c1' e2.st (sh_nd s2), ct_dp c2 e2.st (sh_nd s1), sh_shaped s2 (ct_lay c1' e2.st (sh_nd s2)), sh_shaped s1 (ct_lay c2 e2.st (sh_nd s1)), hz, hzj, hno, Post.int (Post.ext h2 st (Ext.trans st e1 e2)) e2.st⟩

/-- x.count(k), x a list of ints -/
def cntD (ds : List D) : D → W Exc D
  | .int k => optW (intsOf ds) fun ns => .ret (.int (ns.count k : Nat))
  | _ => .stuck
def lstOnly : D → W Exc (List D)
  | .list ds => .ret ds
  | _ => .stuck
abbrev countW (ma mb : List Sl → W Exc D) : List Sl → W Exc D := fun ρ => (ma ρ).bind fun d => (lstOnly d).bind fun ds => (mb ρ).bind fun e => cntD ds e
theorem pE_count {o : Expr} (ho : PE X o (TEo X Wx ma)) (ha : PE X e (TEo X Wx mb)) (hbase : attributeBase o "count" X.env (eval o X.env) = eval o X.env) (hs : ∀ e' p, e ≠ .Starred e' p) (hline : (apos.endLine == pos.line) = true) :
    PE X (.Call (.Attribute o "count" apos) [e] [] pos) (TEe X Wx (countW ma mb)) := by
  refine pe_of (pe_mb PySem.F.plainAttrs_list PySem.F.slot_list_count PySem.F.type_list_count mt_lcount ho (pa_cons ha pa_nil (star1 hs X.env)) hbase hs hline) fun σ H Q ⟨p, H0, γ, ρ, st, er, hm⟩ => ?_
  refine ⟨p, H0, γ, ρ, st, er, (ma ρ).mono (fun d h1 γ1 H1 x e1 c1 => ?_) (fun _ q => q) hm⟩
  cases d <;> first
    | exact False.elim h1
    | skip
  rename_i ds
  obtain ⟨al, vs, ex, hal, _⟩ := ct_lst c1 e1.st
  refine ⟨by rw [ex]; exact .inl ⟨rfl, vs, .of hal⟩, p, H0, γ1, ρ, e1.st, er.ext e1, (mb ρ).mono (fun f h2 γ2 H2 y e2 c2 => ?_) (fun _ q => q.ext st e1) h1⟩
  cases f <;> first
    | exact False.elim h2
    | skip
  rename_i k
  obtain ⟨ns, hns, h2⟩ := optW_run h2
  obtain ⟨al2, vs2, ex2, hal2, r2⟩ := ct_lst (c1.mono e2) e2.st
  rw [intsOf_eq hns] at r2
  have hv := rep_ints r2
  subst hv
  exact ⟨al2, ns, k, ex2, by rw [ct_int c2], .of hal2, Post.int (Post.ext h2 st (Ext.trans st e1 e2)) e2.st⟩

/-! ### our own lists -/
section
variable {p : Option Addr} {γ0 H0 : Hp} {st : Stmt}
/-- the own list of slot i takes other items -/
theorem own_mut {K : PySem.W.Frag} {γ H : Hp} {σ : St} {ρ : List Sl} (st0 : Stt K p γ0 H0) (e0 : Ext K p γ0 H0 γ H) (er : EnvR K p H0 γ H σ ρ) {i : Nat} {xs ys : List D} {al : Addr} {vs ws : List V} (hi : ρ[i]? = some (.own xs)) (hσ : σ[i]? = some (some (.ref al))) (ha : H al = some (.lst vs)) (hg : γ al = none) (hp : p ≠ some al) (h0 : H0 al = none)
    (r : RepAll K γ ws ys) : Ext K p γ0 H0 γ (upd H al (.lst ws)) ∧ EnvR K p H0 γ (upd H al (.lst ws)) σ (ρ.set i (.own ys)) := by
  have hl : i < ρ.length := (List.getElem?_eq_some_iff.mp hi).1
  refine ⟨Ext.mut st0 e0 h0 hg, by simp [er.len], fun j s q => ?_, fun j k us zs hjk q1 q2 => ?_, fun j k us zs hjk q1 q2 => ?_⟩
  · by_cases hj : i = j
    · subst hj
      rw [List.getElem?_set_self hl] at q; cases q
      exact ⟨_, hσ, al, ws, rfl, upd_same, hg, hp, h0, r⟩
    · rw [List.getElem?_set_ne hj] at q
      obtain ⟨ov, e1, z⟩ := er.sl j s q
      refine ⟨ov, e1, ?_⟩
      cases s with
      | un => trivial
      | val d => exact z
      | own us =>
        obtain ⟨b, bs, g1, g2, g3, g4, g5, g6⟩ := z
        have hb : b ≠ al := fun z => er.ap i j xs us hj hi q (by rw [hσ, e1, g1, z])
        exact ⟨b, bs, g1, by rw [upd_ne hb]; exact g2, g3, g4, g5, g6⟩
      | dic us =>
        obtain ⟨b, bs, g1, g2, g3, g4, g5, g6, g7⟩ := z
        have hb : b ≠ al := fun z => by rw [z, ha] at g2; cases g2
        exact ⟨b, bs, g1, by rw [upd_ne hb]; exact g2, g3, g4, g5, g6, g7⟩
      | pool => exact z
  · by_cases hj : i = j
    · subst hj
      by_cases hk : i = k
      · exact absurd hk hjk
      · rw [List.getElem?_set_ne hk] at q2
        exact er.ap i k xs zs hk hi q2
    · rw [List.getElem?_set_ne hj] at q1
      by_cases hk : i = k
      · subst hk
        exact er.ap j i us xs (fun z => hj z.symm) q1 hi
      · rw [List.getElem?_set_ne hk] at q2
        exact er.ap j k us zs hjk q1 q2
  · have hj : i ≠ j := fun hj => by subst hj; rw [List.getElem?_set_self hl] at q1; cases q1
    have hk : i ≠ k := fun hk => by subst hk; rw [List.getElem?_set_self hl] at q2; cases q2
    rw [List.getElem?_set_ne hj] at q1
    rw [List.getElem?_set_ne hk] at q2
    exact er.apd j k us zs hjk q1 q2
def ownW (ρ : List Sl) (i : Nat) : W XS (List D) := match ρ[i]? with
  | some (.own xs) => .ret xs
  | _ => .stuck
theorem ownW_run {ρ : List Sl} {i : Nat} {Q : List D → Prop} {XX : XS → Prop} (h : (ownW ρ i).run Q XX) : ∃ xs, ρ[i]? = some (.own xs) ∧ Q xs := by
  unfold ownW at h
  split at h
  · exact ⟨_, by assumption, h⟩
  · exact h.elim
/-- x.append(e) -/
abbrev appW (i : Nat) (me : List Sl → W Exc D) : S := fun ρ => (ownW ρ i).bind fun _ => (lf ρ (me ρ)).bind fun d => (ownW ρ i).bind fun xs => (W.ask (xs.length < sizeLine)).bind fun _ => .ret (.nx (ρ.set i (.own (xs ++ [d]))))
theorem pS_app {i : Nat} {x : Str} {px pos2 : Pos} (st0 : Stt X.K p γ0 H0) (hN : X.N[i]? = some x) (hv : Vis X.env.scope x) (hd : (x == ("__debug__" : Str)) = false) (hcd : (x == ("__classdict__" : Str)) = false) (hs : ∀ e' p, e ≠ .Starred e' p) (hline : (apos.endLine == pos.line) = true) (he : PE X e (TEe X Wx ma)) :
    PS X (.Expr (.Call (.Attribute (.Name x px) "append" apos) [e] [] pos) pos2) (TSs X Wx p γ0 H0 (appW i ma)) := by
  refine ps_of (ps_expr (pe_mb PySem.F.plainAttrs_list PySem.F.slot_list_append PySem.F.type_list_append mt_append (pe_var hN hv hd hcd) (pa_cons he pa_nil (star1 hs X.env)) rfl hs hline) rfl) fun E σ H ⟨γ, ρ, e0, er, hm⟩ => ?_
  obtain ⟨xs, hi, hm⟩ := ownW_run hm
  obtain ⟨ov, hσ, al, vs, ev, ha, hg, hp, h0, r⟩ := er.sl i _ hi
  subst ev
  refine ⟨.ref al, hσ, .inl ⟨rfl, vs, .of ha⟩, p, H0, γ, ρ, e0.st, er, (ma ρ).mono (fun d h1 γ1 H1 y e1 c1 => ?_) (fun x q => q.toE st0 e0 er (.refl _)) hm⟩
  obtain ⟨xs', hi', hz, h1⟩ := ownW_run h1
  rw [hi] at hi'; cases hi'
  have ha1 := e1.same al _ hp ha
  obtain ⟨q1, q2⟩ := own_mut st0 (Ext.trans st0 e0 e1) (er.ext e1) hi hσ ha1 (e1.gnone hg ha) hp h0 ((r.mono e1.gg).append (.cons c1 .nil))
  exact ⟨al, vs, y, rfl, rfl, ha1, by rw [r.length]; exact hz, h1 γ1 _ σ e1.gg q1 q2⟩
/-- x.extend(e) -/
def listOnly : D → W Exc (List D)
  | .list ys => .ret ys
  | _ => .stuck
abbrev extW (i : Nat) (me : List Sl → W Exc D) : S := fun ρ => (ownW ρ i).bind fun _ => (lf ρ ((me ρ).bind listOnly)).bind fun ys => (ownW ρ i).bind fun xs => (W.ask (xs.length + ys.length ≤ sizeLine)).bind fun _ => .ret (.nx (ρ.set i (.own (xs ++ ys))))
theorem pS_ext {i : Nat} {x : Str} {px pos2 : Pos} (st0 : Stt X.K p γ0 H0) (hN : X.N[i]? = some x) (hv : Vis X.env.scope x) (hd : (x == ("__debug__" : Str)) = false) (hcd : (x == ("__classdict__" : Str)) = false) (hs : ∀ e' p, e ≠ .Starred e' p) (hline : (apos.endLine == pos.line) = true) (he : PE X e (TEe X Wx ma)) :
    PS X (.Expr (.Call (.Attribute (.Name x px) "extend" apos) [e] [] pos) pos2) (TSs X Wx p γ0 H0 (extW i ma)) := by
  refine ps_of (ps_expr (pe_mb PySem.F.plainAttrs_list PySem.F.slot_list_extend PySem.F.type_list_extend mt_extend (pe_var hN hv hd hcd) (pa_cons he pa_nil (star1 hs X.env)) rfl hs hline) rfl) fun E σ H ⟨γ, ρ, e0, er, hm⟩ => ?_
  obtain ⟨xs, hi, hm⟩ := ownW_run hm
  obtain ⟨ov, hσ, al, vs, ev, ha, hg, hp, h0, r⟩ := er.sl i _ hi
  subst ev
  refine ⟨.ref al, hσ, .inl ⟨rfl, vs, .of ha⟩, p, H0, γ, ρ, e0.st, er, (ma ρ).mono (fun d h1 γ1 H1 y e1 c1 => ?_) (fun x q => q.toE st0 e0 er (.refl _)) hm⟩
  cases d <;> first
    | exact False.elim h1
    | skip
  rename_i ys
  obtain ⟨bl, ws, rfl, hb, rb⟩ := c1.ofLst
  obtain ⟨xs', hi', hz, h1⟩ := ownW_run h1
  rw [hi] at hi'; cases hi'
  have ha1 := e1.same al _ hp ha
  obtain ⟨q1, q2⟩ := own_mut st0 (Ext.trans st0 e0 e1) (er.ext e1) hi hσ ha1 (e1.gnone hg ha) hp h0 ((r.mono e1.gg).append rb)
  exact ⟨al, bl, vs, ws, rfl, rfl, ha1, e1.st.sub _ _ hb, by rw [r.length, rb.length]; exact hz, h1 γ1 _ σ e1.gg q1 q2⟩
/-- x[j] = e -/
def setAtD (xs : List D) (d : D) (v : D) : Option (List D) := match d with
  | .int k => (ixN xs.length k).map fun j => xs.set j v
  | _ => none
abbrev setW (i : Nat) (mj me : List Sl → W Exc D) : S := fun ρ => (lf ρ (me ρ)).bind fun v => (ownW ρ i).bind fun xs => (lf ρ (mj ρ)).bind fun d => match setAtD xs d v with
  | some ys => .ret (.nx (ρ.set i (.own ys)))
  | none => .stuck
theorem pS_setI {i : Nat} {x : Str} {px psub : Pos} {j : Expr} (st0 : Stt X.K p γ0 H0) (hN : X.N[i]? = some x) (hv : Vis X.env.scope x) (hd : (x == ("__debug__" : Str)) = false) (hcd : (x == ("__classdict__" : Str)) = false)
    (hj : PE X j (TEe X Wx mb)) (hns : ∀ l u s p, j ≠ .Slice l u s p) (he : PE X e (TEe X Wx ma)) (hs : swapsWithSole [.Subscript (.Name x px) j psub] e pos.line X.env = pure false) (hw : swappedStores [.Subscript (.Name x px) j psub] e X.env = pure none) :
    PS X (.Assign [.Subscript (.Name x px) j psub] e pos) (TSs X Wx p γ0 H0 (setW i mb ma)) := by
  refine ps_of (ps_asg he (pg_sub (pe_var hN hv hd hcd) hj set_list (fun v => by cases j <;> first | rfl | exact absurd rfl (hns _ _ _ _))) hs hw rfl) fun E σ H ⟨γ, ρ, e0, er, hm⟩ => ?_
  refine ⟨p, H0, γ, ρ, e0.st, er, (ma ρ).mono (fun v h1 γ1 H1 y e1 c1 => ?_) (fun x q => q.toE st0 e0 er (.refl _)) hm⟩
  have e01 := Ext.trans st0 e0 e1
  have er1 := er.ext e1
  obtain ⟨xs, hi, h1⟩ := ownW_run h1
  obtain ⟨ov, hσ, al, vs, ev, ha, hg, hp, h0, r⟩ := er1.sl i _ hi
  subst ev
  refine ⟨.ref al, hσ, p, H0, γ1, ρ, e1.st, er1, (mb ρ).mono (fun d h2 γ2 H2 z e2 c2 => ?_) (fun x q => q.toE st0 e01 er1 e1.gg) h1⟩
  have ha2 := e2.same al _ hp ha
  have h2' : (match setAtD xs d v with | some ys => W.ret (.nx (ρ.set i (.own ys))) | none => W.stuck : W XS Out).run (PostS X.K p γ0 H0 γ E) (ExS X.K X.mg Wx p γ0 H0 γ) := h2
  cases q : setAtD xs d v with
  | none => rw [q] at h2'; exact h2'.elim
  | some ys =>
    rw [q] at h2'
    cases d <;> first
      | cases q
      | skip
    rename_i k
    cases q3 : ixN xs.length k with
    | none => simp [setAtD, q3] at q
    | some jj =>
      have q' : xs.set jj v = ys := by simpa [setAtD, q3] using q
      subst q'
      obtain ⟨q1, q2⟩ := own_mut st0 (Ext.trans st0 e01 e2) (er1.ext e2) hi hσ ha2 (e2.gnone hg ha) hp h0 (RepAll.set (c1.mono e2.gg) jj (r.mono e2.gg))
      exact ⟨al, vs, k, jj, rfl, c2.ofInt, ha2, by rw [r.length]; exact q3, h2' γ2 _ σ (e1.gg.trans e2.gg) q1 q2⟩
/-- t = x.pop(0), and its like -/
def popAtD (xs : List D) (d : D) : Option (D × List D) := match d with
  | .int k => if -(2 ^ 63) ≤ k ∧ k < 2 ^ 63 then (seqIndex? k xs.length).bind fun j => (xs[j]?).map fun y => (y, xs.eraseIdx j) else none
  | _ => none
theorem RepAll.erase {K : PySem.W.Frag} {γ : Hp} : ∀ {vs : List V} {ds : List D} (n : Nat), RepAll K γ vs ds → RepAll K γ (vs.eraseIdx n) (ds.eraseIdx n)
  | [], [], _, h => by simpa using h
  | [], _ :: _, _, h => by cases h.1
  | _ :: _, [], _, h => by cases h.1
  | _ :: _, _ :: _, 0, h => by simpa using h.tail
  | _ :: _, _ :: _, n + 1, h => by simpa using RepAll.cons h.head (RepAll.erase n h.tail)
/-- a value that is popped off the own list of slot i -/
abbrev popW {α : Type} (i : Nat) (mj : List Sl → W Exc D) (k : D → List Sl → W XS α) : List Sl → W XS α := fun ρ => (ownW ρ i).bind fun _ => (lf ρ (mj ρ)).bind fun d => (ownW ρ i).bind fun xs => match popAtD xs d with
  | some (y, ys) => k y (ρ.set i (.own ys))
  | none => .stuck
theorem rdPop {i : Nat} {γ H : Hp} {σ : St} {ρ : List Sl} {Q : VK} {R : Out → Prop} {k : D → List Sl → W XS Out} (st0 : Stt X.K p γ0 H0) (e0 : Ext X.K p γ0 H0 γ H) (er : EnvR X.K p H0 γ H σ ρ)
    (hm : (popW i mb k ρ).run R (ExS X.K X.mg Wx p γ0 H0 γ)) (hk : ∀ γ1 H1 y d ρ', Same γ γ1 → Ext X.K p γ0 H0 γ1 H1 → EnvR X.K p H0 γ1 H1 σ ρ' → Rep X.K γ1 y d → (k d ρ').run R (ExS X.K X.mg Wx p γ0 H0 γ) → Q y H1) :
    tMB X.K "list" rPopAt (tVar i) (tCons (TEe X Wx mb) tNil) σ H Q := by
  obtain ⟨xs, hi, hm⟩ := ownW_run hm
  obtain ⟨ov, hσ, al, vs, ev, ha, hg, hp, h0, r⟩ := er.sl i _ hi
  subst ev
  refine ⟨.ref al, hσ, .inl ⟨rfl, vs, .of ha⟩, p, H0, γ, ρ, e0.st, er, (mb ρ).mono (fun d h1 γ1 H1 y e1 c1 => ?_) (fun x q => q.toE st0 e0 er (.refl _)) hm⟩
  obtain ⟨xs', hi', h1⟩ := ownW_run h1
  rw [hi] at hi'; cases hi'
  have ha1 := e1.same al _ hp ha
  have h1' : (match popAtD xs d with | some (y, ys) => k y (ρ.set i (.own ys)) | none => W.stuck : W XS Out).run R (ExS X.K X.mg Wx p γ0 H0 γ) := h1
  cases q : popAtD xs d with
  | none => rw [q] at h1'; exact h1'.elim
  | some yy =>
    obtain ⟨yd, ys⟩ := yy
    rw [q] at h1'
    obtain ⟨kk, rfl⟩ : ∃ kk, d = .int kk := by
      cases d <;> first
        | exact ⟨_, rfl⟩
        | cases q
    by_cases hb : -(2 ^ 63) ≤ kk ∧ kk < 2 ^ 63
    · cases q3 : seqIndex? kk xs.length with
      | none => simp [popAtD, q3] at q
      | some jj =>
        cases q4 : xs[jj]? with
        | none => simp [popAtD, q3, q4] at q
        | some y0 =>
          have q' : y0 = yd ∧ xs.eraseIdx jj = ys := by
            have q := q
            simp only [popAtD, if_pos hb, q3, Option.bind_some, q4, Option.map_some, Option.some.injEq, Prod.mk.injEq] at q
            exact q
          obtain ⟨rfl, rfl⟩ := q'
          obtain ⟨v0, hv0, rv⟩ := r.get q4
          obtain ⟨q1, q2⟩ := own_mut st0 (Ext.trans st0 e0 e1) (er.ext e1) hi hσ ha1 (e1.gnone hg ha) hp h0 (RepAll.erase jj (r.mono e1.gg))
          exact ⟨al, vs, kk, jj, v0, rfl, by rw [c1.ofInt], ha1, hb.1, hb.2, by rw [r.length]; exact q3, hv0, hk γ1 _ v0 y0 _ e1.gg q1 q2 (rv.mono e1.gg) h1'⟩
    · simp only [popAtD, if_neg hb] at q
      cases q
abbrev popS (i : Nat) (mj : List Sl → W Exc D) (t : T) : S := popW i mj fun y ρ' => (lf ρ' (asgT t y ρ')).bind fun ρ2 => .ret (.nx ρ2)
theorem pS_pop {i : Nat} {x : Str} {px : Pos} {tg : Expr} {t : T} {cp : Pos} (st0 : Stt X.K p γ0 H0) (hN : X.N[i]? = some x) (hv : Vis X.env.scope x) (hd : (x == ("__debug__" : Str)) = false) (hcd : (x == ("__classdict__" : Str)) = false) (hs : ∀ e' p, e ≠ .Starred e' p) (hline : (apos.endLine == cp.line) = true) (he : PE X e (TEe X Wx mb)) (hg : PG X tg (gT X.K t))
    (hs1 : swapsWithSole [tg] (.Call (.Attribute (.Name x px) "pop" apos) [e] [] cp) pos.line X.env = pure false) (hw : swappedStores [tg] (.Call (.Attribute (.Name x px) "pop" apos) [e] [] cp) X.env = pure none) (h1 : (assignEach [tg] X.env).map (·.2) = [assign tg X.env]) :
    PS X (.Assign [tg] (.Call (.Attribute (.Name x px) "pop" apos) [e] [] cp) pos) (TSs X Wx p γ0 H0 (popS i mb t)) := by
  refine ps_of (ps_asg (pe_mb PySem.F.plainAttrs_list PySem.F.slot_list_pop PySem.F.type_list_pop mt_popAt (pe_var hN hv hd hcd) (pa_cons he pa_nil (star1 hs X.env)) rfl hs hline) hg hs1 hw h1) fun E σ H ⟨γ, ρ, e0, er, hm⟩ => ?_
  refine rdPop st0 e0 er hm fun γ1 H1 y d ρ' s1 e1 er1 r1 h => ?_
  exact gT_ok e1.st (.inl r1) (fun _ _ => r1) er1 h fun ρ2 σ2 h' er2 _ _ => h' γ1 H1 σ2 s1 e1 er2
/-- f.append(x.pop(e)) -/
abbrev appPopS (f i : Nat) (mj : List Sl → W Exc D) : S := fun ρ => (ownW ρ f).bind fun _ => popW i mj (fun y ρ' => (ownW ρ' f).bind fun xs => (W.ask (xs.length < sizeLine)).bind fun _ => .ret (.nx (ρ'.set f (.own (xs ++ [y]))))) ρ
theorem pS_appPop {f i : Nat} {x y : Str} {px py pos2 apos2 cp : Pos} (st0 : Stt X.K p γ0 H0) (hNf : X.N[f]? = some y) (hvf : Vis X.env.scope y) (hdf : (y == ("__debug__" : Str)) = false) (hcdf : (y == ("__classdict__" : Str)) = false) (hN : X.N[i]? = some x) (hv : Vis X.env.scope x) (hd : (x == ("__debug__" : Str)) = false) (hcd : (x == ("__classdict__" : Str)) = false)
    (hs : ∀ e' p, e ≠ .Starred e' p) (hline : (apos.endLine == cp.line) = true) (hline2 : (apos2.endLine == pos.line) = true) (he : PE X e (TEe X Wx mb)) :
    PS X (.Expr (.Call (.Attribute (.Name y py) "append" apos2) [.Call (.Attribute (.Name x px) "pop" apos) [e] [] cp] [] pos) pos2) (TSs X Wx p γ0 H0 (appPopS f i mb)) := by
  have h1 := pe_mb (pos := cp) PySem.F.plainAttrs_list PySem.F.slot_list_pop PySem.F.type_list_pop mt_popAt (pe_var (pos := px) hN hv hd hcd) (pa_cons he pa_nil (star1 hs X.env)) rfl hs hline
  refine ps_of (ps_expr (pe_mb PySem.F.plainAttrs_list PySem.F.slot_list_append PySem.F.type_list_append mt_append (pe_var hNf hvf hdf hcdf) (pa_cons h1 pa_nil rfl) rfl (fun _ _ => by simp) hline2) rfl) fun E σ H ⟨γ, ρ, e0, er, hm⟩ => ?_
  obtain ⟨fs, hf, hm⟩ := ownW_run hm
  obtain ⟨ov, hσ, al, vs, ev, ha, hg, hp, h0, r⟩ := er.sl f _ hf
  subst ev
  refine ⟨.ref al, hσ, .inl ⟨rfl, vs, .of ha⟩, rdPop st0 e0 er hm fun γ1 H1 yv d ρ' s1 e1 er1 r1 h => ?_⟩
  obtain ⟨xs, hi, hz, h⟩ := ownW_run h
  obtain ⟨ov2, hσ2, al2, vs2, ev2, ha2, hg2, hp2, h02, r2⟩ := er1.sl f _ hi
  subst ev2
  rw [hσ] at hσ2
  obtain rfl : al = al2 := by cases hσ2; rfl
  obtain ⟨q1, q2⟩ := own_mut st0 e1 er1 hi hσ ha2 hg2 hp2 h02 (r2.append (.cons r1 .nil))
  exact ⟨al, vs2, yv, rfl, rfl, ha2, by rw [r2.length]; exact hz, h γ1 _ σ s1 q1 q2⟩
end
end
end Ev

/-! Ev10d: our own dicts, keys ints or texts. -/
namespace Ev
open PySem PySem.Spec PyProof.Rows L2
section
variable {X : Cx} {Wx : WX} {a b c e f : Expr} {es rest : List Expr} {pos pp apos : Pos} {ma mb mc m : List Sl → W Exc D}
def keyD : D → Option Key
  | .int i => some (.inl i)
  | .str s => some (.inr s)
  | _ => none
def getKD (kvs : List (Key × D)) (k : Key) : Option D := (kvs.find? fun kv => decide (kv.1 = k)).map (·.2)
def putKD (kvs : List (Key × D)) (k : Key) (d : D) : List (Key × D) :=
  if (kvs.any fun kv => decide (kv.1 = k)) = true then kvs.map (fun kv => if kv.1 = k then (kv.1, d) else kv) else kvs ++ [(k, d)]
theorem keyD_ct {K : PySem.W.Frag} {γ : Hp} {y : V} {d : D} {k : Key} (h : keyD d = some k) (r : Rep K γ y d) : y = kV k := by
  cases d <;> first
    | cases h
    | skip
  · exact r.ofInt
  · exact r.ofStr
theorem kvr_nil_l {K : PySem.W.Frag} {γ : Hp} {ws : List (Key × V)} (h : KVR K γ ws []) : ws = [] := by
  have h1 := h.1
  simpa using h1
theorem kvr_cons {K : PySem.W.Frag} {γ : Hp} {ws : List (Key × V)} {q : Key × D} {ds : List (Key × D)} (h : KVR K γ ws (q :: ds)) : ∃ w ws', ws = w :: ws' ∧ w.1 = q.1 ∧ Rep K γ w.2 q.2 ∧ KVR K γ ws' ds := by
  cases ws with
  | nil => have := h.1; simp at this
  | cons w ws' =>
    have h1 : w.1 = q.1 ∧ ws'.map (·.1) = ds.map (·.1) := by simpa using h.1
    have h2 : RepAll K γ (w.2 :: ws'.map (·.2)) (q.2 :: ds.map (·.2)) := h.2
    exact ⟨w, ws', rfl, h1.1, h2.head, h1.2, h2.tail⟩
theorem kvr_get {K : PySem.W.Frag} {γ : Hp} {k : Key} : ∀ {ds : List (Key × D)} {ws : List (Key × V)}, KVR K γ ws ds → (∃ d v, getKD ds k = some d ∧ valV ws k = some v ∧ Rep K γ v d) ∨ (getKD ds k = none ∧ valV ws k = none)
  | [], ws, h => by rw [kvr_nil_l h]; exact .inr ⟨rfl, rfl⟩
  | q :: ds, ws, h => by
    obtain ⟨w, ws', rfl, e1, r, h'⟩ := kvr_cons h
    by_cases hk : q.1 = k
    · refine .inl ⟨q.2, w.2, by simp [getKD, List.find?_cons, hk], valV_pos (by rw [e1, hk]), r⟩
    · have eg : getKD (q :: ds) k = getKD ds k := by simp [getKD, List.find?_cons, hk]
      rw [eg, valV_neg (by rw [e1]; exact hk)]
      exact kvr_get h'
theorem kvr_any {K : PySem.W.Frag} {γ : Hp} {k : Key} {ds : List (Key × D)} {ws : List (Key × V)} (h : KVR K γ ws ds) : (ws.any fun kv => decide (kv.1 = k)) = (ds.any fun kv => decide (kv.1 = k)) := by
  have e1 : (ws.any fun kv => decide (kv.1 = k)) = (ws.map (·.1)).any fun z => decide (z = k) := by rw [List.any_map]; rfl
  have e2 : (ds.any fun kv => decide (kv.1 = k)) = (ds.map (·.1)).any fun z => decide (z = k) := by rw [List.any_map]; rfl
  rw [e1, e2, h.1]
theorem kvr_map {K : PySem.W.Frag} {γ : Hp} {k : Key} {v : V} {d : D} (rv : Rep K γ v d) : ∀ {ds : List (Key × D)} {ws : List (Key × V)}, KVR K γ ws ds → KVR K γ (ws.map fun kv => if kv.1 = k then (kv.1, v) else kv) (ds.map fun kv => if kv.1 = k then (kv.1, d) else kv)
  | [], ws, h => by rw [kvr_nil_l h]; exact ⟨rfl, .nil⟩
  | q :: ds, ws, h => by
    obtain ⟨w, ws', rfl, e1, r, h'⟩ := kvr_cons h
    have ih := kvr_map (k := k) rv h'
    by_cases hk : q.1 = k
    · have hw : w.1 = k := by rw [e1, hk]
      refine ⟨?_, ?_⟩
      · rw [List.map_cons, List.map_cons, List.map_cons, List.map_cons, if_pos hw, if_pos hk, ih.1, e1]
      · rw [List.map_cons, List.map_cons, List.map_cons, List.map_cons, if_pos hw, if_pos hk]
        exact .cons rv ih.2
    · have hw : ¬ w.1 = k := by rw [e1]; exact hk
      refine ⟨?_, ?_⟩
      · rw [List.map_cons, List.map_cons, List.map_cons, List.map_cons, if_neg hw, if_neg hk, ih.1, e1]
      · rw [List.map_cons, List.map_cons, List.map_cons, List.map_cons, if_neg hw, if_neg hk]
        exact .cons r ih.2
theorem kvr_put {K : PySem.W.Frag} {γ : Hp} {k : Key} {v : V} {d : D} (rv : Rep K γ v d) {ds : List (Key × D)} {ws : List (Key × V)} (h : KVR K γ ws ds) : KVR K γ (putK ws k v) (putKD ds k d) := by
  unfold putK putKD
  rw [kvr_any h]
  by_cases hc : (ds.any fun kv => decide (kv.1 = k)) = true
  · rw [if_pos hc, if_pos hc]; exact kvr_map rv h
  · rw [if_neg hc, if_neg hc]
    exact ⟨by rw [List.map_append, List.map_append, h.1]; rfl, by rw [List.map_append, List.map_append]; exact h.2.append (.cons rv .nil)⟩
theorem putKD_keys {k : Key} {d : D} : ∀ ds : List (Key × D), (ds.map fun kv => if kv.1 = k then (kv.1, d) else kv).map (·.1) = ds.map (·.1)
  | [] => rfl
  | q :: ds => by
    rw [List.map_cons, List.map_cons, List.map_cons, putKD_keys ds]
    split <;> rfl
theorem putKD_nd {k : Key} {d : D} {ds : List (Key × D)} (h : (ds.map (·.1)).Nodup) : ((putKD ds k d).map (·.1)).Nodup := by
  unfold putKD
  by_cases hc : (ds.any fun kv => decide (kv.1 = k)) = true
  · rw [if_pos hc, putKD_keys]; exact h
  · rw [if_neg hc, List.map_append, List.nodup_append]
    refine ⟨h, by simp, fun x hx y hy => ?_⟩
    have hy' : y = k := by simpa using hy
    subst hy'
    rintro rfl
    obtain ⟨z, hz, e⟩ := List.mem_map.mp hx
    exact hc (List.any_eq_true.mpr ⟨z, hz, by simpa using e⟩)
theorem putKD_tx {k : Key} {d : D} {ds : List (Key × D)} (h : ∀ z, (Sum.inr z : Key) ∈ ds.map (·.1) → PyData.strOk z = true) (hk : ∀ z, k = Sum.inr z → PyData.strOk z = true) : ∀ z, (Sum.inr z : Key) ∈ (putKD ds k d).map (·.1) → PyData.strOk z = true := by
  intro z hz
  unfold putKD at hz
  by_cases hc : (ds.any fun kv => decide (kv.1 = k)) = true
  · rw [if_pos hc, putKD_keys] at hz; exact h z hz
  · rw [if_neg hc, List.map_append] at hz
    rcases List.mem_append.mp hz with hz | hz
    · exact h z hz
    · exact hk z (by have h2 : Sum.inr z = k := by simpa using hz
                     exact h2.symm)
theorem keyD_tx {K : PySem.W.Frag} {γ : Hp} {y : V} {d : D} {z : Str} (h : keyD d = some (Sum.inr z)) (r : Rep K γ y d) : PyData.strOk z = true := by
  cases d <;> first
    | cases h
    | skip
  exact r.strOk
def getDc (ρ : List Sl) (i : Nat) : W Exc (List (Key × D)) := match ρ[i]? with
  | some (.dic kvs) => .ret kvs
  | _ => .stuck
theorem getDc_run {ρ : List Sl} {i : Nat} {Q : List (Key × D) → Prop} {XX : Exc → Prop} (h : (getDc ρ i).run Q XX) : ∃ xs, ρ[i]? = some (.dic xs) ∧ Q xs := by
  unfold getDc at h
  split at h
  · exact ⟨_, by assumption, h⟩
  · exact h.elim
def dicW (ρ : List Sl) (i : Nat) : W XS (List (Key × D)) := match ρ[i]? with
  | some (.dic xs) => .ret xs
  | _ => .stuck
theorem dicW_run {ρ : List Sl} {i : Nat} {Q : List (Key × D) → Prop} {XX : XS → Prop} (h : (dicW ρ i).run Q XX) : ∃ xs, ρ[i]? = some (.dic xs) ∧ Q xs := by
  unfold dicW at h
  split at h
  · exact ⟨_, by assumption, h⟩
  · exact h.elim
/-- d[k] -/
def lookD (kvs : List (Key × D)) (d : D) : W Exc D := optW (keyD d) fun k => optW (getKD kvs k) .ret
abbrev dgetW (i : Nat) (mk : List Sl → W Exc D) : List Sl → W Exc D := fun ρ => (getDc ρ i).bind fun kvs => (mk ρ).bind (lookD kvs)
theorem pE_dget {i : Nat} {x : Str} {px : Pos} (hu : X.A.units + 1 < cLine) (hN : X.N[i]? = some x) (hv : Vis X.env.scope x) (hd : (x == ("__debug__" : Str)) = false) (hcd : (x == ("__classdict__" : Str)) = false) (hk : PE X e (TEe X Wx mb)) (hs : ∀ l u s p, e ≠ .Slice l u s p) :
    PE X (.Subscript (.Name x px) e pos) (TEe X Wx (dgetW i mb)) := by
  refine pe_of (pe_dget hu (pe_var hN hv hd hcd) hk (noSl_of hs)) fun σ H Q ⟨p, H0, γ, ρ, st, er, hm⟩ => ?_
  obtain ⟨kvs, hi, hm⟩ := getDc_run hm
  obtain ⟨ov, hσ, al, ws, ev, ha, hg, hp, h0, r, nd, ntx⟩ := er.sl i _ hi
  subst ev
  refine ⟨.ref al, hσ, p, H0, γ, ρ, st, er, (mb ρ).mono (fun d h1 γ1 H1 y e1 c1 => ?_) (fun _ q => q) hm⟩
  have ha1 := e1.same al _ hp ha
  obtain ⟨k, hk, h1⟩ := optW_run h1
  obtain ⟨dd, hd, h1⟩ := optW_run h1
  rcases kvr_get (k := k) r with ⟨d', v, g1, g2, rv⟩ | ⟨g1, g2⟩
  · rw [hd] at g1; cases g1
    refine ⟨al, v, rfl, ?_, h1 γ1 H1 v e1 (rv.mono e1.gg)⟩
    rw [keyD_ct hk c1, ← g2]
    exact .k ha1
  · rw [hd] at g1; cases g1
/-- d.get(k, x) -/
def lookD2 (kvs : List (Key × D)) (d z : D) : W Exc D := optW (keyD d) fun k => .ret ((getKD kvs k).getD z)
abbrev dget2W (i : Nat) (mk mz : List Sl → W Exc D) : List Sl → W Exc D := fun ρ => (getDc ρ i).bind fun kvs => (mk ρ).bind fun d => (mz ρ).bind fun z => lookD2 kvs d z
theorem pE_dget2 {i : Nat} {x : Str} {px : Pos} (hu : X.A.units + 1 < cLine) (hN : X.N[i]? = some x) (hv : Vis X.env.scope x) (hd : (x == ("__debug__" : Str)) = false) (hcd : (x == ("__classdict__" : Str)) = false) (hk : PE X e (TEe X Wx mb)) (hz : PE X f (TEe X Wx mc)) (hs : ∀ e' p, e ≠ .Starred e' p) (hs2 : ∀ e' p, f ≠ .Starred e' p) (hline : (apos.endLine == pos.line) = true) :
    PE X (.Call (.Attribute (.Name x px) "get" apos) [e, f] [] pos) (TEe X Wx (dget2W i mb mc)) := by
  refine pe_of (pe_dget2 hu (pe_var hN hv hd hcd) hk hz ⟨rfl, by rw [star1 hs, star1 hs2]; rfl, hline, by rw [star1 hs, star1 hs2]; rfl⟩) fun σ H Q ⟨p, H0, γ, ρ, st, er, hm⟩ => ?_
  obtain ⟨kvs, hi, hm⟩ := getDc_run hm
  obtain ⟨ov, hσ, al, ws, ev, ha, hg, hp, h0, r, nd, ntx⟩ := er.sl i _ hi
  subst ev
  refine ⟨.ref al, hσ, al, rfl, .inl ⟨ws, .inl ha⟩, p, H0, γ, ρ, st, er, (mb ρ).mono (fun d h1 γ1 H1 y e1 c1 => ?_) (fun _ q => q) hm⟩
  refine ⟨p, H0, γ1, ρ, e1.st, er.ext e1, (mc ρ).mono (fun z h2 γ2 H2 yz e2 c2 => ?_) (fun _ q => q.ext st e1) h1⟩
  have e12 := Ext.trans st e1 e2
  have ha1 := e12.same al _ hp ha
  obtain ⟨k, hk, h2⟩ := optW_run h2
  refine ⟨valV ws k, by rw [keyD_ct hk c1]; exact .k ha1, ?_⟩
  rcases kvr_get (k := k) r with ⟨d', v, g1, g2, rv⟩ | ⟨g1, g2⟩
  · rw [g2]; rw [g1] at h2
    exact h2 γ2 H2 v e12 (rv.mono e12.gg)
  · rw [g2]; rw [g1] at h2
    exact h2 γ2 H2 yz e12 c2
section
variable {p : Option Addr} {γ0 H0 : Hp} {st : Stmt}
/-- x = {} -/
theorem pS_newD {i : Nat} {x : Str} {pos' dpos : Pos} (st0 : Stt X.K p γ0 H0) (hN : X.N.Nodup) (hi : X.N[i]? = some x) (hx : Loc X.env.scope x) (hf : X.fn x = true ∨ X.env.scope.names.lookup x = some .local) (hs : swapsWith (.Dict [] [] dpos) (some (.Name x pos')) pos.line X.env = pure false) :
    PS X (.Assign [.Name x pos'] (.Dict [] [] dpos) pos) (TSs X Wx p γ0 H0 fun ρ => .ret (.nx (ρ.set i (.dic [])))) := by
  refine ps_of (ps_set hN hi hx pe_dnewK hs hf) fun E σ H ⟨γ, ρ, e0, er, hm⟩ => ?_
  intro q hq
  have e1 : Ext X.K p γ H γ (upd H q (.dK [])) := .own e0.st hq
  have hp : p ≠ some q := fun hp => by
    obtain ⟨_, _, _, _, _, _, _, f1, _⟩ := e0.st.pool q hp
    rw [hq] at f1; cases f1
  have ng : γ q = none := by
    cases z : γ q with
    | none => rfl
    | some o => have := e0.st.sub q o z; rw [hq] at this; cases this
  refine hm γ _ _ (.refl _) (Ext.trans st0 e0 e1) ((er.ext e1).set (s := .dic []) ⟨q, [], rfl, upd_same, ng, hp, e0.fre st0 hq, ⟨rfl, .nil⟩, List.nodup_nil, fun _ h => by cases h⟩ (fun _ e => by cases e) (fun _ _ j ys hj hy => ?_))
  obtain ⟨ov, f1, b, ws, f2, f3, _⟩ := er.sl j _ hy
  rw [f1, f2]
  intro z
  cases z
  rw [hq] at f3; cases f3
/-- the own dict of slot i takes other items -/
theorem dic_mut {K : PySem.W.Frag} {γ H : Hp} {σ : St} {ρ : List Sl} (st0 : Stt K p γ0 H0) (e0 : Ext K p γ0 H0 γ H) (er : EnvR K p H0 γ H σ ρ) {i : Nat} {xs ys : List (Key × D)} {al : Addr} {vs ws : List (Key × V)} (hi : ρ[i]? = some (.dic xs)) (hσ : σ[i]? = some (some (.ref al))) (ha : H al = some (.dK vs)) (hg : γ al = none) (hp : p ≠ some al) (h0 : H0 al = none)
    (r : KVR K γ ws ys) (nd : (ys.map (·.1)).Nodup) (ntx : ∀ z, (Sum.inr z : Key) ∈ ys.map (·.1) → PyData.strOk z = true) : Ext K p γ0 H0 γ (upd H al (.dK ws)) ∧ EnvR K p H0 γ (upd H al (.dK ws)) σ (ρ.set i (.dic ys)) := by
  have hl : i < ρ.length := (List.getElem?_eq_some_iff.mp hi).1
  refine ⟨Ext.mut st0 e0 h0 hg, by simp [er.len], fun j s q => ?_, fun j k us zs hjk q1 q2 => ?_, fun j k us zs hjk q1 q2 => ?_⟩
  · by_cases hj : i = j
    · subst hj
      rw [List.getElem?_set_self hl] at q; cases q
      exact ⟨_, hσ, al, ws, rfl, upd_same, hg, hp, h0, r, nd, ntx⟩
    · rw [List.getElem?_set_ne hj] at q
      obtain ⟨ov, e1, z⟩ := er.sl j s q
      refine ⟨ov, e1, ?_⟩
      cases s with
      | un => trivial
      | val d => exact z
      | own us =>
        obtain ⟨b, bs, g1, g2, g3, g4, g5, g6⟩ := z
        have hb : b ≠ al := fun z => by rw [z, ha] at g2; cases g2
        exact ⟨b, bs, g1, by rw [upd_ne hb]; exact g2, g3, g4, g5, g6⟩
      | dic us =>
        obtain ⟨b, bs, g1, g2, g3, g4, g5, g6, g7⟩ := z
        have hb : b ≠ al := fun z => er.apd i j xs us hj hi q (by rw [hσ, e1, g1, z])
        exact ⟨b, bs, g1, by rw [upd_ne hb]; exact g2, g3, g4, g5, g6, g7⟩
      | pool => exact z
  · have hj : i ≠ j := fun hj => by subst hj; rw [List.getElem?_set_self hl] at q1; cases q1
    have hk : i ≠ k := fun hk => by subst hk; rw [List.getElem?_set_self hl] at q2; cases q2
    rw [List.getElem?_set_ne hj] at q1
    rw [List.getElem?_set_ne hk] at q2
    exact er.ap j k us zs hjk q1 q2
  · by_cases hj : i = j
    · subst hj
      by_cases hk : i = k
      · exact absurd hk hjk
      · rw [List.getElem?_set_ne hk] at q2
        exact er.apd i k xs zs hk hi q2
    · rw [List.getElem?_set_ne hj] at q1
      by_cases hk : i = k
      · subst hk
        exact er.apd j i us xs (fun z => hj z.symm) q1 hi
      · rw [List.getElem?_set_ne hk] at q2
        exact er.apd j k us zs hjk q1 q2
/-- x[k] = e -/
abbrev putW (i : Nat) (mk me : List Sl → W Exc D) : S := fun ρ => (lf ρ (me ρ)).bind fun v => (dicW ρ i).bind fun kvs => (lf ρ (mk ρ)).bind fun d => (lf ρ (optW (keyD d) .ret)).bind fun k => (W.ask (kvs.length < sizeLine)).bind fun _ => .ret (.nx (ρ.set i (.dic (putKD kvs k v))))
theorem pS_put {i : Nat} {x : Str} {px psub : Pos} {j : Expr} (hu : X.A.units + 1 < cLine) (st0 : Stt X.K p γ0 H0) (hN : X.N[i]? = some x) (hv : Vis X.env.scope x) (hd : (x == ("__debug__" : Str)) = false) (hcd : (x == ("__classdict__" : Str)) = false)
    (hj : PE X j (TEe X Wx mb)) (he : PE X e (TEe X Wx ma)) (hs : swapsWith e (some (.Subscript (.Name x px) j psub)) pos.line X.env = pure false) :
    PS X (.Assign [.Subscript (.Name x px) j psub] e pos) (TSs X Wx p γ0 H0 (putW i mb ma)) := by
  refine ps_of (ps_dput hu (pe_var hN hv hd hcd) hj he hs) fun E σ H ⟨γ, ρ, e0, er, hm⟩ => ?_
  refine ⟨p, H0, γ, ρ, e0.st, er, (ma ρ).mono (fun v h1 γ1 H1 y e1 c1 => ?_) (fun x q => q.toE st0 e0 er (.refl _)) hm⟩
  have e01 := Ext.trans st0 e0 e1
  have er1 := er.ext e1
  obtain ⟨kvs, hi, h1⟩ := dicW_run h1
  obtain ⟨ov, hσ, al, ws, ev, ha, hg, hp, h0, r, nd, ntx⟩ := er1.sl i _ hi
  subst ev
  refine ⟨.ref al, hσ, p, H0, γ1, ρ, e1.st, er1, (mb ρ).mono (fun d h2 γ2 H2 z e2 c2 => ?_) (fun x q => q.toE st0 e01 er1 e1.gg) h1⟩
  have ha2 := e2.same al _ hp ha
  obtain ⟨k, hk, h2⟩ := optW_run (show (optW (keyD d) W.ret).run _ _ from h2)
  obtain ⟨hl, h2⟩ := h2
  have r2 := r.mono e2.gg
  have hlen : ws.length = kvs.length := by
    have := congrArg List.length r.1
    simpa using this
  obtain ⟨q1, q2⟩ := dic_mut st0 (Ext.trans st0 e01 e2) (er1.ext e2) hi hσ ha2 (e2.gnone hg ha) hp h0 (kvr_put (k := k) (c1.mono e2.gg) r2) (putKD_nd nd) (putKD_tx ntx (fun z hz => by subst hz; exact keyD_tx hk c2))
  refine ⟨al, _, rfl, ?_, h2 γ2 _ σ (e1.gg.trans e2.gg) q1 q2⟩
  rw [keyD_ct hk c2]
  exact .k ha2 (by rw [hlen]; exact hl)
end
end
end Ev

/-! Ev11: augmented assignments; parallel assignments; raise, try. -/
namespace Ev
open PySem PySem.Spec PyProof.Rows L2 HT
theorem noI_tup : typeLookup (.type "tuple") (dunderI "add") = pure none := by first | rfl | decide +kernel | (with_unfolding_all rfl)
section
variable {prog : Program} {w : World} {A : Around} {E : Value → Shared → Prop} {s : Shared}
theorem icat_tup {t b : Addr} {vs ws : List Value} {Q : Value → Shared → Prop} (ht : IsTup s.heap t vs.toArray) (hb : IsTup s.heap b ws.toArray)
    (h0 : vs = [] → Q (.ref b) s) (h1 : ws = [] → Q (.ref t) s) (h2 : Q (.ref s.heap.objs.size) { s with heap := s.heap.push { cls := .type "tuple", data := .seq (vs ++ ws).toArray } })
    (hsz : vs.length + ws.length ≤ sizeLine) : wpAny (model prog w) A (inplaceOp .Add (.ref t) (.ref b)) Q E s := by
  obtain ⟨⟨c1, d1, e1, s1⟩, ho, hc, n, hd⟩ := id ht
  obtain ⟨⟨c2, d2, e2, s2⟩, ho2, hc2, n2, hd2⟩ := id hb
  simp only at hc hd hc2 hd2
  subst hc hd hc2 hd2
  have ee : vs.toArray ++ ws.toArray = (vs ++ ws).toArray := by simp
  refine wpAny_inplaceOp_concat ⟨_, ho, rfl⟩ ⟨_, ho2, rfl⟩ noI_tup noFill_tuple_add seq_tuple_add ?_
  by_cases hv : vs = []
  · subst hv
    exact call_meets PySem.F.slot_tuple_add ⟨_, ho, rfl⟩ PySem.F.entry_tuple_add (PySem.F.args_tuple_add_2 _ _) (tuple_addW0 t b _ _ n n2 d1 d2 s1 s2 (by simp)) ⟨ho, ho2, h0 rfl⟩
  · by_cases hw : ws = []
    · exact call_meets PySem.F.slot_tuple_add ⟨_, ho, rfl⟩ PySem.F.entry_tuple_add (PySem.F.args_tuple_add_2 _ _) (tuple_addW1 t b _ _ n n2 d1 d2 s1 s2 (by simpa using hv) (by simp [hw])) ⟨ho, ho2, h1 hw⟩
    · refine call_meets PySem.F.slot_tuple_add ⟨_, ho, rfl⟩ PySem.F.entry_tuple_add (PySem.F.args_tuple_add_2 _ _) (tuple_addW2 t b _ _ n n2 d1 d2 s1 s2 (by simpa using hv) (by simpa using hw) (by rw [List.size_toArray, List.size_toArray]; exact hsz)) ⟨ho, ho2, ?_⟩
      rw [ee]
      exact h2
end
section
variable {X : Cx} {Wx : WX} {a b c e : Expr} {es rest : List Expr} {pos pp apos : Pos} {ma mb mc me : List Sl → W Exc D} {p : Option Addr} {γ0 H0 : Hp}
theorem iop_catN : OpR X (inplaceOp .Add) (rCatN X.K) := by
  intro pins s σ H x y v u Q I rx ry h
  obtain ⟨al, bl, xs, ys, rfl, rfl, ha, hb, hz, q0, q1, q2⟩ := h
  cases rx
  cases ry
  obtain ⟨its, r1, p1, _⟩ := I.tuple ha
  obtain ⟨its2, r2, p2, _⟩ := I.tuple hb
  refine icat_tup p1 p2 (fun z => ⟨.ref bl, H, I, rfl, q0 (r1.nil_iff.mp z)⟩) (fun z => ⟨.ref al, H, I, rfl, q1 (r2.nil_iff.mp z)⟩) ?_ (by rw [← r1.length, ← r2.length]; exact hz)
  exact ⟨.ref s.heap.objs.size, _, laidT I (r1.append r2) (by rw [List.length_append]; exact hz), rfl, q2 _ _ rfl (I.hok.fresh (Nat.le_refl _))⟩
abbrev rIAdd (K : PySem.W.Frag) : R2 := fun x y H Q => ((rInt (· + ·) x y H Q ∨ rCatN K x y H Q) ∨ ∃ i j, x = .str i ∧ y = .str j ∧ i.length + j.length ≤ sizeLine ∧ Q (.str (i ++ j)) H)
theorem iop_addD : OpR X (inplaceOp .Add) (rIAdd X.K) := (iop_add.or iop_catN).or iop_add_str
/-- x += e, of what stays -/
def iaddD : D → D → W Exc D
  | .list _, _ => .stuck
  | d, e => addD d e
theorem br_iadd {p : Option Addr} {γ H : Hp} {x y : V} {d e : D} {Q : VK} {XX : Exc → Prop} (st : Stt X.K p γ H) (cx : Ct X.K p γ H x d) (cy : Ct X.K p γ H y e) (h : (iaddD d e).run (Post X.K p γ H Q) XX) : rIAdd X.K x y H Q := by
  cases d <;> cases e <;> first
    | exact False.elim h
    | skip
  · exact .inl (.inl ⟨_, _, ct_int cx, ct_int cy, Post.int h st⟩)
  · exact .inr ⟨_, _, (ct_str cx).1, (ct_str cy).1, h.1, Post.str h.2 st (strOk_app (ct_str cx).2 (ct_str cy).2)⟩
  · rename_i ds es
    obtain ⟨al, vs, rfl, ha, ra⟩ := ct_tup cx
    obtain ⟨bl, ws, rfl, hb, rb⟩ := ct_tup cy
    have h2 : Post X.K p γ H Q (.tuple (ds ++ es)) := h.2
    refine .inl (.inr ⟨al, bl, vs, ws, rfl, rfl, (ha.mono st.sub).sq, (hb.mono st.sub).sq, by rw [ra.length, rb.length]; exact h.1, fun z => ?_, fun z => ?_, fun l o od n => Post.tup h2 st (ra.append rb) l o od n⟩)
    · subst z
      have : ds = [] := List.length_eq_zero_iff.mp (by rw [← ra.length]; rfl)
      subst this
      exact Post.here h2 st (Rep.tup hb rb)
    · subst z
      have : es = [] := List.length_eq_zero_iff.mp (by rw [← rb.length]; rfl)
      subst this
      rw [List.append_nil] at h2
      exact Post.here h2 st (Rep.tup ha ra)
theorem pS_aug {i : Nat} {x : Str} {pos' : Pos} (st0 : Stt X.K p γ0 H0) (hN : X.N.Nodup) (hi : X.N[i]? = some x) (hx : Loc X.env.scope x) (hf : X.fn x = true ∨ X.env.scope.names.lookup x = some .local) (he : PE X e (TEe X Wx me)) :
    PS X (.AugAssign (.Name x pos') .Add e pos) (TSs X Wx p γ0 H0 fun ρ => (lf ρ (getV ρ i)).bind fun d => (lf ρ (me ρ)).bind fun f => (lf ρ (iaddD d f)).bind fun z => .ret (.nx (ρ.set i (.val z)))) := by
  refine ps_of (ps_aug hN hi hx he (ti := rIAdd X.K) iop_addD hf) fun E σ H ⟨γ, ρ, e0, er, hm⟩ => ?_
  have hm' : (getV ρ i).run (fun d => ((lf ρ (me ρ)).bind fun f => (lf ρ (iaddD d f)).bind fun z => .ret (.nx (ρ.set i (.val z)))).run (PostS X.K p γ0 H0 γ E) (ExS X.K X.mg Wx p γ0 H0 γ)) (fun x => ExS X.K X.mg Wx p γ0 H0 γ (x, ρ)) := hm
  unfold getV at hm'
  split at hm'
  · rename_i d hd
    obtain ⟨v, e1, r⟩ := er.val hd
    refine ⟨v, e1, p, H0, γ, ρ, e0.st, er, (me ρ).mono (fun f h1 γ1 H1 y e1 c1 => ?_) (fun x q => q.toE st0 e0 er (.refl _)) hm'⟩
    refine br_iadd (XX := fun _ => True) e1.st (.inl (r.mono e1.gg)) (.inl c1) ((iaddD d f).mono (fun z q γ2 H2 u e2 r2 => ?_) (fun _ _ => trivial) h1)
    have e12 := Ext.trans e0.st e1 e2
    exact q γ2 H2 _ e12.gg (Ext.trans st0 e0 e12) ((er.ext e12).setVal r2)
  · exact hm'.elim

/-! ### raise, try -/
section
variable {m ms : S}
abbrev raiseW (x : Str) (ml : List Sl → W Exc (List D)) : S := fun ρ => (lf ρ (ml ρ)).bind fun ds => (W.ask (ds.length ≤ sizeLine)).bind fun _ => .err (⟨x, []⟩, ρ)
theorem pS_raise {x : Str} {C : Addr} {ml : List Sl → W Exc (List D)} (st0 : Stt X.K p γ0 H0) (hc : X.calm = true) (tk : Takes X Wx) (q : PySem.W.excIn X.K C He.veBase "ValueError.__new__" = true) (gC : X.mg x = some (.ref C)) (kC : PySem.W.keepIn X.K (.ref C) = true)
    (r : Raises X (.ref C)) (hg : Gl X x) (ha : PA X (e :: es) (TAl X Wx ml)) (hdb : (x == ("__debug__" : Str)) = false) (he : starEach (e :: es) X.env = (false, eval e X.env) :: starEach es X.env) (hpl : (backTo pos (starEach es X.env)).any (·.1) = false) :
    PS X (.Raise (some (.Call (.Name x pp) (e :: es) [] pos)) none apos) (TSs X Wx p γ0 H0 (raiseW x ml)) := by
  refine ps_of (ps_raise hc tk (pmk_ownA PySem.F.excBase_ValueError q gC kC r hg ha hdb he hpl)) fun E σ H ⟨γ, ρ, e0, er, hm⟩ => ?_
  refine ⟨p, H0, γ, ρ, e0.st, er, (ml ρ).mono (fun ds h1 γ1 H1 vs e1 r1 => ?_) (fun x q => q.toE st0 e0 er (.refl _)) hm⟩
  obtain ⟨hz, h1⟩ := h1
  exact ⟨by rw [r1.length]; exact hz, h1 γ1 H1 σ (.ref C) none e1.gg (Ext.trans st0 e0 e1) (er.ext e1) ⟨C, gC, rfl, rfl, rfl⟩⟩
/-- try: body except n: suite -/
abbrev tryW (ex : Str → Option Bool) (mb ms : S) : S := fun ρ => (mb ρ).catch_ fun x => match ex x.1.cls with
  | some true => ms x.2
  | some false => .err x
  | none => .stuck
theorem pS_try {n : Str} {Cn : Addr} {body suite : List Stmt} {b₀ : Stmt} {np pos' : Pos} {ex : Str → Option Bool} {mb ms : S} (st0 : Stt X.K p γ0 H0) (hs : X.stack = X.env :: X.outer) (hf : X.env.frame = some X.env.locals) (hc : Names X n (.ref Cn)) (tk : Takes X Wx)
    (hex : ∀ y b C, ex y = some b → X.mg y = some (.ref C) → PySem.W.exmOne X.K (.ref C) (.ref Cn) = some b)
    (hb : ∀ (W : WX) (pn : List (Addr × Obj)) (xe : Value → Shared → Prop), Takes (X.tr pn xe) W → PassesOwn (model X.prog X.w) X.A X.env xe → PSs (X.tr pn xe) body (RdS X.K X.mg W p γ0 H0 mb))
    (hsu : ∀ (al : Addr) (oe : Obj) (cls : Value) (d : Option Addr) (pn : List (Addr × Obj)), Zc cls d oe → (∃ vs, oe.data = .fields vs) → PSs (X.suite al ((al, oe) :: pn)) (b₀ :: suite) (RdS X.K X.mg W0 p γ0 H0 ms)) (hms : ∀ ρ Q XX, (ms ρ).run Q XX → (ms ρ).run Q fun _ => False) :
    PS X (.Try body [.ExceptHandler (some (.Name n np)) none (b₀ :: suite) pos'] [] [] pos) (TSs X Wx p γ0 H0 (tryW ex mb ms)) := by
  refine ps_of (ps_try_only hs hf hc tk (ts := fun _ _ _ => RdS X.K X.mg W0 p γ0 H0 ms) hb hsu) fun E σ H ⟨γ, ρ, e0, er, hm⟩ => ?_
  refine ⟨γ, ρ, e0, er, (mb ρ).mono (fun _ q => q) (fun x hx => ?_) hm⟩
  intro γ' H' σ' cc dd s' e' er' rx
  obtain ⟨C, gC, rfl, f0, f1⟩ := rx
  have hx' : (match ex x.1.cls with | some true => ms x.2 | some false => .err x | none => .stuck : W XS Out).run (PostS X.K p γ0 H0 γ E) (ExS X.K X.mg Wx p γ0 H0 γ) := hx
  cases q : ex x.1.cls with
  | none => rw [q] at hx'; exact hx'.elim
  | some bb =>
    refine ⟨bb, hex _ _ _ q gC, fun hb _ _ => ?_, fun hb => ?_⟩
    · subst hb
      rw [q] at hx'
      exact ⟨γ', x.2, e', er', (ms x.2).mono (fun o z => z.mono s') (fun _ z => z.elim) (hms _ _ _ hx')⟩
    · subst hb
      rw [q] at hx'
      exact hx' γ' H' σ' _ dd s' e' er' ⟨C, gC, rfl, f0, f1⟩
end
end
end Ev

/-! Ev12: operations by name; forms of the text looked at; wrappers of comprehensions. -/
namespace Ev
open PySem PySem.Spec PyProof.Rows L2

/-! ### operations -/
inductive AO where
  | add | sub | mul | mod | div
  deriving DecidableEq
def AO.op : AO → D → D → W Exc D
  | .add => addD
  | .sub => subD
  | .mul => mulD
  | .mod => modD
  | .div => divD
def AO.ast : AO → Operator
  | .add => .Add
  | .sub => .Sub
  | .mul => .Mult
  | .mod => .Mod
  | .div => .FloorDiv
inductive CO where
  | eq | ne | lt | le | gt | ge | is | isn | inn | nin
  deriving DecidableEq
def CO.op : CO → D → D → W Exc Bool
  | .eq => eqD false
  | .ne => eqD true
  | .lt => ltD fun i j => decide (i < j)
  | .le => ltD fun i j => decide (i ≤ j)
  | .gt => ltD fun i j => decide (j < i)
  | .ge => ltD fun i j => decide (j ≤ i)
  | .is => isD false
  | .isn => isD true
  | .inn => inD false
  | .nin => inD true
def CO.ast : CO → CmpOp
  | .eq => .Eq
  | .ne => .NotEq
  | .lt => .Lt
  | .le => .LtE
  | .gt => .Gt
  | .ge => .GtE
  | .is => .Is
  | .isn => .IsNot
  | .inn => .In
  | .nin => .NotIn
inductive BI where
  | len | int | tup | all | any | sum | min | max | abs
  deriving DecidableEq
def BI.op : BI → D → W Exc D
  | .len => lenD
  | .int => intD
  | .tup => tupleD
  | .all => allD
  | .any => anyD
  | .sum => sumD
  | .min => minD
  | .max => maxD
  | .abs => absD
def BI.nm : BI → Str
  | .len => "len"
  | .int => "int"
  | .tup => "tuple"
  | .all => "all"
  | .any => "any"
  | .sum => "sum"
  | .min => "min"
  | .max => "max"
  | .abs => "abs"
inductive B2 where
  | min | max
  deriving DecidableEq
def B2.op : B2 → D → D → W Exc D
  | .min => min2D
  | .max => max2D
def B2.nm : B2 → Str
  | .min => "min"
  | .max => "max"
inductive Ty where
  | bool | int | str | list | tuple
  deriving DecidableEq
def Ty.s : Ty → _root_.String
  | .bool => "bool"
  | .int => "int"
  | .str => "str"
  | .list => "list"
  | .tuple => "tuple"
def Ty.nm : Ty → Str
  | .bool => "bool"
  | .int => "int"
  | .str => "str"
  | .list => "list"
  | .tuple => "tuple"
section
variable {X : Cx}
theorem AO.ok (o : AO) : ∃ r, OpR X (binaryOp o.ast) r ∧ Br2 X.K o.op r := by
  cases o
  · exact ⟨_, op_addD, br_add⟩
  · exact ⟨_, op_sub, br_sub⟩
  · exact ⟨_, op_mul, br_mul⟩
  · exact ⟨_, op_mod, br_mod⟩
  · exact ⟨_, op_fdiv, br_div⟩
theorem CO.ok (hu : X.A.units + 65 < cLine) (o : CO) : ∃ r, OpR X (compareOp o.ast) r ∧ BrC X.K o.op r := by
  cases o
  · exact ⟨_, op_eqD (by omega), br_eq⟩
  · exact ⟨_, op_neD (by omega), br_ne⟩
  · exact ⟨_, op_lt, br_lt⟩
  · exact ⟨_, op_le, br_lt⟩
  · exact ⟨_, op_gt, br_lt⟩
  · exact ⟨_, op_ge, br_lt⟩
  · exact ⟨_, op_isN, br_is⟩
  · exact ⟨_, op_notN, br_isnot⟩
  · exact ⟨_, op_inAll hu, br_in⟩
  · exact ⟨_, op_notInAll hu, br_notIn⟩
theorem boot_len' : bootBuiltins "len" = some (.builtin "len") := by decide +kernel
theorem BI.ok (hc : X.calm = true) (o : BI) : (∃ id r, CallR X (.builtin id) r ∧ BrK1 X.K o.op r ∧ bootBuiltins o.nm = some (.builtin id)) ∨ (∃ id r, CallR X (.type id) r ∧ BrK1 X.K o.op r ∧ bootBuiltins o.nm = some (.type id)) := by
  cases o
  · exact .inl ⟨_, _, call_lenG, br_len, by decide +kernel⟩
  · exact .inr ⟨_, _, call_int1, br_int, by decide +kernel⟩
  · exact .inr ⟨_, _, call_tupleN, br_tuple, by decide +kernel⟩
  · exact .inl ⟨_, _, cr_all hc, br_all, by decide +kernel⟩
  · exact .inl ⟨_, _, cr_any hc, br_any, by decide +kernel⟩
  · exact .inl ⟨_, _, cr_sum hc, br_sum, by decide +kernel⟩
  · exact .inl ⟨_, _, cr_min hc, br_min, by decide +kernel⟩
  · exact .inl ⟨_, _, cr_max hc, br_max, by decide +kernel⟩
  · exact .inl ⟨_, _, call_abs, br_abs, by decide +kernel⟩
theorem BI.nn (o : BI) : o.nm ≠ "__name__" ∧ (o.nm == ("__debug__" : Str)) = false := by
  cases o <;> exact ⟨by decide +kernel, by decide +kernel⟩
theorem B2.ok (hc : X.calm = true) (o : B2) : ∃ id r, CallR X (.builtin id) r ∧ BrK2 X.K o.op r ∧ bootBuiltins o.nm = some (.builtin id) := by
  cases o
  · exact ⟨_, _, call_min2 hc, br_min2, by decide +kernel⟩
  · exact ⟨_, _, call_max2 hc, br_max2, by decide +kernel⟩
theorem B2.nn (o : B2) : o.nm ≠ "__name__" ∧ (o.nm == ("__debug__" : Str)) = false := by
  cases o <;> exact ⟨by decide +kernel, by decide +kernel⟩
theorem Ty.ok (t : Ty) : t.s ∈ ["bool", "int", "str", "list", "tuple"] ∧ bootBuiltins t.nm = some (.type t.s) ∧ t.nm ≠ "__name__" ∧ (t.nm == ("__debug__" : Str)) = false := by
  cases t <;> exact ⟨by decide +kernel, by decide +kernel, by decide +kernel, by decide +kernel⟩
end

/-! ### forms -/
theorem and2 {a b : Bool} (h : (a && b) = true) : a = true ∧ b = true := by simpa using h
theorem dec1 {p : Prop} [Decidable p] (h : decide p = true) : p := by simpa using h
def ns : Expr → Bool
  | .Starred _ _ => false
  | _ => true
theorem ns_ok {e : Expr} (h : ns e = true) : ∀ e' p, e ≠ .Starred e' p := by
  intro e' p z; subst z; cases h
def nSl : Expr → Bool
  | .Slice _ _ _ _ => false
  | _ => true
theorem nSl_ok {e : Expr} (h : nSl e = true) : ∀ l u s p, e ≠ .Slice l u s p := by
  intro l u s p z; subst z; cases h
def nSet : Expr → Bool
  | .Set _ _ _ => false
  | _ => true
theorem nSet_ok {e : Expr} (h : nSet e = true) (env : Env) (x : Value) : foldedSetIterable e env x = pure x := by
  cases e <;> first
    | rfl
    | cases h
theorem nSet_mark {e : Expr} (h : nSet e = true) (o : CmpOp) : behindInMarks o e = false := by
  cases e <;> first
    | rfl
    | cases h
def nT : Expr → Bool
  | .UnaryOp .Not _ _ => false
  | .BoolOp _ _ _ => false
  | .IfExp _ _ _ _ => false
  | .Compare _ _ _ _ => false
  | _ => true
theorem nT_ok {e : Expr} (h : nT e = true) (env : Env) (whole : Sem Value) : isTrue e env whole = (do let v ← whole; standAt e.pos; holding [v] (truthy v)) :=
  plainT (fun _ _ z => by subst z; cases h) (fun _ _ _ z => by subst z; cases h) (fun _ _ _ _ z => by subst z; cases h) (fun _ _ _ _ z => by subst z; cases h) env whole
def nSup : Expr → Bool
  | .Call (.Name _ _) [] [] _ => false
  | _ => true
theorem nSup_ok {o : Expr} (h : nSup o = true) (attr : Str) (env : Env) (whole : Sem Value) : attributeBase o attr env whole = whole := by
  unfold attributeBase
  split
  · cases h
  · rfl
def isLc : Expr → Bool
  | .ListComp _ _ _ _ => true
  | .SetComp _ _ _ _ => true
  | .DictComp _ _ _ _ _ => true
  | _ => false
theorem sw_not {e : Expr} (h : isLc e = false) (t : Option Expr) (l : Nat) (env : Env) : swapsWith e t l env = pure false := by
  cases e <;> first
    | rfl
    | cases h
def okNm (x : Str) : Bool := !(x == ("__debug__" : Str)) && !(x == ("__classdict__" : Str))
theorem okNm_ok {x : Str} (h : okNm x = true) : (x == ("__debug__" : Str)) = false ∧ (x == ("__classdict__" : Str)) = false := by
  simpa [okNm] using h
def visB (sc : Scope) (x : Str) : Bool := match sc.names.lookup x with
  | some .local => true
  | some .cell => true
  | some .free => true
  | _ => false
theorem visB_ok {sc : Scope} {x : Str} (h : visB sc x = true) : Vis sc x := by
  unfold visB at h
  split at h
  · exact .inl (by assumption)
  · exact .inr (.inl (by assumption))
  · exact .inr (.inr (by assumption))
  · cases h
def lokB (sc : Scope) (x : Str) : Bool := match sc.names.lookup x with
  | some .local => true
  | some .cell => true
  | _ => false
theorem lokB_ok {sc : Scope} {x : Str} (h : lokB sc x = true) : Loc sc x := by
  unfold lokB at h
  split at h
  · exact .inl (by assumption)
  · exact .inr (by assumption)
  · cases h
def gloB (sc : Scope) (x : Str) : Bool := match sc.names.lookup x with
  | some .globalImplicit => !(x == ("__debug__" : Str))
  | _ => false
theorem gloB_ok {X : Cx} {x : Str} (h : gloB X.env.scope x = true) : Gl X x ∧ (x == ("__debug__" : Str)) = false := by
  unfold gloB at h
  split at h
  · rename_i q
    exact ⟨q, by simpa using h⟩
  · cases h
def onNm (e : Expr) (k : Str → Bool) : Bool := match e with
  | .Name x _ => k x
  | _ => false
theorem onNm_ok {e : Expr} {k : Str → Bool} (h : onNm e k = true) : ∃ x p, e = .Name x p ∧ k x = true := by
  cases e <;> first | exact ⟨_, _, rfl, h⟩ | cases h
def onCst (e : Expr) (k : Const → Bool) : Bool := match e with
  | .Constant c _ _ => k c
  | _ => false
theorem onCst_ok {e : Expr} {k : Const → Bool} (h : onCst e k = true) : ∃ c j p, e = .Constant c j p ∧ k c = true := by
  cases e <;> first | exact ⟨_, _, _, rfl, h⟩ | cases h
def onTup (e : Expr) (k : List Expr → Bool) : Bool := match e with
  | .Tuple es _ _ => k es
  | _ => false
theorem onTup_ok {e : Expr} {k : List Expr → Bool} (h : onTup e k = true) : ∃ es j p, e = .Tuple es j p ∧ k es = true := by
  cases e <;> first | exact ⟨_, _, _, rfl, h⟩ | cases h
def onLst (e : Expr) (k : List Expr → Bool) : Bool := match e with
  | .List es _ => k es
  | _ => false
theorem onLst_ok {e : Expr} {k : List Expr → Bool} (h : onLst e k = true) : ∃ es p, e = .List es p ∧ k es = true := by
  cases e <;> first | exact ⟨_, _, rfl, h⟩ | cases h
def onIx (e : Expr) (k : Expr → Expr → Bool) : Bool := match e with
  | .Subscript a b _ => k a b
  | _ => false
theorem onIx_ok {e : Expr} {k : Expr → Expr → Bool} (h : onIx e k = true) : ∃ a b p, e = .Subscript a b p ∧ k a b = true := by
  cases e <;> first | exact ⟨_, _, _, rfl, h⟩ | cases h
def onSl (e : Expr) (k : Option Expr → Option Expr → Bool) : Bool := match e with
  | .Slice l u none _ => k l u
  | _ => false
theorem onSl_ok {e : Expr} {k : Option Expr → Option Expr → Bool} (h : onSl e k = true) : ∃ l u p, e = .Slice l u none p ∧ k l u = true := by
  cases e <;> first | cases h; done | skip
  rename_i l u s p
  cases s <;> first | exact ⟨_, _, _, rfl, h⟩ | cases h
def onBin (e : Expr) (k : Expr → Operator → Expr → Bool) : Bool := match e with
  | .BinOp a o b _ => k a o b
  | _ => false
theorem onBin_ok {e : Expr} {k : Expr → Operator → Expr → Bool} (h : onBin e k = true) : ∃ a o b p, e = .BinOp a o b p ∧ k a o b = true := by
  cases e <;> first | exact ⟨_, _, _, _, rfl, h⟩ | cases h
def onUn (e : Expr) (k : UnaryOp → Expr → Bool) : Bool := match e with
  | .UnaryOp o a _ => k o a
  | _ => false
theorem onUn_ok {e : Expr} {k : UnaryOp → Expr → Bool} (h : onUn e k = true) : ∃ o a p, e = .UnaryOp o a p ∧ k o a = true := by
  cases e <;> first | exact ⟨_, _, _, rfl, h⟩ | cases h
def onCmp (e : Expr) (k : Expr → CmpOp → Expr → Bool) : Bool := match e with
  | .Compare a [o] [b] _ => k a o b
  | _ => false
theorem onCmp_ok {e : Expr} {k : Expr → CmpOp → Expr → Bool} (h : onCmp e k = true) : ∃ a o b p, e = .Compare a [o] [b] p ∧ k a o b = true := by
  unfold onCmp at h
  split at h
  · exact ⟨_, _, _, _, rfl, h⟩
  · cases h
def onCh (e : Expr) (k : Expr → CmpOp → Expr → CmpOp → Expr → Bool) : Bool := match e with
  | .Compare a [o, o'] [b, c] _ => k a o b o' c
  | _ => false
theorem onCh_ok {e : Expr} {k : Expr → CmpOp → Expr → CmpOp → Expr → Bool} (h : onCh e k = true) : ∃ a o b o' c p, e = .Compare a [o, o'] [b, c] p ∧ k a o b o' c = true := by
  unfold onCh at h
  split at h
  · exact ⟨_, _, _, _, _, _, rfl, h⟩
  · cases h
def onBo (e : Expr) (k : BoolOp → List Expr → Bool) : Bool := match e with
  | .BoolOp o es _ => k o es
  | _ => false
theorem onBo_ok {e : Expr} {k : BoolOp → List Expr → Bool} (h : onBo e k = true) : ∃ o es p, e = .BoolOp o es p ∧ k o es = true := by
  cases e <;> first | exact ⟨_, _, _, rfl, h⟩ | cases h
def onIfe (e : Expr) (k : Expr → Expr → Expr → Bool) : Bool := match e with
  | .IfExp c a b _ => k c a b
  | _ => false
theorem onIfe_ok {e : Expr} {k : Expr → Expr → Expr → Bool} (h : onIfe e k = true) : ∃ c a b p, e = .IfExp c a b p ∧ k c a b = true := by
  cases e <;> first | exact ⟨_, _, _, _, rfl, h⟩ | cases h
/-- a call of a name, no keywords -/
def onCall (e : Expr) (k : Str → List Expr → Bool) : Bool := match e with
  | .Call (.Name x _) es [] _ => k x es
  | _ => false
theorem onCall_ok {e : Expr} {k : Str → List Expr → Bool} (h : onCall e k = true) : ∃ x pp es p, e = .Call (.Name x pp) es [] p ∧ k x es = true := by
  unfold onCall at h
  split at h
  · exact ⟨_, _, _, _, rfl, h⟩
  · cases h
def on1 (es : List Expr) (k : Expr → Bool) : Bool := match es with
  | [a] => k a
  | _ => false
theorem on1_ok {es : List Expr} {k : Expr → Bool} (h : on1 es k = true) : ∃ a, es = [a] ∧ k a = true := by
  unfold on1 at h
  split at h
  · exact ⟨_, rfl, h⟩
  · cases h
def on2 (es : List Expr) (k : Expr → Expr → Bool) : Bool := match es with
  | [a, b] => k a b
  | _ => false
theorem on2_ok {es : List Expr} {k : Expr → Expr → Bool} (h : on2 es k = true) : ∃ a b, es = [a, b] ∧ k a b = true := by
  unfold on2 at h
  split at h
  · exact ⟨_, _, rfl, h⟩
  · cases h
def onC {α : Type} (es : List α) (k : α → List α → Bool) : Bool := match es with
  | a :: r => k a r
  | _ => false
theorem onC_ok {α : Type} {es : List α} {k : α → List α → Bool} (h : onC es k = true) : ∃ a r, es = a :: r ∧ k a r = true := by
  cases es with
  | nil => cases h
  | cons a r => exact ⟨_, _, rfl, h⟩
def onO {α : Type} (o : Option α) (k : α → Bool) : Bool := match o with
  | some a => k a
  | none => false
theorem onO_ok {α : Type} {o : Option α} {k : α → Bool} (h : onO o k = true) : ∃ a, o = some a ∧ k a = true := by
  cases o with
  | none => cases h
  | some a => exact ⟨_, rfl, h⟩
/-- a call of a method, no keywords -/
def onMet (e : Expr) (k : Expr → Str → List Expr → Bool) : Bool := match e with
  | .Call (.Attribute o n ap) es [] p => (ap.endLine == p.line) && k o n es
  | _ => false
theorem onMet_ok {e : Expr} {k : Expr → Str → List Expr → Bool} (h : onMet e k = true) : ∃ o n ap es p, e = .Call (.Attribute o n ap) es [] p ∧ (ap.endLine == p.line) = true ∧ k o n es = true := by
  unfold onMet at h
  split at h
  · rw [Bool.and_eq_true] at h
    exact ⟨_, _, _, _, _, rfl, h.1, h.2⟩
  · cases h
def onLc (e : Expr) (k : Expr → List Comprehension → Scope → Bool) : Bool := match e with
  | .ListComp a gs sc _ => k a gs sc
  | _ => false
theorem onLc_ok {e : Expr} {k : Expr → List Comprehension → Scope → Bool} (h : onLc e k = true) : ∃ a gs sc p, e = .ListComp a gs sc p ∧ k a gs sc = true := by
  cases e <;> first | exact ⟨_, _, _, _, rfl, h⟩ | cases h
def onG1 (gs : List Comprehension) (k : Expr → Expr → List Expr → Bool) : Bool := match gs with
  | [⟨tg, it, ifs, 0⟩] => k tg it ifs
  | _ => false
theorem onG1_ok {gs : List Comprehension} {k : Expr → Expr → List Expr → Bool} (h : onG1 gs k = true) : ∃ tg it ifs, gs = [⟨tg, it, ifs, 0⟩] ∧ k tg it ifs = true := by
  unfold onG1 at h
  split at h
  · exact ⟨_, _, _, rfl, h⟩
  · cases h
def onG2 (gs : List Comprehension) (k : Expr → Expr → List Expr → Expr → Expr → List Expr → Bool) : Bool := match gs with
  | [⟨tg, it, ifs, 0⟩, ⟨tg1, it1, ifs1, 0⟩] => k tg it ifs tg1 it1 ifs1
  | _ => false
theorem onG2_ok {gs : List Comprehension} {k : Expr → Expr → List Expr → Expr → Expr → List Expr → Bool} (h : onG2 gs k = true) : ∃ tg it ifs tg1 it1 ifs1, gs = [⟨tg, it, ifs, 0⟩, ⟨tg1, it1, ifs1, 0⟩] ∧ k tg it ifs tg1 it1 ifs1 = true := by
  unfold onG2 at h
  split at h
  · exact ⟨_, _, _, _, _, _, rfl, h⟩
  · cases h

/-! ### targets -/
def tgB (N : List Str) (sc : Scope) (i : Nat) (e : Expr) : Bool := onNm e fun x => decide (N[i]? = some x) && lokB sc x
def tgsB (N : List Str) (sc : Scope) : List Nat → List Expr → Bool
  | [], [] => true
  | i :: is, e :: es => tgB N sc i e && tgsB N sc is es
  | _, _ => false
def chkTg (N : List Str) (sc : Scope) : T → Expr → Bool
  | .nm i, e => tgB N sc i e
  | .tup is, e => onTup e fun es => tgsB N sc is es
section
variable {X : Cx}
/-- every name may be stored -/
def FnAll (X : Cx) : Prop := ∀ x, Loc X.env.scope x → X.fn x = true ∨ X.env.scope.names.lookup x = some .local
theorem pg_nm {i : Nat} {e : Expr} (hN : X.N.Nodup) (hf : FnAll X) (h : tgB X.N X.env.scope i e = true) : PG X e (gName i) := by
  obtain ⟨x, p, rfl, h⟩ := onNm_ok h
  obtain ⟨h1, h2⟩ := and2 h
  exact pg_name hN (dec1 h1) (lokB_ok h2) (hf x (lokB_ok h2))
theorem nm_each {N : List Str} {sc : Scope} {i : Nat} {e : Expr} (h : tgB N sc i e = true) (es : List Expr) (env : Env) : assignEach (e :: es) env = (false, assign e env) :: assignEach es env := by
  obtain ⟨x, p, rfl, h⟩ := onNm_ok h
  rfl
theorem pgs_all (hN : X.N.Nodup) (hf : FnAll X) : ∀ {is : List Nat} {es : List Expr}, tgsB X.N X.env.scope is es = true → PGs X es (gAll is) ∧ (assignEach es X.env).length = is.length ∧ (assignEach es X.env).findIdx? (·.1) = none
  | [], [], _ => ⟨pgs_nil, rfl, rfl⟩
  | [], _ :: _, h => by cases h
  | _ :: _, [], h => by cases h
  | i :: is, e :: es, h => by
    have h' : (tgB X.N X.env.scope i e && tgsB X.N X.env.scope is es) = true := h
    rw [Bool.and_eq_true] at h'
    obtain ⟨a, b, c⟩ := pgs_all hN hf h'.2
    have q := nm_each h'.1 es X.env
    refine ⟨pgs_cons (pg_nm hN hf h'.1) a (by rw [q]; rfl), by rw [q]; simp [b], by rw [q]; simp [List.findIdx?_cons, c]⟩
theorem pg_or {tg : Expr} {t1 t2 : TG} (h1 : PG X tg t1) (h2 : PG X tg t2) : PG X tg (fun v σ H Q => t1 v σ H Q ∨ t2 v σ H Q) := ⟨fun pins s σ H v u Q I r h => by
  rcases h with h | h
  · exact h1.run pins s σ H v u Q I r h
  · exact h2.run pins s σ H v u Q I r h⟩
theorem pg_T {t : T} {e : Expr} (hN : X.N.Nodup) (hf : FnAll X) (hc : X.calm = true) (h : chkTg X.N X.env.scope t e = true) : PG X e (gT X.K t) := by
  cases t with
  | nm i => exact pg_nm hN hf h
  | tup is =>
    obtain ⟨es, k, p, rfl, h⟩ := onTup_ok h
    obtain ⟨a, b, c⟩ := pgs_all hN hf h
    exact pg_or (pg_tup hc a b c) (pg_lst hc a b c)
theorem tg_plain {N : List Str} {sc : Scope} {t : T} {e : Expr} (env : Env) (h : chkTg N sc t e = true) : (assignEach [e] env).map (·.2) = [assign e env] := by
  cases t with
  | nm i => obtain ⟨x, p, rfl, h⟩ := onNm_ok h; rfl
  | tup is => obtain ⟨es, k, p, rfl, h⟩ := onTup_ok h; rfl
end
end Ev

/-! Ev13: a plain form of expressions: what it means, that it is the text. -/
namespace Ev
open PySem PySem.Spec PyProof.Rows L2
mutual
/-- values -/
inductive IE where
  | v (i : Nat) | none | b (k : Bool) | i (n : Int) | s (z : Str) | g (j : Nat)
  | tup (l : IL) | ix (a b : IO) | sl (a : IO) (lo hi : IP) | bin (o : AO) (a b : IO) | cmp (o : CO) (a b : IO) | chn (o o' : CO) (a b c : IO)
  | not (a : IO) | and (x : IB) | or (x : IB) | ife (c : IC) (a b : IE) | neg (a : IE) | f1 (f : BI) (a : IO) | f2 (f : B2) (a b : IO) | isi (t : Ty) (a : IO) | idx (a b : IO) | cnt (a b : IO) | rvt (a : IO)
  | call (n : Nat) (a : IA) | fr (f : IF) | bad | dsub (ks : List Str) (l : IL) (k : IE) | dct (ks : List Str) (l : IL) | kix (x : Str) (t : Tb) (a : IO) | dget (i : Nat) (k : IE) | dget2 (i : Nat) (k z : IE)
/-- values that are only read -/
inductive IO where
  | e (e : IE) | own (i : Nat)
/-- fresh lists -/
inductive IF where
  | lst (l : IL) | cat (a b : IO) | rep (a b : IO) | list (a : IO) | lc (vs : List Nat) (t : T) (i : II) (c : IQ) (e : IE)
  | lc2 (vs : List Nat) (t : T) (i : II) (c : IQ) (vs1 : List Nat) (t1 : T) (i1 : II) (c1 : IQ) (e : IE) | srtS (a : IO) | srtL (a : IO) | rg1 (e : IE) | rg2 (a b : IE)
/-- tests -/
inductive IC where
  | tru (a : IO) | cmp (o : CO) (a b : IO) | chn (o o' : CO) (a b c : IO) | not (c : IC) | and (x : IK) | or (x : IK) | kin (neg : Bool) (x : Str) (t : Tb) (a : IO)
inductive IQ where
  | no | one (c : IC)
inductive IK where
  | one (c : IC) | more (c : IC) (x : IK)
inductive IB where
  | one (e : IE) | more (e : IE) (x : IB)
inductive II where
  | seq (e : IE) | r1 (e : IE) | r2 (a b : IE) | rev (e : IE) | zip (a b : IE)
inductive IP where
  | no | one (e : IE)
inductive IL where
  | nil | cons (e : IE) (l : IL)
inductive IA where
  | nil | d (e : IE) (a : IA) | pool (i : Nat) (a : IA)
end
structure Tab where
  N : List Str
  sc : Scope
  ss : Scope
  calm : Bool
  fns : List Str
  cst : List Str
  bl : List Str
  exs : List Str
  tbl : List (Str × Tb)
structure Mg where
  Φ : Nat → List Ar → W Exc D
  C : Nat → D
  exs : List Str
def II.pl : II → Bool
  | .zip _ _ => false
  | _ => true

/-! ### what they mean -/
mutual
def denE (M : Mg) : IE → List Sl → W Exc D
  | .v i => fun ρ => getV ρ i
  | .none => fun _ => .ret .none
  | .b k => fun _ => .ret (.bool k)
  | .i n => fun _ => .ret (.int n)
  | .s z => fun _ => .ret (.str z)
  | .g j => fun _ => .ret (M.C j)
  | .tup l => fun ρ => (denL M l ρ).bind fun ds => (W.ask (ds.length ≤ sizeLine)).bind fun _ => .ret (.tuple ds)
  | .ix a b => m2 ixD (denO M a) (denO M b)
  | .sl a lo hi => fun ρ => (denO M a ρ).bind fun d => (denP M lo ρ).bind fun l => (denP M hi ρ).bind fun h => slD d l h
  | .bin o a b => m2 o.op (denO M a) (denO M b)
  | .cmp o a b => m2 (fun d e => (o.op d e).bind fun b => .ret (.bool b)) (denO M a) (denO M b)
  | .chn o o' a b c => fun ρ => (chW o.op o'.op (denO M a) (denO M b) (denO M c) ρ).bind fun k => .ret (.bool k)
  | .not a => fun ρ => (denO M a ρ).bind fun d => (truthD d).bind fun k => .ret (.bool (!k))
  | .and x => denB M true x
  | .or x => denB M false x
  | .ife c a b => fun ρ => (denC M c ρ).bind fun k => if k then denE M a ρ else denE M b ρ
  | .neg a => fun ρ => (denE M a ρ).bind negD
  | .f1 f a => fun ρ => (denO M a ρ).bind f.op
  | .f2 f a b => m2 f.op (denO M a) (denO M b)
  | .isi t a => fun ρ => (denO M a ρ).bind fun d => .ret (.bool (isiB (tyName d) t.s))
  | .idx a b => indexW (denO M a) (denO M b)
  | .cnt a b => countW (denO M a) (denO M b)
  | .rvt a => fun ρ => (denO M a ρ).bind rvtD
  | .call n a => fun ρ => (denA M a ρ).bind (M.Φ n)
  | .fr f => fun ρ => (denF M f ρ).bind fun xs => .ret (.list xs)
  | .bad => fun _ => .stuck
  | .dsub ks l k => fun ρ => (denL M l ρ).bind fun ds => (denE M k ρ).bind fun d => dsubD ks ds d
  | .dct ks l => fun ρ => (denL M l ρ).bind fun ds => (W.ask (ks.length = ds.length)).bind fun _ => .ret (.dict (dkv ks ds))
  | .kix _ t a => fun ρ => (denO M a ρ).bind (kixD t)
  | .dget i k => dgetW i (denE M k)
  | .dget2 i k z => dget2W i (denE M k) (denE M z)
def denO (M : Mg) : IO → List Sl → W Exc D
  | .e e => denE M e
  | .own i => fun ρ => getO ρ i
def denF (M : Mg) : IF → List Sl → W Exc (List D)
  | .lst l => fun ρ => (denL M l ρ).bind fun ds => (W.ask (ds.length ≤ sizeLine)).bind fun _ => .ret ds
  | .cat a b => m2 catF (denO M a) (denO M b)
  | .rep a b => m2 repF (denO M a) (denO M b)
  | .list a => fun ρ => (denO M a ρ).bind listF
  | .srtS a => fun ρ => (denO M a ρ).bind srtSetD
  | .srtL a => fun ρ => (denO M a ρ).bind srtD
  | .rg1 e => fun ρ => (denE M e ρ).bind rgL1
  | .rg2 a b => fun ρ => (denE M a ρ).bind fun d => (denE M b ρ).bind fun f => rgL2 d f
  | .lc vs t i c e => lcW t vs (denI M i) (denQ M c) (denE M e)
  | .lc2 vs t i c vs1 t1 i1 c1 e => lc2W t vs (denI M i) (denQ M c) t1 vs1 (denI M i1) (denQ M c1) (denE M e)
def denC (M : Mg) : IC → List Sl → W Exc Bool
  | .tru a => fun ρ => (denO M a ρ).bind truthD
  | .cmp o a b => m2 o.op (denO M a) (denO M b)
  | .chn o o' a b c => chW o.op o'.op (denO M a) (denO M b) (denO M c)
  | .not c => fun ρ => (denC M c ρ).bind fun k => .ret (!k)
  | .and x => denK M true x
  | .or x => denK M false x
  | .kin neg _ t a => fun ρ => (denO M a ρ).bind (kinD neg t)
def denQ (M : Mg) : IQ → List Sl → W Exc Bool
  | .no => fun _ => .ret true
  | .one c => denC M c
def denK (M : Mg) (o : Bool) : IK → List Sl → W Exc Bool
  | .one c => denC M c
  | .more c x => fun ρ => (denC M c ρ).bind fun k => if k = o then denK M o x ρ else .ret k
def denB (M : Mg) (o : Bool) : IB → List Sl → W Exc D
  | .one e => denE M e
  | .more e x => fun ρ => (denE M e ρ).bind fun d => (truthD d).bind fun k => if k = o then denB M o x ρ else .ret d
def denI (M : Mg) : II → List Sl → W Exc (List D)
  | .seq e => fun ρ => (denE M e ρ).bind iterD
  | .r1 e => fun ρ => (denE M e ρ).bind rng1D
  | .r2 a b => fun ρ => (denE M a ρ).bind fun d => (denE M b ρ).bind fun f => rng2D d f
  | .rev e => fun ρ => (denE M e ρ).bind revD
  | .zip a b => fun ρ => (denE M a ρ).bind fun d => (denE M b ρ).bind fun f => zipD d f
def denP (M : Mg) : IP → List Sl → W Exc (Option Int)
  | .no => fun _ => .ret .none
  | .one e => fun ρ => (denE M e ρ).bind intW
def denL (M : Mg) : IL → List Sl → W Exc (List D)
  | .nil => fun _ => .ret []
  | .cons e l => fun ρ => (denE M e ρ).bind fun d => (denL M l ρ).bind fun ds => .ret (d :: ds)
def denA (M : Mg) : IA → List Sl → W Exc (List Ar)
  | .nil => fun _ => .ret []
  | .d e a => fun ρ => (denE M e ρ).bind fun d => (denA M a ρ).bind fun ds => .ret (.d d :: ds)
  | .pool i a => fun ρ => (getP ρ i).bind fun _ => (denA M a ρ).bind fun ds => .ret (.pool :: ds)
end

/-! ### that they are the text -/
def relS (sc scope : Scope) : Scope := { scope with names := scope.names.map fun (n, k) => if (k == NameKind.free && sc.kind == .function && sc.names.lookup n == some .cell) then (n, NameKind.cell) else (n, k) }
def ownL (N : List Str) (vs : List Nat) : List (Str × Nat) := vs.map fun v => (N.getD v "", v)
def Tab.blk (Γ : Tab) (scope : Scope) : Tab := { Γ with sc := relS Γ.sc scope, ss := scope }
def plB (t : T) (i : II) : Bool := match t with
  | .nm _ => i.pl
  | .tup _ => true
def bltB (Γ : Tab) (x : Str) : Bool := decide (x ∈ Γ.bl) && gloB Γ.sc x
def onDict (e : Expr) (k : List (Option Expr) → List Expr → Bool) : Bool := match e with
  | .Dict a b _ => k a b
  | _ => false
theorem onDict_ok {e : Expr} {k : List (Option Expr) → List Expr → Bool} (h : onDict e k = true) : ∃ a b p, e = .Dict a b p ∧ k a b = true := by
  cases e <;> first | exact ⟨_, _, _, rfl, h⟩ | cases h
def chkDK : List Str → List (Option Expr) → Bool
  | [], [] => true
  | k :: ks, e :: es => (onO e fun x => onCst x fun c => decide (c = .str k)) && chkDK ks es
  | _, _ => false
def isNilL : IL → Bool
  | .nil => true
  | _ => false
mutual
def chkE (Γ : Tab) : IE → Expr → Bool
  | .v i, e => onNm e fun x => decide (Γ.N[i]? = some x) && (visB Γ.sc x && okNm x)
  | .none, e => onCst e fun c => decide (c = .none)
  | .b k, e => onCst e fun c => decide (c = .bool k)
  | .i n, e => onCst e fun c => decide (c = .int n)
  | .s z, e => onCst e fun c => decide (c = .str z) && PyData.strOk z
  | .g j, e => onNm e fun x => decide (Γ.cst[j]? = some x) && gloB Γ.sc x
  | .tup l, e => onTup e fun es => chkL Γ l es
  | .ix a b, e => onIx e fun x y => nSl y && (chkO Γ a x && chkO Γ b y)
  | .sl a lo hi, e => onIx e fun x y => chkO Γ a x && onSl y fun l u => chkP Γ lo l && chkP Γ hi u
  | .bin o a b, e => onBin e fun x p y => decide (p = o.ast) && (chkO Γ a x && chkO Γ b y)
  | .cmp o a b, e => onCmp e fun x p y => decide (p = o.ast) && (nSet y && (chkO Γ a x && chkO Γ b y))
  | .chn o o' a b c, e => onCh e fun x p y p' z => (decide (p = o.ast) && decide (p' = o'.ast)) && (nSet z && (chkO Γ a x && (chkO Γ b y && chkO Γ c z)))
  | .not a, e => onUn e fun o x => decide (o = .Not) && chkO Γ a x
  | .and x, e => onBo e fun o es => decide (o = .And) && chkB Γ x es
  | .or x, e => onBo e fun o es => decide (o = .Or) && chkB Γ x es
  | .ife c a b, e => onIfe e fun z x y => chkC Γ c z && (chkE Γ a x && chkE Γ b y)
  | .neg a, e => onUn e fun o x => decide (o = .USub) && chkE Γ a x
  | .f1 f a, e => onCall e fun x es => (Γ.calm && (decide (x = f.nm) && bltB Γ x)) && on1 es fun y => ns y && chkO Γ a y
  | .f2 f a b, e => onCall e fun x es => (Γ.calm && (decide (x = f.nm) && bltB Γ x)) && on2 es fun y z => (ns y && ns z) && (chkO Γ a y && chkO Γ b z)
  | .isi t a, e => onCall e fun x es => (decide (x = "isinstance") && bltB Γ x) && on2 es fun y z => (ns y && chkO Γ a y) && onNm z fun n => decide (n = t.nm) && bltB Γ n
  | .idx a b, e => onMet e fun o n es => (decide (n = "index") && nSup o) && on1 es fun y => ns y && (chkO Γ a o && chkO Γ b y)
  | .cnt a b, e => onMet e fun o n es => (decide (n = "count") && nSup o) && on1 es fun y => ns y && (chkO Γ a o && chkO Γ b y)
  | .rvt a, e => onCall e fun x es => (Γ.calm && (decide (x = "tuple") && bltB Γ x)) && on1 es fun z => onCall z fun y es2 => (decide (y = "reversed") && bltB Γ y) && on1 es2 fun w => ns w && chkO Γ a w
  | .call n a, e => onCall e fun x es => (decide (Γ.fns[n]? = some x) && gloB Γ.sc x) && chkA Γ a es
  | .fr f, e => chkF Γ f e
  | .bad, _ => true
  | .dsub ks l k, e => onIx e fun x y => nSl y && (chkE Γ k y && onDict x fun keys values => (decide ks.Nodup && (decide (ks.length ≤ 15) && (decide (keys.length = values.length) && !keys.isEmpty))) && (chkDK ks keys && chkL Γ l values))
  | .dct ks l, e => onDict e fun keys values => if ks.isEmpty then (keys.isEmpty && values.isEmpty) && isNilL l else ((decide ks.Nodup && ks.all PyData.strOk) && (decide (ks.length ≤ 15) && (decide (keys.length = values.length) && !keys.isEmpty))) && (chkDK ks keys && chkL Γ l values)
  | .kix x t a, e => onIx e fun l r => ((onNm l fun y => decide (y = x) && gloB Γ.sc y) && decide ((x, t) ∈ Γ.tbl)) && (nSl r && chkO Γ a r)
  | .dget i k, e => onIx e fun x y => nSl y && ((onNm x fun n => decide (Γ.N[i]? = some n) && (visB Γ.sc n && okNm n)) && chkE Γ k y)
  | .dget2 i k z, e => onMet e fun o n es => decide (n = "get") && ((onNm o fun x => decide (Γ.N[i]? = some x) && (visB Γ.sc x && okNm x)) && on2 es fun y w => (ns y && ns w) && (chkE Γ k y && chkE Γ z w))
def chkO (Γ : Tab) : IO → Expr → Bool
  | .e e, x => chkE Γ e x
  | .own i, e => onNm e fun x => decide (Γ.N[i]? = some x) && (visB Γ.sc x && okNm x)
def chkF (Γ : Tab) : IF → Expr → Bool
  | .lst l, e => onLst e fun es => chkL Γ l es
  | .cat a b, e => onBin e fun x p y => decide (p = .Add) && (chkO Γ a x && chkO Γ b y)
  | .rep a b, e => onBin e fun x p y => decide (p = .Mult) && (chkO Γ a x && chkO Γ b y)
  | .list a, e => onCall e fun x es => (Γ.calm && (decide (x = "list") && bltB Γ x)) && on1 es fun y => ns y && chkO Γ a y
  | .srtS a, e => onCall e fun x es => (Γ.calm && (decide (x = "sorted") && bltB Γ x)) && on1 es fun z => onCall z fun y es2 => (decide (y = "set") && bltB Γ y) && on1 es2 fun w => ns w && chkO Γ a w
  | .srtL a, e => onCall e fun x es => (decide (x = "sorted") && bltB Γ x) && on1 es fun y => ns y && chkO Γ a y
  | .rg1 a, e => onCall e fun x es => (Γ.calm && (decide (x = "list") && bltB Γ x)) && on1 es fun z => onCall z fun y es2 => (decide (y = "range") && bltB Γ y) && on1 es2 fun w => ns w && chkE Γ a w
  | .rg2 a b, e => onCall e fun x es => (Γ.calm && (decide (x = "list") && bltB Γ x)) && on1 es fun z => onCall z fun y es2 => (decide (y = "range") && bltB Γ y) && on2 es2 fun w v => (ns w && ns v) && (chkE Γ a w && chkE Γ b v)
  | .lc vs t i c e, ex => onLc ex fun elt gs scope => onG1 gs fun tg it ifs => (Γ.calm && (nSet it && (plB t i && (blkC Γ.N Γ.sc scope (ownL Γ.N vs) && t.idx.all fun k => decide (k ∈ vs))))) &&
      (chkI Γ i tg it && (chkTg Γ.N scope t tg && (chkQ (Γ.blk scope) c ifs && chkE (Γ.blk scope) e elt)))
  | .lc2 vs t i c vs1 t1 i1 c1 e, ex => onLc ex fun elt gs scope => onG2 gs fun tg it ifs tg1 it1 ifs1 => ((Γ.calm && (nSet it && (plB t i && (blkC Γ.N Γ.sc scope (ownL Γ.N vs) && t.idx.all fun k => decide (k ∈ vs))))) &&
      ((nSet it1 && (plB t1 i1 && ((vs1.all fun k => decide (k ∈ vs)) && t1.idx.all fun k => decide (k ∈ vs1)))))) &&
      ((chkI Γ i tg it && (chkTg Γ.N scope t tg && chkQ (Γ.blk scope) c ifs)) && (chkI (Γ.blk scope) i1 tg1 it1 && (chkTg Γ.N scope t1 tg1 && (chkQ (Γ.blk scope) c1 ifs1 && chkE (Γ.blk scope) e elt))))
def chkC (Γ : Tab) : IC → Expr → Bool
  | .tru a, e => nT e && chkO Γ a e
  | .cmp o a b, e => onCmp e fun x p y => decide (p = o.ast) && (nSet y && (chkO Γ a x && chkO Γ b y))
  | .chn o o' a b c, e => onCh e fun x p y p' z => (decide (p = o.ast) && decide (p' = o'.ast)) && (nSet z && (chkO Γ a x && (chkO Γ b y && chkO Γ c z)))
  | .not c, e => onUn e fun o x => decide (o = .Not) && chkC Γ c x
  | .and x, e => onBo e fun o es => decide (o = .And) && chkK Γ x es
  | .or x, e => onBo e fun o es => decide (o = .Or) && chkK Γ x es
  | .kin neg x t a, e => onCmp e fun l p r => (decide (p = if neg then .NotIn else .In) && ((onNm r fun y => decide (y = x) && gloB Γ.sc y) && decide ((x, t) ∈ Γ.tbl))) && chkO Γ a l
def chkQ (Γ : Tab) : IQ → List Expr → Bool
  | .no, es => es.isEmpty
  | .one c, es => on1 es fun e => chkC Γ c e
def chkK (Γ : Tab) : IK → List Expr → Bool
  | .one c, es => on1 es fun e => chkC Γ c e
  | .more c x, es => onC es fun e r => chkC Γ c e && (!r.isEmpty && chkK Γ x r)
def chkB (Γ : Tab) : IB → List Expr → Bool
  | .one c, es => on1 es fun e => chkE Γ c e
  | .more c x, es => onC es fun e r => chkE Γ c e && (!r.isEmpty && chkB Γ x r)
def chkI (Γ : Tab) : II → Expr → Expr → Bool
  | .seq e, _, x => chkE Γ e x
  | .r1 e, _, x => onCall x fun n es => (decide (n = "range") && bltB Γ n) && on1 es fun y => ns y && chkE Γ e y
  | .r2 a b, _, x => onCall x fun n es => (decide (n = "range") && bltB Γ n) && on2 es fun y z => (ns y && ns z) && (chkE Γ a y && chkE Γ b z)
  | .rev e, _, x => onCall x fun n es => (decide (n = "reversed") && bltB Γ n) && on1 es fun y => ns y && chkE Γ e y
  | .zip a b, tg, x => onTup tg (fun _ => true) && onCall x fun n es => (decide (n = "zip") && bltB Γ n) && on2 es fun y z => (ns y && ns z) && (chkE Γ a y && chkE Γ b z)
def chkP (Γ : Tab) : IP → Option Expr → Bool
  | .no, o => o.isNone
  | .one e, o => onO o fun x => chkE Γ e x
def chkL (Γ : Tab) : IL → List Expr → Bool
  | .nil, es => es.isEmpty
  | .cons e l, es => onC es fun x r => ns x && (chkE Γ e x && chkL Γ l r)
def chkA (Γ : Tab) : IA → List Expr → Bool
  | .nil, es => es.isEmpty
  | .d e l, es => onC es fun x r => ns x && (chkE Γ e x && chkA Γ l r)
  | .pool i l, es => onC es fun e r => (onNm e fun x => decide (Γ.N[i]? = some x) && (visB Γ.sc x && okNm x)) && chkA Γ l r
end
end Ev

/-! Ev14: the plain form of expressions is kept. -/
namespace Ev
open PySem PySem.Spec PyProof.Rows L2
structure Fit (X : Cx) (Wx : WX) (Γ : Tab) (M : Mg) : Prop where
  sc : X.env.scope = Γ.sc
  N : X.N = Γ.N
  nd : Γ.N.Nodup
  hu : X.A.units + 65 < cLine
  calm : Γ.calm = true → X.calm = true
  tk : Takes X Wx
  sto : ∀ x, Loc Γ.ss x → Loc X.env.scope x ∧ (X.fn x = true ∨ X.env.scope.names.lookup x = some .local)
  bl : ∀ x ∈ Γ.bl, X.mg x = none
  cst : ∀ (j : Nat) (x : Str), Γ.cst[j]? = some x → ∃ v u, X.mg x = some u ∧ RelV v u ∧ ∀ γ, Rep X.K γ v (M.C j)
  tbl : ∀ x t, (x, t) ∈ Γ.tbl → TblAt X.K X.w X.mg x t
  fns : ∀ (n : Nat) (x : Str), Γ.fns[n]? = some x → ∃ k f fd ps, Room k X.A ∧ X.mg x = some (.ref f) ∧ PySem.W.keepIn X.K (.ref f) = true ∧ Binds X.K fd ps [] ∧ FnD X k f fd ps (M.Φ n) ∧ ∀ as Q XX, (M.Φ n as).run Q XX → as.length = ps.length
section
variable {X : Cx} {Wx : WX} {Γ : Tab} {M : Mg}
theorem relS_keep {sc scope : Scope} {x : Str} {k : NameKind} (hk : k ≠ .free) (h : scope.names.lookup x = some k) : (relS sc scope).names.lookup x = some k := lookup_relS_keep hk h
theorem Fit.blk (φ : Fit X Wx Γ M) {scope : Scope} (s : Shared) (H : Hp) (C : Addr) (cl : List (Str × Addr)) (fp : List Addr) : Fit (X.blk s H scope (compEnvC scope cl C X.env) fp) W0 (Γ.blk scope) M where
  sc := by
    show relabel scope X.env = relS Γ.sc scope
    rw [← φ.sc]; rfl
  N := φ.N
  nd := φ.nd
  hu := φ.hu
  calm := φ.calm
  tk := fun u s' ⟨a, B, sI, pins, σ, H, cls, d, e, I, nb, up, sky, na, os, ag, w⟩ => w.elim
  sto := fun x hx => by
    have e : (X.blk s H scope (compEnvC scope cl C X.env) fp).env.scope = relS X.env.scope scope := rfl
    rw [e]
    rcases hx with h | h
    · exact ⟨.inl (relS_keep (by decide) h), .inr (relS_keep (by decide) h)⟩
    · exact ⟨.inr (relS_keep (by decide) h), .inl (by show (scope.names.lookup x == some .cell) = true; rw [show scope.names.lookup x = some .cell from h]; rfl)⟩
  bl := φ.bl
  cst := φ.cst
  tbl := φ.tbl
  fns := φ.fns
theorem pg_nmT {N : List Str} {i : Nat} {e : Expr} (φ : Fit X Wx Γ M) (h : tgB Γ.N Γ.ss i e = true) : PG X e (gName i) := by
  obtain ⟨x, p, rfl, h⟩ := onNm_ok h
  obtain ⟨h1, h2⟩ := and2 h
  obtain ⟨q1, q2⟩ := φ.sto x (lokB_ok h2)
  exact pg_name (by rw [φ.N]; exact φ.nd) (by rw [φ.N]; exact dec1 h1) q1 q2
theorem pgs_allT (φ : Fit X Wx Γ M) : ∀ {is : List Nat} {es : List Expr}, tgsB Γ.N Γ.ss is es = true → PGs X es (gAll is) ∧ (assignEach es X.env).length = is.length ∧ (assignEach es X.env).findIdx? (·.1) = none
  | [], [], _ => ⟨pgs_nil, rfl, rfl⟩
  | [], _ :: _, h => by cases h
  | _ :: _, [], h => by cases h
  | i :: is, e :: es, h => by
    have h' : (tgB Γ.N Γ.ss i e && tgsB Γ.N Γ.ss is es) = true := h
    rw [Bool.and_eq_true] at h'
    obtain ⟨a, b, c⟩ := pgs_allT φ h'.2
    have q := nm_each h'.1 es X.env
    refine ⟨pgs_cons (pg_nmT (N := Γ.N) φ h'.1) a (by rw [q]; rfl), by rw [q]; simp [b], by rw [q]; simp [List.findIdx?_cons, c]⟩
theorem pg_TT {t : T} {e : Expr} (φ : Fit X Wx Γ M) (hc : X.calm = true) (h : chkTg Γ.N Γ.ss t e = true) : PG X e (gT X.K t) := by
  cases t with
  | nm i => exact pg_nmT (N := Γ.N) φ h
  | tup is =>
    obtain ⟨es, k, p, rfl, h⟩ := onTup_ok h
    obtain ⟨a, b, c⟩ := pgs_allT φ h
    exact pg_or (pg_tup hc a b c) (pg_lst hc a b c)
theorem nd_ok (φ : Fit X Wx Γ M) : X.N.Nodup := by rw [φ.N]; exact φ.nd
theorem blt_ok (φ : Fit X Wx Γ M) {x : Str} (h : bltB Γ x = true) : Gl X x ∧ (x == ("__debug__" : Str)) = false ∧ X.mg x = none := by
  obtain ⟨h1, h2⟩ := and2 h
  rw [← φ.sc] at h2
  obtain ⟨q1, q2⟩ := gloB_ok h2
  exact ⟨q1, q2, φ.bl x (dec1 h1)⟩
theorem var_ok (φ : Fit X Wx Γ M) {i : Nat} {x : Str} (h : (decide (Γ.N[i]? = some x) && (visB Γ.sc x && okNm x)) = true) : X.N[i]? = some x ∧ Vis X.env.scope x ∧ (x == ("__debug__" : Str)) = false ∧ (x == ("__classdict__" : Str)) = false := by
  obtain ⟨h1, h2⟩ := and2 h
  obtain ⟨h2, h3⟩ := and2 h2
  refine ⟨by rw [φ.N]; exact dec1 h1, by rw [φ.sc]; exact visB_ok h2, okNm_ok h3⟩
theorem ownL_snd (N : List Str) : ∀ vs : List Nat, (ownL N vs).map (·.2) = vs
  | [] => rfl
  | v :: vs => by
    show v :: (ownL N vs).map (·.2) = _
    rw [ownL_snd N vs]
theorem pl_ok {t : T} {i : II} (h : plB t i = true) : ∀ k, t = .nm k → i.pl = true := by
  intro k e; subst e; exact h
theorem all_mem {l vs : List Nat} (h : (l.all fun k => decide (k ∈ vs)) = true) : ∀ i ∈ l, i ∈ vs := by
  intro i hi
  have := List.all_eq_true.mp h i hi
  simpa using this
theorem w_eq {m m' : List Sl → W Exc Bool} (h : ∀ ρ, m ρ = m' ρ) : m = m' := funext h
theorem wE_eq {m m' : List Sl → W Exc D} (h : ∀ ρ, m ρ = m' ρ) : m = m' := funext h
theorem ne_ok {r : List Expr} (h : (!r.isEmpty) = true) : ∃ b r', r = b :: r' := by
  cases r with
  | nil => cases h
  | cons b r' => exact ⟨_, _, rfl⟩
theorem pts_yes : PTs X [] (RdT X.K X.mg Wx fun _ => .ret true) := ⟨fun pins s σ H Q I ⟨p, H0, γ, ρ, st, er, hm⟩ => pts_nil.run pins s σ H Q I (hm γ H (.refl st))⟩
theorem and_eq (m1 m2 : List Sl → W Exc Bool) : (fun ρ => (m1 ρ).bind fun k => if k then m2 ρ else W.ret false) = fun ρ => (m1 ρ).bind fun k => if k = true then m2 ρ else W.ret k := by
  funext ρ; congr 1; funext k; cases k <;> rfl
theorem or_eq (m1 m2 : List Sl → W Exc Bool) : (fun ρ => (m1 ρ).bind fun k => if k then W.ret true else m2 ρ) = fun ρ => (m1 ρ).bind fun k => if k = false then m2 ρ else W.ret k := by
  funext ρ; congr 1; funext k; cases k <;> rfl
theorem orE_eq (m1 m2 : List Sl → W Exc D) : (fun ρ => (m1 ρ).bind fun d => (truthD d).bind fun k => if k then W.ret d else m2 ρ) = fun ρ => (m1 ρ).bind fun d => (truthD d).bind fun k => if k = false then m2 ρ else W.ret d := by
  funext ρ; congr 1; funext d; congr 1; funext k; cases k <;> rfl
theorem chkDK_len : ∀ {ks : List Str} {keys : List (Option Expr)}, chkDK ks keys = true → keys.all (·.isSome) = true ∧ keys.length = ks.length
  | [], [], _ => ⟨rfl, rfl⟩
  | [], _ :: _, h => by cases h
  | _ :: _, [], h => by cases h
  | k :: ks, e :: es, h => by
    obtain ⟨h1, h2⟩ := and2 (show ((onO e fun x => onCst x fun c => decide (c = .str k)) && chkDK ks es) = true from h)
    obtain ⟨x, rfl, _⟩ := onO_ok h1
    obtain ⟨q1, q2⟩ := chkDK_len h2
    exact ⟨by simpa using q1, by simp [q2]⟩
mutual
theorem okE {X : Cx} {Wx : WX} {Γ : Tab} {M : Mg} : ∀ (t : IE) (e : Expr), Fit X Wx Γ M → chkE Γ t e = true → PE X e (TEe X Wx (denE M t))
  | .v i, e, φ, h => by
    rw [chkE] at h
    obtain ⟨x, p, rfl, h⟩ := onNm_ok h
    obtain ⟨a, b, c, d⟩ := var_ok φ h
    exact pE_var a b c d
  | .none, e, φ, h => by
    rw [chkE] at h
    obtain ⟨c, j, p, rfl, h⟩ := onCst_ok h
    rw [dec1 h]
    exact pE_cst rfl
  | .b k, e, φ, h => by
    rw [chkE] at h
    obtain ⟨c, j, p, rfl, h⟩ := onCst_ok h
    rw [dec1 h]
    exact pE_cst rfl
  | .i n, e, φ, h => by
    rw [chkE] at h
    obtain ⟨c, j, p, rfl, h⟩ := onCst_ok h
    rw [dec1 h]
    exact pE_cst rfl
  | .s z, e, φ, h => by
    rw [chkE] at h
    obtain ⟨c, j, p, rfl, h⟩ := onCst_ok h
    obtain ⟨h1, h2⟩ := and2 h
    rw [dec1 h1]
    exact pE_cst (by simp only [cstD]; rw [if_pos h2])
  | .g j, e, φ, h => by
    rw [chkE] at h
    obtain ⟨x, p, rfl, h⟩ := onNm_ok h
    obtain ⟨h1, h2⟩ := and2 h
    rw [← φ.sc] at h2
    obtain ⟨q1, q2⟩ := gloB_ok h2
    obtain ⟨v, u, q3, q4, q5⟩ := φ.cst j x (dec1 h1)
    exact pE_glob q1 q3 q4 q5 q2
  | .tup l, e, φ, h => by
    rw [chkE] at h
    obtain ⟨es, k, p, rfl, h⟩ := onTup_ok h
    exact pE_tup (okL l es φ h)
  | .ix a b, e, φ, h => by
    rw [chkE] at h
    obtain ⟨x, y, p, rfl, h⟩ := onIx_ok h
    obtain ⟨h0, h⟩ := and2 h
    obtain ⟨h1, h2⟩ := and2 h
    exact pE_ix (by have := φ.hu; omega) (okO a x φ h1) (okO b y φ h2) (plainIx_of (nSl_ok h0))
  | .sl a lo hi, e, φ, h => by
    rw [chkE] at h
    obtain ⟨x, y, p, rfl, h⟩ := onIx_ok h
    obtain ⟨h0, h⟩ := and2 h
    obtain ⟨l, u, p2, rfl, h⟩ := onSl_ok h
    obtain ⟨h1, h2⟩ := and2 h
    exact pE_sl (okO a x φ h0) (okP lo l φ h1) (okP hi u φ h2)
  | .bin o a b, e, φ, h => by
    rw [chkE] at h
    obtain ⟨x, o', y, p, rfl, h⟩ := onBin_ok h
    obtain ⟨h0, h⟩ := and2 h
    obtain ⟨h1, h2⟩ := and2 h
    obtain ⟨r, q1, q2⟩ := AO.ok (X := X) o
    rw [dec1 h0]
    exact pE_bin q1 q2 (okO a x φ h1) (okO b y φ h2)
  | .cmp o a b, e, φ, h => by
    rw [chkE] at h
    obtain ⟨x, o', y, p, rfl, h⟩ := onCmp_ok h
    obtain ⟨h0, h⟩ := and2 h
    obtain ⟨h3, h⟩ := and2 h
    obtain ⟨h1, h2⟩ := and2 h
    obtain ⟨r, q1, q2⟩ := CO.ok φ.hu o
    rw [dec1 h0]
    exact pE_cmp q1 q2 (nSet_mark h3 _) (okO a x φ h1) (okO b y φ h2)
  | .chn o o' a b c, e, φ, h => by
    rw [chkE] at h
    obtain ⟨x, p1, y, p2, z, p, rfl, h⟩ := onCh_ok h
    obtain ⟨h0, h⟩ := and2 h
    obtain ⟨h00, h01⟩ := and2 h0
    obtain ⟨h3, h⟩ := and2 h
    obtain ⟨h1, h⟩ := and2 h
    obtain ⟨h2, h4⟩ := and2 h
    obtain ⟨r, q1, q2⟩ := CO.ok φ.hu o
    obtain ⟨r', q1', q2'⟩ := CO.ok φ.hu o'
    rw [dec1 h00, dec1 h01]
    exact pE_chn q1 q1' q2 q2' (nSet_mark h3 _) (okO a x φ h1) (okO b y φ h2) (okO c z φ h4)
  | .not a, e, φ, h => by
    rw [chkE] at h
    obtain ⟨o, x, p, rfl, h⟩ := onUn_ok h
    obtain ⟨h0, h⟩ := and2 h
    rw [dec1 h0]
    exact pE_not (okO a x φ h)
  | .and x, e, φ, h => by
    rw [chkE] at h
    obtain ⟨o, es, p, rfl, h⟩ := onBo_ok h
    obtain ⟨h0, h⟩ := and2 h
    rw [dec1 h0]
    exact okBA x es p φ h
  | .or x, e, φ, h => by
    rw [chkE] at h
    obtain ⟨o, es, p, rfl, h⟩ := onBo_ok h
    obtain ⟨h0, h⟩ := and2 h
    rw [dec1 h0]
    exact okBO x es p φ h
  | .ife c a b, e, φ, h => by
    rw [chkE] at h
    obtain ⟨z, x, y, p, rfl, h⟩ := onIfe_ok h
    obtain ⟨h0, h⟩ := and2 h
    obtain ⟨h1, h2⟩ := and2 h
    exact pE_ife (okC c z φ h0) (okE a x φ h1) (okE b y φ h2)
  | .neg a, e, φ, h => by
    rw [chkE] at h
    obtain ⟨o, x, p, rfl, h⟩ := onUn_ok h
    obtain ⟨h0, h⟩ := and2 h
    rw [dec1 h0]
    exact pE_neg (okE a x φ h)
  | .f1 f a, e, φ, h => by
    rw [chkE] at h
    obtain ⟨x, pp, es, p, rfl, h⟩ := onCall_ok h
    obtain ⟨h0, h⟩ := and2 h
    obtain ⟨hc, h0⟩ := and2 h0
    obtain ⟨h1, h2⟩ := and2 h0
    obtain ⟨y, rfl, h⟩ := on1_ok h
    obtain ⟨h3, h4⟩ := and2 h
    have hx := dec1 h1
    subst hx
    obtain ⟨g1, g2, g3⟩ := blt_ok φ h2
    rcases BI.ok (φ.calm hc) f with ⟨id, r, q1, q2, q3⟩ | ⟨id, r, q1, q2, q3⟩
    · exact pE_blt1 q1 q2 g1 g3 q3 f.nn.1 g2 (ns_ok h3) (okO a y φ h4)
    · exact pE_ty1 q1 q2 g1 g3 q3 f.nn.1 g2 (ns_ok h3) (okO a y φ h4)
  | .f2 f a b, e, φ, h => by
    rw [chkE] at h
    obtain ⟨x, pp, es, p, rfl, h⟩ := onCall_ok h
    obtain ⟨h0, h⟩ := and2 h
    obtain ⟨hc, h0⟩ := and2 h0
    obtain ⟨h1, h2⟩ := and2 h0
    obtain ⟨y, z, rfl, h⟩ := on2_ok h
    obtain ⟨h3, h4⟩ := and2 h
    obtain ⟨h5, h6⟩ := and2 h3
    obtain ⟨h7, h8⟩ := and2 h4
    have hx := dec1 h1
    subst hx
    obtain ⟨g1, g2, g3⟩ := blt_ok φ h2
    obtain ⟨id, r, q1, q2, q3⟩ := B2.ok (φ.calm hc) f
    exact pE_blt2 q1 q2 g1 g3 q3 f.nn.1 g2 (ns_ok h5) (ns_ok h6) (okO a y φ h7) (okO b z φ h8)
  | .isi t a, e, φ, h => by
    rw [chkE] at h
    obtain ⟨x, pp, es, p, rfl, h⟩ := onCall_ok h
    obtain ⟨h0, h⟩ := and2 h
    obtain ⟨h1, h2⟩ := and2 h0
    obtain ⟨y, z, rfl, h⟩ := on2_ok h
    obtain ⟨h3, h4⟩ := and2 h
    obtain ⟨h5, h6⟩ := and2 h3
    obtain ⟨n, p2, rfl, hz⟩ := onNm_ok h4
    obtain ⟨h7, h8⟩ := and2 hz
    have hx := dec1 h1
    subst hx
    have hn := dec1 h7
    subst hn
    obtain ⟨g1, g2, g3⟩ := blt_ok φ h2
    obtain ⟨k1, k2, k3⟩ := blt_ok φ h8
    obtain ⟨t1, t2, t3, t4⟩ := t.ok
    exact pE_isi t1 g1 g3 k1 k3 t2 t3 k2 (ns_ok h5) (okO a y φ h6)
  | .idx a b, e, φ, h => by
    rw [chkE] at h
    obtain ⟨o, n, ap, es, p, rfl, hl, h⟩ := onMet_ok h
    obtain ⟨h0, h⟩ := and2 h
    obtain ⟨h1, h2⟩ := and2 h0
    obtain ⟨y, rfl, h⟩ := on1_ok h
    obtain ⟨h3, h4⟩ := and2 h
    obtain ⟨h5, h6⟩ := and2 h4
    have hx := dec1 h1
    subst hx
    exact pE_index φ.hu (okO a o φ h5) (okO b y φ h6) (nSup_ok h2 _ _ _) (ns_ok h3) hl
  | .cnt a b, e, φ, h => by
    rw [chkE] at h
    obtain ⟨o, n, ap, es, p, rfl, hl, h⟩ := onMet_ok h
    obtain ⟨h0, h⟩ := and2 h
    obtain ⟨h1, h2⟩ := and2 h0
    obtain ⟨y, rfl, h⟩ := on1_ok h
    obtain ⟨h3, h4⟩ := and2 h
    obtain ⟨h5, h6⟩ := and2 h4
    have hx := dec1 h1
    subst hx
    exact pE_count (okO a o φ h5) (okO b y φ h6) (nSup_ok h2 _ _ _) (ns_ok h3) hl
  | .rvt a, e, φ, h => by
    rw [chkE] at h
    obtain ⟨x, pp, es, p, rfl, h⟩ := onCall_ok h
    obtain ⟨h0, h⟩ := and2 h
    obtain ⟨hc, h0⟩ := and2 h0
    obtain ⟨h1, h2⟩ := and2 h0
    obtain ⟨z, rfl, hz⟩ := on1_ok h
    obtain ⟨y, pp2, es2, p2, rfl, hy⟩ := onCall_ok hz
    obtain ⟨h3, h4⟩ := and2 hy
    obtain ⟨h5, h6⟩ := and2 h3
    obtain ⟨v, rfl, hv⟩ := on1_ok h4
    obtain ⟨h7, h8⟩ := and2 hv
    have hx := dec1 h1
    subst hx
    have hy' := dec1 h5
    subst hy'
    obtain ⟨g1, g2, g3⟩ := blt_ok φ h2
    obtain ⟨k1, k2, k3⟩ := blt_ok φ h6
    exact pE_rvt (φ.calm hc) g1 g3 k1 k3 (ns_ok h7) (okO a v φ h8)
  | .call n a, e, φ, h => by
    rw [chkE] at h
    obtain ⟨x, pp, es, p, rfl, h⟩ := onCall_ok h
    obtain ⟨h0, h⟩ := and2 h
    obtain ⟨h1, h2⟩ := and2 h0
    rw [← φ.sc] at h2
    obtain ⟨g1, g2⟩ := gloB_ok h2
    obtain ⟨k, f, fd, ps, r1, r2, r3, r4, r5, r6⟩ := φ.fns n x (dec1 h1)
    obtain ⟨ha, hs⟩ := okA a es φ h
    cases es with
    | nil =>
      have hn : a = .nil := by
        cases a with
        | nil => rfl
        | d e l => rw [chkA] at h; cases h
        | pool i l => rw [chkA] at h; cases h
      subst hn
      exact pE_call0 φ.tk r1 r6 r5 g1 r2 r3 r4 g2
    | cons y ys =>
      obtain ⟨hs1, hs2⟩ := hs
      exact pE_call φ.tk r1 r6 r5 g1 r2 r3 r4 ha g2 hs1 (hs2 p)
  | .fr f, e, φ, h => by
    rw [chkE] at h
    exact pe_FE (okF f e φ h)
  | .bad, e, φ, h => ⟨fun _ _ _ _ _ _ ⟨_, _, _, _, _, _, z⟩ => z.elim⟩
  | .dsub ks l k, e, φ, h => by
    rw [chkE] at h
    obtain ⟨x, y, p, rfl, h⟩ := onIx_ok h
    obtain ⟨h1, h⟩ := and2 h
    obtain ⟨h2, h⟩ := and2 h
    obtain ⟨keys, values, dp, rfl, h⟩ := onDict_ok h
    obtain ⟨h3, h⟩ := and2 h
    obtain ⟨h4, h5⟩ := and2 h
    obtain ⟨n1, h3⟩ := and2 h3
    obtain ⟨n2, h3⟩ := and2 h3
    obtain ⟨n3, n4⟩ := and2 h3
    obtain ⟨q1, q2⟩ := chkDK_len h4
    exact pE_dsub (by have := φ.hu; omega) (okD l ks keys values dp φ (dec1 n3) h4 h5) q1 (dec1 n3) (fun z => by rw [z] at n4; cases n4) (by rw [q2]; exact dec1 n2) (dec1 n2) (dec1 n1) (okE k y φ h2) (nSl_ok h1)
  | .dct ks l, e, φ, h => by
    rw [chkE] at h
    obtain ⟨keys, values, dp, e0, h'⟩ := onDict_ok h
    clear h
    subst e0
    by_cases he : ks.isEmpty = true
    · rw [if_pos he] at h'
      obtain ⟨h1, h2⟩ := and2 h'
      obtain ⟨h3, h4⟩ := and2 h1
      cases keys with
      | cons _ _ => cases h3
      | nil =>
        cases values with
        | cons _ _ => cases h4
        | nil =>
          cases ks with
          | cons _ _ => cases he
          | nil =>
            cases l with
            | cons _ _ => cases h2
            | nil =>
              have e : denE M (.dct [] .nil) = fun _ => .ret (.dict []) := by
                funext ρ
                show W.mk _ _ = W.mk _ _
                congr 1
                funext Q X
                exact propext ⟨fun q => q.2, fun q => ⟨rfl, q⟩⟩
              rw [e]
              exact pE_dct0
    · rw [if_neg he] at h'
      obtain ⟨h3, h⟩ := and2 h'
      obtain ⟨h4, h5⟩ := and2 h
      obtain ⟨n1, h3⟩ := and2 h3
      obtain ⟨n1, ntx⟩ := and2 n1
      obtain ⟨n2, h3⟩ := and2 h3
      obtain ⟨n3, n4⟩ := and2 h3
      obtain ⟨q1, q2⟩ := chkDK_len h4
      exact pE_dct (okD l ks keys values dp φ (dec1 n3) h4 h5) q1 (dec1 n3) (fun z => by rw [z] at n4; cases n4) (by rw [q2]; exact dec1 n2) (dec1 n2) (dec1 n1) (fun k hk => List.all_eq_true.mp ntx k hk)
  | .kix x t a, e, φ, h => by
    rw [chkE] at h
    obtain ⟨l, r, p, rfl, h⟩ := onIx_ok h
    obtain ⟨h0, h⟩ := and2 h
    obtain ⟨h1, h2⟩ := and2 h0
    obtain ⟨h3, h4⟩ := and2 h
    obtain ⟨y, pp, rfl, h1⟩ := onNm_ok h1
    obtain ⟨h5, h6⟩ := and2 h1
    have hx := dec1 h5
    subst hx
    rw [← φ.sc] at h6
    obtain ⟨q1, q2⟩ := gloB_ok h6
    exact pE_kix (φ.tbl _ _ (dec1 h2)) q1 q2 (okO a r φ h4) (nSl_ok h3)
  | .dget i k, e, φ, h => by
    rw [chkE] at h
    obtain ⟨x, y, p, rfl, h⟩ := onIx_ok h
    obtain ⟨h0, h⟩ := and2 h
    obtain ⟨h1, h2⟩ := and2 h
    obtain ⟨n, pn, rfl, h1⟩ := onNm_ok h1
    obtain ⟨a, b, c, d⟩ := var_ok φ h1
    exact pE_dget (by have := φ.hu; omega) a b c d (okE k y φ h2) (nSl_ok h0)
  | .dget2 i k z, e, φ, h => by
    rw [chkE] at h
    obtain ⟨o, n, ap, es, p, rfl, hl, h⟩ := onMet_ok h
    obtain ⟨h0, h⟩ := and2 h
    obtain ⟨h1, h2⟩ := and2 h
    obtain ⟨x, px, rfl, h1⟩ := onNm_ok h1
    obtain ⟨y, w, rfl, h2⟩ := on2_ok h2
    obtain ⟨h3, h4⟩ := and2 h2
    obtain ⟨h5, h6⟩ := and2 h3
    obtain ⟨h7, h8⟩ := and2 h4
    obtain ⟨a, b, c, d⟩ := var_ok φ h1
    have hx := dec1 h0
    subst hx
    exact pE_dget2 (by have := φ.hu; omega) a b c d (okE k y φ h7) (okE z w φ h8) (ns_ok h5) (ns_ok h6) hl
theorem okO {X : Cx} {Wx : WX} {Γ : Tab} {M : Mg} : ∀ (t : IO) (e : Expr), Fit X Wx Γ M → chkO Γ t e = true → PE X e (TEo X Wx (denO M t))
  | .e t, e, φ, h => by
    rw [chkO] at h
    exact pe_EO (okE t e φ h)
  | .own i, e, φ, h => by
    rw [chkO] at h
    obtain ⟨x, p, rfl, h⟩ := onNm_ok h
    obtain ⟨a, b, c, d⟩ := var_ok φ h
    exact pO_var a b c d
theorem okF {X : Cx} {Wx : WX} {Γ : Tab} {M : Mg} : ∀ (t : IF) (e : Expr), Fit X Wx Γ M → chkF Γ t e = true → PE X e (TEf X Wx (denF M t))
  | .lst l, e, φ, h => by
    rw [chkF] at h
    obtain ⟨es, p, rfl, h⟩ := onLst_ok h
    exact pF_lst (okL l es φ h)
  | .cat a b, e, φ, h => by
    rw [chkF] at h
    obtain ⟨x, o', y, p, rfl, h⟩ := onBin_ok h
    obtain ⟨h0, h⟩ := and2 h
    obtain ⟨h1, h2⟩ := and2 h
    rw [dec1 h0]
    exact pF_bin (o := .Add) op_cat br_catF (okO a x φ h1) (okO b y φ h2)
  | .rep a b, e, φ, h => by
    rw [chkF] at h
    obtain ⟨x, o', y, p, rfl, h⟩ := onBin_ok h
    obtain ⟨h0, h⟩ := and2 h
    obtain ⟨h1, h2⟩ := and2 h
    rw [dec1 h0]
    exact pF_bin (o := .Mult) op_rep br_repF (okO a x φ h1) (okO b y φ h2)
  | .list a, e, φ, h => by
    rw [chkF] at h
    obtain ⟨x, pp, es, p, rfl, h⟩ := onCall_ok h
    obtain ⟨h0, h⟩ := and2 h
    obtain ⟨hc, h0⟩ := and2 h0
    obtain ⟨h1, h2⟩ := and2 h0
    obtain ⟨y, rfl, h⟩ := on1_ok h
    obtain ⟨h3, h4⟩ := and2 h
    have hx := dec1 h1
    subst hx
    obtain ⟨g1, g2, g3⟩ := blt_ok φ h2
    exact pF_ty1 call_list_of br_list g1 g3 (by decide +kernel) (by decide +kernel) g2 (ns_ok h3) (okO a y φ h4)
  | .srtS a, e, φ, h => by
    rw [chkF] at h
    obtain ⟨x, pp, es, p, rfl, h⟩ := onCall_ok h
    obtain ⟨h0, h⟩ := and2 h
    obtain ⟨hc, h0⟩ := and2 h0
    obtain ⟨h1, h2⟩ := and2 h0
    obtain ⟨z, rfl, hz⟩ := on1_ok h
    obtain ⟨y, pp2, es2, p2, rfl, hy⟩ := onCall_ok hz
    obtain ⟨h3, h4⟩ := and2 hy
    obtain ⟨h5, h6⟩ := and2 h3
    obtain ⟨v, rfl, hv⟩ := on1_ok h4
    obtain ⟨h7, h8⟩ := and2 hv
    have hx := dec1 h1
    subst hx
    have hy' := dec1 h5
    subst hy'
    obtain ⟨g1, g2, g3⟩ := blt_ok φ h2
    obtain ⟨k1, k2, k3⟩ := blt_ok φ h6
    exact pF_srtSet (φ.calm hc) (by have := φ.hu; omega) g1 g3 k1 k3 (ns_ok h7) (okO a v φ h8)
  | .srtL a, e, φ, h => by
    rw [chkF] at h
    obtain ⟨x, pp, es, p, rfl, h⟩ := onCall_ok h
    obtain ⟨h0, h⟩ := and2 h
    obtain ⟨h1, h2⟩ := and2 h0
    obtain ⟨y, rfl, h⟩ := on1_ok h
    obtain ⟨h3, h4⟩ := and2 h
    have hx := dec1 h1
    subst hx
    obtain ⟨g1, g2, g3⟩ := blt_ok φ h2
    exact pF_srtL (by have := φ.hu; omega) g1 g3 (ns_ok h3) (okO a y φ h4)
  | .rg1 a, e, φ, h => by
    rw [chkF] at h
    obtain ⟨x, pp, es, p, rfl, h⟩ := onCall_ok h
    obtain ⟨h0, h⟩ := and2 h
    obtain ⟨hc, h0⟩ := and2 h0
    obtain ⟨h1, h2⟩ := and2 h0
    obtain ⟨z, rfl, hz⟩ := on1_ok h
    obtain ⟨y, pp2, es2, p2, rfl, hy⟩ := onCall_ok hz
    obtain ⟨h3, h4⟩ := and2 hy
    obtain ⟨h5, h6⟩ := and2 h3
    obtain ⟨v, rfl, hv⟩ := on1_ok h4
    obtain ⟨h7, h8⟩ := and2 hv
    have hx := dec1 h1
    subst hx
    have hy' := dec1 h5
    subst hy'
    obtain ⟨g1, g2, g3⟩ := blt_ok φ h2
    obtain ⟨k1, k2, k3⟩ := blt_ok φ h6
    exact pF_listR1 (φ.calm hc) g1 g3 k1 k3 (ns_ok h7) (okE a v φ h8)
  | .rg2 a b, e, φ, h => by
    rw [chkF] at h
    obtain ⟨x, pp, es, p, rfl, h⟩ := onCall_ok h
    obtain ⟨h0, h⟩ := and2 h
    obtain ⟨hc, h0⟩ := and2 h0
    obtain ⟨h1, h2⟩ := and2 h0
    obtain ⟨z, rfl, hz⟩ := on1_ok h
    obtain ⟨y, pp2, es2, p2, rfl, hy⟩ := onCall_ok hz
    obtain ⟨h3, h4⟩ := and2 hy
    obtain ⟨h5, h6⟩ := and2 h3
    obtain ⟨v, v2, rfl, hv⟩ := on2_ok h4
    obtain ⟨h7, h8⟩ := and2 hv
    obtain ⟨n1, n2⟩ := and2 h7
    obtain ⟨c1, c2⟩ := and2 h8
    have hx := dec1 h1
    subst hx
    have hy' := dec1 h5
    subst hy'
    obtain ⟨g1, g2, g3⟩ := blt_ok φ h2
    obtain ⟨k1, k2, k3⟩ := blt_ok φ h6
    exact pF_listR2 (φ.calm hc) g1 g3 k1 k3 (ns_ok n1) (ns_ok n2) (okE a v φ c1) (okE b v2 φ c2)
  | .lc vs t i c e, ex, φ, h => by
    rw [chkF] at h
    obtain ⟨elt, gs, scope, p, rfl, h⟩ := onLc_ok h
    obtain ⟨tg, it, ifs, rfl, h⟩ := onG1_ok h
    obtain ⟨h0, h⟩ := and2 h
    obtain ⟨hc, h0⟩ := and2 h0
    obtain ⟨h1, h0⟩ := and2 h0
    obtain ⟨h2, h0⟩ := and2 h0
    obtain ⟨h3, h4⟩ := and2 h0
    obtain ⟨k1, h⟩ := and2 h
    obtain ⟨k2, h⟩ := and2 h
    obtain ⟨k3, k4⟩ := and2 h
    rw [← φ.sc, ← φ.N] at h3
    have hvs : (ownL X.N vs).map (·.2) = vs := ownL_snd _ _
    refine pe_of (pe_lc (g := gT X.K t) (te := RdE X.K X.mg W0 (denE M e)) (tt := RdT X.K X.mg W0 (denQ M c)) (φ.calm hc) (nd_ok φ) (okI i tg it φ k1) (blkOk_by h3) (fun s H C cl fp => pg_TT (φ.blk s H C cl fp) (φ.calm hc) k2)
      (fun s H C cl fp => okQ c ifs (φ.blk s H C cl fp) k3) (fun s H C cl fp => okE e elt (φ.blk s H C cl fp) k4) (nSet_ok h1 _)) ?_
    rw [hvs]
    exact rdLc (all_mem h4) (pl_ok h2)
  | .lc2 vs t i c vs1 t1 i1 c1 e, ex, φ, h => by
    rw [chkF] at h
    obtain ⟨elt, gs, scope, p, rfl, h⟩ := onLc_ok h
    obtain ⟨tg, it, ifs, tg1, it1, ifs1, rfl, h⟩ := onG2_ok h
    obtain ⟨h0, h⟩ := and2 h
    obtain ⟨ha, hb⟩ := and2 h0
    obtain ⟨hc, h0⟩ := and2 ha
    obtain ⟨h1, h0⟩ := and2 h0
    obtain ⟨h2, h0⟩ := and2 h0
    obtain ⟨h3, h4⟩ := and2 h0
    obtain ⟨b1, hb⟩ := and2 hb
    obtain ⟨b2, hb⟩ := and2 hb
    obtain ⟨b3, b4⟩ := and2 hb
    obtain ⟨ka, kb⟩ := and2 h
    obtain ⟨k1, ka⟩ := and2 ka
    obtain ⟨k2, k3⟩ := and2 ka
    obtain ⟨k4, kb⟩ := and2 kb
    obtain ⟨k5, kb⟩ := and2 kb
    obtain ⟨k6, k7⟩ := and2 kb
    rw [← φ.sc, ← φ.N] at h3
    have hvs : (ownL X.N vs).map (·.2) = vs := ownL_snd _ _
    refine pe_of (pe_lc2 (vs1 := vs1) (g := gT X.K t) (g1 := gT X.K t1) (te := RdE X.K X.mg W0 (denE M e)) (tt := RdT X.K X.mg W0 (denQ M c)) (tt1 := RdT X.K X.mg W0 (denQ M c1)) (wi1 := TIi X W0 (denI M i1) i1.pl) (φ.calm hc) (nd_ok φ) (okI i tg it φ k1) (blkOk_by h3) (by rw [hvs]; exact all_mem b3) (fun s H C cl fp => pg_TT (φ.blk s H C cl fp) (φ.calm hc) k2)
      (fun s H C cl fp => okQ c ifs (φ.blk s H C cl fp) k3) (fun s H C cl fp => okI i1 tg1 it1 (φ.blk s H C cl fp) k4) (fun s H C cl fp => pg_TT (φ.blk s H C cl fp) (φ.calm hc) k5)
      (fun s H C cl fp => okQ c1 ifs1 (φ.blk s H C cl fp) k6) (fun s H C cl fp => okE e elt (φ.blk s H C cl fp) k7) (nSet_ok h1 _) (nSet_ok b1)) ?_
    rw [hvs]
    exact rdLc2 (all_mem h4) (all_mem b4) (pl_ok h2) (pl_ok b2)
theorem okC {X : Cx} {Wx : WX} {Γ : Tab} {M : Mg} : ∀ (t : IC) (e : Expr), Fit X Wx Γ M → chkC Γ t e = true → PT X e (TTt X Wx (denC M t))
  | .tru a, e, φ, h => by
    rw [chkC] at h
    obtain ⟨h1, h2⟩ := and2 h
    exact pT_tru (okO a e φ h2) (nT_ok h1 _)
  | .cmp o a b, e, φ, h => by
    rw [chkC] at h
    obtain ⟨x, o', y, p, rfl, h⟩ := onCmp_ok h
    obtain ⟨h0, h⟩ := and2 h
    obtain ⟨h3, h⟩ := and2 h
    obtain ⟨h1, h2⟩ := and2 h
    obtain ⟨r, q1, q2⟩ := CO.ok φ.hu o
    rw [dec1 h0]
    exact pT_cmp q1 q2 (nSet_mark h3 _) (okO a x φ h1) (okO b y φ h2)
  | .chn o o' a b c, e, φ, h => by
    rw [chkC] at h
    obtain ⟨x, p1, y, p2, z, p, rfl, h⟩ := onCh_ok h
    obtain ⟨h0, h⟩ := and2 h
    obtain ⟨h00, h01⟩ := and2 h0
    obtain ⟨h3, h⟩ := and2 h
    obtain ⟨h1, h⟩ := and2 h
    obtain ⟨h2, h4⟩ := and2 h
    obtain ⟨r, q1, q2⟩ := CO.ok φ.hu o
    obtain ⟨r', q1', q2'⟩ := CO.ok φ.hu o'
    rw [dec1 h00, dec1 h01]
    exact pT_chn q1 q1' q2 q2' (nSet_mark h3 _) (okO a x φ h1) (okO b y φ h2) (okO c z φ h4)
  | .not c, e, φ, h => by
    rw [chkC] at h
    obtain ⟨o, x, p, rfl, h⟩ := onUn_ok h
    obtain ⟨h0, h⟩ := and2 h
    rw [dec1 h0]
    exact pT_not (okC c x φ h)
  | .and x, e, φ, h => by
    rw [chkC] at h
    obtain ⟨o, es, p, rfl, h⟩ := onBo_ok h
    obtain ⟨h0, h⟩ := and2 h
    rw [dec1 h0]
    exact (okKA x es p φ h).pt
  | .or x, e, φ, h => by
    rw [chkC] at h
    obtain ⟨o, es, p, rfl, h⟩ := onBo_ok h
    obtain ⟨h0, h⟩ := and2 h
    rw [dec1 h0]
    exact (okKO x es p φ h).pt
  | .kin neg x t a, e, φ, h => by
    rw [chkC] at h
    obtain ⟨l, o, r, p, rfl, h⟩ := onCmp_ok h
    obtain ⟨h0, h1⟩ := and2 h
    obtain ⟨h2, h3⟩ := and2 h0
    obtain ⟨h4, h5⟩ := and2 h3
    obtain ⟨y, pp, rfl, h4⟩ := onNm_ok h4
    obtain ⟨h6, h7⟩ := and2 h4
    have hx := dec1 h6
    subst hx
    have ho := dec1 h2
    subst ho
    rw [← φ.sc] at h7
    obtain ⟨q1, q2⟩ := gloB_ok h7
    exact pT_kin (φ.tbl _ _ (dec1 h5)) q1 q2 (okO a l φ h1)
theorem okQ {X : Cx} {Wx : WX} {Γ : Tab} {M : Mg} : ∀ (t : IQ) (es : List Expr), Fit X Wx Γ M → chkQ Γ t es = true → PTs X es (RdT X.K X.mg Wx (denQ M t))
  | .no, es, φ, h => by
    rw [chkQ] at h
    cases es with
    | nil => exact pts_yes
    | cons _ _ => cases h
  | .one c, es, φ, h => by
    rw [chkQ] at h
    obtain ⟨e, rfl, h⟩ := on1_ok h
    exact pts_one (okC c e φ h)
theorem okKA {X : Cx} {Wx : WX} {Γ : Tab} {M : Mg} : ∀ (t : IK) (es : List Expr) (p : Pos), Fit X Wx Γ M → chkK Γ t es = true → PW X (.BoolOp .And es p) (TTt X Wx (denK M true t))
  | .one c, es, p, φ, h => by
    rw [chkK] at h
    obtain ⟨e, rfl, h⟩ := on1_ok h
    exact pW_and1 (okC c e φ h)
  | .more c x, es, p, φ, h => by
    rw [chkK] at h
    obtain ⟨e, r, rfl, h⟩ := onC_ok h
    obtain ⟨h1, h⟩ := and2 h
    obtain ⟨h2, h3⟩ := and2 h
    have hx := okKA x r p φ h3
    obtain ⟨b, r', rfl⟩ := ne_ok h2
    have q := pW_and (okC c e φ h1) hx
    rw [and_eq] at q
    exact q
theorem okKO {X : Cx} {Wx : WX} {Γ : Tab} {M : Mg} : ∀ (t : IK) (es : List Expr) (p : Pos), Fit X Wx Γ M → chkK Γ t es = true → PW X (.BoolOp .Or es p) (TTt X Wx (denK M false t))
  | .one c, es, p, φ, h => by
    rw [chkK] at h
    obtain ⟨e, rfl, h⟩ := on1_ok h
    exact pW_or1 (okC c e φ h)
  | .more c x, es, p, φ, h => by
    rw [chkK] at h
    obtain ⟨e, r, rfl, h⟩ := onC_ok h
    obtain ⟨h1, h⟩ := and2 h
    obtain ⟨h2, h3⟩ := and2 h
    have hx := okKO x r p φ h3
    obtain ⟨b, r', rfl⟩ := ne_ok h2
    have q := pW_or (okC c e φ h1) hx
    rw [or_eq] at q
    exact q
theorem okBA {X : Cx} {Wx : WX} {Γ : Tab} {M : Mg} : ∀ (t : IB) (es : List Expr) (p : Pos), Fit X Wx Γ M → chkB Γ t es = true → PE X (.BoolOp .And es p) (TEe X Wx (denB M true t))
  | .one c, es, p, φ, h => by
    rw [chkB] at h
    obtain ⟨e, rfl, h⟩ := on1_ok h
    exact pE_one (okE c e φ h)
  | .more c x, es, p, φ, h => by
    rw [chkB] at h
    obtain ⟨e, r, rfl, h⟩ := onC_ok h
    obtain ⟨h1, h⟩ := and2 h
    obtain ⟨h2, h3⟩ := and2 h
    have hx := okBA x r p φ h3
    obtain ⟨b, r', rfl⟩ := ne_ok h2
    exact pE_and (okE c e φ h1) hx
theorem okBO {X : Cx} {Wx : WX} {Γ : Tab} {M : Mg} : ∀ (t : IB) (es : List Expr) (p : Pos), Fit X Wx Γ M → chkB Γ t es = true → PE X (.BoolOp .Or es p) (TEe X Wx (denB M false t))
  | .one c, es, p, φ, h => by
    rw [chkB] at h
    obtain ⟨e, rfl, h⟩ := on1_ok h
    exact pE_one (okE c e φ h)
  | .more c x, es, p, φ, h => by
    rw [chkB] at h
    obtain ⟨e, r, rfl, h⟩ := onC_ok h
    obtain ⟨h1, h⟩ := and2 h
    obtain ⟨h2, h3⟩ := and2 h
    have hx := okBO x r p φ h3
    obtain ⟨b, r', rfl⟩ := ne_ok h2
    have q := pE_or (okE c e φ h1) hx
    rw [orE_eq] at q
    exact q
theorem okI {X : Cx} {Wx : WX} {Γ : Tab} {M : Mg} : ∀ (t : II) (tg e : Expr), Fit X Wx Γ M → chkI Γ t tg e = true → PI X tg e (TIi X Wx (denI M t) t.pl)
  | .seq t, tg, e, φ, h => by
    rw [chkI] at h
    exact pI_seq (okE t e φ h)
  | .r1 t, tg, e, φ, h => by
    rw [chkI] at h
    obtain ⟨x, pp, es, p, rfl, h⟩ := onCall_ok h
    obtain ⟨h0, h⟩ := and2 h
    obtain ⟨h1, h2⟩ := and2 h0
    obtain ⟨y, rfl, h⟩ := on1_ok h
    obtain ⟨h3, h4⟩ := and2 h
    have hx := dec1 h1
    subst hx
    obtain ⟨g1, g2, g3⟩ := blt_ok φ h2
    exact pI_rng1 g1 g3 (ns_ok h3) (okE t y φ h4)
  | .r2 a b, tg, e, φ, h => by
    rw [chkI] at h
    obtain ⟨x, pp, es, p, rfl, h⟩ := onCall_ok h
    obtain ⟨h0, h⟩ := and2 h
    obtain ⟨h1, h2⟩ := and2 h0
    obtain ⟨y, z, rfl, h⟩ := on2_ok h
    obtain ⟨h3, h4⟩ := and2 h
    obtain ⟨h5, h6⟩ := and2 h3
    obtain ⟨h7, h8⟩ := and2 h4
    have hx := dec1 h1
    subst hx
    obtain ⟨g1, g2, g3⟩ := blt_ok φ h2
    exact pI_rng2 g1 g3 (ns_ok h5) (ns_ok h6) (okE a y φ h7) (okE b z φ h8)
  | .rev t, tg, e, φ, h => by
    rw [chkI] at h
    obtain ⟨x, pp, es, p, rfl, h⟩ := onCall_ok h
    obtain ⟨h0, h⟩ := and2 h
    obtain ⟨h1, h2⟩ := and2 h0
    obtain ⟨y, rfl, h⟩ := on1_ok h
    obtain ⟨h3, h4⟩ := and2 h
    have hx := dec1 h1
    subst hx
    obtain ⟨g1, g2, g3⟩ := blt_ok φ h2
    exact pI_rev g1 g3 (ns_ok h3) (okE t y φ h4)
  | .zip a b, tg, e, φ, h => by
    rw [chkI] at h
    obtain ⟨ht, h⟩ := and2 h
    obtain ⟨es0, k0, p0, rfl, _⟩ := onTup_ok ht
    obtain ⟨x, pp, es, p, rfl, h'⟩ := onCall_ok h
    obtain ⟨h0, h⟩ := and2 h'
    obtain ⟨h1, h2⟩ := and2 h0
    obtain ⟨y, z, rfl, h⟩ := on2_ok h
    obtain ⟨h3, h4⟩ := and2 h
    obtain ⟨h5, h6⟩ := and2 h3
    obtain ⟨h7, h8⟩ := and2 h4
    have hx := dec1 h1
    subst hx
    obtain ⟨g1, g2, g3⟩ := blt_ok φ h2
    exact pI_zip g1 g3 (ns_ok h5) (ns_ok h6) (okE a y φ h7) (okE b z φ h8)
theorem okP {X : Cx} {Wx : WX} {Γ : Tab} {M : Mg} : ∀ (t : IP) (o : Option Expr), Fit X Wx Γ M → chkP Γ t o = true → PO X o (TOp X Wx (denP M t))
  | .no, o, φ, h => by
    rw [chkP] at h
    cases o with
    | none => exact pP_none
    | some _ => cases h
  | .one t, o, φ, h => by
    rw [chkP] at h
    obtain ⟨e, rfl, h⟩ := onO_ok h
    exact pP_some (okE t e φ h)
theorem okL {X : Cx} {Wx : WX} {Γ : Tab} {M : Mg} : ∀ (t : IL) (es : List Expr), Fit X Wx Γ M → chkL Γ t es = true → PA X es (TAl X Wx (denL M t))
  | .nil, es, φ, h => by
    rw [chkL] at h
    cases es with
    | nil => exact pL_nil
    | cons _ _ => cases h
  | .cons t l, es, φ, h => by
    rw [chkL] at h
    obtain ⟨e, r, rfl, h⟩ := onC_ok h
    obtain ⟨h1, h⟩ := and2 h
    obtain ⟨h2, h3⟩ := and2 h
    exact pL_cons (ns_ok h1) (okE t e φ h2) (okL l r φ h3)
theorem okD {X : Cx} {Wx : WX} {Γ : Tab} {M : Mg} : ∀ (t : IL) (ks : List Str) (keys : List (Option Expr)) (values : List Expr) (dp : Pos), Fit X Wx Γ M → keys.length = values.length → chkDK ks keys = true → chkL Γ t values = true → PDs X Wx dp keys values ks (denL M t)
  | .nil, ks, keys, values, dp, φ, hl, hk, h => by
    rw [chkL] at h
    cases values with
    | cons _ _ => cases h
    | nil =>
      cases keys with
      | cons _ _ => cases hl
      | nil =>
        cases ks with
        | nil => exact pd_nil
        | cons _ _ => cases hk
  | .cons t l, ks, keys, values, dp, φ, hl, hk, h => by
    rw [chkL] at h
    obtain ⟨e, r, rfl, h⟩ := onC_ok h
    obtain ⟨h1, h⟩ := and2 h
    obtain ⟨h2, h3⟩ := and2 h
    cases ks with
    | nil =>
      cases keys with
      | nil => cases hl
      | cons _ _ => cases hk
    | cons k ks =>
      cases keys with
      | nil => cases hk
      | cons k0 keys =>
        obtain ⟨hk1, hk2⟩ := and2 (show ((onO k0 fun x => onCst x fun c => decide (c = .str k)) && chkDK ks keys) = true from hk)
        obtain ⟨x, rfl, hk1⟩ := onO_ok hk1
        obtain ⟨c, j, kp, rfl, hk1⟩ := onCst_ok hk1
        rw [dec1 hk1]
        exact pd_cons (okE t e φ h2) (okD l ks keys r dp φ (by simpa using hl) hk2 h3)
theorem okA {X : Cx} {Wx : WX} {Γ : Tab} {M : Mg} : ∀ (t : IA) (es : List Expr), Fit X Wx Γ M → chkA Γ t es = true → PA X es (TAa X Wx (denA M t)) ∧
    (match es with | [] => True | e :: r => starEach (e :: r) X.env = (false, eval e X.env) :: starEach r X.env ∧ ∀ p, (backTo p (starEach r X.env)).any (·.1) = false)
  | .nil, es, φ, h => by
    rw [chkA] at h
    cases es with
    | nil => exact ⟨pA_nil, trivial⟩
    | cons _ _ => cases h
  | .d t l, es, φ, h => by
    rw [chkA] at h
    obtain ⟨e, r, rfl, h⟩ := onC_ok h
    obtain ⟨h1, h⟩ := and2 h
    obtain ⟨h2, h3⟩ := and2 h
    obtain ⟨q1, q2⟩ := okA l r φ h3
    refine ⟨pA_cons (ns_ok h1) (okE t e φ h2) q1, star1 (ns_ok h1) _, fun p => ?_⟩
    cases r with
    | nil => rfl
    | cons y ys =>
      rw [q2.1]
      have := q2.2 p
      simpa [backTo] using this
  | .pool i l, es, φ, h => by
    rw [chkA] at h
    obtain ⟨e, r, rfl, h⟩ := onC_ok h
    obtain ⟨h2, h3⟩ := and2 h
    obtain ⟨x, p, rfl, h2⟩ := onNm_ok h2
    obtain ⟨a, b, c, d⟩ := var_ok φ h2
    obtain ⟨q1, q2⟩ := okA l r φ h3
    refine ⟨pA_pool a b c d q1, rfl, fun p => ?_⟩
    cases r with
    | nil => rfl
    | cons y ys =>
      rw [q2.1]
      have := q2.2 p
      simpa [backTo] using this
end
end
end Ev

/-! Ev15: several names set at once. -/
namespace Ev
open PySem PySem.Spec PyProof.Rows L2
inductive VsOk (K : PySem.W.Frag) (p : Option Addr) (H0 γ H : Hp) : List V → List Sl → Prop
  | nil : VsOk K p H0 γ H [] []
  | val {v : V} {d : D} {vs : List V} {ss : List Sl} : Rep K γ v d → VsOk K p H0 γ H vs ss → VsOk K p H0 γ H (v :: vs) (.val d :: ss)
  | own {v : V} {xs : List D} {vs : List V} {ss : List Sl} : SlotR K p H0 γ H (some v) (.own xs) → (∀ (k : Nat) (ys : List D), ss[k]? = some (.own ys) → vs[k]? ≠ some v) → VsOk K p H0 γ H vs ss → VsOk K p H0 γ H (v :: vs) (.own xs :: ss)
section
variable {K : PySem.W.Frag} {p : Option Addr} {γ γ' H H' H0 : Hp}
theorem VsOk.ownAt : ∀ {vs : List V} {ss : List Sl} {k : Nat} {ys : List D} {v : V}, VsOk K p H0 γ H vs ss → ss[k]? = some (.own ys) → vs[k]? = some v → SlotR K p H0 γ H (some v) (.own ys)
  | _, _, k, ys, v, .nil, h, _ => by simp at h
  | _, _, 0, ys, v, .val r t, h, _ => by simp at h
  | _, _, k + 1, ys, v, .val r t, h, e => VsOk.ownAt t (by simpa using h) (by simpa using e)
  | _, _, 0, ys, v, .own r n t, h, e => by simp at h e; subst h e; exact r
  | _, _, k + 1, ys, v, .own r n t, h, e => VsOk.ownAt t (by simpa using h) (by simpa using e)
theorem VsOk.length : ∀ {vs : List V} {ss : List Sl}, VsOk K p H0 γ H vs ss → vs.length = ss.length
  | _, _, .nil => rfl
  | _, _, .val _ t => by simp [VsOk.length t]
  | _, _, .own _ _ t => by simp [VsOk.length t]
/-- the ground moved back -/
theorem VsOk.back {H1 : Hp} (h : ∀ a, H1 a = none → H0 a = none) : ∀ {vs : List V} {ss : List Sl}, VsOk K p H1 γ H vs ss → VsOk K p H0 γ H vs ss
  | _, _, .nil => .nil
  | _, _, .val r t => .val r (VsOk.back h t)
  | _, _, .own r n t => .own (let ⟨a, vs, e1, e2, e3, e4, e5, e6⟩ := r; ⟨a, vs, e1, e2, e3, e4, h a e5, e6⟩) n (VsOk.back h t)
theorem VsOk.ext (e : Ext K p γ H γ' H') : ∀ {vs : List V} {ss : List Sl}, VsOk K p H0 γ H vs ss → VsOk K p H0 γ' H' vs ss
  | _, _, .nil => .nil
  | _, _, .val r t => .val (r.mono e.gg) (VsOk.ext e t)
  | _, _, .own r n t => .own (SlotR.ext r e) n (VsOk.ext e t)
end
def PostV (K : PySem.W.Frag) (p : Option Addr) (γ H : Hp) (Q : List V → Hp → Prop) : List Sl → Prop := fun ss => ∀ γ' H' vs, Ext K p γ H γ' H' → VsOk K p H γ' H' vs ss → Q vs H'
abbrev TAv (X : Cx) (Wx : WX) (m : List Sl → W Exc (List Sl)) : TA := fun σ H Q => ∃ p H0 γ ρ, Stt X.K p γ H ∧ EnvR X.K p H0 γ H σ ρ ∧ (m ρ).run (PostV X.K p γ H Q) (ExW X.K X.mg Wx p γ H σ)
section
variable {X : Cx} {Wx : WX} {e : Expr} {es : List Expr} {pos : Pos} {me : List Sl → W Exc D} {mf : List Sl → W Exc (List D)} {mr : List Sl → W Exc (List Sl)}
theorem pV_nil : PA X [] (TAv X Wx fun _ => .ret []) := pa_of pa_nil fun σ H Q ⟨p, H0, γ, ρ, st, er, hm⟩ => hm γ H [] (.refl st) .nil
theorem pV_val (hs : ∀ e' p, e ≠ .Starred e' p) (ha : PE X e (TEe X Wx me)) (hr : PA X es (TAv X Wx mr)) : PA X (e :: es) (TAv X Wx fun ρ => (me ρ).bind fun d => (mr ρ).bind fun ss => .ret (.val d :: ss)) := by
  refine pa_of (pa_cons ha hr (star1 hs X.env)) fun σ H Q ⟨p, H0, γ, ρ, st, er, hm⟩ => ?_
  refine ⟨p, H0, γ, ρ, st, er, (me ρ).mono (fun d h1 γ1 H1 x e1 c1 => ?_) (fun _ q => q) hm⟩
  refine ⟨p, H0, γ1, ρ, e1.st, er.ext e1, (mr ρ).mono (fun ss h2 γ2 H2 vs e2 c2 => ?_) (fun _ q => q.ext st e1) h1⟩
  exact h2 γ2 H2 _ (Ext.trans st e1 e2) (.val (c1.mono e2.gg) (c2.back fun a n => e1.fre st n))
theorem pV_own (hs : ∀ e' p, e ≠ .Starred e' p) (ha : PE X e (TEf X Wx mf)) (hr : PA X es (TAv X Wx mr)) : PA X (e :: es) (TAv X Wx fun ρ => (mf ρ).bind fun d => (mr ρ).bind fun ss => .ret (.own d :: ss)) := by
  refine pa_of (pa_cons ha hr (star1 hs X.env)) fun σ H Q ⟨p, H0, γ, ρ, st, er, hm⟩ => ?_
  refine ⟨p, H0, γ, ρ, st, er, (mf ρ).mono (fun d h1 γ1 H1 al ws e1 n n' hq r => ?_) (fun _ q => q) hm⟩
  have hp : p ≠ some al := fun hp => by
    obtain ⟨_, _, _, _, _, _, _, f1, _⟩ := st.pool al hp
    rw [n] at f1; cases f1
  refine ⟨p, H0, γ1, ρ, e1.st, er.ext e1, (mr ρ).mono (fun ss h2 γ2 H2 vs e2 c2 => ?_) (fun _ q => q.ext st e1) h1⟩
  refine h2 γ2 H2 _ (Ext.trans st e1 e2) (.own ⟨al, ws, rfl, e2.same al _ hp hq, e2.gnone n' hq, hp, n, r.mono e2.gg⟩ (fun k ys hk hv => ?_) (c2.back fun a n => e1.fre st n))
  obtain ⟨b, us, g1, g2, g3, g4, g5, g6⟩ := c2.ownAt hk hv
  cases g1
  rw [hq] at g5; cases g5
def setS : List Nat → List Sl → List Sl → List Sl
  | i :: is, s :: ss, ρ => setS is ss (ρ.set i s)
  | _, _, ρ => ρ
/-- the names one after another -/
theorem gAllS {K : PySem.W.Frag} {p : Option Addr} {H0 Hs γ H : Hp} (hb : ∀ a, Hs a = none → H0 a = none) : ∀ {is : List Nat} {vs : List V} {ss : List Sl} {σ : St} {ρ : List Sl} {Q : St → Hp → Prop}, is.Nodup → VsOk K p Hs γ H vs ss → ss.length = is.length → EnvR K p H0 γ H σ ρ →
    (∀ (j : Nat) (ys : List D) (k : Nat) (zs : List D) (v : V), ρ[j]? = some (.own ys) → ss[k]? = some (.own zs) → vs[k]? = some v → σ[j]? ≠ some (some v)) →
    (∀ σ', EnvR K p H0 γ H σ' (setS is ss ρ) → Q σ' H) → gAll is vs σ H Q
  | [], _, _, σ, ρ, Q, _, .nil, _, er, _, h => ⟨rfl, h σ er⟩
  | [], _, _, σ, ρ, Q, _, .val _ _, hl, _, _, _ => by cases hl
  | [], _, _, σ, ρ, Q, _, .own _ _ _, hl, _, _, _ => by cases hl
  | i :: is, _, _, σ, ρ, Q, _, .nil, hl, _, _, _ => by cases hl
  | i :: is, _, _, σ, ρ, Q, nd, .val (v := v) (d := d) (vs := vs) (ss := ss) r t, hl, er, no, h => by
    refine ⟨v, vs, rfl, gAllS hb (List.nodup_cons.mp nd).2 t (by simpa using hl) (er.setVal r) (fun j ys k zs w hj hk hv z => ?_) h⟩
    by_cases hij : i = j
    · subst hij
      by_cases hlt : i < ρ.length
      · rw [List.getElem?_set_self hlt] at hj; cases hj
      · rw [List.getElem?_eq_none (by simpa using hlt)] at hj; cases hj
    · rw [List.getElem?_set_ne hij] at hj z
      exact no j ys (k + 1) zs w hj (by simpa using hk) (by simpa using hv) z
  | i :: is, _, _, σ, ρ, Q, nd, .own (v := v) (xs := xs) (vs := vs) (ss := ss) r n t, hl, er, no, h => by
    have r' : SlotR K p H0 γ H (some v) (.own xs) := let ⟨a, ws, e1, e2, e3, e4, e5, e6⟩ := r; ⟨a, ws, e1, e2, e3, e4, hb a e5, e6⟩
    refine ⟨v, vs, rfl, gAllS hb (List.nodup_cons.mp nd).2 t (by simpa using hl) (er.set r' fun xs' _ j ys hj hy => no j ys 0 xs v hy rfl rfl) (fun j ys k zs w hj hk hv z => ?_) h⟩
    by_cases hij : i = j
    · subst hij
      by_cases hlt : i < ρ.length
      · have hlt' : i < σ.length := by rw [er.len]; exact hlt
        rw [List.getElem?_set_self hlt'] at z
        cases z
        exact n k zs hk hv
      · rw [List.getElem?_eq_none (by simpa using hlt)] at hj; cases hj
    · rw [List.getElem?_set_ne hij] at hj z
      exact no j ys (k + 1) zs w hj (by simpa using hk) (by simpa using hv) z

/-! ### whether the stores are swapped -/
def nmsOf (sc : Scope) (ts : List Expr) (line : Nat) : List Str := ts.filterMap fun
    | .Name id pos => if sc.names.lookup id == some .local && pos.line == line then some id else none
    | _ => none
/-- some none: no; some (some names): yes -/
def swOf (sc : Scope) : Expr → Expr → Option (Option (List Str))
  | .Tuple ts _ _, .Tuple vs _ _ =>
    if !(ts.length == 2 || ts.length == 3) || vs.length != ts.length then some none else
    if (vs.any fun | .Starred .. => true | _ => false) then some none else
    let names := nmsOf sc ts ((ts.head?.map (·.pos.line)).getD 0)
    if names.length != ts.length || names.eraseDups.length != names.length then some none else
    if vs.all (foldedForSure 8) then some none else
    if vs.all (constantsAlone 8) then none else some (some names)
  | _, _ => none
theorem swOf_ok {env : Env} {tg v : Expr} {o : Option (List Str)} (hk : env.scope.kind = .function) (h : swOf env.scope tg v = some o) : swappedStores [tg] v env = pure o := by
  cases tg <;> first | (simp only [swOf] at h; cases h; done) | skip
  rename_i ts k1 p1
  cases v <;> first | (simp only [swOf] at h; cases h; done) | skip
  rename_i vs k2 p2
  have hb : env.blockKind = .function := by unfold Env.blockKind; rw [hk]; rfl
  have hbb : (env.blockKind != ScopeKind.function) = false := by rw [hb]; rfl
  unfold swappedStores
  simp only [hbb, Bool.or_false]
  unfold swOf at h
  dsimp only at h
  by_cases c1 : (!(ts.length == 2 || ts.length == 3) || vs.length != ts.length) = true
  · rw [if_pos c1] at h ⊢
    cases h; rfl
  rw [if_neg c1] at h ⊢
  by_cases c2 : (vs.any fun | .Starred .. => true | _ => false) = true
  · rw [if_pos c2] at h
    cases h
    exact (if_pos c2).trans rfl
  rw [if_neg c2] at h
  refine (if_neg c2).trans ?_
  by_cases c3 : ((nmsOf env.scope ts ((ts.head?.map (·.pos.line)).getD 0)).length != ts.length || (nmsOf env.scope ts ((ts.head?.map (·.pos.line)).getD 0)).eraseDups.length != (nmsOf env.scope ts ((ts.head?.map (·.pos.line)).getD 0)).length) = true
  · rw [if_pos c3] at h
    cases h
    exact (if_pos c3).trans rfl
  rw [if_neg c3] at h
  refine (if_neg c3).trans ?_
  by_cases c4 : vs.all (foldedForSure 8) = true
  · rw [if_pos c4] at h
    cases h
    exact (if_pos c4).trans rfl
  rw [if_neg c4] at h
  refine (if_neg c4).trans ?_
  by_cases c5 : vs.all (constantsAlone 8) = true
  · rw [if_pos c5] at h; cases h
  rw [if_neg c5] at h
  refine (if_neg c5).trans ?_
  cases h; rfl
theorem sw_none {env : Env} {tg v : Expr} (h : ∀ es k p, v ≠ .Tuple es k p) : swappedStores [tg] v env = pure none := by
  unfold swappedStores
  cases v <;> first
    | exact absurd rfl (h _ _ _)
    | (cases tg <;> rfl)
end
end Ev

/-! Ev16: a plain form of statements. -/
namespace Ev
open PySem PySem.Spec PyProof.Rows L2
structure FitS (X : Cx) (Wx : WX) (Γ : Tab) (M : Mg) : Prop extends Fit X Wx Γ M where
  kind : Γ.sc.kind = .function
  stk : X.stack = X.env :: X.outer
  frm : X.env.frame = some X.env.locals
  po : Γ.calm = true → PassesOwn (model X.prog X.w) X.A X.env X.xe
  exe : Γ.exs = M.exs
  exs : ∀ x ∈ M.exs, ∃ C, X.mg x = some (.ref C) ∧ PySem.W.keepIn X.K (.ref C) = true ∧ PySem.W.excIn X.K C He.veBase "ValueError.__new__" = true ∧ Raises X (.ref C)
  exm : ∀ x ∈ M.exs, ∀ y ∈ M.exs, ∀ C Cn, X.mg x = some (.ref C) → X.mg y = some (.ref Cn) → PySem.W.exmOne X.K (.ref C) (.ref Cn) = some (decide (x = y))
section
variable {X : Cx} {Wx : WX} {Γ : Tab} {M : Mg} {p : Option Addr} {γ0 H0 : Hp}
def onAsg (st : Stmt) (k : Expr → Expr → Bool) : Bool := match st with
  | .Assign [t] v _ => k t v
  | _ => false
theorem onAsg_ok {st : Stmt} {k : Expr → Expr → Bool} (h : onAsg st k = true) : ∃ t v p, st = .Assign [t] v p ∧ k t v = true := by
  unfold onAsg at h
  split at h
  · exact ⟨_, _, _, rfl, h⟩
  · cases h
def onEx (st : Stmt) (k : Expr → Bool) : Bool := match st with
  | .Expr v _ => k v
  | _ => false
theorem onEx_ok {st : Stmt} {k : Expr → Bool} (h : onEx st k = true) : ∃ v p, st = .Expr v p ∧ k v = true := by
  cases st <;> first | exact ⟨_, _, rfl, h⟩ | cases h
def nTup : Expr → Bool
  | .Tuple _ _ _ => false
  | _ => true
theorem nTup_ok {e : Expr} (h : nTup e = true) : ∀ es k p, e ≠ .Tuple es k p := by
  intro es k p z; subst z; cases h

/-! ### several names -/
abbrev parS (is : List Nat) (mv : List Sl → W Exc (List Sl)) : S := fun ρ => (lf ρ (mv ρ)).bind fun ss => (W.ask (ss.length = is.length)).bind fun _ => .ret (.nx (setS is ss ρ))
theorem rdPar {is : List Nat} {mv : List Sl → W Exc (List Sl)} (st0 : Stt X.K p γ0 H0) (hnd : is.Nodup) {E : Ends} {σ : St} {H : Hp} (h : TSs X Wx p γ0 H0 (parS is mv) E σ H) {R : List V → Hp → Prop}
    (k : ∀ vs H1, vs.length = is.length → gAll is vs σ H1 E.nx → (∀ (l : Addr) (o : HO), H1 l = none → gAll is vs σ (upd H1 l o) E.nx) → R vs H1) : TAv X Wx mv σ H R := by
  obtain ⟨γ, ρ, e0, er, hm⟩ := h
  refine ⟨p, H0, γ, ρ, e0.st, er, (mv ρ).mono (fun ss h1 γ1 H1 vs e1 c1 => ?_) (fun x q => q.toE st0 e0 er (.refl _)) hm⟩
  obtain ⟨hl, h1⟩ := h1
  have hb : ∀ a, H a = none → H0 a = none := fun a n => e0.fre st0 n
  have no : ∀ (j : Nat) (ys : List D) (k : Nat) (zs : List D) (v : V), ρ[j]? = some (.own ys) → ss[k]? = some (.own zs) → vs[k]? = some v → σ[j]? ≠ some (some v) := fun j ys k zs v hj hk hv z => by
    obtain ⟨a, ws, g1, g2, g3, g4, g5, g6⟩ := c1.ownAt hk hv
    obtain ⟨ov, f1, b, us, f2, f3, _⟩ := er.sl j _ hj
    rw [f1, f2, g1] at z
    cases z
    rw [g5] at f3; cases f3
  refine k vs H1 (by rw [c1.length]; exact hl) ?_ fun l o n => ?_
  · exact gAllS hb hnd c1 hl (er.ext e1) no fun σ' er' => h1 γ1 H1 σ' e1.gg (Ext.trans st0 e0 e1) er'
  · have e2 : Ext X.K p γ1 H1 γ1 (upd H1 l o) := .own e1.st n
    exact gAllS hb hnd (c1.ext e2) hl ((er.ext e1).ext e2) no fun σ' er' => h1 γ1 _ σ' e1.gg (Ext.trans st0 e0 (Ext.trans e0.st e1 e2)) er'
theorem pS_par0 {is : List Nat} {ts es : List Expr} {k1 k2 : Nat} {p1 p2 pos : Pos} {mv : List Sl → W Exc (List Sl)} (st0 : Stt X.K p γ0 H0) (hnd : is.Nodup) (hc : X.calm = true) (hz : is.length ≤ 100) (ha : PA X es (TAv X Wx mv)) (hg : PGs X ts (gAll is)) (hn : (assignEach ts X.env).length = is.length) (hst : (assignEach ts X.env).findIdx? (·.1) = none)
    (hw : swappedStores [.Tuple ts k1 p1] (.Tuple es k2 p2) X.env = pure none) : PS X (.Assign [.Tuple ts k1 p1] (.Tuple es k2 p2) pos) (TSs X Wx p γ0 H0 (parS is mv)) := by
  refine ps_of (ps_asg (pe_tupN ha) (pg_tup hc hg hn hst) rfl hw rfl) fun E σ H h => ?_
  exact rdPar st0 hnd h fun vs H1 hl _ q2 => ⟨by rw [hl]; exact small_of (by omega), fun l o od n => ⟨l, vs, rfl, .inl (.inr ⟨o, upd_same⟩), hl, q2 l _ n⟩⟩
theorem pS_par2 {i j : Nat} {x y : Str} {a b : Expr} {mv : List Sl → W Exc (List Sl)} {px py pt pos : Pos} {kt k2 : Nat} {pt2 : Pos} (st0 : Stt X.K p γ0 H0) (hc : X.calm = true) (hN : X.N.Nodup) (hi : X.N[i]? = some x) (hj : X.N[j]? = some y) (hij : i ≠ j)
    (hx : X.env.scope.names.lookup x = some .local) (hy : X.env.scope.names.lookup y = some .local) (ha : PA X [a, b] (TAv X Wx mv)) (hw : swappedStores [.Tuple [.Name x px, .Name y py] kt pt] (.Tuple [a, b] k2 pt2) X.env = pure (some [x, y])) :
    PS X (.Assign [.Tuple [.Name x px, .Name y py] kt pt] (.Tuple [a, b] k2 pt2) pos) (TSs X Wx p γ0 H0 (parS [i, j] mv)) := by
  refine ps_of (ps_par hc hN hi hj hij hx hy ha hw) fun E σ H h => ?_
  refine rdPar st0 (by simp [hij]) h fun vs H1 hl q _ => ?_
  obtain ⟨v, r, rfl, w, r', rfl, rfl, q⟩ := q
  exact ⟨v, w, rfl, q⟩
theorem pS_par3 {i j l : Nat} {x y z : Str} {a b c : Expr} {mv : List Sl → W Exc (List Sl)} {px py pz pt pos : Pos} {kt k2 : Nat} {pt2 : Pos} (st0 : Stt X.K p γ0 H0) (hc : X.calm = true) (hN : X.N.Nodup) (hi : X.N[i]? = some x) (hj : X.N[j]? = some y) (hl : X.N[l]? = some z) (hij : i ≠ j) (hil : i ≠ l) (hjl : j ≠ l)
    (hx : X.env.scope.names.lookup x = some .local) (hy : X.env.scope.names.lookup y = some .local) (hz : X.env.scope.names.lookup z = some .local) (ha : PA X [a, b, c] (TAv X Wx mv)) (hw : swappedStores [.Tuple [.Name x px, .Name y py, .Name z pz] kt pt] (.Tuple [a, b, c] k2 pt2) X.env = pure (some [x, y, z])) :
    PS X (.Assign [.Tuple [.Name x px, .Name y py, .Name z pz] kt pt] (.Tuple [a, b, c] k2 pt2) pos) (TSs X Wx p γ0 H0 (parS [i, j, l] mv)) := by
  refine ps_of (ps_par3 hc hN hi hj hl hij hil hjl hx hy hz ha hw) fun E σ H h => ?_
  refine rdPar st0 (by simp [hij, hil, hjl]) h fun vs H1 hl q _ => ?_
  obtain ⟨v, r, rfl, w, r', rfl, u, r'', rfl, rfl, q⟩ := q
  exact ⟨v, w, u, rfl, q⟩
def swB (Γ : Tab) (is : List Nat) (tg v : Expr) : Bool := match swOf Γ.sc tg v with
  | some none => true
  | some (some l) => decide (l.map some = is.map fun i => Γ.N[i]?) && l.all fun x => decide (Γ.sc.names.lookup x = some .local)
  | none => false
theorem len2 {α : Type} {l : List α} (h : l.length = 2) : ∃ a b, l = [a, b] := by
  match l, h with
  | [a, b], _ => exact ⟨a, b, rfl⟩
theorem len3 {α : Type} {l : List α} (h : l.length = 3) : ∃ a b c, l = [a, b, c] := by
  match l, h with
  | [a, b, c], _ => exact ⟨a, b, c, rfl⟩
theorem tgs_nm {N : List Str} {sc : Scope} {i : Nat} {e : Expr} (h : tgB N sc i e = true) : ∃ x p, e = .Name x p ∧ N[i]? = some x := by
  obtain ⟨x, p, rfl, h⟩ := onNm_ok h
  exact ⟨x, p, rfl, dec1 (and2 h).1⟩
theorem tgsB_len {N : List Str} {sc : Scope} : ∀ {is : List Nat} {es : List Expr}, tgsB N sc is es = true → es.length = is.length
  | [], [], _ => rfl
  | [], _ :: _, h => by cases h
  | _ :: _, [], h => by cases h
  | i :: is, e :: es, h => by
    have h' : (tgB N sc i e && tgsB N sc is es) = true := h
    simp [tgsB_len (and2 h').2]
theorem swOf_len {sc : Scope} {ts vs : List Expr} {k1 k2 : Nat} {p1 p2 : Pos} {l : List Str} (h : swOf sc (.Tuple ts k1 p1) (.Tuple vs k2 p2) = some (some l)) : (ts.length = 2 ∨ ts.length = 3) ∧ vs.length = ts.length := by
  unfold swOf at h
  dsimp only at h
  by_cases c1 : (!(ts.length == 2 || ts.length == 3) || vs.length != ts.length) = true
  · rw [if_pos c1] at h; cases h
  · simp at c1
    omega
theorem pS_par (φ : FitS X Wx Γ M) {is : List Nat} {ts es : List Expr} {k1 k2 : Nat} {p1 p2 pos : Pos} {mv : List Sl → W Exc (List Sl)} (st0 : Stt X.K p γ0 H0) (hnd : is.Nodup) (hc : X.calm = true) (hz : is.length ≤ 100) (ha : PA X es (TAv X Wx mv)) (hg : tgsB Γ.N Γ.ss is ts = true)
    (hw : swB Γ is (.Tuple ts k1 p1) (.Tuple es k2 p2) = true) : PS X (.Assign [.Tuple ts k1 p1] (.Tuple es k2 p2) pos) (TSs X Wx p γ0 H0 (parS is mv)) := by
  obtain ⟨g1, g2, g3⟩ := pgs_allT φ.toFit hg
  have hk : X.env.scope.kind = .function := by rw [φ.sc]; exact φ.kind
  have hN : X.N.Nodup := nd_ok φ.toFit
  unfold swB at hw
  split at hw
  · rename_i q
    rw [← φ.sc] at q
    exact pS_par0 st0 hnd hc hz ha g1 g2 g3 (swOf_ok hk q)
  · rename_i l q
    obtain ⟨h1, h2⟩ := and2 hw
    have h1 := dec1 h1
    obtain ⟨hl, hl2⟩ := swOf_len q
    rw [← φ.sc] at q
    have q := swOf_ok hk q
    have hlt := tgsB_len hg
    have lo : ∀ x ∈ l, X.env.scope.names.lookup x = some .local := fun x hx => by rw [φ.sc]; exact dec1 (List.all_eq_true.mp h2 x hx)
    rw [← φ.N] at hg h1
    rcases hl with hl | hl
    · obtain ⟨a, b, rfl⟩ := len2 (hl2.trans hl)
      obtain ⟨i, j, rfl⟩ := len2 (hlt.symm.trans hl)
      obtain ⟨t1, t2, rfl⟩ := len2 hl
      simp only [tgsB, Bool.and_true] at hg
      obtain ⟨q1, q2⟩ := and2 hg
      obtain ⟨x, px, rfl, hx⟩ := tgs_nm q1
      obtain ⟨y, py, rfl, hy⟩ := tgs_nm q2
      have el : l = [x, y] := by
        have : l.map some = [x, y].map some := by rw [h1]; simp [hx, hy]
        exact (List.map_inj_right fun _ _ e => Option.some.inj e).mp this
      subst el
      exact pS_par2 st0 hc hN hx hy (by simpa using hnd) (lo x (by simp)) (lo y (by simp)) ha q
    · obtain ⟨a, b, c, rfl⟩ := len3 (hl2.trans hl)
      obtain ⟨i, j, k, rfl⟩ := len3 (hlt.symm.trans hl)
      obtain ⟨t1, t2, t3, rfl⟩ := len3 hl
      simp only [tgsB, Bool.and_true] at hg
      obtain ⟨q1, q2⟩ := and2 hg
      obtain ⟨q2, q3⟩ := and2 q2
      obtain ⟨x, px, rfl, hx⟩ := tgs_nm q1
      obtain ⟨y, py, rfl, hy⟩ := tgs_nm q2
      obtain ⟨z, pz, rfl, hz⟩ := tgs_nm q3
      have el : l = [x, y, z] := by
        have : l.map some = [x, y, z].map some := by rw [h1]; simp [hx, hy, hz]
        exact (List.map_inj_right fun _ _ e => Option.some.inj e).mp this
      subst el
      have hnd' : (i ≠ j ∧ i ≠ k) ∧ j ≠ k := by simpa using hnd
      exact pS_par3 st0 hc hN hx hy hz hnd'.1.1 hnd'.1.2 hnd'.2 (lo x (by simp)) (lo y (by simp)) (lo z (by simp)) ha q
  · cases hw
end
/-! ### x[j], x[k] = u, v -/
section
variable {X : Cx} {Wx : WX} {Γ : Tab} {M : Mg} {p : Option Addr} {γ0 H0 : Hp} {mj mk : List Sl → W Exc D} {ml : List Sl → W Exc (List D)}
theorem sw_subs {o1 o2 j1 j2 : Expr} {ps1 ps2 p1 p2 : Pos} {k1 k2 : Nat} {es : List Expr} {env : Env} : swappedStores [.Tuple [.Subscript o1 j1 ps1, .Subscript o2 j2 ps2] k1 p1] (.Tuple es k2 p2) env = pure none := by
  unfold swappedStores
  dsimp only
  split
  · rfl
  · split
    · rfl
    · rfl
abbrev setA1 (i : Nat) (mj : List Sl → W Exc D) (v : D) : List Sl → W XS (List Sl) := fun ρ => (ownW ρ i).bind fun xs => (lf ρ (mj ρ)).bind fun d => match setAtD xs d v with
  | some ys => .ret (ρ.set i (.own ys))
  | none => .stuck
def swpK (i : Nat) (mj mk : List Sl → W Exc D) (ρ : List Sl) : List D → W XS Out
  | [u, v] => (setA1 i mj u ρ).bind fun ρ1 => (setA1 i mk v ρ1).bind fun ρ2 => .ret (.nx ρ2)
  | _ => .stuck
abbrev swpW (i : Nat) (ml : List Sl → W Exc (List D)) (mj mk : List Sl → W Exc D) : S := fun ρ => (lf ρ (ml ρ)).bind (swpK i mj mk ρ)
theorem rdSetA {i : Nat} {γ γb H : Hp} {σ : St} {ρ : List Sl} {y : V} {v : D} {R : List Sl → Prop} {Q : St → Hp → Prop} (st0 : Stt X.K p γ0 H0) (e0 : Ext X.K p γ0 H0 γ H) (er : EnvR X.K p H0 γ H σ ρ) (sb : Same γb γ) (c : Rep X.K γ y v)
    (hm : (setA1 i mj v ρ).run R (ExS X.K X.mg Wx p γ0 H0 γb)) (hk : ∀ γ1 H1 ρ1, Same γ γ1 → Ext X.K p γ0 H0 γ1 H1 → EnvR X.K p H0 γ1 H1 σ ρ1 → R ρ1 → Q σ H1) : gSub (tVar i) (TEe X Wx mj) rSetL y σ H Q := by
  obtain ⟨xs, hi, h1⟩ := ownW_run hm
  obtain ⟨ov, hσ, al, vs, ev, ha, hg, hp, h0, r⟩ := er.sl i _ hi
  subst ev
  refine ⟨.ref al, hσ, p, H0, γ, ρ, e0.st, er, (mj ρ).mono (fun d h2 γ2 H2 z e2 c2 => ?_) (fun x q => q.toE st0 e0 er sb) h1⟩
  have ha2 := e2.same al _ hp ha
  have h2' : (match setAtD xs d v with | some ys => W.ret (ρ.set i (.own ys)) | none => W.stuck : W XS (List Sl)).run R (ExS X.K X.mg Wx p γ0 H0 γb) := h2
  cases q : setAtD xs d v with
  | none => rw [q] at h2'; exact h2'.elim
  | some ys =>
    rw [q] at h2'
    cases d <;> first
      | cases q
      | skip
    rename_i k
    cases q3 : ixN xs.length k with
    | none => simp [setAtD, q3] at q
    | some jj =>
      have q' : xs.set jj v = ys := by simpa [setAtD, q3] using q
      subst q'
      obtain ⟨q1, q2⟩ := own_mut st0 (Ext.trans st0 e0 e2) (er.ext e2) hi hσ ha2 (e2.gnone hg ha) hp h0 (RepAll.set (c.mono e2.gg) jj (r.mono e2.gg))
      exact ⟨al, vs, k, jj, rfl, c2.ofInt, ha2, by rw [r.length]; exact q3, hk γ2 _ _ e2.gg q1 q2 h2'⟩
theorem pS_swp {i : Nat} {x : Str} {px px2 psub psub2 p1 p2 pos : Pos} {j k : Expr} {es : List Expr} {k1 k2 : Nat} (st0 : Stt X.K p γ0 H0) (hc : X.calm = true) (hN : X.N[i]? = some x) (hv : Vis X.env.scope x) (hd : (x == ("__debug__" : Str)) = false) (hcd : (x == ("__classdict__" : Str)) = false)
    (hj : PE X j (TEe X Wx mj)) (hns : ∀ l u s p, j ≠ .Slice l u s p) (hk : PE X k (TEe X Wx mk)) (hnk : ∀ l u s p, k ≠ .Slice l u s p) (he : PA X es (TAl X Wx ml)) :
    PS X (.Assign [.Tuple [.Subscript (.Name x px) j psub, .Subscript (.Name x px2) k psub2] k1 p1] (.Tuple es k2 p2) pos) (TSs X Wx p γ0 H0 (swpW i ml mj mk)) := by
  have g1 := pg_sub (pos := psub) (pe_var (pos := px) hN hv hd hcd) hj (set_list (X := X)) (fun v => by cases j <;> first | rfl | exact absurd rfl (hns _ _ _ _))
  have g2 := pg_sub (pos := psub2) (pe_var (pos := px2) hN hv hd hcd) hk (set_list (X := X)) (fun v => by cases k <;> first | rfl | exact absurd rfl (hnk _ _ _ _))
  refine ps_of (ps_asg (pe_tupN he) (pg_tup (n := 2) hc (pgs_cons g1 (pgs_cons g2 pgs_nil))) rfl sw_subs rfl) fun E σ H ⟨γ, ρ, e0, er, hm⟩ => ?_
  refine ⟨p, H0, γ, ρ, e0.st, er, (ml ρ).mono (fun ds h1 γ1 H1 vs e1 c1 => ?_) (fun x q => q.toE st0 e0 er (.refl _)) hm⟩
  rcases ds with _ | ⟨u, _ | ⟨v, _ | ⟨z, ds⟩⟩⟩
  · exact h1.elim
  · exact h1.elim
  · rcases vs with _ | ⟨a, _ | ⟨b, _ | ⟨z, vs⟩⟩⟩
    · cases c1.length
    · cases c1.length
    · refine ⟨small_of (by simp), fun l o od n => ⟨l, [a, b], rfl, .inl (.inr ⟨o, upd_same⟩), rfl, ?_⟩⟩
      have e2 : Ext X.K p γ1 H1 γ1 (upd H1 l (.frz o (.tup [a, b]))) := .own e1.st n
      have e02 := Ext.trans st0 e0 (Ext.trans e0.st e1 e2)
      have er2 := (er.ext e1).ext e2
      refine ⟨a, [b], rfl, ?_⟩
      refine rdSetA st0 e02 er2 (e1.gg) c1.head h1 fun γ3 H3 ρ3 s3 e3 er3 h3 => ?_
      refine ⟨b, [], rfl, ?_⟩
      refine rdSetA st0 e3 er3 (e1.gg.trans s3) (c1.tail.head.mono s3) h3 fun γ4 H4 ρ4 s4 e4 er4 h4 => ?_
      exact ⟨rfl, h4 γ4 H4 σ (e1.gg.trans (s3.trans s4)) e4 er4⟩
    · cases c1.length
  · exact h1.elim
end
end Ev

/-! Ev17: the plain form of statements. -/
namespace Ev
open PySem PySem.Spec PyProof.Rows L2
/-- values to be set at once -/
inductive IV where
  | nil | e (e : IE) (r : IV) | f (f : IF) (r : IV)
mutual
inductive IS where
  | pass | brk | cnt | ret (e : IE) | retN | drop (e : IE)
  | set (i : Nat) (e : IE) | setF (i : Nat) (f : IF) | setL (i : Nat) (f : IF) | asg (t : T) (e : IE) | par (is : List Nat) (l : IV)
  | ife (c : IC) (a b : IT) | for_ (t : T) (i : II) (b : IT) | whl (c : IC) (b : IT)
  | frz (i : Nat) (s : IS) | app (i : Nat) (e : IE) | ext (i : Nat) (e : IE) | setI (i : Nat) (j e : IE) | swp (i : Nat) (l : IL) (j k : IE) | pop (i : Nat) (j : IE) (t : T) | appPop (f i : Nat) (j : IE) | aug (i : Nat) (e : IE) | newD (i : Nat) | putD (i : Nat) (j e : IE)
  | raise_ (x : Str) (l : IL) | try_ (n : Str) (b s : IT) | bad
inductive IT where
  | nil | cons (s : IS) (t : IT)
end
/-- what must not raise -/
def noErrX {α : Type} (m : W XS α) : W XS α := ⟨fun Q _ => m.run Q fun _ => False, fun h _ q => m.mono h (fun _ z => z) q⟩
def exOf (M : Mg) (n y : Str) : Option Bool := if y ∈ M.exs then some (decide (y = n)) else none
def denV (M : Mg) : IV → List Sl → W Exc (List Sl)
  | .nil => fun _ => .ret []
  | .e e r => fun ρ => (denE M e ρ).bind fun d => (denV M r ρ).bind fun ss => .ret (.val d :: ss)
  | .f f r => fun ρ => (denF M f ρ).bind fun d => (denV M r ρ).bind fun ss => .ret (.own d :: ss)
mutual
def denS (M : Mg) : IS → S
  | .pass => fun ρ => .ret (.nx ρ)
  | .brk => fun ρ => .ret (.bk ρ)
  | .cnt => fun ρ => .ret (.ct ρ)
  | .ret e => fun ρ => (lf ρ (denE M e ρ)).bind fun d => .ret (.rt d)
  | .retN => fun _ => .ret (.rt .none)
  | .drop e => fun ρ => (lf ρ (denE M e ρ)).bind fun _ => .ret (.nx ρ)
  | .set i e => fun ρ => (lf ρ (denE M e ρ)).bind fun d => .ret (.nx (ρ.set i (.val d)))
  | .setF i f => fun ρ => (lf ρ (denF M f ρ)).bind fun xs => .ret (.nx (ρ.set i (.own xs)))
  | .setL i f => fun ρ => (lf ρ (denF M f ρ)).bind fun xs => .ret (.nx (ρ.set i (.val (.list xs))))
  | .asg t e => fun ρ => (lf ρ (denE M e ρ)).bind fun d => (lf ρ (asgT t d ρ)).bind fun ρ' => .ret (.nx ρ')
  | .par is l => parS is (denV M l)
  | .ife c a b => fun ρ => (lf ρ (denC M c ρ)).bind fun k => if k then denT M a ρ else denT M b ρ
  | .for_ t i b => forS t (denI M i) (denT M b)
  | .whl c b => whileS (denC M c) (denT M b)
  | .frz i s => fun ρ => denS M s (frzR ρ i)
  | .app i e => appW i (denE M e)
  | .ext i e => extW i (denE M e)
  | .setI i j e => setW i (denE M j) (denE M e)
  | .newD i => fun ρ => .ret (.nx (ρ.set i (.dic [])))
  | .putD i j e => putW i (denE M j) (denE M e)
  | .swp i l j k => swpW i (denL M l) (denE M j) (denE M k)
  | .pop i j t => popS i (denE M j) t
  | .appPop f i j => appPopS f i (denE M j)
  | .aug i e => fun ρ => (lf ρ (getV ρ i)).bind fun d => (lf ρ (denE M e ρ)).bind fun f => (lf ρ (iaddD d f)).bind fun z => .ret (.nx (ρ.set i (.val z)))
  | .raise_ x l => raiseW x (denL M l)
  | .try_ n b s => tryW (exOf M n) (denT M b) (fun ρ => noErrX (denT M s ρ))
  | .bad => fun _ => .stuck
def denT (M : Mg) : IT → S
  | .nil => fun ρ => .ret (.nx ρ)
  | .cons s t => seqS (denS M s) (denT M t)
end
def varB (Γ : Tab) (i : Nat) (e : Expr) : Bool := onNm e fun x => decide (Γ.N[i]? = some x) && (visB Γ.sc x && okNm x)
def chkV (Γ : Tab) : IV → List Expr → Bool
  | .nil, es => es.isEmpty
  | .e e l, es => onC es fun x r => ns x && (chkE Γ e x && chkV Γ l r)
  | .f e l, es => onC es fun x r => ns x && (chkF Γ e x && chkV Γ l r)
def onRet (st : Stmt) (k : Option Expr → Bool) : Bool := match st with
  | .Return v _ => k v
  | _ => false
theorem onRet_ok {st : Stmt} {k : Option Expr → Bool} (h : onRet st k = true) : ∃ v p, st = .Return v p ∧ k v = true := by
  cases st <;> first | exact ⟨_, _, rfl, h⟩ | cases h
def onIf (st : Stmt) (k : Expr → List Stmt → List Stmt → Bool) : Bool := match st with
  | .If c a b _ => k c a b
  | _ => false
theorem onIf_ok {st : Stmt} {k : Expr → List Stmt → List Stmt → Bool} (h : onIf st k = true) : ∃ c a b p, st = .If c a b p ∧ k c a b = true := by
  cases st <;> first | exact ⟨_, _, _, _, rfl, h⟩ | cases h
def onFor (st : Stmt) (k : Expr → Expr → List Stmt → Bool) : Bool := match st with
  | .For t i b [] _ => k t i b
  | _ => false
theorem onFor_ok {st : Stmt} {k : Expr → Expr → List Stmt → Bool} (h : onFor st k = true) : ∃ t i b p, st = .For t i b [] p ∧ k t i b = true := by
  unfold onFor at h
  split at h
  · exact ⟨_, _, _, _, rfl, h⟩
  · cases h
def onWhl (st : Stmt) (k : Expr → List Stmt → Bool) : Bool := match st with
  | .While c b [] _ => k c b
  | _ => false
theorem onWhl_ok {st : Stmt} {k : Expr → List Stmt → Bool} (h : onWhl st k = true) : ∃ c b p, st = .While c b [] p ∧ k c b = true := by
  unfold onWhl at h
  split at h
  · exact ⟨_, _, _, rfl, h⟩
  · cases h
def onAug (st : Stmt) (k : Expr → Expr → Bool) : Bool := match st with
  | .AugAssign t .Add v _ => k t v
  | _ => false
theorem onAug_ok {st : Stmt} {k : Expr → Expr → Bool} (h : onAug st k = true) : ∃ t v p, st = .AugAssign t .Add v p ∧ k t v = true := by
  unfold onAug at h
  split at h
  · exact ⟨_, _, _, rfl, h⟩
  · cases h
def onRaise (st : Stmt) (k : Expr → Bool) : Bool := match st with
  | .Raise (some e) none _ => k e
  | _ => false
theorem onRaise_ok {st : Stmt} {k : Expr → Bool} (h : onRaise st k = true) : ∃ e p, st = .Raise (some e) none p ∧ k e = true := by
  unfold onRaise at h
  split at h
  · exact ⟨_, _, rfl, h⟩
  · cases h
def onTry (st : Stmt) (k : List Stmt → Str → List Stmt → Bool) : Bool := match st with
  | .Try b [.ExceptHandler (some (.Name n _)) none s _] [] [] _ => k b n s
  | _ => false
theorem onTry_ok {st : Stmt} {k : List Stmt → Str → List Stmt → Bool} (h : onTry st k = true) : ∃ b n np s p' p, st = .Try b [.ExceptHandler (some (.Name n np)) none s p'] [] [] p ∧ k b n s = true := by
  unfold onTry at h
  split at h
  · exact ⟨_, _, _, _, _, _, rfl, h⟩
  · cases h
def Tab.quiet (Γ : Tab) : Tab := { Γ with calm := false, fns := [] }
def isPass : Stmt → Bool
  | .Pass _ => true
  | _ => false
def isBrk : Stmt → Bool
  | .Break _ => true
  | _ => false
def isCnt : Stmt → Bool
  | .Continue _ => true
  | _ => false
mutual
def chkS (Γ : Tab) : IS → Stmt → Bool
  | .pass, st => isPass st
  | .brk, st => isBrk st
  | .cnt, st => isCnt st
  | .ret e, st => onRet st fun o => onO o fun v => chkE Γ e v
  | .retN, st => onRet st fun o => o.isNone
  | .drop e, st => onEx st fun v => !isLc v && chkE Γ e v
  | .set i e, st => onAsg st fun tg v => tgB Γ.N Γ.ss i tg && (!isLc v && chkE Γ e v)
  | .setF i f, st => onAsg st fun tg v => tgB Γ.N Γ.ss i tg && chkF Γ f v
  | .setL i f, st => onAsg st fun tg v => tgB Γ.N Γ.ss i tg && chkF Γ f v
  | .asg t e, st => onAsg st fun tg v => (Γ.calm && chkTg Γ.N Γ.ss t tg) && ((!isLc v && nTup v) && chkE Γ e v)
  | .par is l, st => onAsg st fun tg v => onTup tg fun ts => onTup v fun es => (Γ.calm && (decide is.Nodup && decide (is.length ≤ 100))) && (tgsB Γ.N Γ.ss is ts && (chkV Γ l es && swB Γ is tg v))
  | .ife c a b, st => onIf st fun z x y => chkC Γ c z && (chkT Γ a x && chkT Γ b y)
  | .for_ t i b, st => onFor st fun tg it x => (Γ.calm && (nSet it && plB t i)) && (chkI Γ i tg it && (chkTg Γ.N Γ.ss t tg && chkT Γ b x))
  | .whl c b, st => onWhl st fun z x => Γ.calm && (chkC Γ c z && chkT Γ b x)
  | .frz _ s, st => chkS Γ s st
  | .app i e, st => onEx st fun v => onMet v fun o n es => decide (n = "append") && (varB Γ i o && on1 es fun x => ns x && chkE Γ e x)
  | .ext i e, st => onEx st fun v => onMet v fun o n es => decide (n = "extend") && (varB Γ i o && on1 es fun x => ns x && chkE Γ e x)
  | .setI i j e, st => onAsg st fun tg v => onIx tg fun o y => varB Γ i o && ((nSl y && chkE Γ j y) && (!isLc v && chkE Γ e v))
  | .newD i, st => onAsg st fun tg v => tgB Γ.N Γ.ss i tg && onDict v fun a b => a.isEmpty && b.isEmpty
  | .putD i j e, st => onAsg st fun tg v => onIx tg fun o y => varB Γ i o && ((nSl y && chkE Γ j y) && (!isLc v && chkE Γ e v))
  | .swp i l j k, st => onAsg st fun tg v => onTup tg fun ts => onTup v fun es => Γ.calm && (on2 ts fun a b => onIx a fun o y => onIx b fun o2 z => (varB Γ i o && varB Γ i o2) && ((nSl y && chkE Γ j y) && ((nSl z && chkE Γ k z) && chkL Γ l es)))
  | .pop i j t, st => onAsg st fun tg v => onMet v fun o n es => (Γ.calm && decide (n = "pop")) && (varB Γ i o && (chkTg Γ.N Γ.ss t tg && on1 es fun x => ns x && chkE Γ j x))
  | .appPop f i j, st => onEx st fun v => onMet v fun o n es => decide (n = "append") && (varB Γ f o && on1 es fun w => onMet w fun o2 n2 es2 => decide (n2 = "pop") && (varB Γ i o2 && on1 es2 fun x => ns x && chkE Γ j x))
  | .aug i e, st => onAug st fun tg v => tgB Γ.N Γ.ss i tg && chkE Γ e v
  | .raise_ x l, st => onRaise st fun e => onCall e fun y es => ((Γ.calm && decide (y = x)) && (decide (x ∈ Γ.exs) && gloB Γ.sc x)) && (!es.isEmpty && chkL Γ l es)
  | .try_ n b s, st => onTry st fun x m y => ((Γ.calm && decide (m = n)) && (decide (n ∈ Γ.exs) && gloB Γ.sc n)) && (chkT Γ b x && (!y.isEmpty && chkT Γ.quiet s y))
  | .bad, _ => true
def chkT (Γ : Tab) : IT → List Stmt → Bool
  | .nil, ss => ss.isEmpty
  | .cons s t, ss => onC ss fun x r => chkS Γ s x && chkT Γ t r
end
end Ev

/-! Ev18: the plain form of statements is kept. -/
namespace Ev
open PySem PySem.Spec PyProof.Rows L2
section
variable {X : Cx} {Wx : WX} {Γ : Tab} {M : Mg} {p : Option Addr} {γ0 H0 : Hp}
theorem FitS.tr (φ : FitS X Wx Γ M) {pn : List (Addr × Obj)} {xe : Value → Shared → Prop} {W : WX} (tk : Takes (X.tr pn xe) W) (po : PassesOwn (model X.prog X.w) X.A X.env xe) : FitS (X.tr pn xe) W Γ M where
  sc := φ.sc
  N := φ.N
  nd := φ.nd
  hu := φ.hu
  calm := φ.calm
  tk := tk
  sto := φ.sto
  bl := φ.bl
  cst := φ.cst
  tbl := φ.tbl
  fns := φ.fns
  kind := φ.kind
  stk := φ.stk
  frm := φ.frm
  po := fun _ => po
  exe := φ.exe
  exs := φ.exs
  exm := φ.exm
theorem FitS.suite (φ : FitS X Wx Γ M) (a : Addr) (pn : List (Addr × Obj)) : FitS (X.suite a pn) W0 Γ.quiet M where
  sc := φ.sc
  N := φ.N
  nd := φ.nd
  hu := φ.hu
  calm := fun h => by cases h
  tk := fun u s' ⟨a, B, sI, pins, σ, H, cls, d, e, I, nb, up, sky, na, os, ag, w⟩ => w.elim
  sto := φ.sto
  bl := φ.bl
  cst := φ.cst
  tbl := φ.tbl
  fns := fun n x h => by simp [Tab.quiet] at h
  kind := φ.kind
  stk := φ.stk
  frm := φ.frm
  po := fun h => by cases h
  exe := φ.exe
  exs := φ.exs
  exm := φ.exm
theorem okV : ∀ (t : IV) (es : List Expr), Fit X Wx Γ M → chkV Γ t es = true → PA X es (TAv X Wx (denV M t))
  | .nil, es, φ, h => by
    rw [chkV] at h
    cases es with
    | nil => exact pV_nil
    | cons _ _ => cases h
  | .e t l, es, φ, h => by
    rw [chkV] at h
    obtain ⟨e, r, rfl, h⟩ := onC_ok h
    obtain ⟨h1, h⟩ := and2 h
    obtain ⟨h2, h3⟩ := and2 h
    exact pV_val (ns_ok h1) (okE t e φ h2) (okV l r φ h3)
  | .f t l, es, φ, h => by
    rw [chkV] at h
    obtain ⟨e, r, rfl, h⟩ := onC_ok h
    obtain ⟨h1, h⟩ := and2 h
    obtain ⟨h2, h3⟩ := and2 h
    exact pV_own (ns_ok h1) (okF t e φ h2) (okV l r φ h3)
theorem chkL_star : ∀ (l : IL) (es : List Expr), chkL Γ l es = true → ∀ env, (match es with | [] => True | e :: r => starEach (e :: r) env = (false, eval e env) :: starEach r env ∧ ∀ p, (backTo p (starEach r env)).any (·.1) = false)
  | .nil, es, h, env => by
    rw [chkL] at h
    cases es with
    | nil => trivial
    | cons _ _ => cases h
  | .cons t l, es, h, env => by
    rw [chkL] at h
    obtain ⟨e, r, rfl, h⟩ := onC_ok h
    obtain ⟨h1, h⟩ := and2 h
    obtain ⟨h2, h3⟩ := and2 h
    have q2 := chkL_star l r h3 env
    refine ⟨star1 (ns_ok h1) _, fun p => ?_⟩
    cases r with
    | nil => rfl
    | cons y ys =>
      rw [q2.1]
      have := q2.2 p
      simpa [backTo] using this
theorem not_lc {v : Expr} (h : (!isLc v) = true) : isLc v = false := by simpa using h
theorem sw_sole {tg v : Expr} (h : isLc v = false) (l : Nat) (env : Env) : swapsWithSole [tg] v l env = pure false := sw_not h (some tg) l env
theorem sw_lcE {elt : Expr} {gs : List Comprehension} {scope : Scope} {pos py : Pos} {y : Str} {l : Nat} {env : Env} : swapsWith (.ListComp elt gs scope pos) (some (.Name y py)) l env =
    pure (env.blockKind == .function && env.kindOf y == some .local && py.line == pos.line && !(scope.names.any fun (n, k) => n == y && (k == .local || k == .cell))) := rfl
theorem rdSetF {mf : List Sl → W Exc (List D)} {i : Nat} (st0 : Stt X.K p γ0 H0) {E : Ends} {σ : St} {H : Hp} (h : TSs X Wx p γ0 H0 (fun ρ => (lf ρ (mf ρ)).bind fun xs => .ret (.nx (ρ.set i (.own xs)))) E σ H) : TEf X Wx mf σ H (fun v H1 => gName i v σ H1 E.nx) := by
  obtain ⟨γ, ρ, e0, er, hm⟩ := h
  exact ⟨p, H0, γ, ρ, e0.st, er, (mf ρ).mono (fun xs h => own_set (mf := mf) st0 e0 er h) (fun x q => q.toE st0 e0 er (.refl _)) hm⟩
theorem rdSetL {mf : List Sl → W Exc (List D)} {i : Nat} (st0 : Stt X.K p γ0 H0) {E : Ends} {σ : St} {H : Hp} (h : TSs X Wx p γ0 H0 (fun ρ => (lf ρ (mf ρ)).bind fun xs => .ret (.nx (ρ.set i (.val (.list xs))))) E σ H) : TEf X Wx mf σ H (fun v H1 => gName i v σ H1 E.nx) := by
  obtain ⟨γ, ρ, e0, er, hm⟩ := h
  refine ⟨p, H0, γ, ρ, e0.st, er, (mf ρ).mono (fun xs h γ' H' al vs e' n n' hq r => ?_) (fun x q => q.toE st0 e0 er (.refl _)) hm⟩
  have e2 : Ext X.K p γ H (upd γ' al (.lst vs)) H' := Ext.freeze e0.st e' n hq
  have sm : Same γ' (upd γ' al (.lst vs)) := fun b o z => by
    have hb : b ≠ al := fun w => by rw [w, n'] at z; cases z
    rw [upd_ne hb]; exact z
  exact h _ H' _ e2.gg (Ext.trans st0 e0 e2) ((er.ext e2).setVal (Rep.lst upd_same (r.mono sm)))
theorem okSetG (φ : Fit X Wx Γ M) (st0 : Stt X.K p γ0 H0) {ts : TS} {i : Nat} {f : IF} {tg v : Expr} {pos : Pos} (ht : tgB Γ.N Γ.ss i tg = true) (h : chkF Γ f v = true)
    (rd : ∀ E σ H, ts E σ H → TEf X Wx (denF M f) σ H (fun v H1 => gName i v σ H1 E.nx)) : PS X (.Assign [tg] v pos) ts := by
  have okf := okF f v φ h
  obtain ⟨x, px, rfl, ht⟩ := onNm_ok ht
  obtain ⟨h1, h2⟩ := and2 ht
  obtain ⟨q1, q2⟩ := φ.sto x (lokB_ok h2)
  have hi : X.N[i]? = some x := by rw [φ.N]; exact dec1 h1
  have hN := nd_ok φ
  by_cases hsw : swapsWith v (some (.Name x px)) pos.line X.env = pure false
  · exact ps_of (ps_set hN hi q1 okf hsw q2) rd
  · cases f with
    | lst l =>
      rw [chkF] at h
      obtain ⟨es, p, rfl, h⟩ := onLst_ok h
      exact absurd (sw_not rfl _ _ _) hsw
    | cat a b =>
      rw [chkF] at h
      obtain ⟨x, o', y, p, rfl, h⟩ := onBin_ok h
      exact absurd (sw_not rfl _ _ _) hsw
    | rep a b =>
      rw [chkF] at h
      obtain ⟨x, o', y, p, rfl, h⟩ := onBin_ok h
      exact absurd (sw_not rfl _ _ _) hsw
    | list a =>
      rw [chkF] at h
      obtain ⟨x, pp, es, p, rfl, h⟩ := onCall_ok h
      exact absurd (sw_not rfl _ _ _) hsw
    | srtS a =>
      rw [chkF] at h
      obtain ⟨x, pp, es, p, rfl, h⟩ := onCall_ok h
      exact absurd (sw_not rfl _ _ _) hsw
    | srtL a =>
      rw [chkF] at h
      obtain ⟨x, pp, es, p, rfl, h⟩ := onCall_ok h
      exact absurd (sw_not rfl _ _ _) hsw
    | rg1 a =>
      rw [chkF] at h
      obtain ⟨x, pp, es, p, rfl, h⟩ := onCall_ok h
      exact absurd (sw_not rfl _ _ _) hsw
    | rg2 a b =>
      rw [chkF] at h
      obtain ⟨x, pp, es, p, rfl, h⟩ := onCall_ok h
      exact absurd (sw_not rfl _ _ _) hsw
    | lc vs t i2 c e =>
      rw [chkF] at h
      obtain ⟨elt, gs, scope, p, rfl, h⟩ := onLc_ok h
      rw [sw_lcE] at hsw
      cases hb : (X.env.blockKind == .function && X.env.kindOf x == some .local && px.line == p.line && !(scope.names.any fun (n, k) => n == x && (k == .local || k == .cell))) with
      | false => exact absurd (by rw [hb]) hsw
      | true =>
        have hyl : X.env.scope.names.lookup x = some .local := by
          have := (and2 (and2 (and2 hb).1).1).2
          have e : X.env.kindOf x = some .local := by simpa using this
          exact e
        obtain ⟨tg, it, ifs, rfl, h⟩ := onG1_ok h
        obtain ⟨h0, h⟩ := and2 h
        obtain ⟨hc, h0⟩ := and2 h0
        obtain ⟨h1, h0⟩ := and2 h0
        obtain ⟨h2, h0⟩ := and2 h0
        obtain ⟨h3, h4⟩ := and2 h0
        obtain ⟨k1, h⟩ := and2 h
        obtain ⟨k2, h⟩ := and2 h
        obtain ⟨k3, k4⟩ := and2 h
        rw [← φ.sc, ← φ.N] at h3
        have hvs : (ownL X.N vs).map (·.2) = vs := ownL_snd _ _
        refine ps_of (ps_setLc (g := gT X.K t) (te := RdE X.K X.mg W0 (denE M e)) (tt := RdT X.K X.mg W0 (denQ M c)) (φ.calm hc) hN hi hyl (by rw [sw_lcE, hb]) (okI i2 tg it φ k1) (blkOk_by h3) (fun s H C cl fp => pg_TT (φ.blk s H C cl fp) (φ.calm hc) k2)
          (fun s H C cl fp => okQ c ifs (φ.blk s H C cl fp) k3) (fun s H C cl fp => okE e elt (φ.blk s H C cl fp) k4) (nSet_ok h1 _)) ?_
        rw [hvs]
        exact fun E σ H h => rdLc (all_mem h4) (pl_ok h2) _ _ _ (rd E σ H h)
    | lc2 vs t i2 c vs1 t1 i1 c1 e =>
      rw [chkF] at h
      obtain ⟨elt, gs, scope, p, rfl, h⟩ := onLc_ok h
      rw [sw_lcE] at hsw
      cases hb : (X.env.blockKind == .function && X.env.kindOf x == some .local && px.line == p.line && !(scope.names.any fun (n, k) => n == x && (k == .local || k == .cell))) with
      | false => exact absurd (by rw [hb]) hsw
      | true =>
        have hyl : X.env.scope.names.lookup x = some .local := by
          have := (and2 (and2 (and2 hb).1).1).2
          have e : X.env.kindOf x = some .local := by simpa using this
          exact e
        obtain ⟨tg, it, ifs, tg1, it1, ifs1, rfl, h⟩ := onG2_ok h
        obtain ⟨h0, h⟩ := and2 h
        obtain ⟨ha, hb1⟩ := and2 h0
        obtain ⟨hc, h0⟩ := and2 ha
        obtain ⟨h1, h0⟩ := and2 h0
        obtain ⟨h2, h0⟩ := and2 h0
        obtain ⟨h3, h4⟩ := and2 h0
        obtain ⟨b1, hb1⟩ := and2 hb1
        obtain ⟨b2, hb1⟩ := and2 hb1
        obtain ⟨b3, b4⟩ := and2 hb1
        obtain ⟨ka, kb⟩ := and2 h
        obtain ⟨k1, ka⟩ := and2 ka
        obtain ⟨k2, k3⟩ := and2 ka
        obtain ⟨k4, kb⟩ := and2 kb
        obtain ⟨k5, kb⟩ := and2 kb
        obtain ⟨k6, k7⟩ := and2 kb
        rw [← φ.sc, ← φ.N] at h3
        have hvs : (ownL X.N vs).map (·.2) = vs := ownL_snd _ _
        refine ps_of (ps_setLc2 (vs1 := vs1) (g := gT X.K t) (g1 := gT X.K t1) (te := RdE X.K X.mg W0 (denE M e)) (tt := RdT X.K X.mg W0 (denQ M c)) (tt1 := RdT X.K X.mg W0 (denQ M c1)) (wi1 := TIi X W0 (denI M i1) i1.pl) (φ.calm hc) hN hi hyl (by rw [sw_lcE, hb]) (okI i2 tg it φ k1) (blkOk_by h3) (by rw [hvs]; exact all_mem b3) (fun s H C cl fp => pg_TT (φ.blk s H C cl fp) (φ.calm hc) k2)
          (fun s H C cl fp => okQ c ifs (φ.blk s H C cl fp) k3) (fun s H C cl fp => okI i1 tg1 it1 (φ.blk s H C cl fp) k4) (fun s H C cl fp => pg_TT (φ.blk s H C cl fp) (φ.calm hc) k5)
          (fun s H C cl fp => okQ c1 ifs1 (φ.blk s H C cl fp) k6) (fun s H C cl fp => okE e elt (φ.blk s H C cl fp) k7) (nSet_ok h1 _) (nSet_ok b1)) ?_
        rw [hvs]
        exact fun E σ H h => rdLc2 (all_mem h4) (all_mem b4) (pl_ok h2) (pl_ok b2) _ _ _ (rd E σ H h)
theorem okSetF (φ : Fit X Wx Γ M) (st0 : Stt X.K p γ0 H0) {i : Nat} {f : IF} {tg v : Expr} {pos : Pos} (ht : tgB Γ.N Γ.ss i tg = true) (h : chkF Γ f v = true) :
    PS X (.Assign [tg] v pos) (TSs X Wx p γ0 H0 fun ρ => (lf ρ (denF M f ρ)).bind fun xs => .ret (.nx (ρ.set i (.own xs)))) := okSetG φ st0 ht h fun E σ H h => rdSetF st0 h
theorem okSetL (φ : Fit X Wx Γ M) (st0 : Stt X.K p γ0 H0) {i : Nat} {f : IF} {tg v : Expr} {pos : Pos} (ht : tgB Γ.N Γ.ss i tg = true) (h : chkF Γ f v = true) :
    PS X (.Assign [tg] v pos) (TSs X Wx p γ0 H0 fun ρ => (lf ρ (denF M f ρ)).bind fun xs => .ret (.nx (ρ.set i (.val (.list xs))))) := okSetG φ st0 ht h fun E σ H h => rdSetL st0 h
theorem varB_ok (φ : Fit X Wx Γ M) {i : Nat} {e : Expr} (h : varB Γ i e = true) : ∃ x p, e = .Name x p ∧ X.N[i]? = some x ∧ Vis X.env.scope x ∧ (x == ("__debug__" : Str)) = false ∧ (x == ("__classdict__" : Str)) = false := by
  obtain ⟨x, p, rfl, h⟩ := onNm_ok h
  exact ⟨x, p, rfl, var_ok φ h⟩
end
mutual
theorem okS {X : Cx} {Wx : WX} {Γ : Tab} {M : Mg} {p : Option Addr} {γ0 H0 : Hp} : ∀ (t : IS) (st : Stmt), FitS X Wx Γ M → Stt X.K p γ0 H0 → chkS Γ t st = true → PS X st (TSs X Wx p γ0 H0 (denS M t))
  | .pass, st, φ, st0, h => by
    rw [chkS] at h
    cases st <;> first | exact pS_pass | cases h
  | .brk, st, φ, st0, h => by
    rw [chkS] at h
    cases st <;> first | exact pS_brk | cases h
  | .cnt, st, φ, st0, h => by
    rw [chkS] at h
    cases st <;> first | exact pS_cnt | cases h
  | .ret e, st, φ, st0, h => by
    rw [chkS] at h
    obtain ⟨o, pos, rfl, h⟩ := onRet_ok h
    obtain ⟨v, rfl, h⟩ := onO_ok h
    exact pS_ret st0 (okE e v φ.toFit h)
  | .retN, st, φ, st0, h => by
    rw [chkS] at h
    obtain ⟨o, pos, rfl, h⟩ := onRet_ok h
    cases o with
    | none => exact pS_retN st0
    | some _ => cases h
  | .drop e, st, φ, st0, h => by
    rw [chkS] at h
    obtain ⟨v, pos, rfl, h⟩ := onEx_ok h
    obtain ⟨h1, h2⟩ := and2 h
    exact pS_drop st0 (okE e v φ.toFit h2) (sw_not (not_lc h1) _ _ _)
  | .set i e, st, φ, st0, h => by
    rw [chkS] at h
    obtain ⟨tg, v, pos, rfl, h⟩ := onAsg_ok h
    obtain ⟨ht, h⟩ := and2 h
    obtain ⟨h3, h4⟩ := and2 h
    obtain ⟨x, px, rfl, ht⟩ := onNm_ok ht
    obtain ⟨h1, h2⟩ := and2 ht
    obtain ⟨q1, q2⟩ := φ.sto x (lokB_ok h2)
    exact pS_set st0 (nd_ok φ.toFit) (by rw [φ.N]; exact dec1 h1) q1 q2 (okE e v φ.toFit h4) (sw_not (not_lc h3) _ _ _)
  | .setF i f, st, φ, st0, h => by
    rw [chkS] at h
    obtain ⟨tg, v, pos, rfl, h⟩ := onAsg_ok h
    obtain ⟨ht, h⟩ := and2 h
    exact okSetF φ.toFit st0 ht h
  | .setL i f, st, φ, st0, h => by
    rw [chkS] at h
    obtain ⟨tg, v, pos, rfl, h⟩ := onAsg_ok h
    obtain ⟨ht, h⟩ := and2 h
    exact okSetL φ.toFit st0 ht h
  | .asg t e, st, φ, st0, h => by
    rw [chkS] at h
    obtain ⟨tg, v, pos, rfl, h⟩ := onAsg_ok h
    obtain ⟨h1, h⟩ := and2 h
    obtain ⟨hc, ht⟩ := and2 h1
    obtain ⟨h2, h3⟩ := and2 h
    obtain ⟨h4, h5⟩ := and2 h2
    exact pS_asg st0 (pg_TT φ.toFit (φ.calm hc) ht) (okE e v φ.toFit h3) (sw_not (not_lc h4) _ _ _) (sw_none (nTup_ok h5)) (tg_plain _ ht)
  | .par is l, st, φ, st0, h => by
    rw [chkS] at h
    obtain ⟨tg, v, pos, rfl, h⟩ := onAsg_ok h
    obtain ⟨ts, k1, p1, rfl, h⟩ := onTup_ok h
    obtain ⟨es, k2, p2, rfl, h⟩ := onTup_ok h
    obtain ⟨h1, h⟩ := and2 h
    obtain ⟨hc, h1⟩ := and2 h1
    obtain ⟨h2, h3⟩ := and2 h1
    obtain ⟨h4, h⟩ := and2 h
    obtain ⟨h5, h6⟩ := and2 h
    exact pS_par φ st0 (dec1 h2) (φ.calm hc) (dec1 h3) (okV l es φ.toFit h5) h4 h6
  | .ife c a b, st, φ, st0, h => by
    rw [chkS] at h
    obtain ⟨z, x, y, pos, rfl, h⟩ := onIf_ok h
    obtain ⟨h1, h⟩ := and2 h
    obtain ⟨h2, h3⟩ := and2 h
    exact pS_if st0 (okC c z φ.toFit h1) (okT a x φ st0 h2) (okT b y φ st0 h3)
  | .for_ t i b, st, φ, st0, h => by
    rw [chkS] at h
    obtain ⟨tg, it, x, pos, rfl, h⟩ := onFor_ok h
    obtain ⟨h1, h⟩ := and2 h
    obtain ⟨hc, h1⟩ := and2 h1
    obtain ⟨h2, h3⟩ := and2 h1
    obtain ⟨h4, h⟩ := and2 h
    obtain ⟨h5, h6⟩ := and2 h
    exact pS_for st0 (φ.po hc) (φ.calm hc) (pl_ok h3) (okI i tg it φ.toFit h4) (pg_TT φ.toFit (φ.calm hc) h5) (okT b x φ st0 h6) (nSet_ok h2 _)
  | .whl c b, st, φ, st0, h => by
    rw [chkS] at h
    obtain ⟨z, x, pos, rfl, h⟩ := onWhl_ok h
    obtain ⟨hc, h⟩ := and2 h
    obtain ⟨h1, h2⟩ := and2 h
    exact pS_while st0 (φ.po hc) (okC c z φ.toFit h1) (okT b x φ st0 h2)
  | .frz i s, st, φ, st0, h => by
    rw [chkS] at h
    exact pS_frz st0 (okS s st φ st0 h)
  | .app i e, st, φ, st0, h => by
    rw [chkS] at h
    obtain ⟨v, pos2, rfl, h⟩ := onEx_ok h
    obtain ⟨o, n, ap, es, pos, rfl, hl, h⟩ := onMet_ok h
    obtain ⟨h0, h⟩ := and2 h
    obtain ⟨h1, h⟩ := and2 h
    obtain ⟨x, rfl, h⟩ := on1_ok h
    obtain ⟨h2, h3⟩ := and2 h
    obtain ⟨y, py, rfl, a, b, c, d⟩ := varB_ok φ.toFit h1
    have hx := dec1 h0
    subst hx
    exact pS_app st0 a b c d (ns_ok h2) hl (okE e x φ.toFit h3)
  | .ext i e, st, φ, st0, h => by
    rw [chkS] at h
    obtain ⟨v, pos2, rfl, h⟩ := onEx_ok h
    obtain ⟨o, n, ap, es, pos, rfl, hl, h⟩ := onMet_ok h
    obtain ⟨h0, h⟩ := and2 h
    obtain ⟨h1, h⟩ := and2 h
    obtain ⟨x, rfl, h⟩ := on1_ok h
    obtain ⟨h2, h3⟩ := and2 h
    obtain ⟨y, py, rfl, a, b, c, d⟩ := varB_ok φ.toFit h1
    have hx := dec1 h0
    subst hx
    exact pS_ext st0 a b c d (ns_ok h2) hl (okE e x φ.toFit h3)
  | .setI i j e, st, φ, st0, h => by
    rw [chkS] at h
    obtain ⟨tg, v, pos, rfl, h⟩ := onAsg_ok h
    obtain ⟨o, y, psub, rfl, h⟩ := onIx_ok h
    obtain ⟨h1, h⟩ := and2 h
    obtain ⟨h2, h3⟩ := and2 h
    obtain ⟨h4, h5⟩ := and2 h2
    obtain ⟨h6, h7⟩ := and2 h3
    obtain ⟨x, px, rfl, a, b, c, d⟩ := varB_ok φ.toFit h1
    exact pS_setI st0 a b c d (okE j y φ.toFit h5) (nSl_ok h4) (okE e v φ.toFit h7) (sw_sole (not_lc h6) _ _) rfl
  | .newD i, st, φ, st0, h => by
    rw [chkS] at h
    obtain ⟨tg, v, pos, e0, h'⟩ := onAsg_ok h
    clear h
    subst e0
    obtain ⟨ht, hd⟩ := and2 h'
    clear h'
    obtain ⟨ks, vs, dp, e1, h⟩ := onDict_ok hd
    clear hd
    subst e1
    obtain ⟨h3, h4⟩ := and2 h
    obtain ⟨x, px, e2, ht⟩ := onNm_ok ht
    subst e2
    obtain ⟨h1, h2⟩ := and2 ht
    obtain ⟨q1, q2⟩ := φ.sto x (lokB_ok h2)
    cases ks with
    | cons _ _ => cases h3
    | nil =>
      cases vs with
      | cons _ _ => cases h4
      | nil => exact pS_newD st0 (nd_ok φ.toFit) (by rw [φ.N]; exact dec1 h1) q1 q2 (sw_not rfl _ _ _)
  | .putD i j e, st, φ, st0, h => by
    rw [chkS] at h
    obtain ⟨tg, v, pos, rfl, h⟩ := onAsg_ok h
    obtain ⟨o, y, psub, rfl, h⟩ := onIx_ok h
    obtain ⟨h1, h⟩ := and2 h
    obtain ⟨h2, h3⟩ := and2 h
    obtain ⟨h4, h5⟩ := and2 h2
    obtain ⟨h6, h7⟩ := and2 h3
    obtain ⟨x, px, rfl, a, b, c, d⟩ := varB_ok φ.toFit h1
    exact pS_put (by have := φ.toFit.hu; omega) st0 a b c d (okE j y φ.toFit h5) (okE e v φ.toFit h7) (sw_not (not_lc h6) _ _ _)
  | .swp i l j k, st, φ, st0, h => by
    rw [chkS] at h
    obtain ⟨tg, v, pos, rfl, h⟩ := onAsg_ok h
    obtain ⟨ts, k1, p1, rfl, h⟩ := onTup_ok h
    obtain ⟨es, k2, p2, rfl, h⟩ := onTup_ok h
    obtain ⟨hc, h⟩ := and2 h
    obtain ⟨a, b, rfl, h⟩ := on2_ok h
    obtain ⟨o, y, q1, rfl, h⟩ := onIx_ok h
    obtain ⟨o2, z, q2, rfl, h⟩ := onIx_ok h
    obtain ⟨h1, h⟩ := and2 h
    obtain ⟨h2, h3⟩ := and2 h1
    obtain ⟨h4, h⟩ := and2 h
    obtain ⟨h5, h6⟩ := and2 h4
    obtain ⟨h7, h8⟩ := and2 h
    obtain ⟨h9, h10⟩ := and2 h7
    obtain ⟨x, px, rfl, a, b, c, d⟩ := varB_ok φ.toFit h2
    obtain ⟨x2, px2, rfl, a2, _, _, _⟩ := varB_ok φ.toFit h3
    have e : x2 = x := by rw [a] at a2; exact (Option.some.inj a2).symm
    subst e
    exact pS_swp st0 (φ.calm hc) a b c d (okE j y φ.toFit h6) (nSl_ok h5) (okE k z φ.toFit h10) (nSl_ok h9) (okL l es φ.toFit h8)
  | .pop i j t, st, φ, st0, h => by
    rw [chkS] at h
    obtain ⟨tg, v, pos, rfl, h⟩ := onAsg_ok h
    obtain ⟨o, n, ap, es, cp, rfl, hl, h⟩ := onMet_ok h
    obtain ⟨h0, h⟩ := and2 h
    obtain ⟨hc, h0⟩ := and2 h0
    obtain ⟨h1, h⟩ := and2 h
    obtain ⟨ht, h⟩ := and2 h
    obtain ⟨x, rfl, h⟩ := on1_ok h
    obtain ⟨h2, h3⟩ := and2 h
    obtain ⟨y, py, rfl, a, b, c, d⟩ := varB_ok φ.toFit h1
    have hx := dec1 h0
    subst hx
    exact pS_pop st0 a b c d (ns_ok h2) hl (okE j x φ.toFit h3) (pg_TT φ.toFit (φ.calm hc) ht) (sw_sole rfl _ _) (sw_none (fun _ _ _ z => by cases z)) (tg_plain _ ht)
  | .appPop f i j, st, φ, st0, h => by
    rw [chkS] at h
    obtain ⟨v, pos2, rfl, h⟩ := onEx_ok h
    obtain ⟨o, n, ap, es, pos, rfl, hl, h⟩ := onMet_ok h
    obtain ⟨h0, h⟩ := and2 h
    obtain ⟨h1, h⟩ := and2 h
    obtain ⟨w, rfl, h⟩ := on1_ok h
    obtain ⟨o2, n2, ap2, es2, cp, rfl, hl2, h⟩ := onMet_ok h
    obtain ⟨h4, h⟩ := and2 h
    obtain ⟨h5, h⟩ := and2 h
    obtain ⟨x, rfl, h⟩ := on1_ok h
    obtain ⟨h2, h3⟩ := and2 h
    obtain ⟨y, py, rfl, a, b, c, d⟩ := varB_ok φ.toFit h1
    obtain ⟨y2, py2, rfl, a2, b2, c2, d2⟩ := varB_ok φ.toFit h5
    have hx := dec1 h0
    subst hx
    have hy := dec1 h4
    subst hy
    exact pS_appPop st0 a b c d a2 b2 c2 d2 (ns_ok h2) hl2 hl (okE j x φ.toFit h3)
  | .aug i e, st, φ, st0, h => by
    rw [chkS] at h
    obtain ⟨tg, v, pos, rfl, h⟩ := onAug_ok h
    obtain ⟨ht, h4⟩ := and2 h
    obtain ⟨x, px, rfl, ht⟩ := onNm_ok ht
    obtain ⟨h1, h2⟩ := and2 ht
    obtain ⟨q1, q2⟩ := φ.sto x (lokB_ok h2)
    exact pS_aug st0 (nd_ok φ.toFit) (by rw [φ.N]; exact dec1 h1) q1 q2 (okE e v φ.toFit h4)
  | .raise_ x l, st, φ, st0, h => by
    rw [chkS] at h
    obtain ⟨v, pos, rfl, h⟩ := onRaise_ok h
    obtain ⟨y, pp, es, cp, rfl, h⟩ := onCall_ok h
    obtain ⟨h1, h⟩ := and2 h
    obtain ⟨h2, h3⟩ := and2 h1
    obtain ⟨hc, h4⟩ := and2 h2
    obtain ⟨h5, h6⟩ := and2 h3
    obtain ⟨h7, h8⟩ := and2 h
    have hy := dec1 h4
    subst hy
    have h5 := dec1 h5
    rw [φ.exe] at h5
    obtain ⟨C, q1, q2, q3, q4⟩ := φ.exs _ h5
    rw [← φ.sc] at h6
    obtain ⟨g1, g2⟩ := gloB_ok h6
    have hs := chkL_star l es h8 X.env
    have hl := okL l es φ.toFit h8
    obtain ⟨e0, r, rfl⟩ := ne_ok h7
    exact pS_raise st0 (φ.calm hc) φ.tk q3 q1 q2 q4 g1 hl g2 hs.1 (hs.2 _)
  | .try_ n b s, st, φ, st0, h => by
    rw [chkS] at h
    obtain ⟨x, m, np, y, p', pos, rfl, h⟩ := onTry_ok h
    obtain ⟨h1, h⟩ := and2 h
    obtain ⟨h2, h3⟩ := and2 h1
    obtain ⟨hc, h4⟩ := and2 h2
    obtain ⟨h5, h6⟩ := and2 h3
    obtain ⟨h7, h⟩ := and2 h
    obtain ⟨h8, h9⟩ := and2 h
    have hy := dec1 h4
    subst hy
    have h5 := dec1 h5
    rw [φ.exe] at h5
    obtain ⟨C, q1, q2, q3, q4⟩ := φ.exs _ h5
    rw [← φ.sc] at h6
    obtain ⟨g1, g2⟩ := gloB_ok h6
    have hsu : ∀ (al : Addr) (oe : Obj) (pn : List (Addr × Obj)), PSs (X.suite al ((al, oe) :: pn)) y (RdS X.K X.mg W0 p γ0 H0 fun ρ => noErrX (denT M s ρ)) := fun al oe pn =>
      pss_of (okT s y (φ.suite al ((al, oe) :: pn)) st0 h9) fun E σ H ⟨γ, ρ, e0, er, hm⟩ => ⟨γ, ρ, e0, er, (denT M s ρ).mono (fun _ q => q) (fun _ z => z.elim) hm⟩
    obtain ⟨b0, r, rfl⟩ : ∃ b0 r, y = b0 :: r := by
      cases y with
      | nil => cases h8
      | cons b0 r => exact ⟨_, _, rfl⟩
    refine pS_try (ex := exOf M m) (Cn := C) st0 φ.stk φ.frm ⟨g1, g2, .inl q1⟩ φ.tk (fun y bb Cy hy hm => ?_) (fun W pn xe tk po => okT b x (φ.tr tk po) st0 h7) (fun al oe cls d pn _ _ => hsu al oe pn) (fun ρ Q XX hr => hr)
    unfold exOf at hy
    split at hy
    · rename_i hin
      cases hy
      exact φ.exm y hin m h5 Cy C hm q1
    · cases hy
  | .bad, st, φ, st0, h => ⟨fun _ _ _ _ _ _ ⟨_, _, _, _, z⟩ => z.elim⟩
theorem okT {X : Cx} {Wx : WX} {Γ : Tab} {M : Mg} {p : Option Addr} {γ0 H0 : Hp} : ∀ (t : IT) (ss : List Stmt), FitS X Wx Γ M → Stt X.K p γ0 H0 → chkT Γ t ss = true → PSs X ss (TSs X Wx p γ0 H0 (denT M t))
  | .nil, ss, φ, st0, h => by
    rw [chkT] at h
    cases ss with
    | nil => exact pS_nil
    | cons _ _ => cases h
  | .cons s t, ss, φ, st0, h => by
    rw [chkT] at h
    obtain ⟨x, r, rfl, h⟩ := onC_ok h
    obtain ⟨h1, h2⟩ := and2 h
    exact pS_cons (okS s x φ st0 h1) (okT t r φ st0 h2)
end
end Ev

/-! Ev19: a def of the text keeps what its plain form means. -/
namespace Ev
open PySem PySem.Spec PyProof.Rows L2
/-- a def of ours that is known -/
def FnAt (P : Program) (w : World) (K : PySem.W.Frag) (mg : Str → Option Value) (base : Heap) (k : Nat) (x : Str) (F : List Ar → W Exc D) : Prop :=
  ∃ f fd ps, mg x = some (.ref f) ∧ PySem.W.keepIn K (.ref f) = true ∧ Binds K fd ps [] ∧ FnOk P w K mg base (L2.CX P w) k f fd ps (spD K mg ps.length F) ∧ ∀ as Q XX, (F as).run Q XX → as.length = ps.length
theorem FnAt.up {P : Program} {w : World} {K : PySem.W.Frag} {mg : Str → Option Value} {base : Heap} {j k : Nat} {x : Str} {F : List Ar → W Exc D} (h : FnAt P w K mg base j x F) (e : j ≤ k) : FnAt P w K mg base k x F := by
  obtain ⟨f, fd, ps, h1, h2, h3, h4, h5⟩ := h
  exact ⟨f, fd, ps, h1, h2, h3, h4.mono e, h5⟩
def noF : List Ar → W Exc D := fun _ => .stuck
/-- what a module gives to a def -/
structure Md (P : Program) (w : World) (K : PySem.W.Frag) (mg : Str → Option Value) (base : Heap) (k : Nat) (Γ : Tab) (M : Mg) : Prop where
  bl : ∀ x ∈ Γ.bl, mg x = none
  cst : ∀ (j : Nat) (x : Str), Γ.cst[j]? = some x → ∃ v u, mg x = some u ∧ RelV v u ∧ ∀ γ, Rep K γ v (M.C j)
  tbl : ∀ x t, (x, t) ∈ Γ.tbl → TblAt K w mg x t
  fns : ∀ (n : Nat) (x : Str), Γ.fns[n]? = some x → FnAt P w K mg base k x (M.Φ n)
  exe : Γ.exs = M.exs
  exs : ∀ x ∈ M.exs, ∃ C, mg x = some (.ref C) ∧ PySem.W.keepIn K (.ref C) = true ∧ PySem.W.excIn K C He.veBase "ValueError.__new__" = true ∧ PySem.W.subIn K (.ref C) (.type "BaseException") = some true ∧ PySem.W.typeIn K (.ref C) = some (.type "type")
  exm : ∀ x ∈ M.exs, ∀ y ∈ M.exs, ∀ C Cn, mg x = some (.ref C) → mg y = some (.ref Cn) → PySem.W.exmOne K (.ref C) (.ref Cn) = some (decide (x = y))
def Ar.sl : Ar → Sl
  | .d x => .val x
  | .pool => .pool
def outD : Out → W Exc D
  | .rt d => .ret d
  | .nx _ => .ret .none
  | _ => .stuck
/-- what a def means -/
def denD (M : Mg) (np n : Nat) (b : IT) : List Ar → W Exc D := fun as => (W.ask (as.length = np)).bind fun _ => ((denT M b (as.map Ar.sl ++ List.replicate (n - np) .un)).mapErr (·.1)).bind outD
theorem paired_get {α β : Type} {R : α → β → Prop} : ∀ {xs : List α} {ys : List β} {i : Nat} {y : β}, Paired R xs ys → ys[i]? = some y → ∃ x, xs[i]? = some x ∧ R x y
  | _, _, i, y, .nil, h => by simp at h
  | _, _, 0, y, .cons r t, h => by simp at h; subst h; exact ⟨_, rfl, r⟩
  | _, _, i + 1, y, .cons r t, h => by
    obtain ⟨x, e, q⟩ := paired_get (i := i) t (by simpa using h)
    exact ⟨x, by simpa using e, q⟩
theorem envR_start {K : PySem.W.Frag} {p : Option Addr} {γ H : Hp} {vs : List V} {as : List Ar} {N : List Str} (h : ArAll K p γ vs as) (hl : as.length ≤ N.length) : EnvR K p H γ H (L2.start N vs) (as.map Ar.sl ++ List.replicate (N.length - as.length) .un) := by
  have hlen : vs.length = as.length := Paired.length h
  refine ⟨by unfold L2.start; simp; omega, fun i s hs => ?_, fun i j xs ys hij h1 h2 => ?_, fun i j xs ys hij h1 h2 => ?_⟩
  · unfold L2.start
    by_cases hi : i < as.length
    · rw [List.getElem?_append_left (by simpa using hi), List.getElem?_map] at hs
      cases e : as[i]? with
      | none => rw [e] at hs; cases hs
      | some a =>
        rw [e] at hs
        cases hs
        obtain ⟨v, e1, r⟩ := paired_get h e
        refine ⟨some v, by rw [List.getElem?_append_left (by simp; omega), List.getElem?_map, e1]; rfl, ?_⟩
        cases a with
        | d x => exact ⟨v, rfl, r⟩
        | pool =>
          obtain ⟨al, e2, e3⟩ := r
          exact ⟨al, by rw [e2], e3⟩
    · have hi' : as.length ≤ i := by omega
      rw [List.getElem?_append_right (by simpa using hi')] at hs
      rw [List.getElem?_append_right (by simp; omega)]
      rw [List.getElem?_replicate] at hs
      split at hs
      · rename_i hlt
        cases hs
        exact ⟨none, by rw [List.getElem?_replicate, if_pos (by simp at hlt ⊢; omega)], trivial⟩
      · cases hs
  · exfalso
    by_cases hi : i < as.length
    · rw [List.getElem?_append_left (by simpa using hi), List.getElem?_map] at h1
      cases e : as[i]? with
      | none => rw [e] at h1; cases h1
      | some a => rw [e] at h1; cases a <;> cases h1
    · have hi' : as.length ≤ i := by omega
      rw [List.getElem?_append_right (by simpa using hi'), List.getElem?_replicate] at h1
      split at h1 <;> cases h1
  · exfalso
    by_cases hi : i < as.length
    · rw [List.getElem?_append_left (by simpa using hi), List.getElem?_map] at h1
      cases e : as[i]? with
      | none => rw [e] at h1; cases h1
      | some a => rw [e] at h1; cases a <;> cases h1
    · have hi' : as.length ≤ i := by omega
      rw [List.getElem?_append_right (by simpa using hi'), List.getElem?_replicate] at h1
      split at h1 <;> cases h1
section
variable {P : Program} {w : World} {K : PySem.W.Frag} {mg : Str → Option Value} {base : Heap} {k : Nat} {Γ : Tab} {M : Mg}
theorem fit_of (md : Md P w K mg base k Γ M) {N ps : List Str} {qual : Str} {scope : Scope} {f : Addr} {cdv : Value} {A : Around} {outer : List Env} {s : Shared} {H : Hp} {E : XK} (S : FnScope N ps scope)
    (hr : Room k (A.deeper (envOfC qual scope s.heap.objs.size f cdv))) (hN : Γ.N = N) (hsc : Γ.sc = scope) (hss : Γ.ss = scope) : FitS (cxOf (L2.CX P w) P w K mg base N qual scope f cdv A outer s H E) (fun cls d _ H' => E cls d H') Γ M where
  sc := hsc.symm
  N := hN.symm
  nd := by rw [hN]; exact S.nd
  hu := by
    have := hr.un
    show (A.deeper (envOfC qual scope s.heap.objs.size f cdv)).units + 65 < cLine
    omega
  calm := fun _ => rfl
  tk := takes_of rfl rfl rfl rfl
  sto := fun x hx => by
    rw [hss] at hx
    exact ⟨hx, .inl rfl⟩
  bl := md.bl
  cst := md.cst
  tbl := md.tbl
  fns := fun n x h => by
    obtain ⟨f', fd, ps', h1, h2, h3, h4, h5⟩ := md.fns n x h
    exact ⟨k, f', fd, ps', hr, h1, h2, h3, h4, h5⟩
  kind := by rw [hsc]; exact S.kind
  stk := rfl
  frm := rfl
  po := fun _ => passes_of rfl
  exe := md.exe
  exs := fun x hx => by
    obtain ⟨C, h1, h2, h3, h4, h5⟩ := md.exs x hx
    exact ⟨C, h1, h2, h3, raises_own h4 h5⟩
  exm := md.exm
theorem denD_len {np n : Nat} {b : IT} (as : List Ar) (Q : D → Prop) (XX : Exc → Prop) (h : (denD M np n b as).run Q XX) : as.length = np := h.1
/-- a def keeps what its plain form means -/
theorem def_ok (md : Md P w K mg base k Γ M) {x nam qual : Str} {params : Arguments} {body : List Stmt} {scope : Scope} {kws : List (Str × V)} {f : Addr} {fd : FuncData} {N ps : List Str} {b : IT} {np n : Nat} (F : FunD K nam qual params body scope [] kws f fd) (hg : mg x = some (.ref f)) (S : FnScope N ps scope)
    (hN : Γ.N = N) (hsc : Γ.sc = scope) (hss : Γ.ss = scope) (hb : Binds K fd ps []) (hz : ps.length ≤ N.length) (hnp : ps.length = np) (hn : N.length = n) (hc : chkT Γ b body = true) : FnAt P w K mg base (k + 1) x (denD M np n b) := by
  subst hnp hn
  refine ⟨f, fd, ps, hg, F.kp, hb, ?_, fun as Q XX h => h.1⟩
  refine F.ok S (fun vs H Q E h => h.1) (fun cdv A outer s H vs Q E hr ⟨hl, p, γ, as, st, ha, hm⟩ => ?_)
  have φ := fit_of (E := E) (H := H) (outer := outer) md S hr hN hsc hss
  have er : EnvR K p H γ H (L2.start N vs) (as.map Ar.sl ++ List.replicate (N.length - as.length) .un) := envR_start ha (by rw [← Paired.length ha, hl]; exact hz)
  refine ⟨_, okT b body φ st hc, γ, as.map Ar.sl ++ List.replicate (N.length - as.length) Sl.un, .refl st, er, ?_⟩
  obtain ⟨hlen, hm⟩ := hm
  rw [hlen]
  refine (denT M b _).mono (fun o q => ?_) (fun xx q => ?_) hm
  · cases o with
    | rt d => exact fun γ' H' v _ e r => q γ' H' v e r
    | nx ρ => exact fun γ' H' σ' _ e er => q γ' H' .non e .non
    | bk ρ => exact False.elim q
    | ct ρ => exact False.elim q
  · exact fun γ' H' σ' cc dd _ e _ r => q γ' H' cc dd e r
end
end Ev

/-! Ev20: plain readings of a few forms, for the helpers that change the pool. -/
namespace Ev
open PySem PySem.Spec PyProof.Rows L2
abbrev Grow (H H' : Hp) : Prop := ∀ a o, H a = some o → H' a = some o
def rAO (K : PySem.W.Frag) : AO → R2
  | .add => rInt (· + ·)
  | .sub => rInt (· - ·)
  | .mul => rI CMul fun i j => .int (i * j)
  | .mod => rI (fun _ j => 0 < j) fun i j => .int (i % j)
  | .div => rI CDiv fun i j => .int (i / j)
def rCO : CO → R2
  | .lt => rI0 fun i j => .bl (decide (i < j))
  | .le => rI0 fun i j => .bl (decide (i ≤ j))
  | _ => fun _ _ _ _ => False
def rInt1 : List V → Hp → VK → Prop := fun xs H Q => (∃ i, xs = [.int i] ∧ Q (.int i) H) ∨ ∃ k, xs = [.bl k] ∧ Q (.int (if k then 1 else 0)) H
def rListL (K : PySem.W.Frag) : List V → Hp → VK → Prop := fun xs H Q => ∃ p ys, xs = [.ref p] ∧ SqL K H p ys ∧ ∀ l, H l = none → Q (.ref l) (upd H l (.lst ys))
theorem call_list_ofL {X : Cx} : CallR X (.type "list") (rListL X.K) := by
  intro pins s σ H xs us Q I r ⟨p, ys, e, hq, q⟩
  exact call_list_of pins s σ H xs us Q I r ⟨p, ys, e, .inl hq, q⟩
mutual
def rawE (K : PySem.W.Frag) : IE → TE
  | .v i => tVar i
  | .i n => tC (.int n)
  | .ix a b => tOp (rIx K) (rawO K a) (rawO K b)
  | .sl a lo hi => fun σ H Q => rawO K a σ H fun x H1 => rawP K lo σ H1 fun l H2 => rawP K hi σ H2 fun u H3 => ∃ p xs, x = .ref p ∧ SqL K H3 p xs ∧ ∀ l', H3 l' = none → Q (.ref l') (upd H3 l' (.lst (cutV xs l u)))
  | .bin o a b => tOp (rAO K o) (rawO K a) (rawO K b)
  | .f1 .len a => tCB (rLenG K) (tCons (rawO K a) tNil)
  | .f1 .int a => tCB rInt1 (tCons (rawO K a) tNil)
  | .call _ (.d e .nil) => fun σ H Q => rawE K e σ H fun x H1 => ∃ i, [x] = [V.int i] ∧ ∀ (j : Int) H', Grow H1 H' → Q (.int j) H'
  | .fr f => rawF K f
  | _ => fun _ _ _ => False
def rawO (K : PySem.W.Frag) : IO → TE
  | .e e => rawE K e
  | .own i => tVar i
def rawF (K : PySem.W.Frag) : IF → TE
  | .lst l => fun σ H Q => rawL K l σ H fun vs H1 => vs.length ≤ sizeLine ∧ ∀ a, H1 a = none → Q (.ref a) (upd H1 a (.lst vs))
  | .list a => tCB (rListL K) (tCons (rawO K a) tNil)
  | _ => fun _ _ _ => False
def rawL (K : PySem.W.Frag) : IL → TA
  | .nil => tNil
  | .cons e l => tCons (rawE K e) (rawL K l)
def rawP (K : PySem.W.Frag) : IP → TO
  | .no => fun σ H Q => Q none H
  | .one e => fun σ H Q => rawE K e σ H fun x H1 => ∃ i, x = .int i ∧ Q (some i) H1
end
mutual
def rawC (K : PySem.W.Frag) : IC → TT
  | .cmp o a b => tTest (tOp (rCO o) (rawO K a) (rawO K b))
  | .and x => rawK K x
  | _ => fun _ _ _ => False
def rawK (K : PySem.W.Frag) : IK → TT
  | .one c => rawC K c
  | .more c x => tAnd (rawC K c) (rawK K x)
end
/-- the calls are of helpers that take an int and give an int -/
def IntF (M : Mg) (Γ : Tab) : Prop := ∀ (n : Nat) (x : Str), Γ.fns[n]? = some x → ∀ (i : Int) (Q : D → Prop) (XX : Exc → Prop), (∀ j : Int, Q (.int j)) → (M.Φ n [.d (.int i)]).run Q XX
theorem pe_False {X : Cx} {e : Expr} : PE X e (fun _ _ _ => False) := ⟨fun _ _ _ _ _ _ h => h.elim⟩
theorem pt_False {X : Cx} {e : Expr} : PT X e (fun _ _ _ => False) := ⟨fun _ _ _ _ _ _ h => h.elim⟩
theorem pw_False {X : Cx} {e : Expr} : PW X e (fun _ _ _ => False) := ⟨fun _ _ _ _ _ _ _ h => h.elim⟩
theorem okRAO {X : Cx} (o : AO) : OpR X (binaryOp o.ast) (rAO X.K o) := by
  cases o
  · exact op_add
  · exact op_sub
  · exact op_mul
  · exact op_mod
  · exact op_fdiv
theorem okRCO {X : Cx} (o : CO) : OpR X (compareOp o.ast) (rCO o) := by
  cases o <;> first
    | exact op_lt
    | exact op_le
    | exact fun _ _ _ _ _ _ _ _ _ _ _ _ h => h.elim
mutual
theorem okRE {X : Cx} {Wx : WX} {Γ : Tab} {M : Mg} : ∀ (t : IE) (e : Expr), Fit X Wx Γ M → IntF M Γ → chkE Γ t e = true → PE X e (rawE X.K t)
  | .v i, e, φ, ι, h => by
    rw [chkE] at h
    obtain ⟨x, p, rfl, h⟩ := onNm_ok h
    obtain ⟨a, b, c, d⟩ := var_ok φ h
    exact pe_var a b c d
  | .i n, e, φ, ι, h => by
    rw [chkE] at h
    obtain ⟨c, j, p, rfl, h⟩ := onCst_ok h
    rw [dec1 h]
    exact pe_int
  | .ix a b, e, φ, ι, h => by
    rw [chkE] at h
    obtain ⟨x, y, p, rfl, h⟩ := onIx_ok h
    obtain ⟨h0, h⟩ := and2 h
    obtain ⟨h1, h2⟩ := and2 h
    exact pe_ix ix_seq (okRO a x φ ι h1) (okRO b y φ ι h2) (plainIx_of (nSl_ok h0))
  | .sl a lo hi, e, φ, ι, h => by
    rw [chkE] at h
    obtain ⟨x, y, p, rfl, h⟩ := onIx_ok h
    obtain ⟨h0, h⟩ := and2 h
    obtain ⟨l, u, p2, rfl, h⟩ := onSl_ok h
    obtain ⟨h1, h2⟩ := and2 h
    exact pe_slice sl_list (okRO a x φ ι h0) (okRP lo l φ ι h1) (okRP hi u φ ι h2)
  | .bin o a b, e, φ, ι, h => by
    rw [chkE] at h
    obtain ⟨x, o', y, p, rfl, h⟩ := onBin_ok h
    obtain ⟨h0, h⟩ := and2 h
    obtain ⟨h1, h2⟩ := and2 h
    rw [dec1 h0]
    exact pe_op (okRAO o) (okRO a x φ ι h1) (okRO b y φ ι h2)
  | .f1 f a, e, φ, ι, h => by
    rw [chkE] at h
    obtain ⟨x, pp, es, p, rfl, h⟩ := onCall_ok h
    obtain ⟨h0, h⟩ := and2 h
    obtain ⟨hc, h0⟩ := and2 h0
    obtain ⟨h1, h2⟩ := and2 h0
    obtain ⟨y, rfl, h⟩ := on1_ok h
    obtain ⟨h3, h4⟩ := and2 h
    have hx := dec1 h1
    subst hx
    obtain ⟨g1, g2, g3⟩ := blt_ok φ h2
    cases f <;> first
      | exact pe_callB call_lenG g1 g3 boot_len' (pa_cons (okRO a y φ ι h4) pa_nil (star1 (ns_ok h3) X.env)) (by decide +kernel) g2 (star1 (ns_ok h3) X.env) (back0 _ _)
      | exact pe_callTy call_int1 g1 g3 (by decide +kernel) (pa_cons (okRO a y φ ι h4) pa_nil (star1 (ns_ok h3) X.env)) (by decide +kernel) g2 (star1 (ns_ok h3) X.env) (back0 _ _)
      | exact pe_False
  | .call n (.d t .nil), e, φ, ι, h => by
    rw [chkE] at h
    obtain ⟨x, pp, es, p, rfl, h⟩ := onCall_ok h
    obtain ⟨h0, h⟩ := and2 h
    obtain ⟨h1, h2⟩ := and2 h0
    rw [← φ.sc] at h2
    obtain ⟨g1, g2⟩ := gloB_ok h2
    obtain ⟨k, f, fd, ps, r1, r2, r3, r4, r5, r6⟩ := φ.fns n x (dec1 h1)
    rw [chkA] at h
    obtain ⟨y, r, rfl, h⟩ := onC_ok h
    obtain ⟨h3, h⟩ := and2 h
    obtain ⟨h4, h5⟩ := and2 h
    rw [chkA] at h5
    cases r with
    | cons _ _ => cases h5
    | nil =>
      have hl : ps.length = 1 := (r6 [.d (.int 0)] (fun _ => True) (fun _ => True) (ι n x (dec1 h1) 0 _ _ fun _ => trivial)).symm
      have r5' := FnOk.imp (sp' := fun vs H Q E => ∃ i, vs = [V.int i] ∧ ∀ (j : Int) H', Grow H H' → Q (.int j) H') r5 fun vs H Q E ⟨i, e1, q⟩ => by
        subst e1
        refine ⟨hl.symm, none, fun _ => none, [.d (.int i)], ⟨fun a o z => (nomatch z), fun a z => (nomatch z)⟩, .cons Rep.int .nil, ι n x (dec1 h1) i _ _ fun j γ' H' v e r => ?_⟩
        rw [r.ofInt]
        exact q j H' fun a o z => e.same a o (fun w => nomatch w) z
      exact pe_callS (CX := L2.CX X.prog X.w) (E := WE Wx) r5' r1 g1 r2 r3 r4 (fun σ => passAt φ.tk σ) (pa_cons (okRE t y φ ι h4) pa_nil (star1 (ns_ok h3) X.env)) g2 (star1 (ns_ok h3) X.env) (back0 _ _)
  | .call _ .nil, e, φ, ι, h => pe_False
  | .call _ (.pool _ _), e, φ, ι, h => pe_False
  | .call _ (.d _ (.d _ _)), e, φ, ι, h => pe_False
  | .call _ (.d _ (.pool _ _)), e, φ, ι, h => pe_False
  | .fr f, e, φ, ι, h => by
    rw [chkE] at h
    exact okRF f e φ ι h
  | .none, e, φ, ι, h => pe_False
  | .b _, e, φ, ι, h => pe_False
  | .s _, e, φ, ι, h => pe_False
  | .g _, e, φ, ι, h => pe_False
  | .tup _, e, φ, ι, h => pe_False
  | .cmp _ _ _, e, φ, ι, h => pe_False
  | .chn _ _ _ _ _, e, φ, ι, h => pe_False
  | .not _, e, φ, ι, h => pe_False
  | .and _, e, φ, ι, h => pe_False
  | .or _, e, φ, ι, h => pe_False
  | .ife _ _ _, e, φ, ι, h => pe_False
  | .neg _, e, φ, ι, h => pe_False
  | .f2 _ _ _, e, φ, ι, h => pe_False
  | .isi _ _, e, φ, ι, h => pe_False
  | .idx _ _, e, φ, ι, h => pe_False
  | .rvt _, e, φ, ι, h => pe_False
  | .bad, e, φ, ι, h => pe_False
  | .kix _ _ _, e, φ, ι, h => pe_False
  | .dget _ _, e, φ, ι, h => pe_False
  | .dget2 _ _ _, e, φ, ι, h => pe_False
  | .dsub _ _ _, e, φ, ι, h => pe_False
  | .dct _ _, e, φ, ι, h => pe_False
  | .cnt _ _, e, φ, ι, h => pe_False
theorem okRO {X : Cx} {Wx : WX} {Γ : Tab} {M : Mg} : ∀ (t : IO) (e : Expr), Fit X Wx Γ M → IntF M Γ → chkO Γ t e = true → PE X e (rawO X.K t)
  | .e t, e, φ, ι, h => by
    rw [chkO] at h
    exact okRE t e φ ι h
  | .own i, e, φ, ι, h => by
    rw [chkO] at h
    obtain ⟨x, p, rfl, h⟩ := onNm_ok h
    obtain ⟨a, b, c, d⟩ := var_ok φ h
    exact pe_var a b c d
theorem okRF {X : Cx} {Wx : WX} {Γ : Tab} {M : Mg} : ∀ (t : IF) (e : Expr), Fit X Wx Γ M → IntF M Γ → chkF Γ t e = true → PE X e (rawF X.K t)
  | .lst l, e, φ, ι, h => by
    rw [chkF] at h
    obtain ⟨es, p, rfl, h⟩ := onLst_ok h
    exact pe_lst (okRL l es φ ι h)
  | .list a, e, φ, ι, h => by
    rw [chkF] at h
    obtain ⟨x, pp, es, p, rfl, h⟩ := onCall_ok h
    obtain ⟨h0, h⟩ := and2 h
    obtain ⟨hc, h0⟩ := and2 h0
    obtain ⟨h1, h2⟩ := and2 h0
    obtain ⟨y, rfl, h⟩ := on1_ok h
    obtain ⟨h3, h4⟩ := and2 h
    have hx := dec1 h1
    subst hx
    obtain ⟨g1, g2, g3⟩ := blt_ok φ h2
    exact pe_callTy call_list_ofL g1 g3 (by decide +kernel) (pa_cons (okRO a y φ ι h4) pa_nil (star1 (ns_ok h3) X.env)) (by decide +kernel) g2 (star1 (ns_ok h3) X.env) (back0 _ _)
  | .cat _ _, e, φ, ι, h => pe_False
  | .rep _ _, e, φ, ι, h => pe_False
  | .srtS _, e, φ, ι, h => pe_False
  | .srtL _, e, φ, ι, h => pe_False
  | .rg1 _, e, φ, ι, h => pe_False
  | .rg2 _ _, e, φ, ι, h => pe_False
  | .lc _ _ _ _ _, e, φ, ι, h => pe_False
  | .lc2 _ _ _ _ _ _ _ _ _, e, φ, ι, h => pe_False
theorem okRL {X : Cx} {Wx : WX} {Γ : Tab} {M : Mg} : ∀ (t : IL) (es : List Expr), Fit X Wx Γ M → IntF M Γ → chkL Γ t es = true → PA X es (rawL X.K t)
  | .nil, es, φ, ι, h => by
    rw [chkL] at h
    cases es with
    | nil => exact pa_nil
    | cons _ _ => cases h
  | .cons t l, es, φ, ι, h => by
    rw [chkL] at h
    obtain ⟨e, r, rfl, h⟩ := onC_ok h
    obtain ⟨h1, h⟩ := and2 h
    obtain ⟨h2, h3⟩ := and2 h
    exact pa_cons (okRE t e φ ι h2) (okRL l r φ ι h3) (star1 (ns_ok h1) _)
theorem okRP {X : Cx} {Wx : WX} {Γ : Tab} {M : Mg} : ∀ (t : IP) (o : Option Expr), Fit X Wx Γ M → IntF M Γ → chkP Γ t o = true → PO X o (rawP X.K t)
  | .no, o, φ, ι, h => by
    rw [chkP] at h
    cases o with
    | none => exact po_none
    | some _ => cases h
  | .one t, o, φ, ι, h => by
    rw [chkP] at h
    obtain ⟨e, rfl, h⟩ := onO_ok h
    exact po_of (po_some (okRE t e φ ι h)) fun σ H Q q => q
theorem okRC {X : Cx} {Wx : WX} {Γ : Tab} {M : Mg} : ∀ (t : IC) (e : Expr), Fit X Wx Γ M → IntF M Γ → chkC Γ t e = true → PT X e (rawC X.K t)
  | .cmp o a b, e, φ, ι, h => by
    rw [chkC] at h
    obtain ⟨x, o', y, p, rfl, h⟩ := onCmp_ok h
    obtain ⟨h0, h⟩ := and2 h
    obtain ⟨h3, h⟩ := and2 h
    obtain ⟨h1, h2⟩ := and2 h
    rw [dec1 h0]
    exact pt_cmpR (okRCO o) (okRO a x φ ι h1) (okRO b y φ ι h2) (nSet_mark h3 _)
  | .and x, e, φ, ι, h => by
    rw [chkC] at h
    obtain ⟨o, es, p, rfl, h⟩ := onBo_ok h
    obtain ⟨h0, h⟩ := and2 h
    rw [dec1 h0]
    exact (okRK x es p φ ι h).pt
  | .tru _, e, φ, ι, h => pt_False
  | .chn _ _ _ _ _, e, φ, ι, h => pt_False
  | .kin _ _ _ _, e, φ, ι, h => pt_False
  | .not _, e, φ, ι, h => pt_False
  | .or _, e, φ, ι, h => pt_False
theorem okRK {X : Cx} {Wx : WX} {Γ : Tab} {M : Mg} : ∀ (t : IK) (es : List Expr) (p : Pos), Fit X Wx Γ M → IntF M Γ → chkK Γ t es = true → PW X (.BoolOp .And es p) (rawK X.K t)
  | .one c, es, p, φ, ι, h => by
    rw [chkK] at h
    obtain ⟨e, rfl, h⟩ := on1_ok h
    exact pw_and1 (okRC c e φ ι h)
  | .more c x, es, p, φ, ι, h => by
    rw [chkK] at h
    obtain ⟨e, r, rfl, h⟩ := onC_ok h
    obtain ⟨h1, h⟩ := and2 h
    obtain ⟨h2, h3⟩ := and2 h
    have hx := okRK x r p φ ι h3
    obtain ⟨b, r', rfl⟩ := ne_ok h2
    exact pw_and (okRC c e φ ι h1) hx
end
end Ev

/-! Ev21: the pool's helpers. -/
namespace Ev
open PySem PySem.Spec PyProof.Rows L2
mutual
def rawS (K : PySem.W.Frag) : IS → TS
  | .ret e => tRet (rawE K e)
  | .set i e => tAsg (rawE K e) (gName i)
  | .setI i j e => tAsg (rawE K e) (gSub (tVar i) (rawE K j) rSetL)
  | .ife c a b => tIfS (rawC K c) (rawT K a) (rawT K b)
  | .for_ (.nm i) (.seq e) b => tFor (iList K (rawE K e)) (gName i) (rawT K b)
  | _ => fun _ _ _ => False
def rawT (K : PySem.W.Frag) : IT → TS
  | .nil => tNext
  | .cons s t => tSeq (rawS K s) (rawT K t)
end
theorem ps_False {X : Cx} {st : Stmt} : PS X st (fun _ _ _ => False) := ⟨fun _ _ _ _ _ _ h => h.elim⟩
mutual
theorem okRS {X : Cx} {Wx : WX} {Γ : Tab} {M : Mg} : ∀ (t : IS) (st : Stmt), FitS X Wx Γ M → IntF M Γ → chkS Γ t st = true → PS X st (rawS X.K t)
  | .ret e, st, φ, ι, h => by
    rw [chkS] at h
    obtain ⟨o, pos, rfl, h⟩ := onRet_ok h
    obtain ⟨v, rfl, h⟩ := onO_ok h
    exact ps_ret (okRE e v φ.toFit ι h)
  | .set i e, st, φ, ι, h => by
    rw [chkS] at h
    obtain ⟨tg, v, pos, rfl, h⟩ := onAsg_ok h
    obtain ⟨ht, h⟩ := and2 h
    obtain ⟨h3, h4⟩ := and2 h
    obtain ⟨x, px, rfl, ht⟩ := onNm_ok ht
    obtain ⟨h1, h2⟩ := and2 ht
    obtain ⟨q1, q2⟩ := φ.sto x (lokB_ok h2)
    exact ps_set (nd_ok φ.toFit) (by rw [φ.N]; exact dec1 h1) q1 (okRE e v φ.toFit ι h4) (sw_not (not_lc h3) _ _ _) q2
  | .setI i j e, st, φ, ι, h => by
    rw [chkS] at h
    obtain ⟨tg, v, pos, rfl, h⟩ := onAsg_ok h
    obtain ⟨o, y, psub, rfl, h⟩ := onIx_ok h
    obtain ⟨h1, h⟩ := and2 h
    obtain ⟨h2, h3⟩ := and2 h
    obtain ⟨h4, h5⟩ := and2 h2
    obtain ⟨h6, h7⟩ := and2 h3
    obtain ⟨x, px, rfl, a, b, c, d⟩ := varB_ok φ.toFit h1
    exact ps_asg (okRE e v φ.toFit ι h7) (pg_sub (pe_var a b c d) (okRE j y φ.toFit ι h5) set_list (fun v => by cases y <;> first | rfl | exact absurd rfl (nSl_ok h4 _ _ _ _))) (sw_sole (not_lc h6) _ _) rfl rfl
  | .ife c a b, st, φ, ι, h => by
    rw [chkS] at h
    obtain ⟨z, x, y, pos, rfl, h⟩ := onIf_ok h
    obtain ⟨h1, h⟩ := and2 h
    obtain ⟨h2, h3⟩ := and2 h
    exact ps_if (okRC c z φ.toFit ι h1) (okRT a x φ ι h2) (okRT b y φ ι h3)
  | .for_ (.nm k) (.seq e) b, st, φ, ι, h => by
    rw [chkS] at h
    obtain ⟨tg, it, x, pos, rfl, h⟩ := onFor_ok h
    obtain ⟨h1, h⟩ := and2 h
    obtain ⟨hc, h1⟩ := and2 h1
    obtain ⟨h2, h3⟩ := and2 h1
    obtain ⟨h4, h⟩ := and2 h
    obtain ⟨h5, h6⟩ := and2 h
    rw [chkI] at h4
    exact ps_for (φ.po hc) (φ.calm hc) (pi_list (okRE e it φ.toFit ι h4)) (pg_nmT (N := Γ.N) φ.toFit h5) (okRT b x φ ι h6) (nSet_ok h2 _)
  | .for_ (.tup _) _ _, st, φ, ι, h => ps_False
  | .for_ (.nm _) (.r1 _) _, st, φ, ι, h => ps_False
  | .for_ (.nm _) (.r2 _ _) _, st, φ, ι, h => ps_False
  | .for_ (.nm _) (.rev _) _, st, φ, ι, h => ps_False
  | .for_ (.nm _) (.zip _ _) _, st, φ, ι, h => ps_False
  | .pass, st, φ, ι, h => ps_False
  | .brk, st, φ, ι, h => ps_False
  | .cnt, st, φ, ι, h => ps_False
  | .retN, st, φ, ι, h => ps_False
  | .drop _, st, φ, ι, h => ps_False
  | .setF _ _, st, φ, ι, h => ps_False
  | .setL _ _, st, φ, ι, h => ps_False
  | .asg _ _, st, φ, ι, h => ps_False
  | .par _ _, st, φ, ι, h => ps_False
  | .whl _ _, st, φ, ι, h => ps_False
  | .frz _ _, st, φ, ι, h => ps_False
  | .app _ _, st, φ, ι, h => ps_False
  | .ext _ _, st, φ, ι, h => ps_False
  | .swp _ _ _ _, st, φ, ι, h => ps_False
  | .pop _ _ _, st, φ, ι, h => ps_False
  | .appPop _ _ _, st, φ, ι, h => ps_False
  | .aug _ _, st, φ, ι, h => ps_False
  | .newD _, st, φ, ι, h => ps_False
  | .putD _ _ _, st, φ, ι, h => ps_False
  | .raise_ _ _, st, φ, ι, h => ps_False
  | .try_ _ _ _, st, φ, ι, h => ps_False
  | .bad, st, φ, ι, h => ps_False
theorem okRT {X : Cx} {Wx : WX} {Γ : Tab} {M : Mg} : ∀ (t : IT) (ss : List Stmt), FitS X Wx Γ M → IntF M Γ → chkT Γ t ss = true → PSs X ss (rawT X.K t)
  | .nil, ss, φ, ι, h => by
    rw [chkT] at h
    cases ss with
    | nil => exact pss_nil
    | cons _ _ => cases h
  | .cons s t, ss, φ, ι, h => by
    rw [chkT] at h
    obtain ⟨x, r, rfl, h⟩ := onC_ok h
    obtain ⟨h1, h2⟩ := and2 h
    exact pss_cons (okRS s x φ ι h1) (okRT t r φ ι h2)
end

/-! ### the helpers' plain forms (pool 0, many 1, cell 2, mixed 3, value 4) -/
abbrev iV (k : Nat) : IO := .e (.v k)
abbrev iI (k : Int) : IO := .e (.i k)
abbrev iP (k : Int) : IE := .ix (iV 0) (iI k)
def drawIR : IT :=
  .cons (.ife (.and (.more (.cmp .le (.e (iP 2)) (iI 0)) (.one (.cmp .lt (.e (iP 1)) (.e (.f1 .len (.e (iP 0))))))))
    (.cons (.set 2 (.ix (.e (iP 0)) (.e (iP 1)))) (.cons (.setI 0 (.i 1) (.bin .add (.e (iP 1)) (iI 1))) (.cons (.setI 0 (.i 2) (.v 2))
      (.cons (.ife (.cmp .lt (iV 2) (iI 1000000000000000000)) (.cons (.setI 0 (.i 2) (.call 0 (.d (.v 2) .nil))) .nil) .nil) .nil)))) .nil)
  (.cons (.setI 0 (.i 3) (.bin .add (.e (iP 3)) (iI 1)))
  (.cons (.ife (.cmp .le (.e (iP 2)) (iI 0))
    (.cons (.set 3 (.bin .mod (.e (.f1 .int (.e (.bin .add (.e (.bin .add (.e (.bin .mul (.e (iP 4)) (iI 48271))) (.e (.bin .mul (.e (iP 3)) (iI 69621))))) (iI 1))))) (iI 2147483647)))
    (.cons (.set 3 (.bin .mod (.e (.f1 .int (.e (.bin .add (.e (.bin .mul (iV 3) (iI 16807))) (.e (iP 3)))))) (iI 2147483629)))
    (.cons (.ret (.bin .mod (.e (.bin .div (iV 3) (iI 5))) (iV 1))) .nil))) .nil)
  (.cons (.set 4 (.bin .mod (.e (.f1 .int (.e (iP 2)))) (iV 1)))
  (.cons (.setI 0 (.i 2) (.bin .div (.e (iP 2)) (iV 1)))
  (.cons (.ret (.v 4)) .nil)))))
/-- script 0, salt 1, cell 2 -/
def poolIR : IT :=
  .cons (.set 1 (.i 7))
  (.cons (.for_ (.nm 2) (.seq (.sl (iV 0) .no (.one (.i 63)))) (.cons (.set 1 (.bin .mod (.e (.f1 .int (.e (.bin .add (.e (.bin .mul (iV 1) (iI 31))) (iV 2))))) (iI 1000003))) .nil))
  (.cons (.ret (.fr (.lst (.cons (.fr (.list (iV 0))) (.cons (.i 0) (.cons (.i 0) (.cons (.i 0) (.cons (.v 1) .nil)))))))) .nil))
end Ev

/-! Ev22: a draw gives any number below; the pool is made. -/
namespace Ev
open PySem PySem.Spec PyProof.Rows L2
def F_draw : List Ar → W Exc D
  | [.pool, .d (.int n)] => (W.ask (n < 1073741824)).bind fun _ => (W.draw n).bind fun v => .ret (.int v)
  | _ => .stuck
section
variable {K : PySem.W.Frag} {a c : Addr} {ns : List Int} {H0 : Hp} {σ : St} {H : Hp} {n : Int} {γ : Hp}
abbrev pl5 (c : Addr) (i j k l : Int) : List V := [.ref c, .int i, .int j, .int k, .int l]
/-- the pool as it stands, all else kept -/
structure PJ (K : PySem.W.Frag) (γ H0 : Hp) (a c : Addr) (ns : List Int) (H : Hp) : Prop where
  keep : ∀ b o, b ≠ a → H0 b = some o → H b = some o
  at_ : ∃ i j k l, H a = some (.lst (pl5 c i j k l)) ∧ 0 ≤ i
theorem rP {Q : VK} {i j k l m : Int} {v : V} (h0 : σ[0]? = some (some (.ref a))) (hH : H a = some (.lst (pl5 c i j k l))) (hv : atI (pl5 c i j k l) m = some v) (q : Q v H) : rawE K (iP m) σ H Q :=
  ⟨_, h0, .inl ⟨a, _, m, v, rfl, rfl, .of hH, hv, q⟩⟩
theorem sP {e : IE} {m : Int} {D : Ends} {i j k l : Int} {t : Nat} (h0 : σ[0]? = some (some (.ref a))) (ht : ixN 5 m = some t)
    (h : rawE K e σ H fun x H1 => ∃ i j k l, H1 a = some (.lst (pl5 c i j k l)) ∧ D.nx σ (upd H1 a (.lst ((pl5 c i j k l).set t x)))) (mono : ∀ Q Q' : VK, (∀ x H', Q x H' → Q' x H') → rawE K e σ H Q → rawE K e σ H Q') : rawS K (.setI 0 (.i m) e) D σ H := by
  refine mono _ _ (fun x H1 q => ?_) h
  obtain ⟨i, j, k, l, e1, q⟩ := q
  exact ⟨.ref a, h0, a, _, m, t, rfl, rfl, e1, ht, q⟩
theorem PJ.set (J : PJ K γ H0 a c ns H) {i j k l : Int} (hi : 0 ≤ i) : PJ K γ H0 a c ns (upd H a (.lst (pl5 c i j k l))) :=
  ⟨fun b o hb q => by rw [upd_ne hb]; exact J.keep b o hb q, i, j, k, l, upd_same, hi⟩
theorem PJ.grow (J : PJ K γ H0 a c ns H) {H' : Hp} (g : Grow H H') : PJ K γ H0 a c ns H' :=
  ⟨fun b o hb q => g b o (J.keep b o hb q), let ⟨i, j, k, l, e, h⟩ := J.at_; ⟨i, j, k, l, g _ _ e, h⟩⟩
theorem cmul_r {i j : Int} (h : -(2 ^ 64) < j ∧ j < 2 ^ 64) : CMul i j := .inr h
def tailIR : IT :=
  .cons (.setI 0 (.i 3) (.bin .add (.e (iP 3)) (iI 1)))
  (.cons (.ife (.cmp .le (.e (iP 2)) (iI 0))
    (.cons (.set 3 (.bin .mod (.e (.f1 .int (.e (.bin .add (.e (.bin .add (.e (.bin .mul (.e (iP 4)) (iI 48271))) (.e (.bin .mul (.e (iP 3)) (iI 69621))))) (iI 1))))) (iI 2147483647)))
    (.cons (.set 3 (.bin .mod (.e (.f1 .int (.e (.bin .add (.e (.bin .mul (iV 3) (iI 16807))) (.e (iP 3)))))) (iI 2147483629)))
    (.cons (.ret (.bin .mod (.e (.bin .div (iV 3) (iI 5))) (iV 1))) .nil))) .nil)
  (.cons (.set 4 (.bin .mod (.e (.f1 .int (.e (iP 2)))) (iV 1)))
  (.cons (.setI 0 (.i 2) (.bin .div (.e (iP 2)) (iV 1)))
  (.cons (.ret (.v 4)) .nil))))
theorem get_set_ne {σ : St} {i j : Nat} {x : Option V} (h : i ≠ j) : (σ.set i x)[j]? = σ[j]? := List.getElem?_set_ne h
theorem tail_ok {D : Ends} (hn0 : 0 < n) (hn : n < 1073741824) (hl : σ.length = 5) (h0 : σ[0]? = some (some (.ref a))) (h1 : σ[1]? = some (some (.int n))) (J : PJ K γ H0 a c ns H)
    (fin : ∀ H' v, PJ K γ H0 a c ns H' → 0 ≤ v → v < n → D.rt (.int v) H') : rawT K tailIR D σ H := by
  obtain ⟨i, j, k, l, e, hi⟩ := J.at_
  -- pool[3] = pool[3] + 1
  refine ⟨_, h0, .inl ⟨a, _, 3, .int k, rfl, rfl, .of e, rfl, k, 1, rfl, rfl, .ref a, h0, a, _, 3, 3, rfl, rfl, e, rfl, ?_⟩⟩
  have J1 : PJ K γ H0 a c ns (upd H a (.lst (pl5 c i j (k + 1) l))) := J.set hi
  show tSeq _ _ D σ (upd H a (.lst (pl5 c i j (k + 1) l)))
  have e1 : upd H a (.lst (pl5 c i j (k + 1) l)) a = some (.lst (pl5 c i j (k + 1) l)) := upd_same
  -- if pool[2] <= 0
  refine ⟨_, h0, .inl ⟨a, _, 2, .int j, rfl, rfl, .of e1, rfl, j, 0, rfl, rfl, _, rfl, ?_⟩⟩
  by_cases hj : j ≤ 0
  · rw [show decide (j ≤ 0) = true from by simpa using hj]
    refine ⟨_, h0, .inl ⟨a, _, 4, .int l, rfl, rfl, .of e1, rfl, l, 48271, rfl, rfl, cmul_r (by decide), _, h0, .inl ⟨a, _, 3, .int (k + 1), rfl, rfl, .of e1, rfl, (k + 1), 69621, rfl, rfl, cmul_r (by decide), ?_⟩⟩⟩
    refine ⟨_, _, rfl, rfl, _, _, rfl, rfl, .inl ⟨_, rfl, _, _, rfl, rfl, (show (0 : Int) < 2147483647 by decide), ?_⟩⟩
    have g1 : ∀ x : V, (σ.set 3 (some x))[3]? = some (some x) := fun x => List.getElem?_set_self (by omega)
    refine ⟨_, g1 _, _, _, rfl, rfl, cmul_r (by decide), _, (get_set_ne (by decide)).trans h0, .inl ⟨a, _, 3, .int (k + 1), rfl, rfl, .of e1, rfl, _, _, rfl, rfl, .inl ⟨_, rfl, _, _, rfl, rfl, (show (0 : Int) < 2147483629 by decide), ?_⟩⟩⟩
    have g2 : ∀ x y : V, ((σ.set 3 (some x)).set 3 (some y))[3]? = some (some y) := fun x y => List.getElem?_set_self (by simp; omega)
    refine ⟨_, g2 _ _, _, _, rfl, rfl, ⟨by decide, by decide⟩, _, (get_set_ne (by decide)).trans ((get_set_ne (by decide)).trans h1), _, _, rfl, rfl, hn0, ?_⟩
    exact fin _ _ J1 (Int.emod_nonneg _ (by omega)) (Int.emod_lt_of_pos _ hn0)
  · rw [show decide (j ≤ 0) = false from by simpa using hj]
    refine ⟨_, h0, .inl ⟨a, _, 2, .int j, rfl, rfl, .of e1, rfl, .inl ⟨_, rfl, _, h1, _, _, rfl, rfl, hn0, ?_⟩⟩⟩
    have g0 : (σ.set 4 (some (V.int (j % n))))[0]? = some (some (.ref a)) := (get_set_ne (by decide)).trans h0
    have g1 : (σ.set 4 (some (V.int (j % n))))[1]? = some (some (.int n)) := (get_set_ne (by decide)).trans h1
    refine ⟨_, g0, .inl ⟨a, _, 2, .int j, rfl, rfl, .of e1, rfl, _, g1, _, _, rfl, rfl, ⟨hn0, hn⟩, _, g0, a, _, 2, 2, rfl, rfl, e1, rfl, ?_⟩⟩
    refine ⟨_, List.getElem?_set_self (by omega), ?_⟩
    exact fin _ _ (J1.set hi) (Int.emod_nonneg _ (by omega)) (Int.emod_lt_of_pos _ hn0)
theorem draw_pure {D : Ends} (hn0 : 0 < n) (hn : n < 1073741824) (hl : σ.length = 5) (h0 : σ[0]? = some (some (.ref a))) (h1 : σ[1]? = some (some (.int n))) (J : PJ K γ H0 a c ns H) (hs : ∀ H', PJ K γ H0 a c ns H' → SqL K H' c (ns.map V.int))
    (fin : ∀ H' v, PJ K γ H0 a c ns H' → 0 ≤ v → v < n → D.rt (.int v) H') : rawT K drawIR D σ H := by
  obtain ⟨i, j, k, l, e, hi⟩ := J.at_
  have tl : ∀ σ' H', σ'.length = 5 → σ'[0]? = some (some (.ref a)) → σ'[1]? = some (some (.int n)) → PJ K γ H0 a c ns H' → rawT K tailIR D σ' H' := fun σ' H' q1 q2 q3 q4 => tail_ok hn0 hn q1 q2 q3 q4 fin
  refine ⟨_, h0, .inl ⟨a, _, 2, .int j, rfl, rfl, .of e, rfl, j, 0, rfl, rfl, _, rfl, ?_⟩⟩
  have go : ∀ b : Bool, (b = true → i < ns.length) → (if b = true then rawT K _ { D with nx := rawT K tailIR D } σ H else rawT K .nil { D with nx := rawT K tailIR D } σ H) := fun b hb => by
    cases b with
    | false => exact tl σ H hl h0 h1 J
    | true =>
      have hi2 := hb rfl
      rw [if_pos rfl]
      refine (?_ : rawT K (.cons (.set 2 (.ix (.e (iP 0)) (.e (iP 1)))) (.cons (.setI 0 (.i 1) (.bin .add (.e (iP 1)) (iI 1))) (.cons (.setI 0 (.i 2) (.v 2))
        (.cons (.ife (.cmp .lt (iV 2) (iI 1000000000000000000)) (.cons (.setI 0 (.i 2) (.call 0 (.d (.v 2) .nil))) .nil) .nil) .nil)))) { D with nx := rawT K tailIR D } σ H)
      obtain ⟨m, rfl⟩ : ∃ m : Nat, i = m := ⟨i.toNat, by omega⟩
      have hm : m < ns.length := by omega
      have ha : atI (ns.map V.int) (m : Int) = some (.int ns[m]) := by
        have : ixN (ns.map V.int).length (m : Int) = some m := by
          unfold ixN
          rw [if_pos (by omega), if_pos (by simp; omega)]
          simp
        unfold atI
        rw [this]
        simp [hm]
      refine ⟨_, h0, .inl ⟨a, _, 0, .ref c, rfl, rfl, .of e, rfl, _, h0, .inl ⟨a, _, 1, .int m, rfl, rfl, .of e, rfl, .inl ⟨c, _, (m : Int), .int ns[m], rfl, rfl, hs H J, ha, ?_⟩⟩⟩⟩
      have g0 : (σ.set 2 (some (V.int ns[m])))[0]? = some (some (.ref a)) := (get_set_ne (by decide)).trans h0
      have g1 : (σ.set 2 (some (V.int ns[m])))[1]? = some (some (.int n)) := (get_set_ne (by decide)).trans h1
      have g2 : (σ.set 2 (some (V.int ns[m])))[2]? = some (some (.int ns[m])) := List.getElem?_set_self (by omega)
      have gl : (σ.set 2 (some (V.int ns[m]))).length = 5 := by rw [List.length_set]; exact hl
      refine ⟨_, g0, .inl ⟨a, _, 1, .int m, rfl, rfl, .of e, rfl, (m : Int), 1, rfl, rfl, _, g0, a, _, 1, 1, rfl, rfl, e, rfl, ?_⟩⟩
      have J1 : PJ K γ H0 a c ns (upd H a (.lst (pl5 c (m + 1) j k l))) := J.set (by omega)
      refine ⟨_, g2, _, g0, a, _, 2, 2, rfl, rfl, upd_same, rfl, ?_⟩
      have J2 : PJ K γ H0 a c ns (upd (upd H a (.lst (pl5 c (m + 1) j k l))) a (.lst (pl5 c (m + 1) ns[m] k l))) := J1.set (by omega)
      refine ⟨_, g2, _, _, rfl, rfl, _, rfl, ?_⟩
      by_cases hc : ns[m] < 1000000000000000000
      · rw [show decide (ns[m] < 1000000000000000000) = true from by simpa using hc]
        refine ⟨_, g2, _, rfl, fun w H' g => ?_⟩
        have J3 := J2.grow g
        obtain ⟨i', j', k', l', e', hi'⟩ := J3.at_
        refine ⟨_, g0, a, _, 2, 2, rfl, rfl, e', rfl, ?_⟩
        exact tl _ _ gl g0 g1 (J3.set hi')
      · rw [show decide (ns[m] < 1000000000000000000) = false from by simpa using hc]
        exact tl _ _ gl g0 g1 J2
  by_cases hj : j ≤ 0
  · rw [show decide (j ≤ 0) = true from by simpa using hj]
    refine ⟨_, h0, .inl ⟨a, _, 1, .int i, rfl, rfl, .of e, rfl, _, h0, .inl ⟨a, _, 0, .ref c, rfl, rfl, .of e, rfl, .inl ⟨c, _, rfl, .inl (hs H J), fun hz => ⟨i, _, rfl, rfl, _, rfl, ?_⟩⟩⟩⟩⟩
    exact go _ fun hb => by simpa using hb
  · rw [show decide (j ≤ 0) = false from by simpa using hj]
    exact go false (fun z => nomatch z)
theorem cutV_ints (ns : List Int) (lo hi : Option Int) : ∃ ms : List Int, cutV (ns.map V.int) lo hi = ms.map V.int := by
  unfold cutV
  rw [← List.map_drop, ← List.map_take]
  exact ⟨_, rfl⟩
theorem pool_pure {D : Ends} {s : Addr} (hl : σ.length = 3) (h0 : σ[0]? = some (some (.ref s))) (hs : SqL K H s (ns.map V.int))
    (fin : ∀ (q c p : Addr) (xs : List V) (l : Int), H q = none → (upd H q (.lst xs)) c = none → (upd (upd H q (.lst xs)) c (.lst (ns.map V.int))) p = none → D.rt (.ref p) (upd (upd (upd H q (.lst xs)) c (.lst (ns.map V.int))) p (.lst (pl5 c 0 0 0 l)))) : rawT K poolIR D σ H := by
  have g0 : (σ.set 1 (some (V.int 7)))[0]? = some (some (.ref s)) := (get_set_ne (by decide)).trans h0
  have g1 : (σ.set 1 (some (V.int 7)))[1]? = some (some (.int 7)) := List.getElem?_set_self (by omega)
  refine ⟨_, g0, 63, rfl, s, _, rfl, hs, fun q hq => ⟨q, rfl, ⟨_, .of upd_same⟩, ?_⟩⟩
  obtain ⟨ms, hms⟩ := cutV_ints ns none (some 63)
  rw [hms]
  have rest : ∀ (σ' : St) (l : Int), σ'.length = 3 → σ'[0]? = some (some (.ref s)) → σ'[1]? = some (some (.int l)) →
      rawT K (.cons (.ret (.fr (.lst (.cons (.fr (.list (iV 0))) (.cons (.i 0) (.cons (.i 0) (.cons (.i 0) (.cons (.v 1) .nil)))))))) .nil) D σ' (upd H q (.lst (ms.map V.int))) := fun σ' l e0 e1 e2 => by
    have hs' : SqL K (upd H q (.lst (ms.map V.int))) s (ns.map V.int) := by
      rcases hs with (h | ⟨o, h⟩) | h
      · exact .inl (.inl (by rw [upd_ne (fun z => by rw [z, hq] at h; cases h)]; exact h))
      · exact .inl (.inr ⟨o, by rw [upd_ne (fun z => by rw [z, hq] at h; cases h)]; exact h⟩)
      · exact .inr h
    exact ⟨_, e1, s, _, rfl, hs', fun c hc => ⟨_, e2, small_of (n := 5) (by decide), fun p hp => fin q c p _ l hq hc hp⟩⟩
  refine ⟨fun i m σ' H' => m = ms.length - i ∧ i ≤ ms.length ∧ H' = upd H q (.lst (ms.map V.int)) ∧ σ'.length = 3 ∧ σ'[0]? = some (some (.ref s)) ∧ ∃ l : Int, σ'[1]? = some (some (.int l)), ⟨ms.length, by simp, Nat.zero_le _, rfl, by rw [List.length_set]; exact hl, g0, 7, g1⟩, ?_⟩
  rintro i m σ' H' ⟨rfl, hi, rfl, e0, e1, l, e2⟩
  by_cases hlt : i < ms.length
  · refine .inr ⟨⟨_, .int ms[i], .of upd_same, by simp [hlt]⟩, fun σ'' H'' => H'' = upd H q (.lst (ms.map V.int)) ∧ σ''.length = 3 ∧ σ''[0]? = some (some (.ref s)) ∧ ∃ l : Int, σ''[1]? = some (some (.int l)), fun σ'' H'' z => ⟨ms.length - (i + 1), by omega, rfl, hlt, z⟩, fun x H'' ⟨eH, hx⟩ => ?_⟩
    subst eH
    have hx' := hx _ (.of upd_same)
    rw [List.getElem?_map, List.getElem?_eq_getElem hlt] at hx'
    cases hx'
    have f1 : (σ'.set 2 (some (V.int ms[i])))[1]? = some (some (.int l)) := (get_set_ne (by decide)).trans e2
    have f2 : (σ'.set 2 (some (V.int ms[i])))[2]? = some (some (.int ms[i])) := List.getElem?_set_self (by omega)
    have f0 : (σ'.set 2 (some (V.int ms[i])))[0]? = some (some (.ref s)) := (get_set_ne (by decide)).trans e1
    refine ⟨_, f1, _, _, rfl, rfl, cmul_r (by decide), _, f2, _, _, rfl, rfl, .inl ⟨_, rfl, _, _, rfl, rfl, (show (0 : Int) < 1000003 by decide), ?_⟩⟩
    exact ⟨rfl, by simp; omega, (get_set_ne (by decide)).trans f0, _, List.getElem?_set_self (by simp; omega)⟩
  · have ei : i = ms.length := by omega
    exact .inl ⟨⟨_, .of upd_same, by simp; omega⟩, rest σ' l e0 e1 e2⟩
end
section
variable {P : Program} {w : World} {K : PySem.W.Frag} {mg : Str → Option Value} {base : Heap} {k : Nat} {Γ : Tab} {M : Mg}
theorem draw_ok (md : Md P w K mg base k Γ M) (ι : IntF M Γ) {x qual : Str} {params : Arguments} {body : List Stmt} {scope : Scope} {kws : List (Str × V)} {f : Addr} {fd : FuncData} {N ps : List Str} (F : FunD K x qual params body scope [] kws f fd) (hg : mg x = some (.ref f)) (S : FnScope N ps scope)
    (hN : Γ.N = N) (hsc : Γ.sc = scope) (hss : Γ.ss = scope) (hb : Binds K fd ps []) (hz : ps.length = 2) (hn5 : N.length = 5) (hc : chkT Γ drawIR body = true) : FnAt P w K mg base (k + 1) x F_draw := by
  have hlen : ∀ as Q XX, (F_draw as).run Q XX → as.length = 2 := fun as Q XX h => by
    match as, h with
    | [.pool, .d (.int n)], _ => rfl
  refine ⟨f, fd, ps, hg, F.kp, hb, ?_, fun as Q XX h => by rw [hz]; exact hlen as Q XX h⟩
  refine F.ok S (fun vs H Q E h => h.1) (fun cdv A outer s H vs Q E hr ⟨hl, p, γ, as, st, ha, hm⟩ => ?_)
  have φ := fit_of (E := E) (H := H) (outer := outer) md S hr hN hsc hss
  refine ⟨_, okRT drawIR body φ ι hc, ?_⟩
  match as, ha, hm with
  | [.pool, .d (.int n)], ha, hm =>
    cases ha with
    | cons r1 r =>
      cases r with
      | cons r2 r =>
        cases r
        obtain ⟨a, rfl, hp⟩ := r1
        have e2 := Rep.ofInt r2
        subst e2
        obtain ⟨hn, hn0, hm⟩ := hm
        obtain ⟨ga, c, ns, i, j, kk, l, e1, hq, hi⟩ := st.pool a hp
        have sub : ∀ H', PJ K γ H a c ns H' → Same γ H' := fun H' J b o q => J.keep b o (fun z => by rw [z, ga] at q; cases q) (st.sub b o q)
        refine draw_pure (a := a) (c := c) (ns := ns) (γ := γ) (H0 := H) hn0 hn (by unfold L2.start; simp; omega) rfl rfl ⟨fun _ _ _ q => q, i, j, kk, l, e1, hi⟩ (fun H' J => (sub H' J).seq hq) fun H' v J h0 h1 => ?_
        refine hm v h0 h1 γ H' _ ⟨Same.refl _, fun _ _ q => .inl q, fun b o hb q => J.keep b o (fun z => hb (by rw [z]; exact hp)) q, sub H' J, fun b hb => ?_⟩ .int
        rw [hp] at hb
        cases hb
        obtain ⟨i', j', k', l', e', hi'⟩ := J.at_
        exact ⟨ga, c, ns, i', j', k', l', e', hq, hi'⟩
/-- the pool's maker -/
def spPool (K : PySem.W.Frag) : Sp := fun vs H Q _ => ∃ (s : Addr) (ns : List Int), vs = [.ref s] ∧ SqL K H s (ns.map V.int) ∧ ∀ (q c p : Addr) (xs : List V) (l : Int), H q = none → (upd H q (.lst xs)) c = none → (upd (upd H q (.lst xs)) c (.lst (ns.map V.int))) p = none →
  Q (.ref p) (upd (upd (upd H q (.lst xs)) c (.lst (ns.map V.int))) p (.lst (pl5 c 0 0 0 l)))
theorem pool_ok (md : Md P w K mg base k Γ M) (ι : IntF M Γ) {x qual : Str} {params : Arguments} {body : List Stmt} {scope : Scope} {kws : List (Str × V)} {f : Addr} {fd : FuncData} {N ps : List Str} (F : FunD K x qual params body scope [] kws f fd) (S : FnScope N ps scope)
    (hN : Γ.N = N) (hsc : Γ.sc = scope) (hss : Γ.ss = scope) (hz : ps.length = 1) (hn3 : N.length = 3) (hc : chkT Γ poolIR body = true) : FnOk P w K mg base (L2.CX P w) (k + 1) f fd ps (spPool K) := by
  refine F.ok S (fun vs H Q E ⟨s, ns, e, _⟩ => by rw [e, hz]; rfl) (fun cdv A outer s H vs Q E hr ⟨sa, ns, e, hs, q⟩ => ?_)
  have φ := fit_of (E := E) (H := H) (outer := outer) md S hr hN hsc hss
  subst e
  exact ⟨_, okRT poolIR body φ ι hc, pool_pure (by unfold L2.start; simp; omega) rfl hs q⟩
end
end Ev

/-! Ev23: the law's own def. -/
namespace Ev
open PySem PySem.Spec PyProof.Rows L2
def spLaw (K : PySem.W.Frag) : Sp := fun vs H Q _ => ∃ (a : Addr) (ns : List Int), vs = [.ref a] ∧ SqL K H a (ns.map V.int) ∧ ∀ H', Q (.bl true) H'
def lawQ : Out → Prop
  | .rt d => d = .bool true
  | _ => False
def chkPool (Γ : Tab) (ip : Nat) (st : Stmt) : Bool := onAsg st fun tg v => tgB Γ.N Γ.ss ip tg && onCall v fun x es => (decide (x = "_law_pool") && gloB Γ.sc x) && on1 es fun y => ns y && varB Γ 0 y
section
variable {P : Program} {w : World} {K : PySem.W.Frag} {mg : Str → Option Value} {base : Heap} {k : Nat} {Γ : Tab} {M : Mg}
def PoolFn (P : Program) (w : World) (K : PySem.W.Frag) (mg : Str → Option Value) (base : Heap) (k : Nat) : Prop :=
  ∃ f fd ps, mg "_law_pool" = some (.ref f) ∧ PySem.W.keepIn K (.ref f) = true ∧ Binds K fd ps [] ∧ FnOk P w K mg base (L2.CX P w) k f fd ps (spPool K)
theorem un_rep {σ : St} {n ip : Nat} {s : Sl} {γ H H0 : Hp} {p : Option Addr} {x : V} (hl : σ.length = n) (hs : SlotR K p H0 γ H (some x) s) (no : ∀ xs, s ≠ .own xs) (nod : ∀ xs, s ≠ .dic xs := by intro _ e; cases e) : EnvR K p H0 γ H (σ.set ip (some x)) ((List.replicate n Sl.un).set ip s) := by
  have e0 : EnvR K p H0 γ H σ (List.replicate n Sl.un) := by
    refine ⟨by simp [hl], fun i t q => ?_, fun i j xs ys hij q1 q2 => ?_, fun i j xs ys hij q1 q2 => ?_⟩
    · rw [List.getElem?_replicate] at q
      split at q
      · rename_i hi
        cases q
        exact ⟨σ[i]'(by omega), List.getElem?_eq_getElem (by omega), trivial⟩
      · cases q
    · rw [List.getElem?_replicate] at q1
      split at q1 <;> cases q1
    · rw [List.getElem?_replicate] at q1
      split at q1 <;> cases q1
  exact e0.set hs (fun xs e => absurd e (no xs)) (fun xs e => absurd e (nod xs))
theorem law_ok (md : Md P w K mg base k Γ M) (pf : PoolFn P w K mg base k) {qual : Str} {params : Arguments} {st : Stmt} {rest : List Stmt} {scope : Scope} {kws : List (Str × V)} {f : Addr} {fd : FuncData} {N : List Str} {b : IT} {ip n : Nat} {x : Str} (F : FunD K x qual params (st :: rest) scope [] kws f fd)
    (S : FnScope N ["script"] scope) (hN : Γ.N = N) (hsc : Γ.sc = scope) (hss : Γ.ss = scope) (hn : N.length = n) (h0 : 1 ≤ n) (hip : ip ≠ 0) (hipn : ip < n) (hp : chkPool Γ ip st = true) (hc : chkT Γ b rest = true)
    (hrun : (denT M b ((List.replicate n Sl.un).set ip .pool)).run lawQ (fun _ => False)) : FnOk P w K mg base (L2.CX P w) (k + 1) f fd ["script"] (spLaw K) := by
  refine F.ok S (fun vs H Q E ⟨a, ns, e, _⟩ => by rw [e]; rfl) (fun cdv A outer s H vs Q E hr ⟨a, ns, e, hs, q⟩ => ?_)
  subst e
  have φ := fit_of (E := E) (H := H) (outer := outer) md S hr hN hsc hss
  obtain ⟨tg, v, pos, rfl, hp⟩ := onAsg_ok hp
  obtain ⟨ht, hp⟩ := and2 hp
  obtain ⟨y, pp, es, cp, rfl, hp⟩ := onCall_ok hp
  obtain ⟨h1, hp⟩ := and2 hp
  obtain ⟨h2, h3⟩ := and2 h1
  obtain ⟨z, rfl, hp⟩ := on1_ok hp
  obtain ⟨h4, h5⟩ := and2 hp
  obtain ⟨x0, p0, rfl, v1, v2, v3, v4⟩ := varB_ok φ.toFit h5
  have hx := dec1 h2
  subst hx
  rw [← φ.sc] at h3
  obtain ⟨g1, g2⟩ := gloB_ok h3
  obtain ⟨tx, px, rfl, ht⟩ := onNm_ok ht
  obtain ⟨t1, t2⟩ := and2 ht
  obtain ⟨q1, q2⟩ := φ.sto tx (lokB_ok t2)
  obtain ⟨fP, fdP, psP, r1, r2, r3, r4⟩ := pf
  have hS1 := ps_set (pos := pos) (pos' := px) (nd_ok φ.toFit) (by rw [φ.N]; exact dec1 t1) q1 (pe_callS (p := pp) (pos := cp) (CX := L2.CX P w) (E := WE fun cls d _ H' => E cls d H') r4 hr g1 r1 r2 r3 (fun σ => passAt φ.tk σ) (pa_cons (pe_var (pos := p0) v1 v2 v3 v4) pa_nil rfl) g2 rfl rfl) rfl q2
  have hS2 : PSs (cxOf (L2.CX P w) P w K mg base N qual scope f cdv A outer s H E) rest (fun En σ H1 => ∃ p γ0 H0, Stt K p γ0 H0 ∧ TSs (cxOf (L2.CX P w) P w K mg base N qual scope f cdv A outer s H E) (fun cls d _ H' => E cls d H') p γ0 H0 (denT M b) En σ H1) :=
    ⟨fun pins s1 σ H1 D I ⟨p, γ0, H0, st0, h⟩ => (okT b rest φ st0 hc).run pins s1 σ H1 D I h⟩
  refine ⟨_, pss_cons hS1 hS2, ?_⟩
  have hN0 : 0 < N.length := by omega
  refine ⟨.ref a, by unfold L2.start; simp, a, ns, rfl, hs, fun qa c p xs l n1 n2 n3 => ?_⟩
  have hpc : p ≠ c := fun z => by subst z; rw [upd_same] at n3; cases n3
  have eP : (upd (upd (upd H qa (.lst xs)) c (.lst (ns.map V.int))) p (.lst (pl5 c 0 0 0 l))) p = some (.lst (pl5 c 0 0 0 l)) := upd_same
  have eC : (upd (upd (upd H qa (.lst xs)) c (.lst (ns.map V.int))) p (.lst (pl5 c 0 0 0 l))) c = some (.lst (ns.map V.int)) := by rw [upd_ne (Ne.symm hpc)]; exact upd_same
  have gC : (upd (fun _ => none) c (HO.lst (ns.map V.int)) : Hp) c = some (.lst (ns.map V.int)) := upd_same
  have gP : (upd (fun _ => none) c (HO.lst (ns.map V.int)) : Hp) p = none := by rw [upd_ne hpc]
  have st0 : Stt K (some p) (upd (fun _ => none) c (HO.lst (ns.map V.int))) (upd (upd (upd H qa (.lst xs)) c (.lst (ns.map V.int))) p (.lst (pl5 c 0 0 0 l))) := by
    refine ⟨fun d o hd => ?_, fun d hd => ?_⟩
    · by_cases hdc : d = c
      · subst hdc; rw [gC] at hd; cases hd; exact eC
      · rw [upd_ne hdc] at hd; cases hd
    · cases hd
      exact ⟨gP, c, ns, 0, 0, 0, l, eP, .of gC, Int.le_refl 0⟩
  refine ⟨some p, _, _, st0, _, (List.replicate n Sl.un).set ip .pool, .refl st0, un_rep (by unfold L2.start; simp; omega) ⟨p, rfl, rfl⟩ (fun _ z => by cases z), ?_⟩
  refine (denT M b _).mono (fun o h => ?_) (fun _ z => z.elim) hrun
  cases o with
  | rt d =>
    have hd : d = .bool true := h
    subst hd
    exact fun γ' H' v _ _ r => by rw [r.ofBool]; exact q H'
  | nx _ => exact h.elim
  | bk _ => exact h.elim
  | ct _ => exact h.elim
end
theorem noEsc (P : Program) (w : World) (H : Hp) (s : Shared) (e : Value) (s' : Shared) : L2.CX P w [] H s (fun _ _ _ => False) e s' → False := fun ⟨_, _, _, _, _, _, _, _, _, _, _, _, z⟩ => z
end Ev

/-! Ev24: what a head tells, put together. -/
namespace Ev
open PySem PySem.Spec PyProof.Rows L2
section
variable {P : Program} {w : World} {K : PySem.W.Frag} {mg : Str → Option Value} {base h : Heap} {k : Nat}
def AllN (mg : Str → Option Value) : List Str → Prop
  | [] => True
  | x :: xs => mg x = none ∧ AllN mg xs
theorem AllN.get : ∀ {l : List Str}, AllN mg l → ∀ x ∈ l, mg x = none
  | [], _, x, hx => by cases hx
  | y :: l, ⟨a, b⟩, x, hx => by
    rcases List.mem_cons.mp hx with e | e
    · rw [e]; exact a
    · exact AllN.get b x e
def AllF (P : Program) (w : World) (K : PySem.W.Frag) (mg : Str → Option Value) (base : Heap) (k : Nat) : List Str → (Nat → List Ar → W Exc D) → Prop
  | [], _ => True
  | x :: xs, Φ => FnAt P w K mg base k x (Φ 0) ∧ AllF P w K mg base k xs fun n => Φ (n + 1)
theorem AllF.get : ∀ {l : List Str} {Φ : Nat → List Ar → W Exc D}, AllF P w K mg base k l Φ → ∀ (n : Nat) (x : Str), l[n]? = some x → FnAt P w K mg base k x (Φ n)
  | [], _, _, n, x, h => by simp at h
  | y :: l, _, ⟨a, b⟩, 0, x, h => by simp at h; subst h; exact a
  | y :: l, _, ⟨a, b⟩, n + 1, x, h => AllF.get b n x (by simpa using h)
def CstAt (K : PySem.W.Frag) (mg : Str → Option Value) (x : Str) (d : D) : Prop := ∃ v u, mg x = some u ∧ RelV v u ∧ ∀ γ, Rep K γ v d
def AllC (K : PySem.W.Frag) (mg : Str → Option Value) : List Str → (Nat → D) → Prop
  | [], _ => True
  | x :: xs, C => CstAt K mg x (C 0) ∧ AllC K mg xs fun n => C (n + 1)
theorem AllC.get : ∀ {l : List Str} {C : Nat → D}, AllC K mg l C → ∀ (n : Nat) (x : Str), l[n]? = some x → CstAt K mg x (C n)
  | [], _, _, n, x, h => by simp at h
  | y :: l, _, ⟨a, b⟩, 0, x, h => by simp at h; subst h; exact a
  | y :: l, _, ⟨a, b⟩, n + 1, x, h => AllC.get b n x (by simpa using h)
/-! ### constants, looked at -/
def uNone (u : Value) : Bool := match u with
  | .none => true
  | _ => false
theorem uNone_ok {u : Value} (h : uNone u = true) : u = .none := by
  cases u <;> first | rfl | cases h
def uBool (u : Value) (k : Bool → Bool) : Bool := match u with
  | .bool c => k c
  | _ => false
theorem uBool_ok {u : Value} {k : Bool → Bool} (h : uBool u k = true) : ∃ c, u = .bool c ∧ k c = true := by
  cases u <;> first | exact ⟨_, rfl, h⟩ | cases h
def uInt (u : Value) (k : Int → Bool) : Bool := match u with
  | .int c _ => k c
  | _ => false
theorem uInt_ok {u : Value} {k : Int → Bool} (h : uInt u k = true) : ∃ c t, u = .int c t ∧ k c = true := by
  cases u <;> first | exact ⟨_, _, rfl, h⟩ | cases h
def uStr (u : Value) (k : Str → Bool) : Bool := match u with
  | .str c _ => k c
  | _ => false
theorem uStr_ok {u : Value} {k : Str → Bool} (h : uStr u k = true) : ∃ c t, u = .str c t ∧ k c = true := by
  cases u <;> first | exact ⟨_, _, rfl, h⟩ | cases h
def uTup (K : PySem.W.Frag) (u : Value) (k : List Value → Bool) : Bool := match u with
  | .ref a => (match K.lookup a with
    | some ⟨.type c, none, .seq its _, _⟩ => decide (c = "tuple") && (decide (its.size ≤ sizeLine) && k its.toList)
    | _ => false)
  | _ => false
theorem uTup_ok {K : PySem.W.Frag} {u : Value} {k : List Value → Bool} (h : uTup K u k = true) : ∃ (a : Addr) (its : Array Value) (n : Nat) (sl : Array (Option Value)), u = .ref a ∧ K.lookup a = some ⟨.type "tuple", none, .seq its n, sl⟩ ∧ its.size ≤ sizeLine ∧ k its.toList = true := by
  cases u <;> first | cases h; done | skip
  rename_i a
  have h : (match K.lookup a with
    | some ⟨.type c, none, .seq its _, _⟩ => decide (c = "tuple") && (decide (its.size ≤ sizeLine) && k its.toList)
    | _ => false) = true := h
  cases q : K.lookup a with
  | none => rw [q] at h; cases h
  | some o =>
    rw [q] at h
    obtain ⟨oc, od, dt, osl⟩ := o
    cases oc with
    | type c =>
      cases od with
      | none =>
        cases dt with
        | seq its n =>
          obtain ⟨h1, h2⟩ := and2 (show (decide (c = "tuple") && (decide (its.size ≤ sizeLine) && k its.toList)) = true from h)
          obtain ⟨h3, h4⟩ := and2 h2
          have e := dec1 h1
          subst e
          exact ⟨a, its, n, osl, rfl, q, dec1 h3, h4⟩
        | _ => cases h
      | some _ => cases dt <;> cases h
    | _ => cases od <;> cases dt <;> cases h
mutual
def repB (K : PySem.W.Frag) : D → Value → Bool
  | .none, u => uNone u
  | .bool b, u => uBool u fun c => decide (b = c)
  | .int i, u => uInt u fun c => decide (i = c)
  | .str z, u => uStr u fun c => decide (z = c) && PyData.strOk z
  | .tuple ds, u => uTup K u fun us => repAllB K ds us
  | .list _, _ => false
  | .dict _, _ => false
def repAllB (K : PySem.W.Frag) : List D → List Value → Bool
  | [], us => us.isEmpty
  | d :: ds, us => onC us fun u r => repB K d u && repAllB K ds r
end
mutual
theorem repB_ok (K : PySem.W.Frag) : ∀ (d : D) (u : Value), repB K d u = true → ∃ v, RelV v u ∧ ∀ γ, Rep K γ v d
  | .none, u, h => by
    rw [repB] at h
    rw [uNone_ok h]
    exact ⟨.non, rfl, fun _ => .non⟩
  | .bool b, u, h => by
    rw [repB] at h
    obtain ⟨c, rfl, h⟩ := uBool_ok h
    have e := dec1 h
    subst e
    exact ⟨.bl b, rfl, fun _ => .bl⟩
  | .int i, u, h => by
    rw [repB] at h
    obtain ⟨c, t, rfl, h⟩ := uInt_ok h
    have e := dec1 h
    subst e
    exact ⟨.int i, ⟨t, rfl⟩, fun _ => .int⟩
  | .str z, u, h => by
    rw [repB] at h
    obtain ⟨c, t, rfl, h⟩ := uStr_ok h
    obtain ⟨h1, h2⟩ := and2 h
    have e := dec1 h1
    subst e
    exact ⟨.str z, ⟨t, rfl⟩, fun _ => .str h2⟩
  | .tuple ds, u, h => by
    rw [repB] at h
    obtain ⟨a, its, n, sl, rfl, q, h3, h4⟩ := uTup_ok h
    obtain ⟨vs, r1, r2⟩ := repAllB_ok K ds its.toList h4
    exact ⟨.ref a, rfl, fun γ => Rep.tup (.inr ⟨_, its, n, q, rfl, rfl, rfl, h3, r1⟩) (r2 γ)⟩
  | .list _, _, h => by rw [repB] at h; cases h
  | .dict _, _, h => by rw [repB] at h; cases h
theorem repAllB_ok (K : PySem.W.Frag) : ∀ (ds : List D) (us : List Value), repAllB K ds us = true → ∃ vs, Vals vs us ∧ ∀ γ, RepAll K γ vs ds
  | [], us, h => by
    rw [repAllB] at h
    cases us with
    | nil => exact ⟨[], .nil, fun _ => .nil⟩
    | cons _ _ => cases h
  | d :: ds, us, h => by
    rw [repAllB] at h
    obtain ⟨u, r, rfl, h⟩ := onC_ok h
    obtain ⟨h1, h2⟩ := and2 h
    obtain ⟨v, r1, r2⟩ := repB_ok K d u h1
    obtain ⟨vs, r3, r4⟩ := repAllB_ok K ds r h2
    exact ⟨v :: vs, .cons r1 r3, fun γ => .cons (r2 γ) (r4 γ)⟩
end
/-- the tables of the module -/
def AllT (K : PySem.W.Frag) (w : World) (mg : Str → Option Value) : List (Str × Tb) → Prop
  | [] => True
  | t :: ts => TblAt K w mg t.1 t.2 ∧ AllT K w mg ts
theorem AllT.get : ∀ {l : List (Str × Tb)} {x : Str} {t : Tb}, AllT K w mg l → (x, t) ∈ l → TblAt K w mg x t
  | [], _, _, _, h => by cases h
  | q :: l, x, t, ⟨a, b⟩, h => by
    rcases List.mem_cons.mp h with e | h
    · rw [← e] at a; exact a
    · exact AllT.get b h
def keysB (K : PySem.W.Frag) (a : Addr) (t : Tb) : Bool := match List.lookup a K with
  | some { cls := _, dict := _, data := Data.dict es _, slots := _ } => es.toList.all fun e => !e.refKey && t.any fun q => e.key.isStr q.1
  | _ => false
def tblB (K : PySem.W.Frag) (x : Str) (t : Tb) : Bool := (He.Fa.glo x).ok K && (keysB K (He.ga K x) t && t.all fun e => entB (PySem.W.nsIn K (He.ga K x) e.1) e.2)
theorem keysB_ok {K : PySem.W.Frag} {a : Addr} {t : Tb} (c : keysB K a t = true) {z : Str} (h : t.lookup z = none) : PySem.W.nsIn K a z = some none := by
  unfold keysB at c
  unfold PySem.W.nsIn
  split at c
  · rename_i _ _ es ep _ hl
    rw [hl]
    have c := List.all_eq_true.mp c
    have h1 : es.toList.find? (fun x => x.key.isStr z) = none := by
      rw [List.find?_eq_none]
      intro e he hz
      obtain ⟨_, c2⟩ := and2 (c e he)
      obtain ⟨q, hq, hs⟩ := List.any_eq_true.mp c2
      cases hk : e.key with
      | str s tok =>
        rw [hk] at hz hs
        have e1 : s = z := by simpa [Value.isStr] using hz
        have e2 : s = q.1 := by simpa [Value.isStr] using hs
        subst e1
        have := List.lookup_eq_none_iff.mp h q hq
        rw [← e2] at this
        simp at this
      | _ => rw [hk] at hz; cases hz
    have h2 : ¬ (es.toList.any fun x => x.refKey) = true := by
      intro hh
      obtain ⟨e, he, hr⟩ := List.any_eq_true.mp hh
      obtain ⟨c1, _⟩ := and2 (c e he)
      rw [hr] at c1
      cases c1
    simp only [h1]
    rw [if_neg h2]
  · cases c
theorem tblB_ok (X : K.In h) (G : h.Ns mainGlobals mg) {w : World} {x : Str} {t : Tb} (hD : ∃ es n, KDict K w (He.ga K x) es n) (c : tblB K x t = true) : TblAt K w mg x t := by
  obtain ⟨c1, c2⟩ := and2 c
  obtain ⟨c3, c2⟩ := and2 c2
  obtain ⟨es, n, hD⟩ := hD
  refine ⟨_, es, n, He.glo_ok X G c1, hD, fun z => ?_⟩
  unfold tbo
  cases hz : t.lookup z with
  | none => rw [keysB_ok c3 hz]; rfl
  | some o =>
    have hm : (z, o) ∈ t := lookup_mem hz
    exact List.all_eq_true.mp c2 _ hm
def cstB (K : PySem.W.Frag) (x : Str) (d : D) : Bool := match PySem.W.nsIn K mainGlobals x with
  | some (some u) => repB K d u
  | _ => false
theorem cstB_ok (X : K.In h) (G : h.Ns mainGlobals mg) {x : Str} {d : D} (c : cstB K x d = true) : CstAt K mg x d := by
  unfold cstB at c
  cases e : PySem.W.nsIn K mainGlobals x with
  | none => rw [e] at c; cases c
  | some o =>
    cases o with
    | none => rw [e] at c; cases c
    | some u =>
      rw [e] at c
      obtain ⟨v, r1, r2⟩ := repB_ok K d u c
      exact ⟨v, u, PySem.W.mg_of X G e, r1, r2⟩
/-! ### exceptions -/
def excB (K : PySem.W.Frag) (xs : List Str) : Bool := (xs.all fun x => (He.Fa.glo x).ok K && (He.Fa.exc x).ok K) && xs.all fun x => xs.all fun y => (He.Fa.exm x y (decide (x = y))).ok K
theorem excB_exs (X : K.In h) (G : h.Ns mainGlobals mg) {xs : List Str} (c : excB K xs = true) : ∀ x ∈ xs, ∃ C, mg x = some (.ref C) ∧ PySem.W.keepIn K (.ref C) = true ∧ PySem.W.excIn K C He.veBase "ValueError.__new__" = true ∧ PySem.W.subIn K (.ref C) (.type "BaseException") = some true ∧ PySem.W.typeIn K (.ref C) = some (.type "type") := by
  intro x hx
  obtain ⟨c1, _⟩ := and2 c
  obtain ⟨c2, c3⟩ := and2 (List.all_eq_true.mp c1 x hx)
  have c3 : (PySem.W.excIn K (He.ga K x) He.veBase "ValueError.__new__" && (PySem.W.keepIn K (.ref (He.ga K x)) && (decide (PySem.W.subIn K (.ref (He.ga K x)) (.type "BaseException") = some true) && decide (PySem.W.typeIn K (.ref (He.ga K x)) = some (.type "type"))))) = true := c3
  obtain ⟨c4, c5⟩ := and2 c3
  obtain ⟨c6, c7⟩ := and2 c5
  obtain ⟨c8, c9⟩ := and2 c7
  exact ⟨_, He.glo_ok X G c2, c6, c4, dec1 c8, dec1 c9⟩
theorem excB_exm (X : K.In h) (G : h.Ns mainGlobals mg) {xs : List Str} (c : excB K xs = true) : ∀ x ∈ xs, ∀ y ∈ xs, ∀ C Cn, mg x = some (.ref C) → mg y = some (.ref Cn) → PySem.W.exmOne K (.ref C) (.ref Cn) = some (decide (x = y)) := by
  intro x hx y hy C Cn hC hCn
  obtain ⟨c1, c2⟩ := and2 c
  have e1 := He.glo_ok X G (and2 (List.all_eq_true.mp c1 x hx)).1
  have e2 := He.glo_ok X G (and2 (List.all_eq_true.mp c1 y hy)).1
  rw [e1] at hC
  rw [e2] at hCn
  cases hC
  cases hCn
  have c3 : decide (PySem.W.exmOne K (.ref (He.ga K x)) (.ref (He.ga K y)) = some (decide (x = y))) = true := List.all_eq_true.mp (List.all_eq_true.mp c2 x hx) y hy
  exact dec1 c3
theorem md_mk (X : K.In h) (G : h.Ns mainGlobals mg) {Γ : Tab} {M : Mg} (hb : AllN mg Γ.bl) (hc : AllC K mg Γ.cst M.C) (hf : AllF P w K mg base k Γ.fns M.Φ) (ht : AllT K w mg Γ.tbl) (he : Γ.exs = M.exs) (hx : excB K M.exs = true) : Md P w K mg base k Γ M where
  bl := hb.get
  cst := hc.get
  tbl := fun x t h => ht.get h
  fns := hf.get
  exe := he
  exs := excB_exs X G hx
  exm := excB_exm X G hx
/-! ### a def by its datum -/
theorem def_okX (X : K.In h) (G : h.Ns mainGlobals mg) {Γ : Tab} {M : Mg} (md : Md P w K mg base k Γ M) {x nam qual : Str} {params : Arguments} {body : List Stmt} {scope : Scope} {ps N : List Str} {np n : Nat} {b : IT}
    (F : ∃ fd, FunD K nam qual params body scope [] [] (He.ga K x) fd) (hg : (He.Fa.glo x).ok K = true) (S : FnScope N ps scope) (hΓ : Γ.N = N ∧ Γ.sc = scope ∧ Γ.ss = scope)
    (hb : ∀ (kV doc pm : Value) (an : Option Addr) (cdv ct : Value) (us : List Value), us.length = ps.length → bindArgs (PySem.W.fnOf nam qual params body scope .none kV doc pm an cdv ct) ⟨us, []⟩ = pure (ps.zip us))
    (hn : ps.length = np ∧ N.length = n ∧ np ≤ n) (hc : chkT Γ b body = true) : FnAt P w K mg base (k + 1) x (denD M np n b) := by
  obtain ⟨fd, F⟩ := F
  exact def_ok md F (He.glo_ok X G hg) S hΓ.1 hΓ.2.1 hΓ.2.2 (F.bindsN hb) (by omega) hn.1 hn.2.1 hc
theorem draw_okX (X : K.In h) (G : h.Ns mainGlobals mg) {Γ : Tab} {M : Mg} (md : Md P w K mg base k Γ M) (ι : IntF M Γ) {x qual : Str} {params : Arguments} {body : List Stmt} {scope : Scope} {ps N : List Str}
    (F : ∃ fd, FunD K x qual params body scope [] [] (He.ga K x) fd) (hg : (He.Fa.glo x).ok K = true) (S : FnScope N ps scope) (hΓ : Γ.N = N ∧ Γ.sc = scope ∧ Γ.ss = scope)
    (hb : ∀ (kV doc pm : Value) (an : Option Addr) (cdv ct : Value) (us : List Value), us.length = ps.length → bindArgs (PySem.W.fnOf x qual params body scope .none kV doc pm an cdv ct) ⟨us, []⟩ = pure (ps.zip us))
    (hn : ps.length = 2 ∧ N.length = 5) (hc : chkT Γ drawIR body = true) : FnAt P w K mg base (k + 1) x F_draw := by
  obtain ⟨fd, F⟩ := F
  exact draw_ok md ι F (He.glo_ok X G hg) S hΓ.1 hΓ.2.1 hΓ.2.2 (F.bindsN hb) hn.1 hn.2 hc
theorem pool_okX (X : K.In h) (G : h.Ns mainGlobals mg) {Γ : Tab} {M : Mg} (md : Md P w K mg base k Γ M) (ι : IntF M Γ) {qual : Str} {params : Arguments} {body : List Stmt} {scope : Scope} {ps N : List Str}
    (F : ∃ fd, FunD K "_law_pool" qual params body scope [] [] (He.ga K "_law_pool") fd) (hg : (He.Fa.glo "_law_pool").ok K = true) (S : FnScope N ps scope) (hΓ : Γ.N = N ∧ Γ.sc = scope ∧ Γ.ss = scope)
    (hb : ∀ (kV doc pm : Value) (an : Option Addr) (cdv ct : Value) (us : List Value), us.length = ps.length → bindArgs (PySem.W.fnOf "_law_pool" qual params body scope .none kV doc pm an cdv ct) ⟨us, []⟩ = pure (ps.zip us))
    (hn : ps.length = 1 ∧ N.length = 3) (hc : chkT Γ poolIR body = true) : PoolFn P w K mg base (k + 1) := by
  obtain ⟨fd, F⟩ := F
  exact ⟨_, fd, ps, He.glo_ok X G hg, F.kp, F.bindsN hb, pool_ok md ι F S hΓ.1 hΓ.2.1 hΓ.2.2 hn.1 hn.2 hc⟩
/-- a def that is never come to -/
theorem never_okX (X : K.In h) (G : h.Ns mainGlobals mg) {x qual : Str} {params : Arguments} {body : List Stmt} {scope : Scope} {ps : List Str} (F : ∃ fd, FunD K x qual params body scope [] [] (He.ga K x) fd) (hg : (He.Fa.glo x).ok K = true)
    (hb : ∀ (kV doc pm : Value) (an : Option Addr) (cdv ct : Value) (us : List Value), us.length = ps.length → bindArgs (PySem.W.fnOf x qual params body scope .none kV doc pm an cdv ct) ⟨us, []⟩ = pure (ps.zip us)) : FnAt P w K mg base k x noF := by
  obtain ⟨fd, F⟩ := F
  exact ⟨_, fd, ps, He.glo_ok X G hg, F.kp, F.bindsN hb, ⟨fun vs H Q E h => h.1, fun A outer s H args us vs Q E hr e0 hb r ⟨_, _, _, _, _, _, h⟩ => h.elim⟩, fun as Q XX h => h.elim⟩
theorem intF0 {M : Mg} {Γ : Tab} (h : Γ.fns = []) : IntF M Γ := fun n x hx => by rw [h] at hx; simp at hx
theorem intF1 {M : Mg} {Γ : Tab} {x : Str} (h : Γ.fns = [x]) (hF : ∀ (i : Int) (Q : D → Prop) (XX : Exc → Prop), (∀ j : Int, Q (.int j)) → (M.Φ 0 [.d (.int i)]).run Q XX) : IntF M Γ := fun n y hy => by
  rw [h] at hy
  cases n with
  | zero => exact hF
  | succ n => simp at hy
end
end Ev

/-! Ev25: loops over data; the law's end. -/
namespace Ev
open PySem PySem.Spec PyProof.Rows L2
/-! ### the monad's laws -/
theorem W.ext {ε α : Type} {m m' : W ε α} (h : ∀ Q X, m.run Q X ↔ m'.run Q X) : m = m' := by
  cases m with
  | mk r1 m1 =>
    cases m' with
    | mk r2 m2 =>
      have e : r1 = r2 := funext fun Q => funext fun X => propext (h Q X)
      subst e; rfl
theorem ret_bind {ε α β : Type} (a : α) (f : α → W ε β) : (W.ret a).bind f = f a := rfl
theorem bind_assoc' {ε α β γ : Type} (m : W ε α) (f : α → W ε β) (g : β → W ε γ) : (m.bind f).bind g = m.bind fun a => (f a).bind g := rfl
theorem ask_true {ε : Type} {p : Prop} (h : p) : (W.ask p : W ε Unit) = .ret () := W.ext fun Q X => ⟨fun q => q.2, fun q => ⟨h, q⟩⟩
theorem given_true {ε : Type} {p : Prop} (h : p) : (W.given p : W ε Unit) = .ret () := W.ext fun Q X => ⟨fun q => q h, fun q _ => q⟩
theorem lf_ret {α : Type} (ρ : List Sl) (a : α) : lf ρ (W.ret a) = .ret a := rfl
theorem mapErr_ret {ε ε' α : Type} (g : ε → ε') (a : α) : (W.ret a : W ε α).mapErr g = .ret a := rfl
theorem noErr_ret {α : Type} (a : α) : noErr (W.ret a : W Exc α) = .ret a := rfl
theorem seqS_ret {m1 m2 : S} {ρ ρ' : List Sl} (h : m1 ρ = .ret (.nx ρ')) : seqS m1 m2 ρ = m2 ρ' := by unfold seqS; rw [h]; rfl
theorem seqS_rt {m1 m2 : S} {ρ : List Sl} {d : D} (h : m1 ρ = .ret (.rt d)) : seqS m1 m2 ρ = .ret (.rt d) := by unfold seqS; rw [h]; rfl

/-! ### loops -/
def stepQ (I : List Sl → Prop) (Q : Out → Prop) : Out → Prop
  | .nx ρ => I ρ
  | .ct ρ => I ρ
  | .bk ρ => Q (.nx ρ)
  | .rt d => Q (.rt d)
theorem forD_run {t : T} {body : S} {Q : Out → Prop} {XX : XS → Prop} : ∀ {xs : List D} {ρ : List Sl} (I : Nat → List Sl → Prop), I 0 ρ →
    (∀ (i : Nat) (x : D) (ρ : List Sl), xs[i]? = some x → I i ρ → (asgT t x ρ).run (fun ρ1 => (body ρ1).run (stepQ (I (i + 1)) Q) XX) (fun e => XX (e, ρ))) → (∀ ρ, I xs.length ρ → Q (.nx ρ)) → (forD t body xs ρ).run Q XX
  | [], ρ, I, h0, hs, hd => hd ρ h0
  | x :: xs, ρ, I, h0, hs, hd => by
    refine (asgT t x ρ).mono (fun ρ1 h1 => ?_) (fun _ q => q) (hs 0 x ρ rfl h0)
    refine (body ρ1).mono (fun o h2 => ?_) (fun _ q => q) h1
    have hrec : ∀ ρ', I 1 ρ' → (forD t body xs ρ').run Q XX := fun ρ' hI => forD_run (fun i => I (i + 1)) hI (fun i y ρ'' hy hI' => hs (i + 1) y ρ'' (by simpa using hy) hI') (fun ρ'' q => hd ρ'' q)
    cases o with
    | nx ρ' => exact hrec ρ' h2
    | ct ρ' => exact hrec ρ' h2
    | bk ρ' => exact h2
    | rt d => exact h2
/-- a comprehension whose turns are told -/
theorem lcD_ret {body : D → W Exc (Option D)} {f : D → Option D} : ∀ {xs acc : List D}, (∀ x ∈ xs, body x = .ret (f x)) → lcD body xs acc = .ret (acc ++ xs.filterMap f)
  | [], acc, h => by simp [lcD]
  | x :: xs, acc, h => by
    unfold lcD
    rw [h x List.mem_cons_self, ret_bind]
    have ih := fun acc' => lcD_ret (body := body) (f := f) (xs := xs) (acc := acc') fun y hy => h y (List.mem_cons_of_mem _ hy)
    cases e : f x with
    | none => simp only [ih, List.filterMap_cons, e]
    | some y => simp only [ih, List.filterMap_cons, e, List.append_assoc, List.singleton_append]

/-! ### the helper spread -/
def spreadIR : IT := (.cons (.set 1 (.bin .mod (.e (.f1 .int (.e (.v 0)))) (.e (.i 2147483647)))) (.cons (.set 2 (.i 1)) (.cons (.for_ (.nm 3) (.r1 (.i 4)) (.cons (.set 1 (.bin .mod (.e (.f1 .int (.e (.bin .add (.e (.bin .add (.e (.bin .mul (.e (.v 1)) (.e (.i 48271)))) (.e (.i 12345)))) (.e (.v 3)))))) (.e (.i 2147483647)))) (.cons (.set 2 (.bin .add (.e (.bin .mul (.e (.v 2)) (.e (.i 2147483647)))) (.e (.v 1)))) .nil))) (.cons (.ret (.v 2)) .nil))))
theorem spread_any {M : Mg} {i : Int} {Q : D → Prop} {XX : Exc → Prop} (hQ : ∀ j : Int, Q (.int j)) : (denD M 1 4 spreadIR [.d (.int i)]).run Q XX := by
  refine ⟨rfl, ?_⟩
  refine ⟨(by decide : (0 : Int) < 2147483647), ⟨by decide, by decide⟩, ?_⟩
  simp only [W.ret_run]
  refine forD_run (fun _ ρ => ∃ (a b : Int) (s : Sl), ρ = [.val (.int i), .val (.int a), .val (.int b), s]) ⟨i % 2147483647, 1, .un, rfl⟩ ?_ ?_
  · rintro j x ρ hx ⟨a, b, s, rfl⟩
    obtain ⟨k, rfl⟩ : ∃ k : Int, x = .int k := by
      have hx' := List.mem_of_getElem? hx
      simp only [upto, List.mem_map] at hx'
      obtain ⟨q, _, e⟩ := hx'
      exact ⟨_, e.symm⟩
    refine ⟨cmul_r (by decide), (by decide : (0 : Int) < 2147483647), cmul_r (by decide), ?_⟩
    exact ⟨_, _, _, rfl⟩
  · rintro ρ ⟨a, b, s, rfl⟩
    exact hQ b

/-! ### the law's end -/
theorem excB_sub {K : PySem.W.Frag} {xs ys : List Str} (h : excB K xs = true) (hs : (ys.all fun y => decide (y ∈ xs)) = true) : excB K ys = true := by
  obtain ⟨h1, h2⟩ := and2 h
  have m : ∀ y ∈ ys, y ∈ xs := fun y hy => by have := List.all_eq_true.mp hs y hy; simpa using this
  unfold excB
  rw [Bool.and_eq_true]
  exact ⟨List.all_eq_true.mpr fun y hy => List.all_eq_true.mp h1 y (m y hy), List.all_eq_true.mpr fun y hy => List.all_eq_true.mpr fun z hz => List.all_eq_true.mp (List.all_eq_true.mp h2 y (m y hy)) z (m z hz)⟩
section
variable {P : Program} {w : World} {K : PySem.W.Frag} {mg : Str → Option Value} {base h : Heap} {k j : Nat}
theorem poolUp (p : PoolFn P w K mg base j) (e : j ≤ k) : PoolFn P w K mg base k := by
  obtain ⟨f, fd, ps, h1, h2, h3, h4⟩ := p
  exact ⟨f, fd, ps, h1, h2, h3, h4.mono e⟩
theorem law_okX {Γ : Tab} {M : Mg} (md : Md P w K mg base k Γ M) (pf : PoolFn P w K mg base k) {qual : Str} {params : Arguments} {body : List Stmt} {scope : Scope} {kws : List (Str × V)} {f : Addr} {fd : FuncData} {N : List Str} {b : IT} {ip n : Nat} {x : Str} (F : FunD K x qual params body scope [] kws f fd)
    (S : FnScope N ["script"] scope) (hΓ : Γ.N = N ∧ Γ.sc = scope ∧ Γ.ss = scope) (hn : N.length = n ∧ 1 ≤ n ∧ ip ≠ 0 ∧ ip < n) (h0 : onC body (fun st _ => chkPool Γ ip st) = true) (hc : chkT Γ b (body.drop 1) = true)
    (hrun : (denT M b ((List.replicate n Sl.un).set ip .pool)).run lawQ (fun _ => False)) : FnOk P w K mg base (L2.CX P w) (k + 1) f fd ["script"] (spLaw K) := by
  obtain ⟨st, rest, rfl, h0⟩ := onC_ok h0
  exact law_ok md pf F S hΓ.1 hΓ.2.1 hΓ.2.2 hn.1 hn.2.1 hn.2.2.1 hn.2.2.2 h0 hc hrun
end
theorem walk_ev {l : PySem.W.OpenLaw} {k : Nat} {q : Program} {loose : List Str} {XP : (Str → Option Value) → Heap → Prop} {YP : World → Heap → Prop} {d : DefRec} (hn : l.most = some 63) (hdf : d.params.defaults = []) (hr : Room k callerA)
    (F : ∀ (w : World) (mg : Str → Option Value) (fa : Addr) (h : Heap), YP w h → h.Ns mainGlobals mg → mg d.name = some (.ref fa) → ∃ (K : PySem.W.Frag) (fd : FuncData), K.In h ∧ (∀ (s : Shared) (u : Value), BindsTo s fd ⟨[u], []⟩ [("script", u)]) ∧
      ∀ base : Heap, K.In base → base.Ns mainGlobals mg → FnOk l.prog w K mg base (L2.CX l.prog w) k fa fd ["script"] (spLaw K)) :
    PySem.W.WalkO q loose XP YP l.row.toRowW d [] (fun f vs => PySem.call f vs) := by
  refine Att.attach_call hn hdf fun w s0 s1 mg mb fa o pm cd doc a vs ns G Y e1 e2 e3 e4 e5 e6 e7 e8 => ?_
  obtain ⟨K, fd, KX, hb, hF⟩ := F w mg fa _ Y G.T.g e4
  exact law_call KX G.T.g G.T.b G.T.builtins G.T.nolimit e8 e5 e6 (Nat.le_trans e7 (by decide)) hr hF hb (fun H _ hS => ⟨a, ns, rfl, hS, fun _ => rfl⟩) fun H e s' z => noEsc _ w H s1 e s' z
end Ev

/-! Ev26: a def that calls what a table of the module holds. -/
namespace Ev
open PySem PySem.Spec PyProof.Rows L2
def F_disp (tbl : List (Str × (List Ar → W Exc D))) : List Ar → W Exc D
  | .d (.str z) :: as => (W.ask (as.length = 3)).bind fun _ => optW (tbl.lookup z) fun F => F as
  | _ => .stuck
section
variable {X : Cx} {fe e : Expr} {es : List Expr} {pos : Pos} {tf : TE} {t : TA} {Wx : WX}
def tCallV (X : Cx) (Wx : WX) (tf : TE) (t : TA) : TE := fun σ H Q => tf σ H fun x H1 => ∃ f k fd ps sp, x = V.ref f ∧ FnOk X.prog X.w X.K X.mg X.base (L2.CX X.prog X.w) k f fd ps sp ∧ Room k X.A ∧ PySem.W.keepIn X.K (.ref f) = true ∧ Binds X.K fd ps [] ∧ t σ H1 fun vs H2 => sp vs H2 Q (WE Wx σ)
theorem pe_callV (tk : Takes X Wx) (arm : eval (.Call fe (e :: es) [] pos) X.env = (do callWith pos (← eval fe X.env) [] (backTo pos (starEach (e :: es) X.env)) (backToKw pos (keywordEach [] X.env)))) (hf : PE X fe tf) (ha : PA X (e :: es) t)
    (he : starEach (e :: es) X.env = (false, eval e X.env) :: starEach es X.env) (hpl : (backTo pos (starEach es X.env)).any (·.1) = false) : PE X (.Call fe (e :: es) [] pos) (tCallV X Wx tf t) := by
  refine ⟨fun pins s σ H Q I h => ?_⟩
  rw [arm]
  refine wpAny_bind (thn (hf.run pins s σ H _ I h) fun v s1 hh => ?_)
  obtain ⟨x, H1, I1, r1, f, k, fd, ps, sp, e1, F, hr, hk, hb, q⟩ := hh
  subst e1
  obtain rfl : v = Value.ref f := r1
  refine PySem.W.callWith_K (h₀ := X.base) I1.ok.mod.kin hk (thn (ha.run pos pins s1 σ H1 _ I1 q) fun us s2 ⟨vs, H2, I2, r, q2⟩ => ⟨I2.kIn, ?_⟩) he hpl
  exact run_fnS F hr hb (passAt tk σ) I2 r q2
end
/-- return T[x0](x1, x2, x3) -/
def chkDisp (Γ : Tab) (T : Str) (ss : List Stmt) : Bool := on1S ss fun st => onRet st fun o => onO o fun v => onCallS v fun a b es => (onNm a fun x => decide (x = T) && gloB Γ.sc x) && (varB Γ 0 b && on3 es fun x y z => varB Γ 1 x && (varB Γ 2 y && varB Γ 3 z))
where
  on1S (ss : List Stmt) (k : Stmt → Bool) : Bool := match ss with
    | [s] => k s
    | _ => false
  onCallS (e : Expr) (k : Expr → Expr → List Expr → Bool) : Bool := match e with
    | .Call (.Subscript a b _) es [] _ => k a b es
    | _ => false
  on3 (es : List Expr) (k : Expr → Expr → Expr → Bool) : Bool := match es with
    | [a, b, c] => k a b c
    | _ => false
theorem on1S_ok {ss : List Stmt} {k : Stmt → Bool} (h : chkDisp.on1S ss k = true) : ∃ s, ss = [s] ∧ k s = true := by
  unfold chkDisp.on1S at h
  split at h
  · exact ⟨_, rfl, h⟩
  · cases h
theorem onCallS_ok {e : Expr} {k : Expr → Expr → List Expr → Bool} (h : chkDisp.onCallS e k = true) : ∃ a b p es p', e = .Call (.Subscript a b p) es [] p' ∧ k a b es = true := by
  unfold chkDisp.onCallS at h
  split at h
  · exact ⟨_, _, _, _, _, rfl, h⟩
  · cases h
theorem on3_ok {es : List Expr} {k : Expr → Expr → Expr → Bool} (h : chkDisp.on3 es k = true) : ∃ a b c, es = [a, b, c] ∧ k a b c = true := by
  unfold chkDisp.on3 at h
  split at h
  · exact ⟨_, _, _, rfl, h⟩
  · cases h
section
variable {P : Program} {w : World} {K : PySem.W.Frag} {mg : Str → Option Value} {base h : Heap} {k : Nat} {Γ : Tab} {M : Mg}
/-- an entry of the table -/
def EntAt (P : Program) (w : World) (K : PySem.W.Frag) (mg : Str → Option Value) (base : Heap) (k : Nat) (d : Addr) (z nm : Str) (F : List Ar → W Exc D) : Prop := FnAt P w K mg base k nm F ∧ ∃ f, mg nm = some (.ref f) ∧ KDct K w d z (.ref f)
def AllE (P : Program) (w : World) (K : PySem.W.Frag) (mg : Str → Option Value) (base : Heap) (k : Nat) (d : Addr) : List (Str × Str × (List Ar → W Exc D)) → Prop
  | [] => True
  | t :: ts => EntAt P w K mg base k d t.1 t.2.1 t.2.2 ∧ AllE P w K mg base k d ts
theorem AllE.get {d : Addr} : ∀ {ts : List (Str × Str × (List Ar → W Exc D))} {z : Str} {F : List Ar → W Exc D}, AllE P w K mg base k d ts → (ts.map fun t => (t.1, t.2.2)).lookup z = some F → ∃ nm, EntAt P w K mg base k d z nm F
  | [], z, F, _, h => by simp at h
  | t :: ts, z, F, ⟨a, b⟩, h => by
    cases e : z == t.1 with
    | true =>
      simp only [List.map_cons, List.lookup_cons, e] at h
      cases h
      have e' : z = t.1 := by simpa using e
      exact ⟨t.2.1, by rw [e']; exact a⟩
    | false =>
      simp only [List.map_cons, List.lookup_cons, e] at h
      exact AllE.get b h
theorem disp_okX (X : K.In h) (G : h.Ns mainGlobals mg) (md : Md P w K mg base k Γ M) {T x qual : Str} {params : Arguments} {body : List Stmt} {scope : Scope} {ps N : List Str} {d : Addr} {ts : List (Str × Str × (List Ar → W Exc D))}
    (F : ∃ fd, FunD K x qual params body scope [] [] (He.ga K x) fd) (hg : (He.Fa.glo x).ok K = true) (S : FnScope N ps scope) (hΓ : Γ.N = N ∧ Γ.sc = scope ∧ Γ.ss = scope)
    (hb : ∀ (kV doc pm : Value) (an : Option Addr) (cdv ct : Value) (us : List Value), us.length = ps.length → bindArgs (PySem.W.fnOf x qual params body scope .none kV doc pm an cdv ct) ⟨us, []⟩ = pure (ps.zip us))
    (hn : ps.length = 4 ∧ N.length = 4) (hT : mg T = some (.ref d)) (ht : AllE P w K mg base k d ts) (hc : chkDisp Γ T body = true) : FnAt P w K mg base (k + 1) x (F_disp (ts.map fun t => (t.1, t.2.2))) := by
  obtain ⟨fd, F⟩ := F
  have hlen : ∀ as Q XX, (F_disp (ts.map fun t => (t.1, t.2.2)) as).run Q XX → as.length = 4 := fun as Q XX h => by
    match as, h with
    | .d (.str z) :: as, h => simp [h.1]
  refine ⟨_, fd, ps, He.glo_ok X G hg, F.kp, F.bindsN hb, ?_, fun as Q XX h => by rw [hn.1]; exact hlen as Q XX h⟩
  refine F.ok S (fun vs H Q E h => h.1) (fun cdv A outer s H vs Q E hr ⟨hl, p, γ, as, st, ha, hm⟩ => ?_)
  have φ := fit_of (E := E) (H := H) (outer := outer) md S hr hΓ.1 hΓ.2.1 hΓ.2.2
  obtain ⟨sst, rfl, hc⟩ := on1S_ok hc
  obtain ⟨o, rp, rfl, hc⟩ := onRet_ok hc
  obtain ⟨v, rfl, hc⟩ := onO_ok hc
  obtain ⟨a, b, p1, es, p2, rfl, hc⟩ := onCallS_ok hc
  obtain ⟨h1, hc⟩ := and2 hc
  obtain ⟨h2, h3⟩ := and2 hc
  obtain ⟨nx, np, rfl, h1⟩ := onNm_ok h1
  obtain ⟨h4, h5⟩ := and2 h1
  have hx := dec1 h4
  subst hx
  rw [← φ.sc] at h5
  obtain ⟨g1, g2⟩ := gloB_ok h5
  obtain ⟨e1, e2, e3, rfl, h3⟩ := on3_ok h3
  obtain ⟨h6, h7⟩ := and2 h3
  obtain ⟨h7, h8⟩ := and2 h7
  obtain ⟨x0, q0, rfl, a1, a2, a3, a4⟩ := varB_ok φ.toFit h2
  obtain ⟨x1, q1, rfl, b1, b2, b3, b4⟩ := varB_ok φ.toFit h6
  obtain ⟨x2, q2, rfl, c1, c2, c3, c4⟩ := varB_ok φ.toFit h7
  obtain ⟨x3, q3, rfl, d1, d2, d3, d4⟩ := varB_ok φ.toFit h8
  refine ⟨_, pss_one (ps_ret (pe_callV φ.tk rfl (pe_ix ix_kdict (pe_glob (v := .ref d) g1 hT rfl g2) (pe_var a1 a2 a3 a4) (plainIx_of fun _ _ _ _ z => by cases z)) (pa_cons (pe_var b1 b2 b3 b4) (pa_cons (pe_var c1 c2 c3 c4) (pa_cons (pe_var d1 d2 d3 d4) pa_nil rfl) rfl) rfl) rfl rfl)), ?_⟩
  match as, ha, hm with
  | .d (.str z) :: [r1, r2, r3], ha, hm =>
    cases ha with
    | cons s0 ha =>
      cases ha with
      | cons s1 ha =>
        cases ha with
        | cons s2 ha =>
          cases ha with
          | cons s3 ha =>
            cases ha
            rename_i v0 v1 v2 v3
            have ev := Rep.ofStr s0
            subst ev
            obtain ⟨_, hm⟩ := hm
            obtain ⟨F0, hlk, hm⟩ := optW_run hm
            obtain ⟨nm, ⟨f, fd', ps', f1, f2, f3, f4, f5⟩, f', g1', kd⟩ := ht.get hlk
            rw [f1] at g1'
            cases g1'
            refine ⟨_, rfl, d, z, .ref f, rfl, rfl, kd, f, k, fd', ps', _, rfl, f4, hr, f2, f3, _, rfl, _, rfl, _, rfl, ?_⟩
            exact ⟨(f5 _ _ _ hm).symm ▸ rfl, p, γ, [r1, r2, r3], st, .cons s1 (.cons s2 (.cons s3 .nil)), hm⟩
end
end Ev

/-! Ev27: the plain form unfolded, by simp. -/
namespace Ev
open PySem PySem.Spec PyProof.Rows L2
section
variable {M : Mg} {ρ : List Sl}
@[simp] theorem dE_v {i : Nat} : denE M (.v i) ρ = getV ρ i := rfl
@[simp] theorem dE_none : denE M .none ρ = .ret .none := rfl
@[simp] theorem dE_b {k : Bool} : denE M (.b k) ρ = .ret (.bool k) := rfl
@[simp] theorem dE_i {n : Int} : denE M (.i n) ρ = .ret (.int n) := rfl
@[simp] theorem dE_s {z : Str} : denE M (.s z) ρ = .ret (.str z) := rfl
@[simp] theorem dE_g {j : Nat} : denE M (.g j) ρ = .ret (M.C j) := rfl
@[simp] theorem dE_tup {l : IL} : denE M (.tup l) ρ = (denL M l ρ).bind fun ds => (W.ask (ds.length ≤ sizeLine)).bind fun _ => .ret (.tuple ds) := rfl
@[simp] theorem dE_ix {a b : IO} : denE M (.ix a b) ρ = (denO M a ρ).bind fun d => (denO M b ρ).bind fun e => ixD d e := rfl
@[simp] theorem dE_sl {a : IO} {lo hi : IP} : denE M (.sl a lo hi) ρ = (denO M a ρ).bind fun d => (denP M lo ρ).bind fun l => (denP M hi ρ).bind fun h => slD d l h := rfl
@[simp] theorem dE_bin {o : AO} {a b : IO} : denE M (.bin o a b) ρ = (denO M a ρ).bind fun d => (denO M b ρ).bind fun e => o.op d e := rfl
@[simp] theorem dE_cmp {o : CO} {a b : IO} : denE M (.cmp o a b) ρ = (denO M a ρ).bind fun d => (denO M b ρ).bind fun e => (o.op d e).bind fun b => .ret (.bool b) := rfl
@[simp] theorem dE_not {a : IO} : denE M (.not a) ρ = (denO M a ρ).bind fun d => (truthD d).bind fun k => .ret (.bool (!k)) := rfl
@[simp] theorem dE_and {x : IB} : denE M (.and x) ρ = denB M true x ρ := rfl
@[simp] theorem dE_or {x : IB} : denE M (.or x) ρ = denB M false x ρ := rfl
@[simp] theorem dE_ife {c : IC} {a b : IE} : denE M (.ife c a b) ρ = (denC M c ρ).bind fun k => if k then denE M a ρ else denE M b ρ := rfl
@[simp] theorem dE_neg {a : IE} : denE M (.neg a) ρ = (denE M a ρ).bind negD := rfl
@[simp] theorem dE_f1 {f : BI} {a : IO} : denE M (.f1 f a) ρ = (denO M a ρ).bind f.op := rfl
@[simp] theorem dE_f2 {f : B2} {a b : IO} : denE M (.f2 f a b) ρ = (denO M a ρ).bind fun d => (denO M b ρ).bind fun e => f.op d e := rfl
@[simp] theorem dE_isi {t : Ty} {a : IO} : denE M (.isi t a) ρ = (denO M a ρ).bind fun d => .ret (.bool (isiB (tyName d) t.s)) := rfl
@[simp] theorem dE_call {n : Nat} {a : IA} : denE M (.call n a) ρ = (denA M a ρ).bind (M.Φ n) := rfl
@[simp] theorem dE_fr {f : IF} : denE M (.fr f) ρ = (denF M f ρ).bind fun xs => .ret (.list xs) := rfl
@[simp] theorem dE_idx {a b : IO} : denE M (.idx a b) ρ = (denO M a ρ).bind fun d => (seqOnly d).bind fun _ => (denO M b ρ).bind fun e => indexD d e := rfl
@[simp] theorem dE_cnt {a b : IO} : denE M (.cnt a b) ρ = (denO M a ρ).bind fun d => (lstOnly d).bind fun ds => (denO M b ρ).bind fun e => cntD ds e := rfl
@[simp] theorem dE_rvt {a : IO} : denE M (.rvt a) ρ = (denO M a ρ).bind rvtD := rfl
@[simp] theorem dE_dct {ks : List Str} {l : IL} : denE M (.dct ks l) ρ = (denL M l ρ).bind fun ds => (W.ask (ks.length = ds.length)).bind fun _ => .ret (.dict (dkv ks ds)) := rfl
@[simp] theorem dE_dsub {ks : List Str} {l : IL} {k : IE} : denE M (.dsub ks l k) ρ = (denL M l ρ).bind fun ds => (denE M k ρ).bind fun d => dsubD ks ds d := rfl
@[simp] theorem dE_kix {x : Str} {t : Tb} {a : IO} : denE M (.kix x t a) ρ = (denO M a ρ).bind (kixD t) := rfl
@[simp] theorem dE_dget {i : Nat} {k : IE} : denE M (.dget i k) ρ = (getDc ρ i).bind fun kvs => (denE M k ρ).bind (lookD kvs) := rfl
@[simp] theorem dE_dget2 {i : Nat} {k z : IE} : denE M (.dget2 i k z) ρ = (getDc ρ i).bind fun kvs => (denE M k ρ).bind fun d => (denE M z ρ).bind fun f => lookD2 kvs d f := rfl
@[simp] theorem dS_newD {i : Nat} : denS M (.newD i) ρ = .ret (.nx (ρ.set i (.dic []))) := rfl
@[simp] theorem dS_putD {i : Nat} {j e : IE} : denS M (.putD i j e) ρ = putW i (denE M j) (denE M e) ρ := rfl
@[simp] theorem putW_run {i : Nat} {mk me : List Sl → W Exc D} {Q : Out → Prop} {XX : XS → Prop} : (putW i mk me ρ).run Q XX = (me ρ).run (fun v => (dicW ρ i).run (fun kvs => (mk ρ).run (fun d => (optW (keyD d) W.ret : W Exc Key).run (fun k => kvs.length < sizeLine ∧ Q (.nx (ρ.set i (.dic (putKD kvs k v))))) fun x => XX (x, ρ)) fun x => XX (x, ρ)) XX) fun x => XX (x, ρ) := rfl
@[simp] theorem optK_i {α : Type} {k : Int} {f : Key → W Exc α} : optW (keyD (.int k)) f = f (.inl k) := rfl
@[simp] theorem optK_s {α : Type} {k : Str} {f : Key → W Exc α} : optW (keyD (.str k)) f = f (.inr k) := rfl
theorem look_i {kvs : List (Key × D)} {k : Int} {d : D} {Q : D → Prop} {X : Exc → Prop} (h : getKD kvs (.inl k) = some d) (q : Q d) : (lookD kvs (.int k)).run Q X := by
  show (optW (getKD kvs (.inl k)) W.ret : W Exc D).run Q X
  rw [h]; exact q
theorem look2_i {kvs : List (Key × D)} {k : Int} {z : D} {Q : D → Prop} {X : Exc → Prop} (q : Q ((getKD kvs (.inl k)).getD z)) : (lookD2 kvs (.int k) z).run Q X := q
theorem getKD_map {α : Type} (f : α → Key) (g : α → D) (hf : ∀ a b, f a = f b → a = b) {l : List α} {a : α} (h : a ∈ l) : getKD (l.map fun x => (f x, g x)) (f a) = some (g a) := by
  induction l with
  | nil => cases h
  | cons x l ih =>
    by_cases e : f x = f a
    · have := hf _ _ e
      subst this
      simp [getKD, List.find?_cons]
    · have hx : a ∈ l := by
        rcases List.mem_cons.mp h with rfl | h
        · exact absurd rfl e
        · exact h
      have := ih hx
      simp only [getKD, List.map_cons, List.find?_cons, e, decide_false] at this ⊢
      exact this
theorem getKD_no {α : Type} (f : α → Key) (g : α → D) {l : List α} {k : Key} (h : ∀ a ∈ l, f a ≠ k) : getKD (l.map fun x => (f x, g x)) k = none := by
  induction l with
  | nil => rfl
  | cons x l ih =>
    have := ih fun a ha => h a (List.mem_cons_of_mem _ ha)
    simp only [getKD, List.map_cons, List.find?_cons, h x List.mem_cons_self, decide_false] at this ⊢
    exact this
theorem putKD_new {α : Type} (f : α → Key) (g : α → D) {l : List α} {k : Key} {d : D} (h : ∀ a ∈ l, f a ≠ k) : putKD (l.map fun x => (f x, g x)) k d = (l.map fun x => (f x, g x)) ++ [(k, d)] := by
  unfold putKD
  rw [if_neg]
  intro hc
  obtain ⟨z, hz, e⟩ := List.any_eq_true.mp hc
  obtain ⟨a, ha, rfl⟩ := List.mem_map.mp hz
  exact h a ha (by simpa using e)
@[simp] theorem dC_kin {neg : Bool} {x : Str} {t : Tb} {a : IO} : denC M (.kin neg x t a) ρ = (denO M a ρ).bind (kinD neg t) := rfl
@[simp] theorem dO_e {e : IE} : denO M (.e e) ρ = denE M e ρ := rfl
@[simp] theorem dO_own {i : Nat} : denO M (.own i) ρ = getO ρ i := rfl
@[simp] theorem dF_lst {l : IL} : denF M (.lst l) ρ = (denL M l ρ).bind fun ds => (W.ask (ds.length ≤ sizeLine)).bind fun _ => .ret ds := rfl
@[simp] theorem dF_rep {a b : IO} : denF M (.rep a b) ρ = (denO M a ρ).bind fun d => (denO M b ρ).bind fun e => repF d e := rfl
@[simp] theorem dF_cat {a b : IO} : denF M (.cat a b) ρ = (denO M a ρ).bind fun d => (denO M b ρ).bind fun e => catF d e := rfl
@[simp] theorem dF_list {a : IO} : denF M (.list a) ρ = (denO M a ρ).bind listF := rfl
@[simp] theorem dF_srtS {a : IO} : denF M (.srtS a) ρ = (denO M a ρ).bind srtSetD := rfl
@[simp] theorem dF_srtL {a : IO} : denF M (.srtL a) ρ = (denO M a ρ).bind srtD := rfl
@[simp] theorem dF_rg1 {e : IE} : denF M (.rg1 e) ρ = (denE M e ρ).bind rgL1 := rfl
@[simp] theorem dF_rg2 {a b : IE} : denF M (.rg2 a b) ρ = (denE M a ρ).bind fun d => (denE M b ρ).bind fun f => rgL2 d f := rfl
@[simp] theorem dF_lc {vs : List Nat} {t : T} {i : II} {c : IQ} {e : IE} : denF M (.lc vs t i c e) ρ = (denI M i ρ).bind fun xs => (W.ask (xs.length ≤ sizeLine)).bind fun _ => lcD (turnB t (denQ M c) (denE M e) (wipeR ρ vs)) xs [] := rfl
@[simp] theorem dC_tru {a : IO} : denC M (.tru a) ρ = (denO M a ρ).bind truthD := rfl
@[simp] theorem dC_cmp {o : CO} {a b : IO} : denC M (.cmp o a b) ρ = (denO M a ρ).bind fun d => (denO M b ρ).bind fun e => o.op d e := rfl
@[simp] theorem dC_not {c : IC} : denC M (.not c) ρ = (denC M c ρ).bind fun k => .ret (!k) := rfl
@[simp] theorem dC_and {x : IK} : denC M (.and x) ρ = denK M true x ρ := rfl
@[simp] theorem dC_or {x : IK} : denC M (.or x) ρ = denK M false x ρ := rfl
@[simp] theorem dQ_no : denQ M .no ρ = .ret true := rfl
@[simp] theorem dQ_one {c : IC} : denQ M (.one c) ρ = denC M c ρ := rfl
@[simp] theorem dK_one {o : Bool} {c : IC} : denK M o (.one c) ρ = denC M c ρ := rfl
@[simp] theorem dK_more {o : Bool} {c : IC} {x : IK} : denK M o (.more c x) ρ = (denC M c ρ).bind fun k => if k = o then denK M o x ρ else .ret k := rfl
@[simp] theorem dB_one {o : Bool} {e : IE} : denB M o (.one e) ρ = denE M e ρ := rfl
@[simp] theorem dB_more {o : Bool} {e : IE} {x : IB} : denB M o (.more e x) ρ = (denE M e ρ).bind fun d => (truthD d).bind fun k => if k = o then denB M o x ρ else .ret d := rfl
@[simp] theorem dI_seq {e : IE} : denI M (.seq e) ρ = (denE M e ρ).bind iterD := rfl
@[simp] theorem dI_r1 {e : IE} : denI M (.r1 e) ρ = (denE M e ρ).bind rng1D := rfl
@[simp] theorem dI_r2 {a b : IE} : denI M (.r2 a b) ρ = (denE M a ρ).bind fun d => (denE M b ρ).bind fun f => rng2D d f := rfl
@[simp] theorem dP_no : denP M .no ρ = .ret .none := rfl
@[simp] theorem dP_one {e : IE} : denP M (.one e) ρ = (denE M e ρ).bind intW := rfl
@[simp] theorem dL_nil : denL M .nil ρ = .ret [] := rfl
@[simp] theorem dL_cons {e : IE} {l : IL} : denL M (.cons e l) ρ = (denE M e ρ).bind fun d => (denL M l ρ).bind fun ds => .ret (d :: ds) := rfl
@[simp] theorem dA_nil : denA M .nil ρ = .ret [] := rfl
@[simp] theorem dA_d {e : IE} {l : IA} : denA M (.d e l) ρ = (denE M e ρ).bind fun d => (denA M l ρ).bind fun ds => .ret (.d d :: ds) := rfl
@[simp] theorem dA_pool {i : Nat} {l : IA} : denA M (.pool i l) ρ = (getP ρ i).bind fun _ => (denA M l ρ).bind fun ds => .ret (.pool :: ds) := rfl
@[simp] theorem dT_nil : denT M .nil ρ = .ret (.nx ρ) := rfl
@[simp] theorem dT_cons {s : IS} {t : IT} : denT M (.cons s t) ρ = seqS (denS M s) (denT M t) ρ := rfl
@[simp] theorem dS_ret {e : IE} : denS M (.ret e) ρ = (lf ρ (denE M e ρ)).bind fun d => .ret (.rt d) := rfl
@[simp] theorem dS_set {i : Nat} {e : IE} : denS M (.set i e) ρ = (lf ρ (denE M e ρ)).bind fun d => .ret (.nx (ρ.set i (.val d))) := rfl
@[simp] theorem dS_setF {i : Nat} {e : IF} : denS M (.setF i e) ρ = (lf ρ (denF M e ρ)).bind fun d => .ret (.nx (ρ.set i (.own d))) := rfl
@[simp] theorem dS_setL {i : Nat} {e : IF} : denS M (.setL i e) ρ = (lf ρ (denF M e ρ)).bind fun d => .ret (.nx (ρ.set i (.val (.list d)))) := rfl
@[simp] theorem dS_asg {t : T} {e : IE} : denS M (.asg t e) ρ = (lf ρ (denE M e ρ)).bind fun d => (lf ρ (asgT t d ρ)).bind fun ρ' => .ret (.nx ρ') := rfl
@[simp] theorem dS_par {is : List Nat} {l : IV} : denS M (.par is l) ρ = (lf ρ (denV M l ρ)).bind fun ss => (W.ask (ss.length = is.length)).bind fun _ => .ret (.nx (setS is ss ρ)) := rfl
@[simp] theorem dS_ife {c : IC} {a b : IT} : denS M (.ife c a b) ρ = (lf ρ (denC M c ρ)).bind fun k => if k then denT M a ρ else denT M b ρ := rfl
@[simp] theorem dS_for {t : T} {i : II} {b : IT} : denS M (.for_ t i b) ρ = (lf ρ (denI M i ρ)).bind fun xs => forD t (denT M b) xs ρ := rfl
@[simp] theorem dS_frz {i : Nat} {s : IS} : denS M (.frz i s) ρ = denS M s (frzR ρ i) := rfl
@[simp] theorem dS_swp {i : Nat} {l : IL} {j k : IE} : denS M (.swp i l j k) ρ = (lf ρ (denL M l ρ)).bind (swpK i (denE M j) (denE M k) ρ) := rfl
@[simp] theorem dS_app {i : Nat} {e : IE} : denS M (.app i e) ρ = appW i (denE M e) ρ := rfl
@[simp] theorem dV_nil : denV M .nil ρ = .ret [] := rfl
@[simp] theorem dV_e {e : IE} {r : IV} : denV M (.e e r) ρ = (denE M e ρ).bind fun d => (denV M r ρ).bind fun ss => .ret (.val d :: ss) := rfl
@[simp] theorem dV_f {e : IF} {r : IV} : denV M (.f e r) ρ = (denF M e ρ).bind fun d => (denV M r ρ).bind fun ss => .ret (.own d :: ss) := rfl
@[simp] theorem seqS_run {m1 m2 : S} {Q : Out → Prop} {XX : XS → Prop} : (seqS m1 m2 ρ).run Q XX = (m1 ρ).run (fun o => match o with | .nx ρ' => (m2 ρ').run Q XX | .rt d => Q (.rt d) | .bk ρ' => Q (.bk ρ') | .ct ρ' => Q (.ct ρ')) XX := by
  show (m1 ρ).run _ _ = _
  congr 1
  funext o
  cases o <;> rfl
end
@[simp] theorem getV_0 {d : D} {ρ : List Sl} : getV (.val d :: ρ) 0 = .ret d := rfl
@[simp] theorem getV_s {s : Sl} {ρ : List Sl} {n : Nat} : getV (s :: ρ) (n + 1) = getV ρ n := rfl
@[simp] theorem getO_0 {d : D} {ρ : List Sl} : getO (.val d :: ρ) 0 = .ret d := rfl
@[simp] theorem getO_w {d : List D} {ρ : List Sl} : getO (.own d :: ρ) 0 = .ret (.list d) := rfl
@[simp] theorem getO_s {s : Sl} {ρ : List Sl} {n : Nat} : getO (s :: ρ) (n + 1) = getO ρ n := rfl
@[simp] theorem getDc_0 {d : List (Key × D)} {ρ : List Sl} : getDc (.dic d :: ρ) 0 = .ret d := rfl
@[simp] theorem getDc_s {s : Sl} {ρ : List Sl} {n : Nat} : getDc (s :: ρ) (n + 1) = getDc ρ n := rfl
@[simp] theorem dicW_0 {d : List (Key × D)} {ρ : List Sl} : dicW (.dic d :: ρ) 0 = .ret d := rfl
@[simp] theorem dicW_s {s : Sl} {ρ : List Sl} {n : Nat} : dicW (s :: ρ) (n + 1) = dicW ρ n := rfl
@[simp] theorem getP_0 {ρ : List Sl} : getP (.pool :: ρ) 0 = .ret () := rfl
@[simp] theorem getP_s {s : Sl} {ρ : List Sl} {n : Nat} : getP (s :: ρ) (n + 1) = getP ρ n := rfl
@[simp] theorem denD_run {M : Mg} {np n : Nat} {b : IT} {as : List Ar} {Q : D → Prop} {XX : Exc → Prop} : (denD M np n b as).run Q XX = (as.length = np ∧ (denT M b (as.map Ar.sl ++ List.replicate (n - np) .un)).run (fun o => (outD o).run Q XX) (fun x => XX x.1)) := rfl
@[simp] theorem sl_d {d : D} : Ar.sl (.d d) = .val d := rfl
@[simp] theorem sl_p : Ar.sl .pool = .pool := rfl
@[simp] theorem outD_rt {d : D} : outD (.rt d) = .ret d := rfl
@[simp] theorem outD_nx {ρ : List Sl} : outD (.nx ρ) = .ret .none := rfl
@[simp] theorem co_eq : CO.op .eq = eqD false := rfl
@[simp] theorem co_ne : CO.op .ne = eqD true := rfl
@[simp] theorem eqD_run {n : Bool} {d e : D} {Q : Bool → Prop} {XX : Exc → Prop} : (eqD n d e).run Q XX = ((sh d = true ∧ sh e = true) ∧ Q (if n then !PyData.eqv d e else PyData.eqv d e)) := rfl
@[simp] theorem sh_int {i : Int} : sh (.int i) = true := rfl
@[simp] theorem sh_str {i : Str} : sh (.str i) = true := rfl
@[simp] theorem sh_bool {i : Bool} : sh (.bool i) = true := rfl
@[simp] theorem sh_none : sh .none = true := rfl
@[simp] theorem ite_run {ε α : Type} {c : Prop} [Decidable c] {a b : W ε α} {Q : α → Prop} {X : ε → Prop} : (if c then a else b).run Q X = if c then a.run Q X else b.run Q X := by split <;> rfl
@[simp] theorem retb {ε α β : Type} {a : α} {f : α → W ε β} : (W.ret a).bind f = f a := rfl
@[simp] theorem eqv_str {x y : Str} : PyData.eqv (.str x) (.str y) = (x == y) := rfl
@[simp] theorem eqv_int {x y : Int} : PyData.eqv (.int x) (.int y) = (x == y) := rfl
@[simp] theorem eqv_bool {x y : Bool} : PyData.eqv (.bool x) (.bool y) = (x == y) := rfl
@[simp] theorem F_draw_run {n : Int} {Q : D → Prop} {X : Exc → Prop} : (F_draw [.pool, .d (.int n)]).run Q X = (n < 1073741824 ∧ 0 < n ∧ ∀ v, 0 ≤ v → v < n → Q (.int v)) := rfl
@[simp] theorem rvt_t {xs : List D} : rvtD (.tuple xs) = .ret (.tuple xs.reverse) := rfl
@[simp] theorem bi_len : BI.op .len = lenD := rfl
@[simp] theorem bi_int : BI.op .int = intD := rfl
@[simp] theorem bi_tup : BI.op .tup = tupleD := rfl
@[simp] theorem len_l {xs : List D} {Q : D → Prop} {X : Exc → Prop} : (lenD (.list xs)).run Q X = (xs.length ≤ sizeLine → Q (.int xs.length)) := rfl
@[simp] theorem len_t {xs : List D} {Q : D → Prop} {X : Exc → Prop} : (lenD (.tuple xs)).run Q X = (xs.length ≤ sizeLine → Q (.int xs.length)) := rfl
theorem le_line {n : Nat} (h : n ≤ 1000) : n ≤ sizeLine := small_of h
@[simp] theorem truth_b {b : Bool} : truthD (.bool b) = .ret b := rfl
theorem ix_t {xs : List D} {i : Int} {d : D} {Q : D → Prop} {X : Exc → Prop} (h : atI xs i = some d) (q : Q d) : (ixD (.tuple xs) (.int i)).run Q X := by
  show (match atI xs i with | some d => W.ret d | none => W.stuck : W Exc D).run Q X
  rw [h]; exact q
theorem ix_l {xs : List D} {i : Int} {d : D} {Q : D → Prop} {X : Exc → Prop} (h : atI xs i = some d) (q : Q d) : (ixD (.list xs) (.int i)).run Q X := by
  show (match atI xs i with | some d => W.ret d | none => W.stuck : W Exc D).run Q X
  rw [h]; exact q
theorem atI_nat {α : Type} {xs : List α} {n : Nat} {d : α} (h : xs[n]? = some d) : atI xs (n : Int) = some d := by
  have hl : n < xs.length := (List.getElem?_eq_some_iff.mp h).1
  have : ixN xs.length (n : Int) = some n := by
    unfold ixN
    rw [if_pos (by omega), if_pos (by omega)]
    simp
  unfold atI
  rw [this]
  exact h
@[simp] theorem co_is : CO.op .is = isD false := rfl
@[simp] theorem co_isn : CO.op .isn = isD true := rfl
@[simp] theorem co_in : CO.op .inn = inD false := rfl
@[simp] theorem co_nin : CO.op .nin = inD true := rfl
@[simp] theorem co_lt : CO.op .lt = ltD fun i j => decide (i < j) := rfl
@[simp] theorem co_le : CO.op .le = ltD fun i j => decide (i ≤ j) := rfl
@[simp] theorem co_gt : CO.op .gt = ltD fun i j => decide (j < i) := rfl
@[simp] theorem co_ge : CO.op .ge = ltD fun i j => decide (j ≤ i) := rfl
@[simp] theorem ltD_i {f : Int → Int → Bool} {i j : Int} : ltD f (.int i) (.int j) = .ret (f i j) := rfl
@[simp] theorem isD_n {n : Bool} {d : D} : isD n d .none = .ret (if n then !isNon d else isNon d) := by cases d <;> rfl
@[simp] theorem nn_0 : isNon .none = true := rfl
@[simp] theorem nn_1 {x : Int} : isNon (.int x) = false := rfl
@[simp] theorem nn_2 {x : Str} : isNon (.str x) = false := rfl
@[simp] theorem nn_3 {x : Bool} : isNon (.bool x) = false := rfl
@[simp] theorem nn_4 {x : List D} : isNon (.list x) = false := rfl
@[simp] theorem nn_5 {x : List D} : isNon (.tuple x) = false := rfl
@[simp] theorem ao_add : AO.op .add = addD := rfl
@[simp] theorem ao_sub : AO.op .sub = subD := rfl
@[simp] theorem add_i {i j : Int} : addD (.int i) (.int j) = .ret (.int (i + j)) := rfl
@[simp] theorem sub_i {i j : Int} : subD (.int i) (.int j) = .ret (.int (i - j)) := rfl
@[simp] theorem int_i {i : Int} : intD (.int i) = .ret (.int i) := rfl
@[simp] theorem neg_i {i : Int} : negD (.int i) = .ret (.int (-i)) := rfl
def inR (j : Int) : Prop := -(2 ^ 62) ≤ j ∧ j < 2 ^ 62
theorem inR_len {n : Nat} (h : n ≤ sizeLine) : inR (n : Int) := by
  have : sizeLine < 2 ^ 62 := by decide
  unfold inR
  omega
theorem inR_small {n : Int} (h : 0 ≤ n) (h2 : n ≤ 100000) : inR n := by unfold inR; omega
@[simp] theorem rng1_run {j : Int} {Q : List D → Prop} {X : Exc → Prop} : (rng1D (.int j)).run Q X = (inR j ∧ Q (upto 0 j.toNat)) := rfl
@[simp] theorem iter_l {xs : List D} {Q : List D → Prop} {X : Exc → Prop} : (iterD (.list xs)).run Q X = (xs.length ≤ sizeLine → Q xs) := rfl
@[simp] theorem iter_t {xs : List D} {Q : List D → Prop} {X : Exc → Prop} : (iterD (.tuple xs)).run Q X = (xs.length ≤ sizeLine → Q xs) := rfl
@[simp] theorem asg_nm {i : Nat} {d : D} {ρ : List Sl} : asgT (.nm i) d ρ = .ret (ρ.set i (.val d)) := rfl
@[simp] theorem asg_t {is : List Nat} {ds : List D} {ρ : List Sl} {Q : List Sl → Prop} {X : Exc → Prop} : (asgT (.tup is) (.tuple ds) ρ).run Q X = (ds.length = is.length ∧ Q (setAll is ds ρ)) := rfl
@[simp] theorem setAll_c {i : Nat} {is : List Nat} {d : D} {ds : List D} {ρ : List Sl} : setAll (i :: is) (d :: ds) ρ = setAll is ds (ρ.set i (.val d)) := rfl
@[simp] theorem setAll_n {ρ : List Sl} : setAll [] [] ρ = ρ := rfl
@[simp] theorem setS_c {i : Nat} {is : List Nat} {d : Sl} {ds : List Sl} {ρ : List Sl} : setS (i :: is) (d :: ds) ρ = setS is ds (ρ.set i d) := rfl
@[simp] theorem setS_n {ρ : List Sl} : setS [] [] ρ = ρ := rfl
end Ev

/-! Ev28: comprehensions over what is not told; the law's comparison of a value with itself. -/
namespace Ev
open PySem PySem.Spec PyProof.Rows L2
theorem lcD_none {body : D → W Exc (Option D)} {Q : List D → Prop} {X : Exc → Prop} : ∀ {xs acc : List D}, (∀ x ∈ xs, ∀ R : Option D → Prop, R none → (body x).run R X) → Q acc → (lcD body xs acc).run Q X
  | [], acc, h, q => q
  | x :: xs, acc, h, q => h x List.mem_cons_self _ (lcD_none (fun y hy => h y (List.mem_cons_of_mem _ hy)) q)
theorem lcD_all {body : D → W Exc (Option D)} (P : D → Prop) {Q : List D → Prop} {X : Exc → Prop} : ∀ {xs acc : List D}, (∀ x ∈ xs, ∀ R : Option D → Prop, (∀ y, P y → R (some y)) → (body x).run R X) → (∀ ys, ys.length = xs.length → (∀ y ∈ ys, P y) → Q (acc ++ ys)) → (lcD body xs acc).run Q X
  | [], acc, h, q => by have := q [] rfl (fun _ z => nomatch z); rwa [List.append_nil] at this
  | x :: xs, acc, h, q => h x List.mem_cons_self _ fun y hy => by
    refine lcD_all P (acc := acc ++ [y]) (fun z hz => h z (List.mem_cons_of_mem _ hz)) fun ys hl hp => ?_
    have := q (y :: ys) (by simp [hl]) (fun z hz => by
      rcases List.mem_cons.mp hz with e | e
      · rw [e]; exact hy
      · exact hp z e)
    simpa using this
/-- a comprehension that is told -/
theorem lcD_map {body : D → W Exc (Option D)} (f : D → Option D) {Q : List D → Prop} {X : Exc → Prop} : ∀ {xs acc : List D}, (∀ x ∈ xs, ∀ R : Option D → Prop, R (f x) → (body x).run R X) → Q (acc ++ xs.filterMap f) → (lcD body xs acc).run Q X
  | [], acc, h, q => by
    show Q acc
    simpa using q
  | x :: xs, acc, h, q => h x List.mem_cons_self _ (by
    cases e : f x with
    | none => exact lcD_map f (fun y hy => h y (List.mem_cons_of_mem _ hy)) (by simpa [e] using q)
    | some y => exact lcD_map f (acc := acc ++ [y]) (fun y hy => h y (List.mem_cons_of_mem _ hy)) (by simpa [e] using q))
def sameIR : IT := .cons (.ife (.or (.more (.tru (.e (.isi .tuple (.e (.v 1))))) (.one (.tru (.e (.isi .list (.e (.v 1)))))))) (.cons (.ife (.or (.more (.cmp .ne (.e (.isi .tuple (.e (.v 1)))) (.e (.isi .tuple (.e (.v 0))))) (.more (.cmp .ne (.e (.isi .list (.e (.v 1)))) (.e (.isi .list (.e (.v 0))))) (.one (.cmp .ne (.e (.f1 .len (.e (.v 0)))) (.e (.f1 .len (.e (.v 1))))))))) (.cons (.ret (.b false)) .nil) .nil) (.cons (.ret (.cmp .eq (.e (.f1 .len (.e (.fr (.lc [2] (.nm 2) (.r1 (.f1 .len (.e (.v 1)))) (.one (.not (.tru (.e (.call 0 (.d (.ix (.e (.v 0)) (.e (.v 2))) (.d (.ix (.e (.v 1)) (.e (.v 2))) .nil))))))) (.v 2)))))) (.e (.i 0)))) .nil)) .nil) (.cons (.ife (.cmp .is (.e (.v 1)) (.e .none)) (.cons (.ret (.cmp .is (.e (.v 0)) (.e .none))) .nil) .nil) (.cons (.ife (.or (.more (.tru (.e (.isi .bool (.e (.v 1))))) (.one (.tru (.e (.isi .bool (.e (.v 0)))))))) (.cons (.ret (.and (.more (.isi .bool (.e (.v 1))) (.more (.isi .bool (.e (.v 0))) (.one (.cmp .eq (.e (.v 0)) (.e (.v 1)))))))) .nil) .nil) (.cons (.ife (.tru (.e (.isi .int (.e (.v 1))))) (.cons (.ret (.and (.more (.isi .int (.e (.v 0))) (.one (.cmp .eq (.e (.v 0)) (.e (.v 1))))))) .nil) .nil) (.cons (.ret (.and (.more (.isi .str (.e (.v 0))) (.more (.isi .str (.e (.v 1))) (.one (.cmp .eq (.e (.v 0)) (.e (.v 1)))))))) .nil))))
def good : Nat → D → Prop
  | 0, _ => False
  | n + 1, .list xs => ∀ x ∈ xs, good n x
  | n + 1, .tuple xs => ∀ x ∈ xs, good n x
  | _ + 1, .dict _ => False
  | _ + 1, _ => True
theorem upto_mem {lo : Int} {n : Nat} {x : D} (h : x ∈ upto lo n) : ∃ i : Nat, i < n ∧ x = .int (lo + i) := by
  unfold upto at h
  obtain ⟨i, hi, e⟩ := List.mem_map.mp h
  exact ⟨i, List.mem_range.mp hi, e.symm⟩
theorem line_62 {n : Nat} (h : n ≤ sizeLine) : (n : Int) < 2 ^ 62 := by
  have : sizeLine < 2 ^ 62 := by decide
  omega
theorem same_run {M : Mg} {n : Nat} {d : D} (hF : ∀ e, good n e → ∀ (Q : D → Prop) (X : Exc → Prop), Q (.bool true) → (M.Φ 0 [.d e, .d e]).run Q X) (h : good (n + 1) d) {Q : D → Prop} {X : Exc → Prop} (q : Q (.bool true)) : (denD M 2 3 sameIR [.d d, .d d]).run Q X := by
  cases d with
  | list xs =>
    simp [sameIR, isiB, tyName, Ty.s]
    intro hz
    have e1 : (upto 0 xs.length).length = xs.length := by simp [upto]
    refine ⟨inR_len hz, ?_⟩
    refine ⟨by rw [e1]; exact hz, lcD_none (fun x hx R hR => ?_) (fun _ => by simpa using q)⟩
    obtain ⟨i, hi, rfl⟩ := upto_mem hx
    have hi' : i < xs.length := by simpa using hi
    have ei : (0 : Int) + (i : Int) = (i : Int) := by omega
    rw [ei]
    have ea : atI xs (i : Int) = some xs[i] := Ev.atI_nat (List.getElem?_eq_getElem hi')
    simp [turnB, asgT, wipeR]
    exact ix_l ea (ix_l ea (hF _ (h _ (List.getElem_mem hi')) _ _ (by simpa using hR)))
  | tuple xs =>
    simp [sameIR, isiB, tyName, Ty.s]
    intro hz
    have e1 : (upto 0 xs.length).length = xs.length := by simp [upto]
    refine ⟨inR_len hz, ?_⟩
    refine ⟨by rw [e1]; exact hz, lcD_none (fun x hx R hR => ?_) (fun _ => by simpa using q)⟩
    obtain ⟨i, hi, rfl⟩ := upto_mem hx
    have hi' : i < xs.length := by simpa using hi
    have ei : (0 : Int) + (i : Int) = (i : Int) := by omega
    rw [ei]
    have ea : atI xs (i : Int) = some xs[i] := Ev.atI_nat (List.getElem?_eq_getElem hi')
    simp [turnB, asgT, wipeR]
    exact ix_t ea (ix_t ea (hF _ (h _ (List.getElem_mem hi')) _ _ (by simpa using hR)))
  | dict _ => exact h.elim
  | none => simpa [sameIR, isiB, tyName, Ty.s] using q
  | bool b => simpa [sameIR, isiB, tyName, Ty.s] using q
  | int b => simpa [sameIR, isiB, tyName, Ty.s] using q
  | str b => simpa [sameIR, isiB, tyName, Ty.s] using q
end Ev

/-! Ev29: tuples and lists of ints. -/
namespace Ev
open PySem PySem.Spec PyProof.Rows L2
theorem depth_ints : ∀ l : List Int, PyData.depthAll (l.map .int) = 0
  | [] => by simp [PyData.depthAll]
  | i :: l => by simp [PyData.depthAll, PyData.depth, depth_ints l]
theorem ndAll_ints (l : List Int) : ndAll (l.map .int) = true := by induction l <;> simp_all [ndAll, nd]
@[simp] theorem sh_tints (l : List Int) : sh (.tuple (l.map .int)) = true := by simp [sh, PyData.depth, depth_ints, ndAll_ints]
@[simp] theorem sh_lints (l : List Int) : sh (.list (l.map .int)) = true := by simp [sh, PyData.depth, depth_ints, ndAll_ints]
theorem eqvAll_ints : ∀ l m : List Int, PyData.eqvAll (l.map .int) (m.map .int) = decide (l = m)
  | [], [] => by simp [PyData.eqvAll]
  | [], _ :: _ => by simp [PyData.eqvAll]
  | _ :: _, [] => by simp [PyData.eqvAll]
  | i :: l, j :: m => by
    rw [List.map_cons, List.map_cons, PyData.eqvAll, eqvAll_ints l m]
    simp [PyData.eqv, Bool.and_comm]
    by_cases h : i = j <;> simp [h]
@[simp] theorem eqv_tints (l m : List Int) : PyData.eqv (.tuple (l.map .int)) (.tuple (m.map .int)) = decide (l = m) := by rw [PyData.eqv]; exact eqvAll_ints l m
@[simp] theorem eqv_lints (l m : List Int) : PyData.eqv (.list (l.map .int)) (.list (m.map .int)) = decide (l = m) := by rw [PyData.eqv]; exact eqvAll_ints l m
@[simp] theorem add_t {xs ys : List D} {Q : D → Prop} {X : Exc → Prop} : (addD (.tuple xs) (.tuple ys)).run Q X = (xs.length + ys.length ≤ sizeLine ∧ Q (.tuple (xs ++ ys))) := rfl
@[simp] theorem sl_t {xs : List D} {lo hi : Option Int} : slD (.tuple xs) lo hi = .ret (.tuple (cutD xs lo hi)) := rfl
@[simp] theorem sl_l {xs : List D} {lo hi : Option Int} : slD (.list xs) lo hi = .ret (.list (cutD xs lo hi)) := rfl
@[simp] theorem intW_i {i : Int} : intW (.int i) = .ret (some i) := rfl
end Ev

/-! Ev30: comprehensions over ranges and over typed lists. -/
namespace Ev
open PySem PySem.Spec PyProof.Rows L2
theorem upto_zero (lo : Int) : upto lo 0 = [] := rfl
theorem upto_eq (lo : Int) (n : Nat) : upto lo n = (List.range n).map fun (i : Nat) => PyData.int (lo + i) := rfl
theorem upto_len (lo : Int) (n : Nat) : (upto lo n).length = n := by simp [upto]
/-- a comprehension over a typed list -/
theorem lcD_enc {α : Type} {enc : α → D} {body : D → W Exc (Option D)} (f : α → Option D) {Q : List D → Prop} {X : Exc → Prop} : ∀ {xs : List α} {acc : List D}, (∀ x ∈ xs, ∀ R : Option D → Prop, R (f x) → (body (enc x)).run R X) → Q (acc ++ xs.filterMap f) → (lcD body (xs.map enc) acc).run Q X
  | [], acc, h, q => by
    show Q acc
    simpa using q
  | x :: xs, acc, h, q => h x List.mem_cons_self _ (by
    cases e : f x with
    | none => exact lcD_enc f (fun y hy => h y (List.mem_cons_of_mem _ hy)) (by simpa [e] using q)
    | some y => exact lcD_enc f (acc := acc ++ [y]) (fun y hy => h y (List.mem_cons_of_mem _ hy)) (by simpa [e] using q))
theorem lcD_upto {body : D → W Exc (Option D)} {lo : Int} (f : Nat → Option D) {Q : List D → Prop} {X : Exc → Prop} {n : Nat} {acc : List D} (h : ∀ i, i < n → ∀ R : Option D → Prop, R (f i) → (body (.int (lo + i))).run R X) (q : Q (acc ++ (List.range n).filterMap f)) : (lcD body (upto lo n) acc).run Q X := by
  rw [upto_eq]
  exact lcD_enc (enc := fun (i : Nat) => PyData.int (lo + i)) f (fun i hi => h i (List.mem_range.mp hi)) q
theorem cut_take (xs : List D) (n : Nat) : Ev.cutD xs none (some (n : Int)) = xs.take n := by
  unfold Ev.cutD
  rw [HT.sIx_none, HT.sIx_nat, List.drop_zero, Nat.sub_zero]
  rcases Nat.le_total n xs.length with h | h
  · rw [Nat.min_eq_left h]
  · rw [Nat.min_eq_right h, List.take_length, List.take_of_length_le h]
theorem cut_drop (xs : List D) (n : Nat) : Ev.cutD xs (some (n : Int)) none = xs.drop n := by
  unfold Ev.cutD
  rw [HT.sIx_none, HT.sIx_nat]
  rcases Nat.le_total n xs.length with h | h
  · rw [Nat.min_eq_left h, List.take_of_length_le (by simp)]
  · rw [Nat.min_eq_right h, Nat.sub_self, List.take_zero, List.drop_of_length_le h]
/-- .., each turn gives one -/
theorem filterMap_some {α β : Type} (f : α → β) (l : List α) : l.filterMap (fun x => some (f x)) = l.map f := by induction l <;> simp [*]
theorem filterMap_enc {α β : Type} (p : α → Bool) (f : α → β) (enc : β → D) (l : List α) : (l.filterMap fun x => if p x = true then some (enc (f x)) else none) = ((l.filter p).map f).map enc := by
  induction l with
  | nil => rfl
  | cons x l ih =>
    rw [List.filterMap_cons, ih]
    cases h : p x <;> simp [h]
end Ev

/-! Ev31: in, sorted over ints. -/
namespace Ev
open PySem PySem.Spec PyProof.Rows L2
@[simp] theorem int_b {b : Bool} : Ev.intD (.bool b) = .ret (.int (if b then 1 else 0)) := rfl
@[simp] theorem tuple_l {xs : List D} : tupleD (.list xs) = .ret (.tuple xs) := rfl
@[simp] theorem tuple_t {xs : List D} : tupleD (.tuple xs) = .ret (.tuple xs) := rfl
theorem any_ints (a : Int) : ∀ l : List Int, ((l.map PyData.int).any fun z => PyData.eqv z (.int a)) = decide (a ∈ l)
  | [] => by simp
  | i :: l => by
    rw [List.map_cons, List.any_cons, any_ints a l]
    by_cases h : i = a
    · subst h; simp
    · have h' : ¬ a = i := fun e => h e.symm
      simp [h, h']
@[simp] theorem in_ti {n : Bool} {a : Int} {l : List Int} {Q : Bool → Prop} {X : Exc → Prop} : (inD n (.int a) (.tuple (l.map .int))).run Q X = Q (if n then !decide (a ∈ l) else decide (a ∈ l)) := by
  show ((sh (.int a) = true ∧ sh (.tuple (l.map .int)) = true) ∧ Q _) = _
  rw [any_ints]
  simp
@[simp] theorem in_li {n : Bool} {a : Int} {l : List Int} {Q : Bool → Prop} {X : Exc → Prop} : (inD n (.int a) (.list (l.map .int))).run Q X = Q (if n then !decide (a ∈ l) else decide (a ∈ l)) := by
  show ((sh (.int a) = true ∧ sh (.list (l.map .int)) = true) ∧ Q _) = _
  rw [any_ints]
  simp
/-- ints, sorted -/
def srtI (l : List Int) : List Int := l.mergeSort fun a b => decide (a ≤ b)
theorem srtI_len (l : List Int) : (srtI l).length = l.length := List.length_mergeSort _
theorem srtI_mem {l : List Int} {x : Int} : x ∈ srtI l ↔ x ∈ l := List.mem_mergeSort
theorem srtOk_ints (l : List Int) : srtOk (l.map .int) :=
  ⟨ndAll_ints l, PySem.W.AllAlike.of fun _ _ => by simp [PySem.W.alike], PySem.W.Sortable.others fun _ => ⟨by simp, fun _ => by simp⟩, fun d hd => by
    obtain ⟨i, _, rfl⟩ := List.mem_map.mp hd
    simp [PyData.depth]⟩
theorem srt_ints (l : List Int) : (l.map PyData.int).mergeSort leD = (srtI l).map .int := by
  unfold srtI
  refine (map_srt PyData.int _ leD (fun a b => ?_)).symm
  have := congrFun (congrFun (PySem.W.dataLe_int (β := Int) id) a) b
  exact this.symm
@[simp] theorem srt_ti {l : List Int} {Q : List D → Prop} {X : Exc → Prop} : (srtD (.tuple (l.map .int))).run Q X = Q ((srtI l).map .int) := by
  show (srtOk (l.map .int) ∧ Q _) = _
  rw [srt_ints]
  simp [srtOk_ints]
@[simp] theorem srt_li {l : List Int} {Q : List D → Prop} {X : Exc → Prop} : (srtD (.list (l.map .int))).run Q X = Q ((srtI l).map .int) := by
  show (srtOk (l.map .int) ∧ Q _) = _
  rw [srt_ints]
  simp [srtOk_ints]
end Ev

namespace K16
open PySem PySem.Spec PyProof.Rows L2 Ev
def top (i : Nat) : Stmt := PySem.Challenge.pw_everyhistory_k16_whole_wishes_of_hands.main.body.getD i (.Pass ⟨0, 0, 0, 0⟩)
/-! ### the defs: names, plain forms -/
def v_LEVELS : D := .tuple [(.str "read"), (.str "atomic"), (.str "causal"), (.str "prefix"), (.str "pictures"), (.str "serial")]
def v_KEYS : D := .int 4
def v_WISHES : D := .tuple [(.str "follow"), (.str "readback"), (.str "readon"), (.str "writeon")]
abbrev s_l_pool : Stmt := top 38
def n_l_pool : List Str := ["script", "salt", "cell"]
def p_l_pool : List Str := ["script"]
def g_l_pool : Tab := ⟨n_l_pool, defScope s_l_pool, defScope s_l_pool, true, [], [], ["int", "list"], [], []⟩
def m_l_pool : Mg := ⟨fun | _ => noF, fun | _ => .none, []⟩
abbrev s_l_spread : Stmt := top 39
def n_l_spread : List Str := ["cell", "mixed", "total", "k"]
def p_l_spread : List Str := ["cell"]
def g_l_spread : Tab := ⟨n_l_spread, defScope s_l_spread, defScope s_l_spread, true, [], [], ["int", "range"], [], []⟩
def b_l_spread : IT := .cons (.set 1 (.bin .mod (.e (.f1 .int (.e (.v 0)))) (.e (.i 2147483647)))) (.cons (.set 2 (.i 1)) (.cons (.for_ (.nm 3) (.r1 (.i 4)) (.cons (.set 1 (.bin .mod (.e (.f1 .int (.e (.bin .add (.e (.bin .add (.e (.bin .mul (.e (.v 1)) (.e (.i 48271)))) (.e (.i 12345)))) (.e (.v 3)))))) (.e (.i 2147483647)))) (.cons (.set 2 (.bin .add (.e (.bin .mul (.e (.v 2)) (.e (.i 2147483647)))) (.e (.v 1)))) .nil))) (.cons (.ret (.v 2)) .nil)))
def m_l_spread : Mg := ⟨fun | _ => noF, fun | _ => .none, []⟩
def f_l_spread : List Ar → W Exc D := denD m_l_spread 1 4 b_l_spread
abbrev s_l_draw : Stmt := top 40
def n_l_draw : List Str := ["pool", "many", "cell", "mixed", "value"]
def p_l_draw : List Str := ["pool", "many"]
def g_l_draw : Tab := ⟨n_l_draw, defScope s_l_draw, defScope s_l_draw, true, ["_law_spread"], [], ["int", "len"], [], []⟩
def m_l_draw : Mg := ⟨fun | 0 => f_l_spread | _ => noF, fun | _ => .none, []⟩
abbrev f_l_draw : List Ar → W Exc D := F_draw
abbrev s_l_pick : Stmt := top 41
def n_l_pick : List Str := ["pool", "items"]
def p_l_pick : List Str := ["pool", "items"]
def g_l_pick : Tab := ⟨n_l_pick, defScope s_l_pick, defScope s_l_pick, true, ["_law_draw"], [], ["len"], [], []⟩
def b_l_pick : IT := .cons (.ret (.ix (.e (.v 1)) (.e (.call 0 (.pool 0 (.d (.f1 .len (.e (.v 1))) .nil)))))) .nil
def m_l_pick : Mg := ⟨fun | 0 => f_l_draw | _ => noF, fun | _ => .none, []⟩
def f_l_pick : List Ar → W Exc D := denD m_l_pick 2 2 b_l_pick
abbrev s_l_shuffled : Stmt := top 42
def n_l_shuffled : List Str := ["pool", "items", "left", "found"]
def p_l_shuffled : List Str := ["pool", "items"]
def g_l_shuffled : Tab := ⟨n_l_shuffled, defScope s_l_shuffled, defScope s_l_shuffled, true, ["_law_draw"], [], ["list", "len"], [], []⟩
def b_l_shuffled : IT := .cons (.setF 2 (.list (.e (.v 1)))) (.cons (.setF 3 (.lst .nil)) (.cons (.whl (.cmp .ne (.own 2) (.e (.fr (.lst .nil)))) (.cons (.appPop 3 2 (.call 0 (.pool 0 (.d (.f1 .len (.own 2)) .nil)))) .nil)) (.cons (.frz 3 (.ret (.v 3))) .nil)))
def m_l_shuffled : Mg := ⟨fun | 0 => f_l_draw | _ => noF, fun | _ => .none, []⟩
def f_l_shuffled : List Ar → W Exc D := denD m_l_shuffled 2 4 b_l_shuffled
abbrev s_l_wrote : Stmt := top 43
def n_l_wrote : List Str := ["deeds", "key", "deed"]
def p_l_wrote : List Str := ["deeds", "key"]
def g_l_wrote : Tab := ⟨n_l_wrote, defScope s_l_wrote, defScope s_l_wrote, true, [], [], ["len"], [], []⟩
def b_l_wrote : IT := .cons (.ret (.f1 .len (.e (.fr (.lc [2] (.nm 2) (.seq (.v 0)) (.one (.and (.more (.cmp .eq (.e (.ix (.e (.v 2)) (.e (.i 0)))) (.e (.s "write"))) (.one (.cmp .eq (.e (.ix (.e (.v 2)) (.e (.i 2)))) (.e (.v 1))))))) (.v 2)))))) .nil
def m_l_wrote : Mg := ⟨fun | _ => noF, fun | _ => .none, []⟩
def f_l_wrote : List Ar → W Exc D := denD m_l_wrote 2 3 b_l_wrote
abbrev s_l_some_parts : Stmt := top 47
def n_l_some_parts : List Str := ["pool", "most", "many", "keys", "plans", "work", "hands", "deeds", "hand", "word", "key", "mine", "others", "version", "writer", "wrote", "k", "other", "step"]
def p_l_some_parts : List Str := ["pool", "most"]
def g_l_some_parts : Tab := ⟨n_l_some_parts, defScope s_l_some_parts, defScope s_l_some_parts, true, ["_law_draw", "_law_pick", "_law_shuffled", "_law_wrote"], [], ["range", "list", "len", "tuple"], [], []⟩
def b_l_some_parts : IT := .cons (.set 2 (.bin .add (.e (.i 1)) (.e (.call 0 (.pool 0 (.d (.v 1) .nil)))))) (.cons (.set 3 (.bin .add (.e (.i 1)) (.e (.call 0 (.pool 0 (.d (.i 3) .nil)))))) (.cons (.setF 4 (.lst .nil)) (.cons (.for_ (.nm 5) (.r2 (.i 1) (.bin .add (.e (.v 2)) (.e (.i 1)))) (.cons (.app 4 (.fr (.lc [16] (.nm 16) (.r1 (.bin .add (.e (.i 1)) (.e (.call 0 (.pool 0 (.d (.i 3) .nil)))))) .no (.tup (.cons (.call 1 (.pool 0 (.d (.fr (.lst (.cons (.s "read") (.cons (.s "write") .nil)))) .nil))) (.cons (.call 0 (.pool 0 (.d (.v 3) .nil))) .nil)))))) .nil)) (.cons (.setF 6 (.lst (.cons (.tup .nil) (.cons (.tup .nil) (.cons (.tup .nil) .nil))))) (.cons (.for_ (.nm 5) (.seq (.call 2 (.pool 0 (.d (.fr (.rg2 (.i 1) (.bin .add (.e (.v 2)) (.e (.i 1))))) .nil)))) (.cons (.set 7 (.tup .nil)) (.cons (.for_ (.tup [9, 10]) (.seq (.ix (.own 4) (.e (.bin .sub (.e (.v 5)) (.e (.i 1)))))) (.cons (.set 11 (.call 3 (.d (.v 7) (.d (.v 10) .nil)))) (.cons (.setL 12 (.lc [17] (.nm 17) (.r2 (.i 1) (.bin .add (.e (.v 2)) (.e (.i 1)))) (.one (.and (.more (.cmp .ne (.e (.v 17)) (.e (.v 5))) (.one (.cmp .inn (.e (.tup (.cons (.s "write") (.cons (.v 10) .nil)))) (.e (.ix (.own 4) (.e (.bin .sub (.e (.v 17)) (.e (.i 1))))))))))) (.v 17))) (.cons (.set 13 (.ife (.cmp .gt (.e (.v 11)) (.e (.i 0))) (.tup (.cons (.v 5) (.cons (.v 11) .nil))) (.tup (.cons (.i 0) (.cons (.i 0) .nil))))) (.cons (.ife (.and (.more (.cmp .eq (.e (.v 11)) (.e (.i 0))) (.more (.cmp .ne (.e (.v 12)) (.e (.fr (.lst .nil)))) (.one (.cmp .gt (.e (.call 0 (.pool 0 (.d (.i 3) .nil)))) (.e (.i 0))))))) (.cons (.set 14 (.call 1 (.pool 0 (.d (.v 12) .nil)))) (.cons (.set 15 (.f1 .len (.e (.fr (.lc [18] (.nm 18) (.seq (.ix (.own 4) (.e (.bin .sub (.e (.v 14)) (.e (.i 1)))))) (.one (.cmp .eq (.e (.v 18)) (.e (.tup (.cons (.s "write") (.cons (.v 10) .nil)))))) (.i 1)))))) (.cons (.set 13 (.tup (.cons (.v 14) (.cons (.ife (.cmp .gt (.e (.call 0 (.pool 0 (.d (.i 8) .nil)))) (.e (.i 0))) (.v 15) (.i 1)) .nil)))) .nil))) .nil) (.cons (.set 7 (.bin .add (.e (.v 7)) (.e (.tup (.cons (.ife (.cmp .eq (.e (.v 9)) (.e (.s "write"))) (.tup (.cons (.s "write") (.cons (.v 5) (.cons (.v 10) .nil)))) (.bin .add (.e (.tup (.cons (.s "read") (.cons (.v 5) (.cons (.v 10) .nil))))) (.e (.v 13)))) .nil))))) .nil)))))) (.cons (.set 8 (.call 0 (.pool 0 (.d (.i 3) .nil)))) (.cons (.setI 6 (.v 8) (.bin .add (.e (.ix (.own 6) (.e (.v 8)))) (.e (.tup (.cons (.tup (.cons (.v 5) (.cons (.v 7) .nil))) .nil))))) .nil))))) (.cons (.ret (.f1 .tup (.own 6))) .nil))))))
def m_l_some_parts : Mg := ⟨fun | 0 => f_l_draw | 1 => f_l_pick | 2 => f_l_shuffled | 3 => f_l_wrote | _ => noF, fun | _ => .none, []⟩
def f_l_some_parts : List Ar → W Exc D := denD m_l_some_parts 2 19 b_l_some_parts
abbrev s_l_names : Stmt := top 44
def n_l_names : List Str := ["parts", "found", "hand", "work", "deeds"]
def p_l_names : List Str := ["parts"]
def g_l_names : Tab := ⟨n_l_names, defScope s_l_names, defScope s_l_names, true, [], [], ["sorted"], [], []⟩
def b_l_names : IT := .cons (.set 1 (.fr (.lst .nil))) (.cons (.for_ (.nm 2) (.seq (.v 0)) (.cons (.set 1 (.fr (.cat (.e (.v 1)) (.e (.fr (.lc [3, 4] (.tup [3, 4]) (.seq (.v 2)) .no (.v 3))))))) .nil)) (.cons (.ret (.fr (.srtL (.e (.v 1))))) .nil))
def m_l_names : Mg := ⟨fun | _ => noF, fun | _ => .none, []⟩
def f_l_names : List Ar → W Exc D := denD m_l_names 1 5 b_l_names
abbrev s_must_be_level : Stmt := top 22
def n_must_be_level : List Str := ["level"]
def p_must_be_level : List Str := ["level"]
def g_must_be_level : Tab := ⟨n_must_be_level, defScope s_must_be_level, defScope s_must_be_level, true, [], ["LEVELS"], [], ["NotAllowed"], []⟩
def b_must_be_level : IT := .cons (.ife (.cmp .nin (.e (.v 0)) (.e (.g 0))) (.cons (.raise_ "NotAllowed" (.cons (.v 0) .nil)) .nil) .nil) .nil
def m_must_be_level : Mg := ⟨fun | _ => noF, fun | 0 => v_LEVELS | _ => .none, ["NotAllowed"]⟩
def f_must_be_level : List Ar → W Exc D := denD m_must_be_level 1 1 b_must_be_level
abbrev s_hand_pairs : Stmt := top 17
def n_hand_pairs : List Str := ["parts", "found", "hand", "k", "j"]
def p_hand_pairs : List Str := ["parts"]
def g_hand_pairs : Tab := ⟨n_hand_pairs, defScope s_hand_pairs, defScope s_hand_pairs, true, [], [], ["range", "len", "sorted"], [], []⟩
def b_hand_pairs : IT := .cons (.setF 1 (.lst .nil)) (.cons (.for_ (.nm 2) (.seq (.v 0)) (.cons (.ext 1 (.fr (.lc2 [3, 4] (.nm 3) (.r1 (.f1 .len (.e (.v 2)))) .no [4] (.nm 4) (.r1 (.v 3)) .no (.tup (.cons (.ix (.e (.ix (.e (.v 2)) (.e (.v 4)))) (.e (.i 0))) (.cons (.ix (.e (.ix (.e (.v 2)) (.e (.v 3)))) (.e (.i 0))) .nil)))))) .nil)) (.cons (.ret (.fr (.srtL (.own 1)))) .nil))
def m_hand_pairs : Mg := ⟨fun | _ => noF, fun | _ => .none, []⟩
def f_hand_pairs : List Ar → W Exc D := denD m_hand_pairs 1 5 b_hand_pairs
abbrev s_works_in : Stmt := top 11
def n_works_in : List Str := ["parts", "hand", "work", "_"]
def p_works_in : List Str := ["parts"]
def g_works_in : Tab := ⟨n_works_in, defScope s_works_in, defScope s_works_in, true, [], [], ["sorted"], [], []⟩
def b_works_in : IT := .cons (.ret (.fr (.srtL (.e (.fr (.lc2 [1, 2, 3] (.nm 1) (.seq (.v 0)) .no [2, 3] (.tup [2, 3]) (.seq (.v 1)) .no (.v 2))))))) .nil
def m_works_in : Mg := ⟨fun | _ => noF, fun | _ => .none, []⟩
def f_works_in : List Ar → W Exc D := denD m_works_in 1 4 b_works_in
abbrev s_deeds_in : Stmt := top 12
def n_deeds_in : List Str := ["parts", "work", "hand", "other", "deeds"]
def p_deeds_in : List Str := ["parts", "work"]
def g_deeds_in : Tab := ⟨n_deeds_in, defScope s_deeds_in, defScope s_deeds_in, true, [], [], [], [], []⟩
def b_deeds_in : IT := .cons (.ret (.ix (.e (.fr (.lc2 [2, 3, 4] (.nm 2) (.seq (.v 0)) .no [3, 4] (.tup [3, 4]) (.seq (.v 2)) (.one (.cmp .eq (.e (.v 3)) (.e (.v 1)))) (.v 4)))) (.e (.i 0)))) .nil
def m_deeds_in : Mg := ⟨fun | _ => noF, fun | _ => .none, []⟩
def f_deeds_in : List Ar → W Exc D := denD m_deeds_in 2 5 b_deeds_in
abbrev s_outer : Stmt := top 14
def n_outer : List Str := ["parts", "work", "deeds", "k"]
def p_outer : List Str := ["parts", "work"]
def g_outer : Tab := ⟨n_outer, defScope s_outer, defScope s_outer, true, ["deeds_in"], [], ["range", "len"], [], []⟩
def b_outer : IT := .cons (.set 2 (.call 0 (.d (.v 0) (.d (.v 1) .nil)))) (.cons (.ret (.fr (.lc [3] (.nm 3) (.r1 (.f1 .len (.e (.v 2)))) (.one (.and (.more (.cmp .eq (.e (.ix (.e (.ix (.e (.v 2)) (.e (.v 3)))) (.e (.i 0)))) (.e (.s "read"))) (.one (.cmp .ne (.e (.ix (.e (.ix (.e (.v 2)) (.e (.v 3)))) (.e (.i 3)))) (.e (.v 1))))))) (.bin .add (.e (.tup (.cons (.v 3) .nil))) (.e (.sl (.e (.ix (.e (.v 2)) (.e (.v 3)))) (.one (.i 2)) .no)))))) .nil)
def m_outer : Mg := ⟨fun | 0 => f_deeds_in | _ => noF, fun | _ => .none, []⟩
def f_outer : List Ar → W Exc D := denD m_outer 2 4 b_outer
abbrev s_read_pairs : Stmt := top 18
def n_read_pairs : List Str := ["parts", "found", "work", "_", "writer"]
def p_read_pairs : List Str := ["parts"]
def g_read_pairs : Tab := ⟨n_read_pairs, defScope s_read_pairs, defScope s_read_pairs, true, ["works_in", "outer"], [], ["sorted", "set"], [], []⟩
def b_read_pairs : IT := .cons (.setF 1 (.lst .nil)) (.cons (.for_ (.nm 2) (.seq (.call 0 (.d (.v 0) .nil))) (.cons (.ext 1 (.fr (.lc [3, 4] (.tup [3, 3, 4, 3]) (.seq (.call 1 (.d (.v 0) (.d (.v 2) .nil)))) (.one (.cmp .gt (.e (.v 4)) (.e (.i 0)))) (.tup (.cons (.v 4) (.cons (.v 2) .nil)))))) .nil)) (.cons (.ret (.fr (.srtS (.own 1)))) .nil))
def m_read_pairs : Mg := ⟨fun | 0 => f_works_in | 1 => f_outer | _ => noF, fun | _ => .none, []⟩
def f_read_pairs : List Ar → W Exc D := denD m_read_pairs 1 5 b_read_pairs
abbrev s_closed : Stmt := top 2
def n_closed : List Str := ["pairs", "found", "more", "after", "a", "b", "c", "d"]
def p_closed : List Str := ["pairs"]
def g_closed : Tab := ⟨n_closed, defScope s_closed, defScope s_closed, true, [], [], ["sorted", "set"], [], []⟩
def b_closed : IT := .cons (.set 1 (.fr (.srtS (.e (.v 0))))) (.cons (.whl (.tru (.e (.b true))) (.cons (.setL 2 (.lc2 [4, 5, 6, 7] (.tup [4, 5]) (.seq (.v 1)) .no [6, 7] (.tup [6, 7]) (.seq (.v 1)) (.one (.cmp .eq (.e (.v 5)) (.e (.v 6)))) (.tup (.cons (.v 4) (.cons (.v 7) .nil))))) (.cons (.set 3 (.fr (.srtS (.e (.bin .add (.e (.v 1)) (.e (.v 2))))))) (.cons (.ife (.cmp .eq (.e (.v 3)) (.e (.v 1))) (.cons (.ret (.v 1)) .nil) .nil) (.cons (.set 1 (.v 3)) .nil))))) .nil)
def m_closed : Mg := ⟨fun | _ => noF, fun | _ => .none, []⟩
def f_closed : List Ar → W Exc D := denD m_closed 1 8 b_closed
abbrev s_is_ringless : Stmt := top 3
def n_is_ringless : List Str := ["pairs", "a", "b"]
def p_is_ringless : List Str := ["pairs"]
def g_is_ringless : Tab := ⟨n_is_ringless, defScope s_is_ringless, defScope s_is_ringless, true, ["closed"], [], ["all"], [], []⟩
def b_is_ringless : IT := .cons (.ret (.f1 .all (.e (.fr (.lc [1, 2] (.tup [1, 2]) (.seq (.call 0 (.d (.v 0) .nil))) .no (.cmp .ne (.e (.v 1)) (.e (.v 2)))))))) .nil
def m_is_ringless : Mg := ⟨fun | 0 => f_closed | _ => noF, fun | _ => .none, []⟩
def f_is_ringless : List Ar → W Exc D := denD m_is_ringless 1 3 b_is_ringless
abbrev s_writes_in : Stmt := top 13
def n_writes_in : List Str := ["deeds", "key", "deed"]
def p_writes_in : List Str := ["deeds", "key"]
def g_writes_in : Tab := ⟨n_writes_in, defScope s_writes_in, defScope s_writes_in, true, [], [], ["len"], [], []⟩
def b_writes_in : IT := .cons (.ret (.f1 .len (.e (.fr (.lc [2] (.nm 2) (.seq (.v 0)) (.one (.and (.more (.cmp .eq (.e (.ix (.e (.v 2)) (.e (.i 0)))) (.e (.s "write"))) (.one (.cmp .eq (.e (.ix (.e (.v 2)) (.e (.i 2)))) (.e (.v 1))))))) (.v 2)))))) .nil
def m_writes_in : Mg := ⟨fun | _ => noF, fun | _ => .none, []⟩
def f_writes_in : List Ar → W Exc D := denD m_writes_in 2 3 b_writes_in
abbrev s_is_plain : Stmt := top 16
def n_is_plain : List Str := ["parts", "work", "_", "key", "writer", "number"]
def p_is_plain : List Str := ["parts"]
def g_is_plain : Tab := ⟨n_is_plain, defScope s_is_plain, defScope s_is_plain, true, ["works_in", "outer", "writes_in", "deeds_in"], [], [], [], []⟩
def b_is_plain : IT := .cons (.for_ (.nm 1) (.seq (.call 0 (.d (.v 0) .nil))) (.cons (.for_ (.tup [2, 3, 4, 5]) (.seq (.call 1 (.d (.v 0) (.d (.v 1) .nil)))) (.cons (.ife (.and (.more (.cmp .gt (.e (.v 4)) (.e (.i 0))) (.one (.cmp .ne (.e (.v 5)) (.e (.call 2 (.d (.call 3 (.d (.v 0) (.d (.v 4) .nil))) (.d (.v 3) .nil)))))))) (.cons (.ret (.b false)) .nil) .nil) .nil)) .nil)) (.cons (.ret (.b true)) .nil)
def m_is_plain : Mg := ⟨fun | 0 => f_works_in | 1 => f_outer | 2 => f_writes_in | 3 => f_deeds_in | _ => noF, fun | _ => .none, []⟩
def f_is_plain : List Ar → W Exc D := denD m_is_plain 1 6 b_is_plain
abbrev s_orders_of : Stmt := top 4
def n_orders_of : List Str := ["items", "found", "item", "rest", "other", "order"]
def p_orders_of : List Str := ["items"]
def g_orders_of : Tab := ⟨n_orders_of, defScope s_orders_of, defScope s_orders_of, true, ["orders_of"], [], ["len", "sorted"], [], []⟩
def b_orders_of : IT := .cons (.ife (.cmp .eq (.e (.f1 .len (.e (.v 0)))) (.e (.i 0))) (.cons (.ret (.fr (.lst (.cons (.tup .nil) .nil)))) .nil) .nil) (.cons (.setF 1 (.lst .nil)) (.cons (.for_ (.nm 2) (.seq (.fr (.srtL (.e (.v 0))))) (.cons (.setL 3 (.lc [4] (.nm 4) (.seq (.v 0)) (.one (.cmp .ne (.e (.v 4)) (.e (.v 2)))) (.v 4))) (.cons (.ext 1 (.fr (.lc [5] (.nm 5) (.seq (.call 0 (.d (.v 3) .nil))) .no (.bin .add (.e (.tup (.cons (.v 2) .nil))) (.e (.v 5)))))) .nil))) (.cons (.frz 1 (.ret (.v 1))) .nil)))
def m_orders_of (F : List Ar → W Exc D) : Mg := ⟨fun | 0 => F | _ => noF, fun | _ => .none, []⟩
def f_orders_of : Nat → List Ar → W Exc D
  | 0 => noF
  | n + 1 => denD (m_orders_of (f_orders_of n)) 1 6 b_orders_of
abbrev s_is_kept : Stmt := top 6
def n_is_kept : List Str := ["order", "pairs", "a", "b"]
def p_is_kept : List Str := ["order", "pairs"]
def g_is_kept : Tab := ⟨n_is_kept, defScope s_is_kept, defScope s_is_kept, true, [], [], ["all"], [], []⟩
def b_is_kept : IT := .cons (.ret (.f1 .all (.e (.fr (.lc [2, 3] (.tup [2, 3]) (.seq (.v 1)) (.one (.and (.more (.cmp .inn (.e (.v 2)) (.e (.v 0))) (.one (.cmp .inn (.e (.v 3)) (.e (.v 0))))))) (.cmp .lt (.e (.idx (.e (.v 0)) (.e (.v 2)))) (.e (.idx (.e (.v 0)) (.e (.v 3)))))))))) .nil
def m_is_kept : Mg := ⟨fun | _ => noF, fun | _ => .none, []⟩
def f_is_kept : List Ar → W Exc D := denD m_is_kept 2 4 b_is_kept
abbrev s_all_orders : Stmt := top 5
def n_all_orders : List Str := ["items", "pairs", "order"]
def p_all_orders : List Str := ["items", "pairs"]
def g_all_orders : Tab := ⟨n_all_orders, defScope s_all_orders, defScope s_all_orders, true, ["orders_of", "is_kept"], [], [], [], []⟩
def b_all_orders : IT := .cons (.ret (.fr (.lc [2] (.nm 2) (.seq (.call 0 (.d (.v 0) .nil))) (.one (.tru (.e (.call 1 (.d (.v 2) (.d (.v 1) .nil)))))) (.v 2)))) .nil
def m_all_orders : Mg := ⟨fun | 0 => f_orders_of 8 | 1 => f_is_kept | _ => noF, fun | _ => .none, []⟩
def f_all_orders : List Ar → W Exc D := denD m_all_orders 2 3 b_all_orders
abbrev s_writes_key : Stmt := top 15
def n_writes_key : List Str := ["parts", "work", "key"]
def p_writes_key : List Str := ["parts", "work", "key"]
def g_writes_key : Tab := ⟨n_writes_key, defScope s_writes_key, defScope s_writes_key, true, ["writes_in", "deeds_in"], [], [], [], []⟩
def b_writes_key : IT := .cons (.ret (.or (.more (.cmp .eq (.e (.v 1)) (.e (.i 0))) (.one (.cmp .gt (.e (.call 0 (.d (.call 1 (.d (.v 0) (.d (.v 1) .nil))) (.d (.v 2) .nil)))) (.e (.i 0))))))) .nil
def m_writes_key : Mg := ⟨fun | 0 => f_writes_in | 1 => f_deeds_in | _ => noF, fun | _ => .none, []⟩
def f_writes_key : List Ar → W Exc D := denD m_writes_key 3 3 b_writes_key
abbrev s_seen_before : Stmt := top 23
def n_seen_before : List Str := ["parts", "work", "place", "deed"]
def p_seen_before : List Str := ["parts", "work", "place"]
def g_seen_before : Tab := ⟨n_seen_before, defScope s_seen_before, defScope s_seen_before, true, ["deeds_in"], [], [], [], []⟩
def b_seen_before : IT := .cons (.ret (.fr (.lc [3] (.nm 3) (.seq (.sl (.e (.call 0 (.d (.v 0) (.d (.v 1) .nil)))) .no (.one (.v 2)))) (.one (.and (.more (.cmp .eq (.e (.ix (.e (.v 3)) (.e (.i 0)))) (.e (.s "read"))) (.one (.cmp .nin (.e (.ix (.e (.v 3)) (.e (.i 3)))) (.e (.tup (.cons (.i 0) (.cons (.v 1) .nil))))))))) (.ix (.e (.v 3)) (.e (.i 3)))))) .nil
def m_seen_before : Mg := ⟨fun | 0 => f_deeds_in | _ => noF, fun | _ => .none, []⟩
def f_seen_before : List Ar → W Exc D := denD m_seen_before 3 4 b_seen_before
abbrev s_before : Stmt := top 24
def n_before : List Str := ["order", "one", "two"]
def p_before : List Str := ["order", "one", "two"]
def g_before : Tab := ⟨n_before, defScope s_before, defScope s_before, true, [], [], [], [], []⟩
def b_before : IT := .cons (.ife (.or (.more (.cmp .eq (.e (.v 1)) (.e (.i 0))) (.one (.cmp .eq (.e (.v 2)) (.e (.i 0)))))) (.cons (.ret (.and (.more (.cmp .eq (.e (.v 1)) (.e (.i 0))) (.one (.cmp .ne (.e (.v 2)) (.e (.i 0))))))) .nil) .nil) (.cons (.ret (.cmp .lt (.e (.idx (.e (.v 0)) (.e (.v 1)))) (.e (.idx (.e (.v 0)) (.e (.v 2)))))) .nil)
def m_before : Mg := ⟨fun | _ => noF, fun | _ => .none, []⟩
def f_before : List Ar → W Exc D := denD m_before 3 3 b_before
abbrev s_keys_of : Stmt := top 19
def n_keys_of : List Str := ["parts", "work", "key"]
def p_keys_of : List Str := ["parts", "work"]
def g_keys_of : Tab := ⟨n_keys_of, defScope s_keys_of, defScope s_keys_of, true, ["writes_in", "deeds_in"], ["KEYS"], ["range"], [], []⟩
def b_keys_of : IT := .cons (.ret (.fr (.lc [2] (.nm 2) (.r1 (.g 0)) (.one (.cmp .gt (.e (.call 0 (.d (.call 1 (.d (.v 0) (.d (.v 1) .nil))) (.d (.v 2) .nil)))) (.e (.i 0)))) (.v 2)))) .nil
def m_keys_of : Mg := ⟨fun | 0 => f_writes_in | 1 => f_deeds_in | _ => noF, fun | 0 => v_KEYS | _ => .none, []⟩
def f_keys_of : List Ar → W Exc D := denD m_keys_of 2 3 b_keys_of
abbrev s_shares_key : Stmt := top 26
def n_shares_key : List Str := ["parts", "one", "two", "key"]
def p_shares_key : List Str := ["parts", "one", "two"]
def g_shares_key : Tab := ⟨n_shares_key, defScope s_shares_key, defScope s_shares_key, true, ["keys_of"], [], ["any"], [], []⟩
def b_shares_key : IT := .cons (.ret (.and (.more (.cmp .ne (.e (.v 1)) (.e (.v 2))) (.one (.f1 .any (.e (.fr (.lc [3] (.nm 3) (.seq (.call 0 (.d (.v 0) (.d (.v 1) .nil)))) .no (.cmp .inn (.e (.v 3)) (.e (.call 0 (.d (.v 0) (.d (.v 2) .nil))))))))))))) .nil
def m_shares_key : Mg := ⟨fun | 0 => f_keys_of | _ => noF, fun | _ => .none, []⟩
def f_shares_key : List Ar → W Exc D := denD m_shares_key 3 4 b_shares_key
abbrev s_sees : Stmt := top 25
def n_sees : List Str := ["level", "parts", "order", "other", "work", "place", "direct", "middles", "rivals", "a", "b"]
def p_sees : List Str := ["level", "parts", "order", "other", "work", "place"]
def g_sees : Tab := ⟨n_sees, defScope s_sees, defScope s_sees, true, ["hand_pairs", "read_pairs", "seen_before", "closed", "before", "works_in", "shares_key"], [], ["any"], [], []⟩
def b_sees : IT := .cons (.set 6 (.bin .add (.e (.call 0 (.d (.v 1) .nil))) (.e (.call 1 (.d (.v 1) .nil))))) (.cons (.ife (.cmp .eq (.e (.v 0)) (.e (.s "read"))) (.cons (.ret (.cmp .inn (.e (.v 3)) (.e (.call 2 (.d (.v 1) (.d (.v 4) (.d (.v 5) .nil))))))) .nil) .nil) (.cons (.ife (.cmp .eq (.e (.v 0)) (.e (.s "atomic"))) (.cons (.ret (.cmp .inn (.e (.tup (.cons (.v 3) (.cons (.v 4) .nil)))) (.e (.v 6)))) .nil) .nil) (.cons (.ife (.cmp .eq (.e (.v 0)) (.e (.s "causal"))) (.cons (.ret (.cmp .inn (.e (.tup (.cons (.v 3) (.cons (.v 4) .nil)))) (.e (.call 3 (.d (.v 6) .nil))))) .nil) .nil) (.cons (.ife (.cmp .eq (.e (.v 0)) (.e (.s "serial"))) (.cons (.ret (.call 4 (.d (.v 2) (.d (.v 3) (.d (.v 4) .nil))))) .nil) .nil) (.cons (.setL 7 (.lc [9, 10] (.tup [9, 10]) (.seq (.v 6)) (.one (.cmp .eq (.e (.v 10)) (.e (.v 4)))) (.v 9))) (.cons (.ife (.tru (.e (.f1 .any (.e (.fr (.lc [9] (.nm 9) (.seq (.v 7)) .no (.or (.more (.cmp .eq (.e (.v 3)) (.e (.v 9))) (.one (.call 4 (.d (.v 2) (.d (.v 3) (.d (.v 9) .nil))))))))))))) (.cons (.ret (.b true)) .nil) .nil) (.cons (.ife (.cmp .eq (.e (.v 0)) (.e (.s "prefix"))) (.cons (.ret (.b false)) .nil) .nil) (.cons (.setL 8 (.lc [9] (.nm 9) (.seq (.call 5 (.d (.v 1) .nil))) (.one (.and (.more (.tru (.e (.call 6 (.d (.v 1) (.d (.v 9) (.d (.v 4) .nil)))))) (.one (.tru (.e (.call 4 (.d (.v 2) (.d (.v 9) (.d (.v 4) .nil)))))))))) (.v 9))) (.cons (.ret (.f1 .any (.e (.fr (.lc [9] (.nm 9) (.seq (.v 8)) .no (.or (.more (.cmp .eq (.e (.v 3)) (.e (.v 9))) (.one (.call 4 (.d (.v 2) (.d (.v 3) (.d (.v 9) .nil)))))))))))) .nil)))))))))
def m_sees : Mg := ⟨fun | 0 => f_hand_pairs | 1 => f_read_pairs | 2 => f_seen_before | 3 => f_closed | 4 => f_before | 5 => f_works_in | 6 => f_shares_key | _ => noF, fun | _ => .none, []⟩
def f_sees : List Ar → W Exc D := denD m_sees 6 11 b_sees
abbrev s_demands : Stmt := top 27
def n_demands : List Str := ["level", "parts", "order", "found", "work", "place", "key", "writer", "_", "other"]
def p_demands : List Str := ["level", "parts", "order"]
def g_demands : Tab := ⟨n_demands, defScope s_demands, defScope s_demands, true, ["hand_pairs", "read_pairs", "works_in", "outer", "writes_key", "sees"], [], ["sorted", "set"], [], []⟩
def b_demands : IT := .cons (.setF 3 (.cat (.e (.call 0 (.d (.v 1) .nil))) (.e (.call 1 (.d (.v 1) .nil))))) (.cons (.for_ (.nm 4) (.seq (.call 2 (.d (.v 1) .nil))) (.cons (.for_ (.tup [5, 6, 7, 8]) (.seq (.call 3 (.d (.v 1) (.d (.v 4) .nil)))) (.cons (.for_ (.nm 9) (.seq (.call 2 (.d (.v 1) .nil))) (.cons (.ife (.or (.more (.cmp .inn (.e (.v 9)) (.e (.tup (.cons (.v 4) (.cons (.v 7) .nil))))) (.one (.not (.tru (.e (.call 4 (.d (.v 1) (.d (.v 9) (.d (.v 6) .nil)))))))))) (.cons .cnt .nil) .nil) (.cons (.ife (.tru (.e (.call 5 (.d (.v 0) (.d (.v 1) (.d (.v 2) (.d (.v 9) (.d (.v 4) (.d (.v 5) .nil))))))))) (.cons (.app 3 (.tup (.cons (.v 9) (.cons (.v 7) .nil)))) .nil) .nil) .nil))) .nil)) .nil)) (.cons (.ret (.fr (.srtS (.own 3)))) .nil))
def m_demands : Mg := ⟨fun | 0 => f_hand_pairs | 1 => f_read_pairs | 2 => f_works_in | 3 => f_outer | 4 => f_writes_key | 5 => f_sees | _ => noF, fun | _ => .none, []⟩
def f_demands : List Ar → W Exc D := denD m_demands 3 10 b_demands
abbrev s_is_good : Stmt := top 28
def n_is_good : List Str := ["level", "parts", "order", "pairs", "_", "b"]
def p_is_good : List Str := ["level", "parts", "order"]
def g_is_good : Tab := ⟨n_is_good, defScope s_is_good, defScope s_is_good, true, ["must_be_level", "is_plain", "demands", "is_kept"], [], ["any"], [], []⟩
def b_is_good : IT := .cons (.drop (.call 0 (.d (.v 0) .nil))) (.cons (.ife (.not (.tru (.e (.call 1 (.d (.v 1) .nil))))) (.cons (.ret (.b false)) .nil) .nil) (.cons (.set 3 (.call 2 (.d (.v 0) (.d (.v 1) (.d (.v 2) .nil))))) (.cons (.ret (.and (.more (.call 3 (.d (.v 2) (.d (.v 3) .nil))) (.one (.not (.e (.f1 .any (.e (.fr (.lc [4, 5] (.tup [4, 5]) (.seq (.v 3)) .no (.cmp .eq (.e (.v 5)) (.e (.i 0))))))))))))) .nil)))
def m_is_good : Mg := ⟨fun | 0 => f_must_be_level | 1 => f_is_plain | 2 => f_demands | 3 => f_is_kept | _ => noF, fun | _ => .none, []⟩
def f_is_good : List Ar → W Exc D := denD m_is_good 3 6 b_is_good
abbrev s_find : Stmt := top 29
def n_find : List Str := ["level", "parts", "direct", "good", "order"]
def p_find : List Str := ["level", "parts"]
def g_find : Tab := ⟨n_find, defScope s_find, defScope s_find, true, ["must_be_level", "hand_pairs", "read_pairs", "is_ringless", "is_plain", "all_orders", "works_in", "is_good"], [], ["len"], [], []⟩
def b_find : IT := .cons (.drop (.call 0 (.d (.v 0) .nil))) (.cons (.set 2 (.bin .add (.e (.call 1 (.d (.v 1) .nil))) (.e (.call 2 (.d (.v 1) .nil))))) (.cons (.ife (.or (.more (.not (.tru (.e (.call 4 (.d (.v 1) .nil))))) (.one (.not (.tru (.e (.call 3 (.d (.v 2) .nil)))))))) (.cons (.ret .none) .nil) .nil) (.cons (.setL 3 (.lc [4] (.nm 4) (.seq (.call 5 (.d (.call 6 (.d (.v 1) .nil)) (.d (.v 2) .nil)))) (.one (.tru (.e (.call 7 (.d (.v 0) (.d (.v 1) (.d (.v 4) .nil))))))) (.v 4))) (.cons (.ret (.ife (.cmp .gt (.e (.f1 .len (.e (.v 3)))) (.e (.i 0))) (.ix (.e (.v 3)) (.e (.i 0))) .none)) .nil))))
def m_find : Mg := ⟨fun | 0 => f_must_be_level | 1 => f_hand_pairs | 2 => f_read_pairs | 3 => f_is_ringless | 4 => f_is_plain | 5 => f_all_orders | 6 => f_works_in | 7 => f_is_good | _ => noF, fun | _ => .none, []⟩
def f_find : List Ar → W Exc D := denD m_find 2 5 b_find
abbrev s_from_commits : Stmt := top 32
def n_from_commits : List Str := ["level", "parts", "order", "direct", "works", "every", "more", "a", "b", "c"]
def p_from_commits : List Str := ["level", "parts", "order"]
def g_from_commits : Tab := ⟨n_from_commits, defScope s_from_commits, defScope s_from_commits, true, ["must_be_level", "hand_pairs", "read_pairs", "works_in", "before", "closed", "shares_key"], [], ["tuple", "sorted", "set"], [], []⟩
def b_from_commits : IT := .cons (.drop (.call 0 (.d (.v 0) .nil))) (.cons (.set 3 (.bin .add (.e (.call 1 (.d (.v 1) .nil))) (.e (.call 2 (.d (.v 1) .nil))))) (.cons (.set 4 (.call 3 (.d (.v 1) .nil))) (.cons (.setL 5 (.lc2 [7, 8] (.nm 7) (.seq (.v 4)) .no [8] (.nm 8) (.seq (.v 4)) (.one (.and (.more (.cmp .ne (.e (.v 7)) (.e (.v 8))) (.one (.tru (.e (.call 4 (.d (.v 2) (.d (.v 7) (.d (.v 8) .nil)))))))))) (.tup (.cons (.v 7) (.cons (.v 8) .nil))))) (.cons (.ife (.cmp .eq (.e (.v 0)) (.e (.s "serial"))) (.cons (.ret (.tup (.cons (.f1 .tup (.e (.fr (.srtL (.e (.v 5)))))) (.cons (.v 2) .nil)))) .nil) .nil) (.cons (.ife (.cmp .inn (.e (.v 0)) (.e (.tup (.cons (.s "read") (.cons (.s "atomic") .nil))))) (.cons (.ret (.tup (.cons (.f1 .tup (.e (.fr (.srtS (.e (.v 3)))))) (.cons (.v 2) .nil)))) .nil) .nil) (.cons (.ife (.cmp .eq (.e (.v 0)) (.e (.s "causal"))) (.cons (.ret (.tup (.cons (.f1 .tup (.e (.call 5 (.d (.v 3) .nil)))) (.cons (.v 2) .nil)))) .nil) .nil) (.cons (.ife (.cmp .eq (.e (.v 0)) (.e (.s "pictures"))) (.cons (.set 3 (.fr (.cat (.e (.v 3)) (.e (.fr (.lc [7, 8] (.tup [7, 8]) (.seq (.v 5)) (.one (.tru (.e (.call 6 (.d (.v 1) (.d (.v 7) (.d (.v 8) .nil))))))) (.tup (.cons (.v 7) (.cons (.v 8) .nil))))))))) .nil) .nil) (.cons (.setL 6 (.lc2 [7, 8, 9] (.tup [7, 8]) (.seq (.v 3)) .no [9] (.nm 9) (.seq (.v 4)) (.one (.or (.more (.cmp .eq (.e (.v 9)) (.e (.v 7))) (.one (.tru (.e (.call 4 (.d (.v 2) (.d (.v 9) (.d (.v 7) .nil)))))))))) (.tup (.cons (.v 9) (.cons (.v 8) .nil))))) (.cons (.ret (.tup (.cons (.f1 .tup (.e (.fr (.srtS (.e (.v 6)))))) (.cons (.v 2) .nil)))) .nil)))))))))
def m_from_commits : Mg := ⟨fun | 0 => f_must_be_level | 1 => f_hand_pairs | 2 => f_read_pairs | 3 => f_works_in | 4 => f_before | 5 => f_closed | 6 => f_shares_key | _ => noF, fun | _ => .none, []⟩
def f_from_commits : List Ar → W Exc D := denD m_from_commits 3 10 b_from_commits
abbrev s_reads_any : Stmt := top 35
def n_reads_any : List Str := ["parts", "work", "deed"]
def p_reads_any : List Str := ["parts", "work"]
def g_reads_any : Tab := ⟨n_reads_any, defScope s_reads_any, defScope s_reads_any, true, ["deeds_in"], [], ["any"], [], []⟩
def b_reads_any : IT := .cons (.ret (.f1 .any (.e (.fr (.lc [2] (.nm 2) (.seq (.call 0 (.d (.v 0) (.d (.v 1) .nil)))) .no (.cmp .eq (.e (.ix (.e (.v 2)) (.e (.i 0)))) (.e (.s "read")))))))) .nil
def m_reads_any : Mg := ⟨fun | 0 => f_deeds_in | _ => noF, fun | _ => .none, []⟩
def f_reads_any : List Ar → W Exc D := denD m_reads_any 2 3 b_reads_any
abbrev s_writes_any : Stmt := top 34
def n_writes_any : List Str := ["parts", "work", "deed"]
def p_writes_any : List Str := ["parts", "work"]
def g_writes_any : Tab := ⟨n_writes_any, defScope s_writes_any, defScope s_writes_any, true, ["deeds_in"], [], ["any"], [], []⟩
def b_writes_any : IT := .cons (.ret (.f1 .any (.e (.fr (.lc [2] (.nm 2) (.seq (.call 0 (.d (.v 0) (.d (.v 1) .nil)))) .no (.cmp .eq (.e (.ix (.e (.v 2)) (.e (.i 0)))) (.e (.s "write")))))))) .nil
def m_writes_any : Mg := ⟨fun | 0 => f_deeds_in | _ => noF, fun | _ => .none, []⟩
def f_writes_any : List Ar → W Exc D := denD m_writes_any 2 3 b_writes_any
abbrev s_wish_pairs : Stmt := top 33
def n_wish_pairs : List Str := ["word", "parts", "value", "seen", "own", "back", "a", "b", "d", "c", "e"]
def p_wish_pairs : List Str := ["word", "parts", "value"]
def g_wish_pairs : Tab := ⟨n_wish_pairs, defScope s_wish_pairs, defScope s_wish_pairs, true, ["hand_pairs", "reads_any", "writes_any"], [], [], [], []⟩
def b_wish_pairs : IT := .cons (.set 3 (.ix (.e (.v 2)) (.e (.i 0)))) (.cons (.set 4 (.call 0 (.d (.v 1) .nil))) (.cons (.ife (.cmp .eq (.e (.v 0)) (.e (.s "readback"))) (.cons (.ret (.fr (.lc [6, 7] (.tup [6, 7]) (.seq (.v 4)) (.one (.and (.more (.tru (.e (.call 2 (.d (.v 1) (.d (.v 6) .nil))))) (.one (.tru (.e (.call 1 (.d (.v 1) (.d (.v 7) .nil))))))))) (.tup (.cons (.v 6) (.cons (.v 7) .nil)))))) .nil) .nil) (.cons (.ife (.cmp .eq (.e (.v 0)) (.e (.s "readon"))) (.cons (.ret (.fr (.lc2 [6, 7, 8, 9] (.tup [6, 7]) (.seq (.v 3)) .no [8, 9] (.tup [8, 9]) (.seq (.v 4)) (.one (.and (.more (.cmp .eq (.e (.v 8)) (.e (.v 7))) (.more (.tru (.e (.call 1 (.d (.v 1) (.d (.v 7) .nil))))) (.one (.tru (.e (.call 1 (.d (.v 1) (.d (.v 9) .nil)))))))))) (.tup (.cons (.v 6) (.cons (.v 9) .nil)))))) .nil) .nil) (.cons (.ife (.cmp .eq (.e (.v 0)) (.e (.s "writeon"))) (.cons (.ret (.fr (.lc2 [6, 7, 8, 9] (.tup [6, 7]) (.seq (.v 4)) (.one (.and (.more (.tru (.e (.call 2 (.d (.v 1) (.d (.v 6) .nil))))) (.one (.tru (.e (.call 2 (.d (.v 1) (.d (.v 7) .nil))))))))) [8, 9] (.tup [8, 9]) (.seq (.v 3)) (.one (.cmp .eq (.e (.v 8)) (.e (.v 7)))) (.tup (.cons (.v 6) (.cons (.v 9) .nil)))))) .nil) .nil) (.cons (.setL 5 (.lc2 [6, 7, 8, 9] (.tup [6, 7]) (.seq (.v 3)) .no [8, 9] (.tup [8, 9]) (.seq (.v 4)) (.one (.and (.more (.cmp .eq (.e (.v 8)) (.e (.v 7))) (.one (.tru (.e (.call 2 (.d (.v 1) (.d (.v 9) .nil))))))))) (.tup (.cons (.v 6) (.cons (.v 9) .nil))))) (.cons (.ret (.fr (.lc2 [6, 9, 8, 10] (.tup [6, 9]) (.seq (.v 5)) .no [8, 10] (.tup [8, 10]) (.seq (.v 3)) (.one (.cmp .eq (.e (.v 8)) (.e (.v 9)))) (.tup (.cons (.v 6) (.cons (.v 10) .nil)))))) .nil))))))
def m_wish_pairs : Mg := ⟨fun | 0 => f_hand_pairs | 1 => f_reads_any | 2 => f_writes_any | _ => noF, fun | _ => .none, []⟩
def f_wish_pairs : List Ar → W Exc D := denD m_wish_pairs 3 11 b_wish_pairs
abbrev s_wishes : Stmt := top 36
def n_wishes : List Str := ["parts", "value", "found", "word", "a", "b"]
def p_wishes : List Str := ["parts", "value"]
def g_wishes : Tab := ⟨n_wishes, defScope s_wishes, defScope s_wishes, true, ["wish_pairs"], ["WISHES"], ["all"], [], []⟩
def b_wishes : IT := .cons (.newD 2) (.cons (.for_ (.nm 3) (.seq (.g 0)) (.cons (.putD 2 (.v 3) (.f1 .all (.e (.fr (.lc [4, 5] (.tup [4, 5]) (.seq (.call 0 (.d (.v 3) (.d (.v 0) (.d (.v 1) .nil))))) .no (.or (.more (.cmp .eq (.e (.v 4)) (.e (.v 5))) (.one (.cmp .inn (.e (.tup (.cons (.v 4) (.cons (.v 5) .nil)))) (.e (.ix (.e (.v 1)) (.e (.i 0))))))))))))) .nil)) (.cons (.frz 2 (.ret (.v 2))) .nil))
def m_wishes : Mg := ⟨fun | 0 => f_wish_pairs | _ => noF, fun | 0 => v_WISHES | _ => .none, []⟩
def f_wishes : List Ar → W Exc D := denD m_wishes 2 6 b_wishes
abbrev s_l_hand_pairs : Stmt := top 46
def n_l_hand_pairs : List Str := ["parts", "found", "hand", "k", "j"]
def p_l_hand_pairs : List Str := ["parts"]
def g_l_hand_pairs : Tab := ⟨n_l_hand_pairs, defScope s_l_hand_pairs, defScope s_l_hand_pairs, true, [], [], ["range", "len", "sorted"], [], []⟩
def b_l_hand_pairs : IT := .cons (.set 1 (.fr (.lst .nil))) (.cons (.for_ (.nm 2) (.seq (.v 0)) (.cons (.for_ (.nm 3) (.r1 (.f1 .len (.e (.v 2)))) (.cons (.set 1 (.fr (.cat (.e (.v 1)) (.e (.fr (.lc [4] (.nm 4) (.r1 (.v 3)) .no (.tup (.cons (.ix (.e (.ix (.e (.v 2)) (.e (.v 4)))) (.e (.i 0))) (.cons (.ix (.e (.ix (.e (.v 2)) (.e (.v 3)))) (.e (.i 0))) .nil))))))))) .nil)) .nil)) (.cons (.ret (.fr (.srtL (.e (.v 1))))) .nil))
def m_l_hand_pairs : Mg := ⟨fun | _ => noF, fun | _ => .none, []⟩
def f_l_hand_pairs : List Ar → W Exc D := denD m_l_hand_pairs 1 5 b_l_hand_pairs
abbrev s_l_deeds : Stmt := top 45
def n_l_deeds : List Str := ["parts", "work", "hand", "other", "deeds"]
def p_l_deeds : List Str := ["parts", "work"]
def g_l_deeds : Tab := ⟨n_l_deeds, defScope s_l_deeds, defScope s_l_deeds, true, [], [], [], [], []⟩
def b_l_deeds : IT := .cons (.for_ (.nm 2) (.seq (.v 0)) (.cons (.for_ (.tup [3, 4]) (.seq (.v 2)) (.cons (.ife (.cmp .eq (.e (.v 3)) (.e (.v 1))) (.cons (.ret (.v 4)) .nil) .nil) .nil)) .nil)) (.cons (.ret (.tup .nil)) .nil)
def m_l_deeds : Mg := ⟨fun | _ => noF, fun | _ => .none, []⟩
def f_l_deeds : List Ar → W Exc D := denD m_l_deeds 2 5 b_l_deeds
abbrev s_l_any : Stmt := top 48
def n_l_any : List Str := ["parts", "work", "word", "deed"]
def p_l_any : List Str := ["parts", "work", "word"]
def g_l_any : Tab := ⟨n_l_any, defScope s_l_any, defScope s_l_any, true, ["_law_deeds"], [], ["len"], [], []⟩
def b_l_any : IT := .cons (.ret (.cmp .gt (.e (.f1 .len (.e (.fr (.lc [3] (.nm 3) (.seq (.call 0 (.d (.v 0) (.d (.v 1) .nil)))) (.one (.cmp .eq (.e (.ix (.e (.v 3)) (.e (.i 0)))) (.e (.v 2)))) (.v 3)))))) (.e (.i 0)))) .nil
def m_l_any : Mg := ⟨fun | 0 => f_l_deeds | _ => noF, fun | _ => .none, []⟩
def f_l_any : List Ar → W Exc D := denD m_l_any 3 4 b_l_any
abbrev s_l_wishes : Stmt := top 49
def n_l_wishes : List Str := ["parts", "seen", "own", "found", "back", "on", "write", "follow", "a", "b", "word", "pairs", "c", "d", "pair", "e", "f"]
def p_l_wishes : List Str := ["parts", "seen"]
def g_l_wishes : Tab := ⟨n_l_wishes, defScope s_l_wishes, defScope s_l_wishes, true, ["_law_hand_pairs", "_law_any"], [], ["len"], [], []⟩
def b_l_wishes : IT := .cons (.set 2 (.call 0 (.d (.v 0) .nil))) (.cons (.par [4, 5, 6, 7] (.f (.lst .nil) (.e (.fr (.lst .nil)) (.e (.fr (.lst .nil)) (.e (.fr (.lst .nil)) .nil))))) (.cons (.for_ (.tup [8, 9]) (.seq (.v 2)) (.cons (.ife (.and (.more (.tru (.e (.call 1 (.d (.v 0) (.d (.v 8) (.d (.s "write") .nil)))))) (.one (.tru (.e (.call 1 (.d (.v 0) (.d (.v 9) (.d (.s "read") .nil))))))))) (.cons (.app 4 (.tup (.cons (.v 8) (.cons (.v 9) .nil)))) .nil) .nil) (.cons (.ife (.and (.more (.tru (.e (.call 1 (.d (.v 0) (.d (.v 8) (.d (.s "read") .nil)))))) (.one (.tru (.e (.call 1 (.d (.v 0) (.d (.v 9) (.d (.s "read") .nil))))))))) (.cons (.set 5 (.fr (.cat (.e (.v 5)) (.e (.fr (.lc [12, 13] (.tup [12, 13]) (.seq (.v 1)) (.one (.cmp .eq (.e (.v 13)) (.e (.v 8)))) (.tup (.cons (.v 12) (.cons (.v 9) .nil))))))))) .nil) .nil) (.cons (.ife (.and (.more (.tru (.e (.call 1 (.d (.v 0) (.d (.v 8) (.d (.s "write") .nil)))))) (.one (.tru (.e (.call 1 (.d (.v 0) (.d (.v 9) (.d (.s "write") .nil))))))))) (.cons (.set 6 (.fr (.cat (.e (.v 6)) (.e (.fr (.lc [12, 13] (.tup [12, 13]) (.seq (.v 1)) (.one (.cmp .eq (.e (.v 12)) (.e (.v 9)))) (.tup (.cons (.v 8) (.cons (.v 13) .nil))))))))) .nil) .nil) (.cons (.ife (.tru (.e (.call 1 (.d (.v 0) (.d (.v 9) (.d (.s "write") .nil)))))) (.cons (.for_ (.tup [12, 13]) (.seq (.v 1)) (.cons (.ife (.cmp .eq (.e (.v 13)) (.e (.v 8))) (.cons (.set 7 (.fr (.cat (.e (.v 7)) (.e (.fr (.lc [15, 16] (.tup [15, 16]) (.seq (.v 1)) (.one (.cmp .eq (.e (.v 15)) (.e (.v 9)))) (.tup (.cons (.v 12) (.cons (.v 16) .nil))))))))) .nil) .nil) .nil)) .nil) .nil) .nil))))) (.cons (.newD 3) (.cons (.frz 4 (.for_ (.tup [10, 11]) (.seq (.tup (.cons (.tup (.cons (.s "readback") (.cons (.v 4) .nil))) (.cons (.tup (.cons (.s "readon") (.cons (.v 5) .nil))) (.cons (.tup (.cons (.s "writeon") (.cons (.v 6) .nil))) (.cons (.tup (.cons (.s "follow") (.cons (.v 7) .nil))) .nil)))))) (.cons (.putD 3 (.v 10) (.cmp .eq (.e (.f1 .len (.e (.fr (.lc [14] (.nm 14) (.seq (.v 11)) (.one (.and (.more (.cmp .ne (.e (.ix (.e (.v 14)) (.e (.i 0)))) (.e (.ix (.e (.v 14)) (.e (.i 1))))) (.one (.cmp .nin (.e (.v 14)) (.e (.v 1))))))) (.v 14)))))) (.e (.i 0)))) .nil))) (.cons (.frz 3 (.ret (.v 3))) .nil)))))
def m_l_wishes : Mg := ⟨fun | 0 => f_l_hand_pairs | 1 => f_l_any | _ => noF, fun | _ => .none, []⟩
def f_l_wishes : List Ar → W Exc D := denD m_l_wishes 2 17 b_l_wishes
abbrev s_law : Stmt := top 50
def n_law : List Str := ["script", "pool", "turn", "parts", "order", "pairs", "k", "papers", "level", "paper", "found", "told", "due", "j", "word"]
def p_law : List Str := ["script"]
def g_law : Tab := ⟨n_law, defScope s_law, defScope s_law, true, ["_law_some_parts", "_law_shuffled", "_law_names", "_law_draw", "find", "from_commits", "wishes", "_law_wishes"], [], ["range", "tuple", "len", "sorted"], [], []⟩
def b_law : IT := .cons (.for_ (.nm 2) (.r1 (.i 4)) (.cons (.set 3 (.call 0 (.pool 1 (.d (.i 5) .nil)))) (.cons (.set 4 (.f1 .tup (.e (.call 1 (.pool 1 (.d (.call 2 (.d (.v 3) .nil)) .nil)))))) (.cons (.set 5 (.fr (.lst .nil))) (.cons (.for_ (.nm 6) (.r1 (.f1 .len (.e (.v 4)))) (.cons (.set 5 (.fr (.cat (.e (.v 5)) (.e (.fr (.lc [13] (.nm 13) (.r1 (.v 6)) (.one (.cmp .eq (.e (.call 3 (.pool 1 (.d (.i 2) .nil)))) (.e (.i 0)))) (.tup (.cons (.ix (.e (.v 4)) (.e (.v 13))) (.cons (.ix (.e (.v 4)) (.e (.v 6))) .nil))))))))) .nil)) (.cons (.set 7 (.fr (.lst (.cons (.tup (.cons (.f1 .tup (.e (.fr (.srtL (.e (.v 5)))))) (.cons (.v 4) .nil))) .nil)))) (.cons (.for_ (.nm 8) (.seq (.tup (.cons (.s "causal") (.cons (.s "prefix") .nil)))) (.cons (.set 10 (.call 4 (.d (.v 8) (.d (.v 3) .nil)))) (.cons (.set 7 (.ife (.cmp .isn (.e (.v 10)) (.e .none)) (.fr (.cat (.e (.v 7)) (.e (.fr (.lst (.cons (.call 5 (.d (.v 8) (.d (.v 3) (.d (.v 10) .nil)))) .nil)))))) (.v 7))) .nil))) (.cons (.for_ (.nm 9) (.seq (.v 7)) (.cons (.par [11, 12] (.e (.call 6 (.d (.v 3) (.d (.v 9) .nil))) (.e (.call 7 (.d (.v 3) (.d (.ix (.e (.v 9)) (.e (.i 0))) .nil))) .nil))) (.cons (.ife (.cmp .ne (.e (.fr (.srtL (.e (.fr (.lc [14] (.nm 14) (.seq (.v 11)) .no (.tup (.cons (.v 14) (.cons (.ix (.e (.v 11)) (.e (.v 14))) .nil))))))))) (.e (.fr (.srtL (.e (.fr (.lc [14] (.nm 14) (.seq (.v 12)) .no (.tup (.cons (.v 14) (.cons (.ix (.e (.v 12)) (.e (.v 14))) .nil)))))))))) (.cons (.ret (.b false)) .nil) .nil) .nil))) (.cons (.ife (.cmp .gt (.e (.f1 .len (.e (.fr (.lc [9] (.nm 9) (.seq (.sl (.e (.v 7)) (.one (.i 1)) .no)) (.one (.cmp .inn (.e (.b false)) (.e (.fr (.lc [14] (.nm 14) (.seq (.call 6 (.d (.v 3) (.d (.v 9) .nil)))) .no (.ix (.e (.call 6 (.d (.v 3) (.d (.v 9) .nil)))) (.e (.v 14)))))))) (.v 9)))))) (.e (.i 0))) (.cons (.ret (.b false)) .nil) .nil) .nil))))))))) (.cons (.ret (.b true)) .nil)
def m_law : Mg := ⟨fun | 0 => f_l_some_parts | 1 => f_l_shuffled | 2 => f_l_names | 3 => f_l_draw | 4 => f_find | 5 => f_from_commits | 6 => f_wishes | 7 => f_l_wishes | _ => noF, fun | _ => .none, []⟩
/-! ### they are the text -/
theorem sc_l_pool : FnScope n_l_pool p_l_pool (defScope s_l_pool) := ⟨rfl, rfl, rfl, by decide +kernel, rfl, by decide +kernel, by decide +kernel⟩
theorem c_l_pool : chkT g_l_pool poolIR (defBody s_l_pool) = true := by decide +kernel
theorem sc_l_spread : FnScope n_l_spread p_l_spread (defScope s_l_spread) := ⟨rfl, rfl, rfl, by decide +kernel, rfl, by decide +kernel, by decide +kernel⟩
theorem c_l_spread : chkT g_l_spread b_l_spread (defBody s_l_spread) = true := by decide +kernel
theorem sc_l_draw : FnScope n_l_draw p_l_draw (defScope s_l_draw) := ⟨rfl, rfl, rfl, by decide +kernel, rfl, by decide +kernel, by decide +kernel⟩
theorem c_l_draw : chkT g_l_draw drawIR (defBody s_l_draw) = true := by decide +kernel
theorem sc_l_pick : FnScope n_l_pick p_l_pick (defScope s_l_pick) := ⟨rfl, rfl, rfl, by decide +kernel, rfl, by decide +kernel, by decide +kernel⟩
theorem c_l_pick : chkT g_l_pick b_l_pick (defBody s_l_pick) = true := by decide +kernel
theorem sc_l_shuffled : FnScope n_l_shuffled p_l_shuffled (defScope s_l_shuffled) := ⟨rfl, rfl, rfl, by decide +kernel, rfl, by decide +kernel, by decide +kernel⟩
theorem c_l_shuffled : chkT g_l_shuffled b_l_shuffled (defBody s_l_shuffled) = true := by decide +kernel
theorem sc_l_wrote : FnScope n_l_wrote p_l_wrote (defScope s_l_wrote) := ⟨rfl, rfl, rfl, by decide +kernel, rfl, by decide +kernel, by decide +kernel⟩
theorem c_l_wrote : chkT g_l_wrote b_l_wrote (defBody s_l_wrote) = true := by decide +kernel
theorem sc_l_some_parts : FnScope n_l_some_parts p_l_some_parts (defScope s_l_some_parts) := ⟨rfl, rfl, rfl, by decide +kernel, rfl, by decide +kernel, by decide +kernel⟩
theorem c_l_some_parts : chkT g_l_some_parts b_l_some_parts (defBody s_l_some_parts) = true := by decide +kernel
theorem sc_l_names : FnScope n_l_names p_l_names (defScope s_l_names) := ⟨rfl, rfl, rfl, by decide +kernel, rfl, by decide +kernel, by decide +kernel⟩
theorem c_l_names : chkT g_l_names b_l_names (defBody s_l_names) = true := by decide +kernel
theorem sc_must_be_level : FnScope n_must_be_level p_must_be_level (defScope s_must_be_level) := ⟨rfl, rfl, rfl, by decide +kernel, rfl, by decide +kernel, by decide +kernel⟩
theorem c_must_be_level : chkT g_must_be_level b_must_be_level (defBody s_must_be_level) = true := by decide +kernel
theorem sc_hand_pairs : FnScope n_hand_pairs p_hand_pairs (defScope s_hand_pairs) := ⟨rfl, rfl, rfl, by decide +kernel, rfl, by decide +kernel, by decide +kernel⟩
theorem c_hand_pairs : chkT g_hand_pairs b_hand_pairs (defBody s_hand_pairs) = true := by decide +kernel
theorem sc_works_in : FnScope n_works_in p_works_in (defScope s_works_in) := ⟨rfl, rfl, rfl, by decide +kernel, rfl, by decide +kernel, by decide +kernel⟩
theorem c_works_in : chkT g_works_in b_works_in (defBody s_works_in) = true := by decide +kernel
theorem sc_deeds_in : FnScope n_deeds_in p_deeds_in (defScope s_deeds_in) := ⟨rfl, rfl, rfl, by decide +kernel, rfl, by decide +kernel, by decide +kernel⟩
theorem c_deeds_in : chkT g_deeds_in b_deeds_in (defBody s_deeds_in) = true := by decide +kernel
theorem sc_outer : FnScope n_outer p_outer (defScope s_outer) := ⟨rfl, rfl, rfl, by decide +kernel, rfl, by decide +kernel, by decide +kernel⟩
theorem c_outer : chkT g_outer b_outer (defBody s_outer) = true := by decide +kernel
theorem sc_read_pairs : FnScope n_read_pairs p_read_pairs (defScope s_read_pairs) := ⟨rfl, rfl, rfl, by decide +kernel, rfl, by decide +kernel, by decide +kernel⟩
theorem c_read_pairs : chkT g_read_pairs b_read_pairs (defBody s_read_pairs) = true := by decide +kernel
theorem sc_closed : FnScope n_closed p_closed (defScope s_closed) := ⟨rfl, rfl, rfl, by decide +kernel, rfl, by decide +kernel, by decide +kernel⟩
theorem c_closed : chkT g_closed b_closed (defBody s_closed) = true := by decide +kernel
theorem sc_is_ringless : FnScope n_is_ringless p_is_ringless (defScope s_is_ringless) := ⟨rfl, rfl, rfl, by decide +kernel, rfl, by decide +kernel, by decide +kernel⟩
theorem c_is_ringless : chkT g_is_ringless b_is_ringless (defBody s_is_ringless) = true := by decide +kernel
theorem sc_writes_in : FnScope n_writes_in p_writes_in (defScope s_writes_in) := ⟨rfl, rfl, rfl, by decide +kernel, rfl, by decide +kernel, by decide +kernel⟩
theorem c_writes_in : chkT g_writes_in b_writes_in (defBody s_writes_in) = true := by decide +kernel
theorem sc_is_plain : FnScope n_is_plain p_is_plain (defScope s_is_plain) := ⟨rfl, rfl, rfl, by decide +kernel, rfl, by decide +kernel, by decide +kernel⟩
theorem c_is_plain : chkT g_is_plain b_is_plain (defBody s_is_plain) = true := by decide +kernel
theorem sc_orders_of : FnScope n_orders_of p_orders_of (defScope s_orders_of) := ⟨rfl, rfl, rfl, by decide +kernel, rfl, by decide +kernel, by decide +kernel⟩
theorem c_orders_of : chkT g_orders_of b_orders_of (defBody s_orders_of) = true := by decide +kernel
theorem sc_is_kept : FnScope n_is_kept p_is_kept (defScope s_is_kept) := ⟨rfl, rfl, rfl, by decide +kernel, rfl, by decide +kernel, by decide +kernel⟩
theorem c_is_kept : chkT g_is_kept b_is_kept (defBody s_is_kept) = true := by decide +kernel
theorem sc_all_orders : FnScope n_all_orders p_all_orders (defScope s_all_orders) := ⟨rfl, rfl, rfl, by decide +kernel, rfl, by decide +kernel, by decide +kernel⟩
theorem c_all_orders : chkT g_all_orders b_all_orders (defBody s_all_orders) = true := by decide +kernel
theorem sc_writes_key : FnScope n_writes_key p_writes_key (defScope s_writes_key) := ⟨rfl, rfl, rfl, by decide +kernel, rfl, by decide +kernel, by decide +kernel⟩
theorem c_writes_key : chkT g_writes_key b_writes_key (defBody s_writes_key) = true := by decide +kernel
theorem sc_seen_before : FnScope n_seen_before p_seen_before (defScope s_seen_before) := ⟨rfl, rfl, rfl, by decide +kernel, rfl, by decide +kernel, by decide +kernel⟩
theorem c_seen_before : chkT g_seen_before b_seen_before (defBody s_seen_before) = true := by decide +kernel
theorem sc_before : FnScope n_before p_before (defScope s_before) := ⟨rfl, rfl, rfl, by decide +kernel, rfl, by decide +kernel, by decide +kernel⟩
theorem c_before : chkT g_before b_before (defBody s_before) = true := by decide +kernel
theorem sc_keys_of : FnScope n_keys_of p_keys_of (defScope s_keys_of) := ⟨rfl, rfl, rfl, by decide +kernel, rfl, by decide +kernel, by decide +kernel⟩
theorem c_keys_of : chkT g_keys_of b_keys_of (defBody s_keys_of) = true := by decide +kernel
theorem sc_shares_key : FnScope n_shares_key p_shares_key (defScope s_shares_key) := ⟨rfl, rfl, rfl, by decide +kernel, rfl, by decide +kernel, by decide +kernel⟩
theorem c_shares_key : chkT g_shares_key b_shares_key (defBody s_shares_key) = true := by decide +kernel
theorem sc_sees : FnScope n_sees p_sees (defScope s_sees) := ⟨rfl, rfl, rfl, by decide +kernel, rfl, by decide +kernel, by decide +kernel⟩
theorem c_sees : chkT g_sees b_sees (defBody s_sees) = true := by decide +kernel
theorem sc_demands : FnScope n_demands p_demands (defScope s_demands) := ⟨rfl, rfl, rfl, by decide +kernel, rfl, by decide +kernel, by decide +kernel⟩
theorem c_demands : chkT g_demands b_demands (defBody s_demands) = true := by decide +kernel
theorem sc_is_good : FnScope n_is_good p_is_good (defScope s_is_good) := ⟨rfl, rfl, rfl, by decide +kernel, rfl, by decide +kernel, by decide +kernel⟩
theorem c_is_good : chkT g_is_good b_is_good (defBody s_is_good) = true := by decide +kernel
theorem sc_find : FnScope n_find p_find (defScope s_find) := ⟨rfl, rfl, rfl, by decide +kernel, rfl, by decide +kernel, by decide +kernel⟩
theorem c_find : chkT g_find b_find (defBody s_find) = true := by decide +kernel
theorem sc_from_commits : FnScope n_from_commits p_from_commits (defScope s_from_commits) := ⟨rfl, rfl, rfl, by decide +kernel, rfl, by decide +kernel, by decide +kernel⟩
theorem c_from_commits : chkT g_from_commits b_from_commits (defBody s_from_commits) = true := by decide +kernel
theorem sc_reads_any : FnScope n_reads_any p_reads_any (defScope s_reads_any) := ⟨rfl, rfl, rfl, by decide +kernel, rfl, by decide +kernel, by decide +kernel⟩
theorem c_reads_any : chkT g_reads_any b_reads_any (defBody s_reads_any) = true := by decide +kernel
theorem sc_writes_any : FnScope n_writes_any p_writes_any (defScope s_writes_any) := ⟨rfl, rfl, rfl, by decide +kernel, rfl, by decide +kernel, by decide +kernel⟩
theorem c_writes_any : chkT g_writes_any b_writes_any (defBody s_writes_any) = true := by decide +kernel
theorem sc_wish_pairs : FnScope n_wish_pairs p_wish_pairs (defScope s_wish_pairs) := ⟨rfl, rfl, rfl, by decide +kernel, rfl, by decide +kernel, by decide +kernel⟩
theorem c_wish_pairs : chkT g_wish_pairs b_wish_pairs (defBody s_wish_pairs) = true := by decide +kernel
theorem sc_wishes : FnScope n_wishes p_wishes (defScope s_wishes) := ⟨rfl, rfl, rfl, by decide +kernel, rfl, by decide +kernel, by decide +kernel⟩
theorem c_wishes : chkT g_wishes b_wishes (defBody s_wishes) = true := by decide +kernel
theorem sc_l_hand_pairs : FnScope n_l_hand_pairs p_l_hand_pairs (defScope s_l_hand_pairs) := ⟨rfl, rfl, rfl, by decide +kernel, rfl, by decide +kernel, by decide +kernel⟩
theorem c_l_hand_pairs : chkT g_l_hand_pairs b_l_hand_pairs (defBody s_l_hand_pairs) = true := by decide +kernel
theorem sc_l_deeds : FnScope n_l_deeds p_l_deeds (defScope s_l_deeds) := ⟨rfl, rfl, rfl, by decide +kernel, rfl, by decide +kernel, by decide +kernel⟩
theorem c_l_deeds : chkT g_l_deeds b_l_deeds (defBody s_l_deeds) = true := by decide +kernel
theorem sc_l_any : FnScope n_l_any p_l_any (defScope s_l_any) := ⟨rfl, rfl, rfl, by decide +kernel, rfl, by decide +kernel, by decide +kernel⟩
theorem c_l_any : chkT g_l_any b_l_any (defBody s_l_any) = true := by decide +kernel
theorem sc_l_wishes : FnScope n_l_wishes p_l_wishes (defScope s_l_wishes) := ⟨rfl, rfl, rfl, by decide +kernel, rfl, by decide +kernel, by decide +kernel⟩
theorem c_l_wishes : chkT g_l_wishes b_l_wishes (defBody s_l_wishes) = true := by decide +kernel
theorem sc_law : FnScope n_law p_law (defScope s_law) := ⟨rfl, rfl, rfl, by decide +kernel, rfl, by decide +kernel, by decide +kernel⟩
theorem c_law : chkT g_law b_law ((defBody s_law).drop 1) = true := by decide +kernel
theorem c0_law : onC (defBody s_law) (fun st _ => chkPool g_law 1 st) = true := by decide +kernel
/-! ### the head -/
def d_l_pool : He.DefD := ⟨("_law_pool", none), "_law_pool", "_law_pool", defArgs s_l_pool, defBody s_l_pool, defScope s_l_pool, [], []⟩
def d_l_spread : He.DefD := ⟨("_law_spread", none), "_law_spread", "_law_spread", defArgs s_l_spread, defBody s_l_spread, defScope s_l_spread, [], []⟩
def d_l_draw : He.DefD := ⟨("_law_draw", none), "_law_draw", "_law_draw", defArgs s_l_draw, defBody s_l_draw, defScope s_l_draw, [], []⟩
def d_l_pick : He.DefD := ⟨("_law_pick", none), "_law_pick", "_law_pick", defArgs s_l_pick, defBody s_l_pick, defScope s_l_pick, [], []⟩
def d_l_shuffled : He.DefD := ⟨("_law_shuffled", none), "_law_shuffled", "_law_shuffled", defArgs s_l_shuffled, defBody s_l_shuffled, defScope s_l_shuffled, [], []⟩
def d_l_wrote : He.DefD := ⟨("_law_wrote", none), "_law_wrote", "_law_wrote", defArgs s_l_wrote, defBody s_l_wrote, defScope s_l_wrote, [], []⟩
def d_l_some_parts : He.DefD := ⟨("_law_some_parts", none), "_law_some_parts", "_law_some_parts", defArgs s_l_some_parts, defBody s_l_some_parts, defScope s_l_some_parts, [], []⟩
def d_l_names : He.DefD := ⟨("_law_names", none), "_law_names", "_law_names", defArgs s_l_names, defBody s_l_names, defScope s_l_names, [], []⟩
def d_must_be_level : He.DefD := ⟨("must_be_level", none), "must_be_level", "must_be_level", defArgs s_must_be_level, defBody s_must_be_level, defScope s_must_be_level, [], []⟩
def d_hand_pairs : He.DefD := ⟨("hand_pairs", none), "hand_pairs", "hand_pairs", defArgs s_hand_pairs, defBody s_hand_pairs, defScope s_hand_pairs, [], []⟩
def d_works_in : He.DefD := ⟨("works_in", none), "works_in", "works_in", defArgs s_works_in, defBody s_works_in, defScope s_works_in, [], []⟩
def d_deeds_in : He.DefD := ⟨("deeds_in", none), "deeds_in", "deeds_in", defArgs s_deeds_in, defBody s_deeds_in, defScope s_deeds_in, [], []⟩
def d_outer : He.DefD := ⟨("outer", none), "outer", "outer", defArgs s_outer, defBody s_outer, defScope s_outer, [], []⟩
def d_read_pairs : He.DefD := ⟨("read_pairs", none), "read_pairs", "read_pairs", defArgs s_read_pairs, defBody s_read_pairs, defScope s_read_pairs, [], []⟩
def d_closed : He.DefD := ⟨("closed", none), "closed", "closed", defArgs s_closed, defBody s_closed, defScope s_closed, [], []⟩
def d_is_ringless : He.DefD := ⟨("is_ringless", none), "is_ringless", "is_ringless", defArgs s_is_ringless, defBody s_is_ringless, defScope s_is_ringless, [], []⟩
def d_writes_in : He.DefD := ⟨("writes_in", none), "writes_in", "writes_in", defArgs s_writes_in, defBody s_writes_in, defScope s_writes_in, [], []⟩
def d_is_plain : He.DefD := ⟨("is_plain", none), "is_plain", "is_plain", defArgs s_is_plain, defBody s_is_plain, defScope s_is_plain, [], []⟩
def d_orders_of : He.DefD := ⟨("orders_of", none), "orders_of", "orders_of", defArgs s_orders_of, defBody s_orders_of, defScope s_orders_of, [], []⟩
def d_is_kept : He.DefD := ⟨("is_kept", none), "is_kept", "is_kept", defArgs s_is_kept, defBody s_is_kept, defScope s_is_kept, [], []⟩
def d_all_orders : He.DefD := ⟨("all_orders", none), "all_orders", "all_orders", defArgs s_all_orders, defBody s_all_orders, defScope s_all_orders, [], []⟩
def d_writes_key : He.DefD := ⟨("writes_key", none), "writes_key", "writes_key", defArgs s_writes_key, defBody s_writes_key, defScope s_writes_key, [], []⟩
def d_seen_before : He.DefD := ⟨("seen_before", none), "seen_before", "seen_before", defArgs s_seen_before, defBody s_seen_before, defScope s_seen_before, [], []⟩
def d_before : He.DefD := ⟨("before", none), "before", "before", defArgs s_before, defBody s_before, defScope s_before, [], []⟩
def d_keys_of : He.DefD := ⟨("keys_of", none), "keys_of", "keys_of", defArgs s_keys_of, defBody s_keys_of, defScope s_keys_of, [], []⟩
def d_shares_key : He.DefD := ⟨("shares_key", none), "shares_key", "shares_key", defArgs s_shares_key, defBody s_shares_key, defScope s_shares_key, [], []⟩
def d_sees : He.DefD := ⟨("sees", none), "sees", "sees", defArgs s_sees, defBody s_sees, defScope s_sees, [], []⟩
def d_demands : He.DefD := ⟨("demands", none), "demands", "demands", defArgs s_demands, defBody s_demands, defScope s_demands, [], []⟩
def d_is_good : He.DefD := ⟨("is_good", none), "is_good", "is_good", defArgs s_is_good, defBody s_is_good, defScope s_is_good, [], []⟩
def d_find : He.DefD := ⟨("find", none), "find", "find", defArgs s_find, defBody s_find, defScope s_find, [], []⟩
def d_from_commits : He.DefD := ⟨("from_commits", none), "from_commits", "from_commits", defArgs s_from_commits, defBody s_from_commits, defScope s_from_commits, [], []⟩
def d_reads_any : He.DefD := ⟨("reads_any", none), "reads_any", "reads_any", defArgs s_reads_any, defBody s_reads_any, defScope s_reads_any, [], []⟩
def d_writes_any : He.DefD := ⟨("writes_any", none), "writes_any", "writes_any", defArgs s_writes_any, defBody s_writes_any, defScope s_writes_any, [], []⟩
def d_wish_pairs : He.DefD := ⟨("wish_pairs", none), "wish_pairs", "wish_pairs", defArgs s_wish_pairs, defBody s_wish_pairs, defScope s_wish_pairs, [], []⟩
def d_wishes : He.DefD := ⟨("wishes", none), "wishes", "wishes", defArgs s_wishes, defBody s_wishes, defScope s_wishes, [], []⟩
def d_l_hand_pairs : He.DefD := ⟨("_law_hand_pairs", none), "_law_hand_pairs", "_law_hand_pairs", defArgs s_l_hand_pairs, defBody s_l_hand_pairs, defScope s_l_hand_pairs, [], []⟩
def d_l_deeds : He.DefD := ⟨("_law_deeds", none), "_law_deeds", "_law_deeds", defArgs s_l_deeds, defBody s_l_deeds, defScope s_l_deeds, [], []⟩
def d_l_any : He.DefD := ⟨("_law_any", none), "_law_any", "_law_any", defArgs s_l_any, defBody s_l_any, defScope s_l_any, [], []⟩
def d_l_wishes : He.DefD := ⟨("_law_wishes", none), "_law_wishes", "_law_wishes", defArgs s_l_wishes, defBody s_l_wishes, defScope s_l_wishes, [], []⟩
def d_law : He.DefD := ⟨("law", none), "law", "law", defArgs s_law, defBody s_law, defScope s_law, [], []⟩
def fn : List He.DefD := [d_l_pool, d_l_spread, d_l_draw, d_l_pick, d_l_shuffled, d_l_wrote, d_l_some_parts, d_l_names, d_must_be_level, d_hand_pairs, d_works_in, d_deeds_in, d_outer, d_read_pairs, d_closed, d_is_ringless, d_writes_in, d_is_plain, d_orders_of, d_is_kept, d_all_orders, d_writes_key, d_seen_before, d_before, d_keys_of, d_shares_key, d_sees, d_demands, d_is_good, d_find, d_from_commits, d_reads_any, d_writes_any, d_wish_pairs, d_wishes, d_l_hand_pairs, d_l_deeds, d_l_any, d_l_wishes, d_law]
def fa : List He.Fa := [.glo "_law_pool", .glo "_law_spread", .glo "_law_draw", .glo "_law_pick", .glo "_law_shuffled", .glo "_law_wrote", .glo "_law_some_parts", .glo "_law_names", .glo "must_be_level", .glo "hand_pairs", .glo "works_in", .glo "deeds_in", .glo "outer", .glo "read_pairs", .glo "closed", .glo "is_ringless", .glo "writes_in", .glo "is_plain", .glo "orders_of", .glo "is_kept", .glo "all_orders", .glo "writes_key", .glo "seen_before", .glo "before", .glo "keys_of", .glo "shares_key", .glo "sees", .glo "demands", .glo "is_good", .glo "find", .glo "from_commits", .glo "reads_any", .glo "writes_any", .glo "wish_pairs", .glo "wishes", .glo "_law_hand_pairs", .glo "_law_deeds", .glo "_law_any", .glo "_law_wishes", .glo "law", .free "int", .free "list", .free "range", .free "len", .free "tuple", .free "sorted", .free "set", .free "all", .free "any"]
def tbs : List He.Tab := []
def ex (K : PySem.W.Frag) : Bool := cstB K "LEVELS" v_LEVELS && (cstB K "KEYS" v_KEYS && (cstB K "WISHES" v_WISHES && (excB K ["NotAllowed"])))
abbrev R : PySem.W.OpenRow := PySem.W.OpenLaw.row PySem.Challenge.rw_everyhistory_k16_whole_wishes_of_hands
abbrev hk : PySem.W.Hook := He.hookX 4 fa fn tbs [] ex
def ob (s : PySem.W.SharedT) : He.AlX := He.obsX 4 fa fn tbs [] ex (HandSHeadRun.getT s)
theorem ob_eq (s : PySem.W.SharedT) : ob s = hk.obs s.abs := He.obsX_eq (HandSHeadRun.getT_eq s)
def loose : List Str := [(PySem.Str.ofString "KEYS"), (PySem.Str.ofString "closed"), (PySem.Str.ofString "is_ringless"), (PySem.Str.ofString "orders_of"), (PySem.Str.ofString "all_orders"), (PySem.Str.ofString "is_kept"), (PySem.Str.ofString "HistoryError"), (PySem.Str.ofString "NotAllowed"), (PySem.Str.ofString "works_in"), (PySem.Str.ofString "deeds_in"), (PySem.Str.ofString "writes_in"), (PySem.Str.ofString "outer"), (PySem.Str.ofString "writes_key"), (PySem.Str.ofString "is_plain"), (PySem.Str.ofString "hand_pairs"), (PySem.Str.ofString "read_pairs"), (PySem.Str.ofString "keys_of"), (PySem.Str.ofString "LEVELS"), (PySem.Str.ofString "must_be_level"), (PySem.Str.ofString "seen_before"), (PySem.Str.ofString "before"), (PySem.Str.ofString "sees"), (PySem.Str.ofString "shares_key"), (PySem.Str.ofString "demands"), (PySem.Str.ofString "is_good"), (PySem.Str.ofString "find"), (PySem.Str.ofString "WISHES"), (PySem.Str.ofString "from_commits"), (PySem.Str.ofString "wish_pairs"), (PySem.Str.ofString "writes_any"), (PySem.Str.ofString "reads_any"), (PySem.Str.ofString "wishes"), (PySem.Str.ofString "_law_pool"), (PySem.Str.ofString "_law_spread"), (PySem.Str.ofString "_law_draw"), (PySem.Str.ofString "_law_pick"), (PySem.Str.ofString "_law_shuffled"), (PySem.Str.ofString "_law_wrote"), (PySem.Str.ofString "_law_names"), (PySem.Str.ofString "_law_deeds"), (PySem.Str.ofString "_law_hand_pairs"), (PySem.Str.ofString "_law_some_parts"), (PySem.Str.ofString "_law_any"), (PySem.Str.ofString "_law_wishes")]
theorem run (w : World) : HandSHeadRun.RunEq R (PySem.W.view R.prog [50]) hk ob 3060 [(PySem.Str.ofString "KEYS"), (PySem.Str.ofString "closed"), (PySem.Str.ofString "is_ringless"), (PySem.Str.ofString "orders_of"), (PySem.Str.ofString "all_orders"), (PySem.Str.ofString "is_kept"), (PySem.Str.ofString "HistoryError"), (PySem.Str.ofString "NotAllowed"), (PySem.Str.ofString "works_in"), (PySem.Str.ofString "deeds_in"), (PySem.Str.ofString "writes_in"), (PySem.Str.ofString "outer"), (PySem.Str.ofString "writes_key"), (PySem.Str.ofString "is_plain"), (PySem.Str.ofString "hand_pairs"), (PySem.Str.ofString "read_pairs"), (PySem.Str.ofString "keys_of"), (PySem.Str.ofString "LEVELS"), (PySem.Str.ofString "must_be_level"), (PySem.Str.ofString "seen_before"), (PySem.Str.ofString "before"), (PySem.Str.ofString "sees"), (PySem.Str.ofString "shares_key"), (PySem.Str.ofString "demands"), (PySem.Str.ofString "is_good"), (PySem.Str.ofString "find"), (PySem.Str.ofString "WISHES"), (PySem.Str.ofString "from_commits"), (PySem.Str.ofString "wish_pairs"), (PySem.Str.ofString "writes_any"), (PySem.Str.ofString "reads_any"), (PySem.Str.ofString "wishes"), (PySem.Str.ofString "_law_pool"), (PySem.Str.ofString "_law_spread"), (PySem.Str.ofString "_law_draw"), (PySem.Str.ofString "_law_pick"), (PySem.Str.ofString "_law_shuffled"), (PySem.Str.ofString "_law_wrote"), (PySem.Str.ofString "_law_names"), (PySem.Str.ofString "_law_deeds"), (PySem.Str.ofString "_law_hand_pairs"), (PySem.Str.ofString "_law_some_parts"), (PySem.Str.ofString "_law_any"), (PySem.Str.ofString "_law_wishes")] w := by
  intro os
  kernel_rfl
section
variable {P : Program} {w : World} {K : PySem.W.Frag} {h : Heap} {mg : Str → Option Value} {base : Heap}
theorem ok_l_pool (X : K.In h) (G : h.Ns mainGlobals mg) (c : He.SaysX fa fn tbs [] ex w h K) : PoolFn P w K mg base 1 := pool_okX X G (md_mk (k := 0) (Γ := g_l_pool) (M := m_l_pool) X G ⟨He.free_ok X G (c.t.d.fact 40 (f := .free "int") rfl), ⟨He.free_ok X G (c.t.d.fact 41 (f := .free "list") rfl), trivial⟩⟩ trivial trivial trivial rfl (excB_sub (ys := []) (and2 (and2 (and2 c.more).2).2).2 (by decide +kernel))) (intF0 rfl) (c.t.d.def_ 0 (d := d_l_pool) rfl) (c.t.d.fact 0 (f := .glo "_law_pool") rfl) sc_l_pool ⟨rfl, rfl, rfl⟩ (fun _ _ _ _ _ _ us hl => match us, hl with | [_], _ => rfl) ⟨rfl, rfl⟩ c_l_pool
theorem ok_l_spread (X : K.In h) (G : h.Ns mainGlobals mg) (c : He.SaysX fa fn tbs [] ex w h K) : FnAt P w K mg base 1 "_law_spread" f_l_spread := def_okX X G (md_mk (k := 0) (Γ := g_l_spread) (M := m_l_spread) X G ⟨He.free_ok X G (c.t.d.fact 40 (f := .free "int") rfl), ⟨He.free_ok X G (c.t.d.fact 42 (f := .free "range") rfl), trivial⟩⟩ trivial trivial trivial rfl (excB_sub (ys := []) (and2 (and2 (and2 c.more).2).2).2 (by decide +kernel))) (c.t.d.def_ 1 (d := d_l_spread) rfl) (c.t.d.fact 1 (f := .glo "_law_spread") rfl) sc_l_spread ⟨rfl, rfl, rfl⟩ (fun _ _ _ _ _ _ us hl => match us, hl with | [_], _ => rfl) ⟨rfl, rfl, by decide⟩ c_l_spread
theorem spread_int (i : Int) (Q : D → Prop) (XX : Exc → Prop) (hQ : ∀ j : Int, Q (.int j)) : (m_l_draw.Φ 0 [.d (.int i)]).run Q XX := spread_any (M := m_l_spread) hQ
theorem ok_l_draw (X : K.In h) (G : h.Ns mainGlobals mg) (c : He.SaysX fa fn tbs [] ex w h K) : FnAt P w K mg base 2 "_law_draw" F_draw := draw_okX X G (md_mk (k := 1) (Γ := g_l_draw) (M := m_l_draw) X G ⟨He.free_ok X G (c.t.d.fact 40 (f := .free "int") rfl), ⟨He.free_ok X G (c.t.d.fact 43 (f := .free "len") rfl), trivial⟩⟩ trivial ⟨((ok_l_spread X G c).up (by decide)), trivial⟩ trivial rfl (excB_sub (ys := []) (and2 (and2 (and2 c.more).2).2).2 (by decide +kernel))) (intF1 rfl spread_int) (c.t.d.def_ 2 (d := d_l_draw) rfl) (c.t.d.fact 2 (f := .glo "_law_draw") rfl) sc_l_draw ⟨rfl, rfl, rfl⟩ (fun _ _ _ _ _ _ us hl => match us, hl with | [_, _], _ => rfl) ⟨rfl, rfl⟩ c_l_draw
theorem ok_l_pick (X : K.In h) (G : h.Ns mainGlobals mg) (c : He.SaysX fa fn tbs [] ex w h K) : FnAt P w K mg base 3 "_law_pick" f_l_pick := def_okX X G (md_mk (k := 2) (Γ := g_l_pick) (M := m_l_pick) X G ⟨He.free_ok X G (c.t.d.fact 43 (f := .free "len") rfl), trivial⟩ trivial ⟨((ok_l_draw X G c).up (by decide)), trivial⟩ trivial rfl (excB_sub (ys := []) (and2 (and2 (and2 c.more).2).2).2 (by decide +kernel))) (c.t.d.def_ 3 (d := d_l_pick) rfl) (c.t.d.fact 3 (f := .glo "_law_pick") rfl) sc_l_pick ⟨rfl, rfl, rfl⟩ (fun _ _ _ _ _ _ us hl => match us, hl with | [_, _], _ => rfl) ⟨rfl, rfl, by decide⟩ c_l_pick
theorem ok_l_shuffled (X : K.In h) (G : h.Ns mainGlobals mg) (c : He.SaysX fa fn tbs [] ex w h K) : FnAt P w K mg base 3 "_law_shuffled" f_l_shuffled := def_okX X G (md_mk (k := 2) (Γ := g_l_shuffled) (M := m_l_shuffled) X G ⟨He.free_ok X G (c.t.d.fact 41 (f := .free "list") rfl), ⟨He.free_ok X G (c.t.d.fact 43 (f := .free "len") rfl), trivial⟩⟩ trivial ⟨((ok_l_draw X G c).up (by decide)), trivial⟩ trivial rfl (excB_sub (ys := []) (and2 (and2 (and2 c.more).2).2).2 (by decide +kernel))) (c.t.d.def_ 4 (d := d_l_shuffled) rfl) (c.t.d.fact 4 (f := .glo "_law_shuffled") rfl) sc_l_shuffled ⟨rfl, rfl, rfl⟩ (fun _ _ _ _ _ _ us hl => match us, hl with | [_, _], _ => rfl) ⟨rfl, rfl, by decide⟩ c_l_shuffled
theorem ok_l_wrote (X : K.In h) (G : h.Ns mainGlobals mg) (c : He.SaysX fa fn tbs [] ex w h K) : FnAt P w K mg base 1 "_law_wrote" f_l_wrote := def_okX X G (md_mk (k := 0) (Γ := g_l_wrote) (M := m_l_wrote) X G ⟨He.free_ok X G (c.t.d.fact 43 (f := .free "len") rfl), trivial⟩ trivial trivial trivial rfl (excB_sub (ys := []) (and2 (and2 (and2 c.more).2).2).2 (by decide +kernel))) (c.t.d.def_ 5 (d := d_l_wrote) rfl) (c.t.d.fact 5 (f := .glo "_law_wrote") rfl) sc_l_wrote ⟨rfl, rfl, rfl⟩ (fun _ _ _ _ _ _ us hl => match us, hl with | [_, _], _ => rfl) ⟨rfl, rfl, by decide⟩ c_l_wrote
theorem ok_l_some_parts (X : K.In h) (G : h.Ns mainGlobals mg) (c : He.SaysX fa fn tbs [] ex w h K) : FnAt P w K mg base 4 "_law_some_parts" f_l_some_parts := def_okX X G (md_mk (k := 3) (Γ := g_l_some_parts) (M := m_l_some_parts) X G ⟨He.free_ok X G (c.t.d.fact 42 (f := .free "range") rfl), ⟨He.free_ok X G (c.t.d.fact 41 (f := .free "list") rfl), ⟨He.free_ok X G (c.t.d.fact 43 (f := .free "len") rfl), ⟨He.free_ok X G (c.t.d.fact 44 (f := .free "tuple") rfl), trivial⟩⟩⟩⟩ trivial ⟨((ok_l_draw X G c).up (by decide)), ⟨((ok_l_pick X G c).up (by decide)), ⟨((ok_l_shuffled X G c).up (by decide)), ⟨((ok_l_wrote X G c).up (by decide)), trivial⟩⟩⟩⟩ trivial rfl (excB_sub (ys := []) (and2 (and2 (and2 c.more).2).2).2 (by decide +kernel))) (c.t.d.def_ 6 (d := d_l_some_parts) rfl) (c.t.d.fact 6 (f := .glo "_law_some_parts") rfl) sc_l_some_parts ⟨rfl, rfl, rfl⟩ (fun _ _ _ _ _ _ us hl => match us, hl with | [_, _], _ => rfl) ⟨rfl, rfl, by decide⟩ c_l_some_parts
theorem ok_l_names (X : K.In h) (G : h.Ns mainGlobals mg) (c : He.SaysX fa fn tbs [] ex w h K) : FnAt P w K mg base 1 "_law_names" f_l_names := def_okX X G (md_mk (k := 0) (Γ := g_l_names) (M := m_l_names) X G ⟨He.free_ok X G (c.t.d.fact 45 (f := .free "sorted") rfl), trivial⟩ trivial trivial trivial rfl (excB_sub (ys := []) (and2 (and2 (and2 c.more).2).2).2 (by decide +kernel))) (c.t.d.def_ 7 (d := d_l_names) rfl) (c.t.d.fact 7 (f := .glo "_law_names") rfl) sc_l_names ⟨rfl, rfl, rfl⟩ (fun _ _ _ _ _ _ us hl => match us, hl with | [_], _ => rfl) ⟨rfl, rfl, by decide⟩ c_l_names
theorem ok_must_be_level (X : K.In h) (G : h.Ns mainGlobals mg) (c : He.SaysX fa fn tbs [] ex w h K) : FnAt P w K mg base 1 "must_be_level" f_must_be_level := def_okX X G (md_mk (k := 0) (Γ := g_must_be_level) (M := m_must_be_level) X G trivial ⟨cstB_ok X G (and2 c.more).1, trivial⟩ trivial trivial rfl (excB_sub (ys := ["NotAllowed"]) (and2 (and2 (and2 c.more).2).2).2 (by decide +kernel))) (c.t.d.def_ 8 (d := d_must_be_level) rfl) (c.t.d.fact 8 (f := .glo "must_be_level") rfl) sc_must_be_level ⟨rfl, rfl, rfl⟩ (fun _ _ _ _ _ _ us hl => match us, hl with | [_], _ => rfl) ⟨rfl, rfl, by decide⟩ c_must_be_level
theorem ok_hand_pairs (X : K.In h) (G : h.Ns mainGlobals mg) (c : He.SaysX fa fn tbs [] ex w h K) : FnAt P w K mg base 1 "hand_pairs" f_hand_pairs := def_okX X G (md_mk (k := 0) (Γ := g_hand_pairs) (M := m_hand_pairs) X G ⟨He.free_ok X G (c.t.d.fact 42 (f := .free "range") rfl), ⟨He.free_ok X G (c.t.d.fact 43 (f := .free "len") rfl), ⟨He.free_ok X G (c.t.d.fact 45 (f := .free "sorted") rfl), trivial⟩⟩⟩ trivial trivial trivial rfl (excB_sub (ys := []) (and2 (and2 (and2 c.more).2).2).2 (by decide +kernel))) (c.t.d.def_ 9 (d := d_hand_pairs) rfl) (c.t.d.fact 9 (f := .glo "hand_pairs") rfl) sc_hand_pairs ⟨rfl, rfl, rfl⟩ (fun _ _ _ _ _ _ us hl => match us, hl with | [_], _ => rfl) ⟨rfl, rfl, by decide⟩ c_hand_pairs
theorem ok_works_in (X : K.In h) (G : h.Ns mainGlobals mg) (c : He.SaysX fa fn tbs [] ex w h K) : FnAt P w K mg base 1 "works_in" f_works_in := def_okX X G (md_mk (k := 0) (Γ := g_works_in) (M := m_works_in) X G ⟨He.free_ok X G (c.t.d.fact 45 (f := .free "sorted") rfl), trivial⟩ trivial trivial trivial rfl (excB_sub (ys := []) (and2 (and2 (and2 c.more).2).2).2 (by decide +kernel))) (c.t.d.def_ 10 (d := d_works_in) rfl) (c.t.d.fact 10 (f := .glo "works_in") rfl) sc_works_in ⟨rfl, rfl, rfl⟩ (fun _ _ _ _ _ _ us hl => match us, hl with | [_], _ => rfl) ⟨rfl, rfl, by decide⟩ c_works_in
theorem ok_deeds_in (X : K.In h) (G : h.Ns mainGlobals mg) (c : He.SaysX fa fn tbs [] ex w h K) : FnAt P w K mg base 1 "deeds_in" f_deeds_in := def_okX X G (md_mk (k := 0) (Γ := g_deeds_in) (M := m_deeds_in) X G trivial trivial trivial trivial rfl (excB_sub (ys := []) (and2 (and2 (and2 c.more).2).2).2 (by decide +kernel))) (c.t.d.def_ 11 (d := d_deeds_in) rfl) (c.t.d.fact 11 (f := .glo "deeds_in") rfl) sc_deeds_in ⟨rfl, rfl, rfl⟩ (fun _ _ _ _ _ _ us hl => match us, hl with | [_, _], _ => rfl) ⟨rfl, rfl, by decide⟩ c_deeds_in
theorem ok_outer (X : K.In h) (G : h.Ns mainGlobals mg) (c : He.SaysX fa fn tbs [] ex w h K) : FnAt P w K mg base 2 "outer" f_outer := def_okX X G (md_mk (k := 1) (Γ := g_outer) (M := m_outer) X G ⟨He.free_ok X G (c.t.d.fact 42 (f := .free "range") rfl), ⟨He.free_ok X G (c.t.d.fact 43 (f := .free "len") rfl), trivial⟩⟩ trivial ⟨((ok_deeds_in X G c).up (by decide)), trivial⟩ trivial rfl (excB_sub (ys := []) (and2 (and2 (and2 c.more).2).2).2 (by decide +kernel))) (c.t.d.def_ 12 (d := d_outer) rfl) (c.t.d.fact 12 (f := .glo "outer") rfl) sc_outer ⟨rfl, rfl, rfl⟩ (fun _ _ _ _ _ _ us hl => match us, hl with | [_, _], _ => rfl) ⟨rfl, rfl, by decide⟩ c_outer
theorem ok_read_pairs (X : K.In h) (G : h.Ns mainGlobals mg) (c : He.SaysX fa fn tbs [] ex w h K) : FnAt P w K mg base 3 "read_pairs" f_read_pairs := def_okX X G (md_mk (k := 2) (Γ := g_read_pairs) (M := m_read_pairs) X G ⟨He.free_ok X G (c.t.d.fact 45 (f := .free "sorted") rfl), ⟨He.free_ok X G (c.t.d.fact 46 (f := .free "set") rfl), trivial⟩⟩ trivial ⟨((ok_works_in X G c).up (by decide)), ⟨((ok_outer X G c).up (by decide)), trivial⟩⟩ trivial rfl (excB_sub (ys := []) (and2 (and2 (and2 c.more).2).2).2 (by decide +kernel))) (c.t.d.def_ 13 (d := d_read_pairs) rfl) (c.t.d.fact 13 (f := .glo "read_pairs") rfl) sc_read_pairs ⟨rfl, rfl, rfl⟩ (fun _ _ _ _ _ _ us hl => match us, hl with | [_], _ => rfl) ⟨rfl, rfl, by decide⟩ c_read_pairs
theorem ok_closed (X : K.In h) (G : h.Ns mainGlobals mg) (c : He.SaysX fa fn tbs [] ex w h K) : FnAt P w K mg base 1 "closed" f_closed := def_okX X G (md_mk (k := 0) (Γ := g_closed) (M := m_closed) X G ⟨He.free_ok X G (c.t.d.fact 45 (f := .free "sorted") rfl), ⟨He.free_ok X G (c.t.d.fact 46 (f := .free "set") rfl), trivial⟩⟩ trivial trivial trivial rfl (excB_sub (ys := []) (and2 (and2 (and2 c.more).2).2).2 (by decide +kernel))) (c.t.d.def_ 14 (d := d_closed) rfl) (c.t.d.fact 14 (f := .glo "closed") rfl) sc_closed ⟨rfl, rfl, rfl⟩ (fun _ _ _ _ _ _ us hl => match us, hl with | [_], _ => rfl) ⟨rfl, rfl, by decide⟩ c_closed
theorem ok_is_ringless (X : K.In h) (G : h.Ns mainGlobals mg) (c : He.SaysX fa fn tbs [] ex w h K) : FnAt P w K mg base 2 "is_ringless" f_is_ringless := def_okX X G (md_mk (k := 1) (Γ := g_is_ringless) (M := m_is_ringless) X G ⟨He.free_ok X G (c.t.d.fact 47 (f := .free "all") rfl), trivial⟩ trivial ⟨((ok_closed X G c).up (by decide)), trivial⟩ trivial rfl (excB_sub (ys := []) (and2 (and2 (and2 c.more).2).2).2 (by decide +kernel))) (c.t.d.def_ 15 (d := d_is_ringless) rfl) (c.t.d.fact 15 (f := .glo "is_ringless") rfl) sc_is_ringless ⟨rfl, rfl, rfl⟩ (fun _ _ _ _ _ _ us hl => match us, hl with | [_], _ => rfl) ⟨rfl, rfl, by decide⟩ c_is_ringless
theorem ok_writes_in (X : K.In h) (G : h.Ns mainGlobals mg) (c : He.SaysX fa fn tbs [] ex w h K) : FnAt P w K mg base 1 "writes_in" f_writes_in := def_okX X G (md_mk (k := 0) (Γ := g_writes_in) (M := m_writes_in) X G ⟨He.free_ok X G (c.t.d.fact 43 (f := .free "len") rfl), trivial⟩ trivial trivial trivial rfl (excB_sub (ys := []) (and2 (and2 (and2 c.more).2).2).2 (by decide +kernel))) (c.t.d.def_ 16 (d := d_writes_in) rfl) (c.t.d.fact 16 (f := .glo "writes_in") rfl) sc_writes_in ⟨rfl, rfl, rfl⟩ (fun _ _ _ _ _ _ us hl => match us, hl with | [_, _], _ => rfl) ⟨rfl, rfl, by decide⟩ c_writes_in
theorem ok_is_plain (X : K.In h) (G : h.Ns mainGlobals mg) (c : He.SaysX fa fn tbs [] ex w h K) : FnAt P w K mg base 3 "is_plain" f_is_plain := def_okX X G (md_mk (k := 2) (Γ := g_is_plain) (M := m_is_plain) X G trivial trivial ⟨((ok_works_in X G c).up (by decide)), ⟨((ok_outer X G c).up (by decide)), ⟨((ok_writes_in X G c).up (by decide)), ⟨((ok_deeds_in X G c).up (by decide)), trivial⟩⟩⟩⟩ trivial rfl (excB_sub (ys := []) (and2 (and2 (and2 c.more).2).2).2 (by decide +kernel))) (c.t.d.def_ 17 (d := d_is_plain) rfl) (c.t.d.fact 17 (f := .glo "is_plain") rfl) sc_is_plain ⟨rfl, rfl, rfl⟩ (fun _ _ _ _ _ _ us hl => match us, hl with | [_], _ => rfl) ⟨rfl, rfl, by decide⟩ c_is_plain
theorem ok_orders_of (X : K.In h) (G : h.Ns mainGlobals mg) (c : He.SaysX fa fn tbs [] ex w h K) : ∀ n : Nat, FnAt P w K mg base (0 + n) "orders_of" (f_orders_of n)
  | 0 => never_okX (ps := p_orders_of) X G (c.t.d.def_ 18 (d := d_orders_of) rfl) (c.t.d.fact 18 (f := .glo "orders_of") rfl) (fun _ _ _ _ _ _ us hl => match us, hl with | [_], _ => rfl)
  | n + 1 => by
    have ih := ok_orders_of X G c n
    exact def_okX (k := 0 + n) (Γ := g_orders_of) (M := m_orders_of (f_orders_of n)) X G (md_mk X G ⟨He.free_ok X G (c.t.d.fact 43 (f := .free "len") rfl), ⟨He.free_ok X G (c.t.d.fact 45 (f := .free "sorted") rfl), trivial⟩⟩ trivial ⟨ih, trivial⟩ trivial rfl (excB_sub (ys := []) (and2 (and2 (and2 c.more).2).2).2 (by decide +kernel))) (c.t.d.def_ 18 (d := d_orders_of) rfl) (c.t.d.fact 18 (f := .glo "orders_of") rfl) sc_orders_of ⟨rfl, rfl, rfl⟩ (fun _ _ _ _ _ _ us hl => match us, hl with | [_], _ => rfl) ⟨rfl, rfl, by decide⟩ c_orders_of
theorem ok_is_kept (X : K.In h) (G : h.Ns mainGlobals mg) (c : He.SaysX fa fn tbs [] ex w h K) : FnAt P w K mg base 1 "is_kept" f_is_kept := def_okX X G (md_mk (k := 0) (Γ := g_is_kept) (M := m_is_kept) X G ⟨He.free_ok X G (c.t.d.fact 47 (f := .free "all") rfl), trivial⟩ trivial trivial trivial rfl (excB_sub (ys := []) (and2 (and2 (and2 c.more).2).2).2 (by decide +kernel))) (c.t.d.def_ 19 (d := d_is_kept) rfl) (c.t.d.fact 19 (f := .glo "is_kept") rfl) sc_is_kept ⟨rfl, rfl, rfl⟩ (fun _ _ _ _ _ _ us hl => match us, hl with | [_, _], _ => rfl) ⟨rfl, rfl, by decide⟩ c_is_kept
theorem ok_all_orders (X : K.In h) (G : h.Ns mainGlobals mg) (c : He.SaysX fa fn tbs [] ex w h K) : FnAt P w K mg base 9 "all_orders" f_all_orders := def_okX X G (md_mk (k := 8) (Γ := g_all_orders) (M := m_all_orders) X G trivial trivial ⟨((ok_orders_of X G c 8).up (by decide)), ⟨((ok_is_kept X G c).up (by decide)), trivial⟩⟩ trivial rfl (excB_sub (ys := []) (and2 (and2 (and2 c.more).2).2).2 (by decide +kernel))) (c.t.d.def_ 20 (d := d_all_orders) rfl) (c.t.d.fact 20 (f := .glo "all_orders") rfl) sc_all_orders ⟨rfl, rfl, rfl⟩ (fun _ _ _ _ _ _ us hl => match us, hl with | [_, _], _ => rfl) ⟨rfl, rfl, by decide⟩ c_all_orders
theorem ok_writes_key (X : K.In h) (G : h.Ns mainGlobals mg) (c : He.SaysX fa fn tbs [] ex w h K) : FnAt P w K mg base 2 "writes_key" f_writes_key := def_okX X G (md_mk (k := 1) (Γ := g_writes_key) (M := m_writes_key) X G trivial trivial ⟨((ok_writes_in X G c).up (by decide)), ⟨((ok_deeds_in X G c).up (by decide)), trivial⟩⟩ trivial rfl (excB_sub (ys := []) (and2 (and2 (and2 c.more).2).2).2 (by decide +kernel))) (c.t.d.def_ 21 (d := d_writes_key) rfl) (c.t.d.fact 21 (f := .glo "writes_key") rfl) sc_writes_key ⟨rfl, rfl, rfl⟩ (fun _ _ _ _ _ _ us hl => match us, hl with | [_, _, _], _ => rfl) ⟨rfl, rfl, by decide⟩ c_writes_key
theorem ok_seen_before (X : K.In h) (G : h.Ns mainGlobals mg) (c : He.SaysX fa fn tbs [] ex w h K) : FnAt P w K mg base 2 "seen_before" f_seen_before := def_okX X G (md_mk (k := 1) (Γ := g_seen_before) (M := m_seen_before) X G trivial trivial ⟨((ok_deeds_in X G c).up (by decide)), trivial⟩ trivial rfl (excB_sub (ys := []) (and2 (and2 (and2 c.more).2).2).2 (by decide +kernel))) (c.t.d.def_ 22 (d := d_seen_before) rfl) (c.t.d.fact 22 (f := .glo "seen_before") rfl) sc_seen_before ⟨rfl, rfl, rfl⟩ (fun _ _ _ _ _ _ us hl => match us, hl with | [_, _, _], _ => rfl) ⟨rfl, rfl, by decide⟩ c_seen_before
theorem ok_before (X : K.In h) (G : h.Ns mainGlobals mg) (c : He.SaysX fa fn tbs [] ex w h K) : FnAt P w K mg base 1 "before" f_before := def_okX X G (md_mk (k := 0) (Γ := g_before) (M := m_before) X G trivial trivial trivial trivial rfl (excB_sub (ys := []) (and2 (and2 (and2 c.more).2).2).2 (by decide +kernel))) (c.t.d.def_ 23 (d := d_before) rfl) (c.t.d.fact 23 (f := .glo "before") rfl) sc_before ⟨rfl, rfl, rfl⟩ (fun _ _ _ _ _ _ us hl => match us, hl with | [_, _, _], _ => rfl) ⟨rfl, rfl, by decide⟩ c_before
theorem ok_keys_of (X : K.In h) (G : h.Ns mainGlobals mg) (c : He.SaysX fa fn tbs [] ex w h K) : FnAt P w K mg base 2 "keys_of" f_keys_of := def_okX X G (md_mk (k := 1) (Γ := g_keys_of) (M := m_keys_of) X G ⟨He.free_ok X G (c.t.d.fact 42 (f := .free "range") rfl), trivial⟩ ⟨cstB_ok X G (and2 (and2 c.more).2).1, trivial⟩ ⟨((ok_writes_in X G c).up (by decide)), ⟨((ok_deeds_in X G c).up (by decide)), trivial⟩⟩ trivial rfl (excB_sub (ys := []) (and2 (and2 (and2 c.more).2).2).2 (by decide +kernel))) (c.t.d.def_ 24 (d := d_keys_of) rfl) (c.t.d.fact 24 (f := .glo "keys_of") rfl) sc_keys_of ⟨rfl, rfl, rfl⟩ (fun _ _ _ _ _ _ us hl => match us, hl with | [_, _], _ => rfl) ⟨rfl, rfl, by decide⟩ c_keys_of
theorem ok_shares_key (X : K.In h) (G : h.Ns mainGlobals mg) (c : He.SaysX fa fn tbs [] ex w h K) : FnAt P w K mg base 3 "shares_key" f_shares_key := def_okX X G (md_mk (k := 2) (Γ := g_shares_key) (M := m_shares_key) X G ⟨He.free_ok X G (c.t.d.fact 48 (f := .free "any") rfl), trivial⟩ trivial ⟨((ok_keys_of X G c).up (by decide)), trivial⟩ trivial rfl (excB_sub (ys := []) (and2 (and2 (and2 c.more).2).2).2 (by decide +kernel))) (c.t.d.def_ 25 (d := d_shares_key) rfl) (c.t.d.fact 25 (f := .glo "shares_key") rfl) sc_shares_key ⟨rfl, rfl, rfl⟩ (fun _ _ _ _ _ _ us hl => match us, hl with | [_, _, _], _ => rfl) ⟨rfl, rfl, by decide⟩ c_shares_key
theorem ok_sees (X : K.In h) (G : h.Ns mainGlobals mg) (c : He.SaysX fa fn tbs [] ex w h K) : FnAt P w K mg base 4 "sees" f_sees := def_okX X G (md_mk (k := 3) (Γ := g_sees) (M := m_sees) X G ⟨He.free_ok X G (c.t.d.fact 48 (f := .free "any") rfl), trivial⟩ trivial ⟨((ok_hand_pairs X G c).up (by decide)), ⟨((ok_read_pairs X G c).up (by decide)), ⟨((ok_seen_before X G c).up (by decide)), ⟨((ok_closed X G c).up (by decide)), ⟨((ok_before X G c).up (by decide)), ⟨((ok_works_in X G c).up (by decide)), ⟨((ok_shares_key X G c).up (by decide)), trivial⟩⟩⟩⟩⟩⟩⟩ trivial rfl (excB_sub (ys := []) (and2 (and2 (and2 c.more).2).2).2 (by decide +kernel))) (c.t.d.def_ 26 (d := d_sees) rfl) (c.t.d.fact 26 (f := .glo "sees") rfl) sc_sees ⟨rfl, rfl, rfl⟩ (fun _ _ _ _ _ _ us hl => match us, hl with | [_, _, _, _, _, _], _ => rfl) ⟨rfl, rfl, by decide⟩ c_sees
theorem ok_demands (X : K.In h) (G : h.Ns mainGlobals mg) (c : He.SaysX fa fn tbs [] ex w h K) : FnAt P w K mg base 5 "demands" f_demands := def_okX X G (md_mk (k := 4) (Γ := g_demands) (M := m_demands) X G ⟨He.free_ok X G (c.t.d.fact 45 (f := .free "sorted") rfl), ⟨He.free_ok X G (c.t.d.fact 46 (f := .free "set") rfl), trivial⟩⟩ trivial ⟨((ok_hand_pairs X G c).up (by decide)), ⟨((ok_read_pairs X G c).up (by decide)), ⟨((ok_works_in X G c).up (by decide)), ⟨((ok_outer X G c).up (by decide)), ⟨((ok_writes_key X G c).up (by decide)), ⟨((ok_sees X G c).up (by decide)), trivial⟩⟩⟩⟩⟩⟩ trivial rfl (excB_sub (ys := []) (and2 (and2 (and2 c.more).2).2).2 (by decide +kernel))) (c.t.d.def_ 27 (d := d_demands) rfl) (c.t.d.fact 27 (f := .glo "demands") rfl) sc_demands ⟨rfl, rfl, rfl⟩ (fun _ _ _ _ _ _ us hl => match us, hl with | [_, _, _], _ => rfl) ⟨rfl, rfl, by decide⟩ c_demands
theorem ok_is_good (X : K.In h) (G : h.Ns mainGlobals mg) (c : He.SaysX fa fn tbs [] ex w h K) : FnAt P w K mg base 6 "is_good" f_is_good := def_okX X G (md_mk (k := 5) (Γ := g_is_good) (M := m_is_good) X G ⟨He.free_ok X G (c.t.d.fact 48 (f := .free "any") rfl), trivial⟩ trivial ⟨((ok_must_be_level X G c).up (by decide)), ⟨((ok_is_plain X G c).up (by decide)), ⟨((ok_demands X G c).up (by decide)), ⟨((ok_is_kept X G c).up (by decide)), trivial⟩⟩⟩⟩ trivial rfl (excB_sub (ys := []) (and2 (and2 (and2 c.more).2).2).2 (by decide +kernel))) (c.t.d.def_ 28 (d := d_is_good) rfl) (c.t.d.fact 28 (f := .glo "is_good") rfl) sc_is_good ⟨rfl, rfl, rfl⟩ (fun _ _ _ _ _ _ us hl => match us, hl with | [_, _, _], _ => rfl) ⟨rfl, rfl, by decide⟩ c_is_good
theorem ok_find (X : K.In h) (G : h.Ns mainGlobals mg) (c : He.SaysX fa fn tbs [] ex w h K) : FnAt P w K mg base 10 "find" f_find := def_okX X G (md_mk (k := 9) (Γ := g_find) (M := m_find) X G ⟨He.free_ok X G (c.t.d.fact 43 (f := .free "len") rfl), trivial⟩ trivial ⟨((ok_must_be_level X G c).up (by decide)), ⟨((ok_hand_pairs X G c).up (by decide)), ⟨((ok_read_pairs X G c).up (by decide)), ⟨((ok_is_ringless X G c).up (by decide)), ⟨((ok_is_plain X G c).up (by decide)), ⟨((ok_all_orders X G c).up (by decide)), ⟨((ok_works_in X G c).up (by decide)), ⟨((ok_is_good X G c).up (by decide)), trivial⟩⟩⟩⟩⟩⟩⟩⟩ trivial rfl (excB_sub (ys := []) (and2 (and2 (and2 c.more).2).2).2 (by decide +kernel))) (c.t.d.def_ 29 (d := d_find) rfl) (c.t.d.fact 29 (f := .glo "find") rfl) sc_find ⟨rfl, rfl, rfl⟩ (fun _ _ _ _ _ _ us hl => match us, hl with | [_, _], _ => rfl) ⟨rfl, rfl, by decide⟩ c_find
theorem ok_from_commits (X : K.In h) (G : h.Ns mainGlobals mg) (c : He.SaysX fa fn tbs [] ex w h K) : FnAt P w K mg base 4 "from_commits" f_from_commits := def_okX X G (md_mk (k := 3) (Γ := g_from_commits) (M := m_from_commits) X G ⟨He.free_ok X G (c.t.d.fact 44 (f := .free "tuple") rfl), ⟨He.free_ok X G (c.t.d.fact 45 (f := .free "sorted") rfl), ⟨He.free_ok X G (c.t.d.fact 46 (f := .free "set") rfl), trivial⟩⟩⟩ trivial ⟨((ok_must_be_level X G c).up (by decide)), ⟨((ok_hand_pairs X G c).up (by decide)), ⟨((ok_read_pairs X G c).up (by decide)), ⟨((ok_works_in X G c).up (by decide)), ⟨((ok_before X G c).up (by decide)), ⟨((ok_closed X G c).up (by decide)), ⟨((ok_shares_key X G c).up (by decide)), trivial⟩⟩⟩⟩⟩⟩⟩ trivial rfl (excB_sub (ys := []) (and2 (and2 (and2 c.more).2).2).2 (by decide +kernel))) (c.t.d.def_ 30 (d := d_from_commits) rfl) (c.t.d.fact 30 (f := .glo "from_commits") rfl) sc_from_commits ⟨rfl, rfl, rfl⟩ (fun _ _ _ _ _ _ us hl => match us, hl with | [_, _, _], _ => rfl) ⟨rfl, rfl, by decide⟩ c_from_commits
theorem ok_reads_any (X : K.In h) (G : h.Ns mainGlobals mg) (c : He.SaysX fa fn tbs [] ex w h K) : FnAt P w K mg base 2 "reads_any" f_reads_any := def_okX X G (md_mk (k := 1) (Γ := g_reads_any) (M := m_reads_any) X G ⟨He.free_ok X G (c.t.d.fact 48 (f := .free "any") rfl), trivial⟩ trivial ⟨((ok_deeds_in X G c).up (by decide)), trivial⟩ trivial rfl (excB_sub (ys := []) (and2 (and2 (and2 c.more).2).2).2 (by decide +kernel))) (c.t.d.def_ 31 (d := d_reads_any) rfl) (c.t.d.fact 31 (f := .glo "reads_any") rfl) sc_reads_any ⟨rfl, rfl, rfl⟩ (fun _ _ _ _ _ _ us hl => match us, hl with | [_, _], _ => rfl) ⟨rfl, rfl, by decide⟩ c_reads_any
theorem ok_writes_any (X : K.In h) (G : h.Ns mainGlobals mg) (c : He.SaysX fa fn tbs [] ex w h K) : FnAt P w K mg base 2 "writes_any" f_writes_any := def_okX X G (md_mk (k := 1) (Γ := g_writes_any) (M := m_writes_any) X G ⟨He.free_ok X G (c.t.d.fact 48 (f := .free "any") rfl), trivial⟩ trivial ⟨((ok_deeds_in X G c).up (by decide)), trivial⟩ trivial rfl (excB_sub (ys := []) (and2 (and2 (and2 c.more).2).2).2 (by decide +kernel))) (c.t.d.def_ 32 (d := d_writes_any) rfl) (c.t.d.fact 32 (f := .glo "writes_any") rfl) sc_writes_any ⟨rfl, rfl, rfl⟩ (fun _ _ _ _ _ _ us hl => match us, hl with | [_, _], _ => rfl) ⟨rfl, rfl, by decide⟩ c_writes_any
theorem ok_wish_pairs (X : K.In h) (G : h.Ns mainGlobals mg) (c : He.SaysX fa fn tbs [] ex w h K) : FnAt P w K mg base 3 "wish_pairs" f_wish_pairs := def_okX X G (md_mk (k := 2) (Γ := g_wish_pairs) (M := m_wish_pairs) X G trivial trivial ⟨((ok_hand_pairs X G c).up (by decide)), ⟨((ok_reads_any X G c).up (by decide)), ⟨((ok_writes_any X G c).up (by decide)), trivial⟩⟩⟩ trivial rfl (excB_sub (ys := []) (and2 (and2 (and2 c.more).2).2).2 (by decide +kernel))) (c.t.d.def_ 33 (d := d_wish_pairs) rfl) (c.t.d.fact 33 (f := .glo "wish_pairs") rfl) sc_wish_pairs ⟨rfl, rfl, rfl⟩ (fun _ _ _ _ _ _ us hl => match us, hl with | [_, _, _], _ => rfl) ⟨rfl, rfl, by decide⟩ c_wish_pairs
theorem ok_wishes (X : K.In h) (G : h.Ns mainGlobals mg) (c : He.SaysX fa fn tbs [] ex w h K) : FnAt P w K mg base 4 "wishes" f_wishes := def_okX X G (md_mk (k := 3) (Γ := g_wishes) (M := m_wishes) X G ⟨He.free_ok X G (c.t.d.fact 47 (f := .free "all") rfl), trivial⟩ ⟨cstB_ok X G (and2 (and2 (and2 c.more).2).2).1, trivial⟩ ⟨((ok_wish_pairs X G c).up (by decide)), trivial⟩ trivial rfl (excB_sub (ys := []) (and2 (and2 (and2 c.more).2).2).2 (by decide +kernel))) (c.t.d.def_ 34 (d := d_wishes) rfl) (c.t.d.fact 34 (f := .glo "wishes") rfl) sc_wishes ⟨rfl, rfl, rfl⟩ (fun _ _ _ _ _ _ us hl => match us, hl with | [_, _], _ => rfl) ⟨rfl, rfl, by decide⟩ c_wishes
theorem ok_l_hand_pairs (X : K.In h) (G : h.Ns mainGlobals mg) (c : He.SaysX fa fn tbs [] ex w h K) : FnAt P w K mg base 1 "_law_hand_pairs" f_l_hand_pairs := def_okX X G (md_mk (k := 0) (Γ := g_l_hand_pairs) (M := m_l_hand_pairs) X G ⟨He.free_ok X G (c.t.d.fact 42 (f := .free "range") rfl), ⟨He.free_ok X G (c.t.d.fact 43 (f := .free "len") rfl), ⟨He.free_ok X G (c.t.d.fact 45 (f := .free "sorted") rfl), trivial⟩⟩⟩ trivial trivial trivial rfl (excB_sub (ys := []) (and2 (and2 (and2 c.more).2).2).2 (by decide +kernel))) (c.t.d.def_ 35 (d := d_l_hand_pairs) rfl) (c.t.d.fact 35 (f := .glo "_law_hand_pairs") rfl) sc_l_hand_pairs ⟨rfl, rfl, rfl⟩ (fun _ _ _ _ _ _ us hl => match us, hl with | [_], _ => rfl) ⟨rfl, rfl, by decide⟩ c_l_hand_pairs
theorem ok_l_deeds (X : K.In h) (G : h.Ns mainGlobals mg) (c : He.SaysX fa fn tbs [] ex w h K) : FnAt P w K mg base 1 "_law_deeds" f_l_deeds := def_okX X G (md_mk (k := 0) (Γ := g_l_deeds) (M := m_l_deeds) X G trivial trivial trivial trivial rfl (excB_sub (ys := []) (and2 (and2 (and2 c.more).2).2).2 (by decide +kernel))) (c.t.d.def_ 36 (d := d_l_deeds) rfl) (c.t.d.fact 36 (f := .glo "_law_deeds") rfl) sc_l_deeds ⟨rfl, rfl, rfl⟩ (fun _ _ _ _ _ _ us hl => match us, hl with | [_, _], _ => rfl) ⟨rfl, rfl, by decide⟩ c_l_deeds
theorem ok_l_any (X : K.In h) (G : h.Ns mainGlobals mg) (c : He.SaysX fa fn tbs [] ex w h K) : FnAt P w K mg base 2 "_law_any" f_l_any := def_okX X G (md_mk (k := 1) (Γ := g_l_any) (M := m_l_any) X G ⟨He.free_ok X G (c.t.d.fact 43 (f := .free "len") rfl), trivial⟩ trivial ⟨((ok_l_deeds X G c).up (by decide)), trivial⟩ trivial rfl (excB_sub (ys := []) (and2 (and2 (and2 c.more).2).2).2 (by decide +kernel))) (c.t.d.def_ 37 (d := d_l_any) rfl) (c.t.d.fact 37 (f := .glo "_law_any") rfl) sc_l_any ⟨rfl, rfl, rfl⟩ (fun _ _ _ _ _ _ us hl => match us, hl with | [_, _, _], _ => rfl) ⟨rfl, rfl, by decide⟩ c_l_any
theorem ok_l_wishes (X : K.In h) (G : h.Ns mainGlobals mg) (c : He.SaysX fa fn tbs [] ex w h K) : FnAt P w K mg base 3 "_law_wishes" f_l_wishes := def_okX X G (md_mk (k := 2) (Γ := g_l_wishes) (M := m_l_wishes) X G ⟨He.free_ok X G (c.t.d.fact 43 (f := .free "len") rfl), trivial⟩ trivial ⟨((ok_l_hand_pairs X G c).up (by decide)), ⟨((ok_l_any X G c).up (by decide)), trivial⟩⟩ trivial rfl (excB_sub (ys := []) (and2 (and2 (and2 c.more).2).2).2 (by decide +kernel))) (c.t.d.def_ 38 (d := d_l_wishes) rfl) (c.t.d.fact 38 (f := .glo "_law_wishes") rfl) sc_l_wishes ⟨rfl, rfl, rfl⟩ (fun _ _ _ _ _ _ us hl => match us, hl with | [_, _], _ => rfl) ⟨rfl, rfl, by decide⟩ c_l_wishes
theorem ok_law (X : K.In h) (G : h.Ns mainGlobals mg) (c : He.SaysX fa fn tbs [] ex w h K) (hrun : (denT m_law b_law ((List.replicate 15 Sl.un).set 1 .pool)).run lawQ fun _ => False) : ∃ fd, (∀ (s : Shared) (v : Value), BindsTo s fd ⟨[v], []⟩ [("script", v)]) ∧ ∀ base : Heap, FnOk P w K mg base (L2.CX P w) 11 (He.ga K "law") fd ["script"] (spLaw K) := by
  obtain ⟨fd, F⟩ := (c.t.d.def_ 39 (d := d_law) rfl)
  exact ⟨fd, fun s v => FunD.bindsA (ps := ["script"]) F (fun _ _ _ _ _ _ us hl => match us, hl with | [_], _ => rfl) s [v] rfl, fun base => law_okX (md_mk (k := 10) (Γ := g_law) (M := m_law) X G ⟨He.free_ok X G (c.t.d.fact 42 (f := .free "range") rfl), ⟨He.free_ok X G (c.t.d.fact 44 (f := .free "tuple") rfl), ⟨He.free_ok X G (c.t.d.fact 43 (f := .free "len") rfl), ⟨He.free_ok X G (c.t.d.fact 45 (f := .free "sorted") rfl), trivial⟩⟩⟩⟩ trivial ⟨((ok_l_some_parts X G c).up (by decide)), ⟨((ok_l_shuffled X G c).up (by decide)), ⟨((ok_l_names X G c).up (by decide)), ⟨((ok_l_draw X G c).up (by decide)), ⟨((ok_find X G c).up (by decide)), ⟨((ok_from_commits X G c).up (by decide)), ⟨((ok_wishes X G c).up (by decide)), ⟨((ok_l_wishes X G c).up (by decide)), trivial⟩⟩⟩⟩⟩⟩⟩⟩ trivial rfl (excB_sub (ys := []) (and2 (and2 (and2 c.more).2).2).2 (by decide +kernel))) (poolUp (ok_l_pool X G c) (by decide)) F sc_law ⟨rfl, rfl, rfl⟩ ⟨rfl, by decide, by decide, by decide⟩ c0_law c_law hrun⟩
end
@[simp] theorem m_l_draw_f0 : (m_l_draw).Φ 0 = f_l_spread := rfl
@[simp] theorem m_l_pick_f0 : (m_l_pick).Φ 0 = f_l_draw := rfl
@[simp] theorem m_l_shuffled_f0 : (m_l_shuffled).Φ 0 = f_l_draw := rfl
@[simp] theorem m_l_some_parts_f0 : (m_l_some_parts).Φ 0 = f_l_draw := rfl
@[simp] theorem m_l_some_parts_f1 : (m_l_some_parts).Φ 1 = f_l_pick := rfl
@[simp] theorem m_l_some_parts_f2 : (m_l_some_parts).Φ 2 = f_l_shuffled := rfl
@[simp] theorem m_l_some_parts_f3 : (m_l_some_parts).Φ 3 = f_l_wrote := rfl
@[simp] theorem m_must_be_level_c0 : (m_must_be_level).C 0 = v_LEVELS := rfl
@[simp] theorem m_outer_f0 : (m_outer).Φ 0 = f_deeds_in := rfl
@[simp] theorem m_read_pairs_f0 : (m_read_pairs).Φ 0 = f_works_in := rfl
@[simp] theorem m_read_pairs_f1 : (m_read_pairs).Φ 1 = f_outer := rfl
@[simp] theorem m_is_ringless_f0 : (m_is_ringless).Φ 0 = f_closed := rfl
@[simp] theorem m_is_plain_f0 : (m_is_plain).Φ 0 = f_works_in := rfl
@[simp] theorem m_is_plain_f1 : (m_is_plain).Φ 1 = f_outer := rfl
@[simp] theorem m_is_plain_f2 : (m_is_plain).Φ 2 = f_writes_in := rfl
@[simp] theorem m_is_plain_f3 : (m_is_plain).Φ 3 = f_deeds_in := rfl
@[simp] theorem m_orders_of_f0 {F : List Ar → W Exc D} : (m_orders_of F).Φ 0 = F := rfl
@[simp] theorem m_all_orders_f0 : (m_all_orders).Φ 0 = f_orders_of 8 := rfl
@[simp] theorem m_all_orders_f1 : (m_all_orders).Φ 1 = f_is_kept := rfl
@[simp] theorem m_writes_key_f0 : (m_writes_key).Φ 0 = f_writes_in := rfl
@[simp] theorem m_writes_key_f1 : (m_writes_key).Φ 1 = f_deeds_in := rfl
@[simp] theorem m_seen_before_f0 : (m_seen_before).Φ 0 = f_deeds_in := rfl
@[simp] theorem m_keys_of_f0 : (m_keys_of).Φ 0 = f_writes_in := rfl
@[simp] theorem m_keys_of_f1 : (m_keys_of).Φ 1 = f_deeds_in := rfl
@[simp] theorem m_keys_of_c0 : (m_keys_of).C 0 = v_KEYS := rfl
@[simp] theorem m_shares_key_f0 : (m_shares_key).Φ 0 = f_keys_of := rfl
@[simp] theorem m_sees_f0 : (m_sees).Φ 0 = f_hand_pairs := rfl
@[simp] theorem m_sees_f1 : (m_sees).Φ 1 = f_read_pairs := rfl
@[simp] theorem m_sees_f2 : (m_sees).Φ 2 = f_seen_before := rfl
@[simp] theorem m_sees_f3 : (m_sees).Φ 3 = f_closed := rfl
@[simp] theorem m_sees_f4 : (m_sees).Φ 4 = f_before := rfl
@[simp] theorem m_sees_f5 : (m_sees).Φ 5 = f_works_in := rfl
@[simp] theorem m_sees_f6 : (m_sees).Φ 6 = f_shares_key := rfl
@[simp] theorem m_demands_f0 : (m_demands).Φ 0 = f_hand_pairs := rfl
@[simp] theorem m_demands_f1 : (m_demands).Φ 1 = f_read_pairs := rfl
@[simp] theorem m_demands_f2 : (m_demands).Φ 2 = f_works_in := rfl
@[simp] theorem m_demands_f3 : (m_demands).Φ 3 = f_outer := rfl
@[simp] theorem m_demands_f4 : (m_demands).Φ 4 = f_writes_key := rfl
@[simp] theorem m_demands_f5 : (m_demands).Φ 5 = f_sees := rfl
@[simp] theorem m_is_good_f0 : (m_is_good).Φ 0 = f_must_be_level := rfl
@[simp] theorem m_is_good_f1 : (m_is_good).Φ 1 = f_is_plain := rfl
@[simp] theorem m_is_good_f2 : (m_is_good).Φ 2 = f_demands := rfl
@[simp] theorem m_is_good_f3 : (m_is_good).Φ 3 = f_is_kept := rfl
@[simp] theorem m_find_f0 : (m_find).Φ 0 = f_must_be_level := rfl
@[simp] theorem m_find_f1 : (m_find).Φ 1 = f_hand_pairs := rfl
@[simp] theorem m_find_f2 : (m_find).Φ 2 = f_read_pairs := rfl
@[simp] theorem m_find_f3 : (m_find).Φ 3 = f_is_ringless := rfl
@[simp] theorem m_find_f4 : (m_find).Φ 4 = f_is_plain := rfl
@[simp] theorem m_find_f5 : (m_find).Φ 5 = f_all_orders := rfl
@[simp] theorem m_find_f6 : (m_find).Φ 6 = f_works_in := rfl
@[simp] theorem m_find_f7 : (m_find).Φ 7 = f_is_good := rfl
@[simp] theorem m_from_commits_f0 : (m_from_commits).Φ 0 = f_must_be_level := rfl
@[simp] theorem m_from_commits_f1 : (m_from_commits).Φ 1 = f_hand_pairs := rfl
@[simp] theorem m_from_commits_f2 : (m_from_commits).Φ 2 = f_read_pairs := rfl
@[simp] theorem m_from_commits_f3 : (m_from_commits).Φ 3 = f_works_in := rfl
@[simp] theorem m_from_commits_f4 : (m_from_commits).Φ 4 = f_before := rfl
@[simp] theorem m_from_commits_f5 : (m_from_commits).Φ 5 = f_closed := rfl
@[simp] theorem m_from_commits_f6 : (m_from_commits).Φ 6 = f_shares_key := rfl
@[simp] theorem m_reads_any_f0 : (m_reads_any).Φ 0 = f_deeds_in := rfl
@[simp] theorem m_writes_any_f0 : (m_writes_any).Φ 0 = f_deeds_in := rfl
@[simp] theorem m_wish_pairs_f0 : (m_wish_pairs).Φ 0 = f_hand_pairs := rfl
@[simp] theorem m_wish_pairs_f1 : (m_wish_pairs).Φ 1 = f_reads_any := rfl
@[simp] theorem m_wish_pairs_f2 : (m_wish_pairs).Φ 2 = f_writes_any := rfl
@[simp] theorem m_wishes_f0 : (m_wishes).Φ 0 = f_wish_pairs := rfl
@[simp] theorem m_wishes_c0 : (m_wishes).C 0 = v_WISHES := rfl
@[simp] theorem m_l_any_f0 : (m_l_any).Φ 0 = f_l_deeds := rfl
@[simp] theorem m_l_wishes_f0 : (m_l_wishes).Φ 0 = f_l_hand_pairs := rfl
@[simp] theorem m_l_wishes_f1 : (m_l_wishes).Φ 1 = f_l_any := rfl
@[simp] theorem m_law_f0 : (m_law).Φ 0 = f_l_some_parts := rfl
@[simp] theorem m_law_f1 : (m_law).Φ 1 = f_l_shuffled := rfl
@[simp] theorem m_law_f2 : (m_law).Φ 2 = f_l_names := rfl
@[simp] theorem m_law_f3 : (m_law).Φ 3 = f_l_draw := rfl
@[simp] theorem m_law_f4 : (m_law).Φ 4 = f_find := rfl
@[simp] theorem m_law_f5 : (m_law).Φ 5 = f_from_commits := rfl
@[simp] theorem m_law_f6 : (m_law).Φ 6 = f_wishes := rfl
@[simp] theorem m_law_f7 : (m_law).Φ 7 = f_l_wishes := rfl
end K16

/-! EvR: rows of deeds, typed. -/
namespace EvR
open PySem PySem.Spec PyProof.Rows L2 Ev
inductive Dd where
  | bg (w : Int) | rd (w k v n : Int) | wr (w k : Int) | cm (w : Int) | ab (w : Int)
deriving DecidableEq
abbrev sBg : Str := Str.ofString "begin"
abbrev sRd : Str := Str.ofString "read"
abbrev sWr : Str := Str.ofString "write"
abbrev sCm : Str := Str.ofString "commit"
abbrev sAb : Str := Str.ofString "abort"
def nm : Dd → Str
  | .bg _ => sBg
  | .rd _ _ _ _ => sRd
  | .wr _ _ => sWr
  | .cm _ => sCm
  | .ab _ => sAb
def wk : Dd → Int
  | .bg w => w
  | .rd w _ _ _ => w
  | .wr w _ => w
  | .cm w => w
  | .ab w => w
def tl : Dd → List Int
  | .bg _ => []
  | .rd _ k v n => [k, v, n]
  | .wr _ k => [k]
  | .cm _ => []
  | .ab _ => []
def enc (d : Dd) : D := .tuple (.str (nm d) :: .int (wk d) :: (tl d).map .int)
theorem enc_bg (w : Int) : enc (.bg w) = .tuple [.str sBg, .int w] := rfl
theorem enc_cm (w : Int) : enc (.cm w) = .tuple [.str sCm, .int w] := rfl
theorem enc_ab (w : Int) : enc (.ab w) = .tuple [.str sAb, .int w] := rfl
theorem enc_wr (w k : Int) : enc (.wr w k) = .tuple [.str sWr, .int w, .int k] := rfl
theorem enc_rd (w k v n : Int) : enc (.rd w k v n) = .tuple [.str sRd, .int w, .int k, .int v, .int n] := rfl
section
variable {Q : D → Prop} {X : Exc → Prop} {d : Dd}
@[simp] theorem ix0 : (ixD (enc d) (.int 0)).run Q X = Q (.str (nm d)) := by cases d <;> rfl
@[simp] theorem ix1 : (ixD (enc d) (.int 1)).run Q X = Q (.int (wk d)) := by cases d <;> rfl
@[simp] theorem ix2r {w k v n : Int} : (ixD (enc (.rd w k v n)) (.int 2)).run Q X = Q (.int k) := rfl
@[simp] theorem ix3r {w k v n : Int} : (ixD (enc (.rd w k v n)) (.int 3)).run Q X = Q (.int v) := rfl
@[simp] theorem ix4r {w k v n : Int} : (ixD (enc (.rd w k v n)) (.int 4)).run Q X = Q (.int n) := rfl
@[simp] theorem ix2w {w k : Int} : (ixD (enc (.wr w k)) (.int 2)).run Q X = Q (.int k) := rfl
end
/-! ### names -/
def isBg : Dd → Bool
  | .bg _ => true
  | _ => false
def isRd : Dd → Bool
  | .rd _ _ _ _ => true
  | _ => false
def isWr : Dd → Bool
  | .wr _ _ => true
  | _ => false
def isCm : Dd → Bool
  | .cm _ => true
  | _ => false
def isAb : Dd → Bool
  | .ab _ => true
  | _ => false
def isRW : Dd → Bool
  | .rd _ _ _ _ => true
  | .wr _ _ => true
  | _ => false
@[simp] theorem nmBg (d : Dd) : (nm d == Str.ofString "begin") = isBg d := by cases d <;> simp only [nm, isBg] <;> decide +kernel
@[simp] theorem nmRd (d : Dd) : (nm d == Str.ofString "read") = isRd d := by cases d <;> simp only [nm, isRd] <;> decide +kernel
@[simp] theorem nmWr (d : Dd) : (nm d == Str.ofString "write") = isWr d := by cases d <;> simp only [nm, isWr] <;> decide +kernel
@[simp] theorem nmCm (d : Dd) : (nm d == Str.ofString "commit") = isCm d := by cases d <;> simp only [nm, isCm] <;> decide +kernel
@[simp] theorem nmAb (d : Dd) : (nm d == Str.ofString "abort") = isAb d := by cases d <;> simp only [nm, isAb] <;> decide +kernel
theorem beqP {x y : Str} {b : Bool} (h : (x == y) = b) : (x = y) = (b = true) := by
  cases b with
  | true => simpa using h
  | false => simpa using h
@[simp] theorem nmBg' (d : Dd) : (nm d = Str.ofString "begin") = (isBg d = true) := beqP (nmBg d)
@[simp] theorem nmRd' (d : Dd) : (nm d = Str.ofString "read") = (isRd d = true) := beqP (nmRd d)
@[simp] theorem nmWr' (d : Dd) : (nm d = Str.ofString "write") = (isWr d = true) := beqP (nmWr d)
@[simp] theorem nmCm' (d : Dd) : (nm d = Str.ofString "commit") = (isCm d = true) := beqP (nmCm d)
@[simp] theorem nmAb' (d : Dd) : (nm d = Str.ofString "abort") = (isAb d = true) := beqP (nmAb d)
/-! ### comparison -/
theorem eqvAll_ints2 (l m : List Int) : PyData.eqvAll (l.map .int) (m.map .int) = decide (l = m) := eqvAll_ints l m
theorem nm_inj {d e : Dd} (h : nm d = nm e) (hw : wk d = wk e) (ht : tl d = tl e) : d = e := by
  cases e with
  | bg w =>
    have : (nm d == Str.ofString "begin") = true := by rw [h, nmBg]; rfl
    rw [nmBg] at this
    cases d <;> simp [isBg, wk] at * <;> assumption
  | rd w k v n =>
    have : (nm d == Str.ofString "read") = true := by rw [h, nmRd]; rfl
    rw [nmRd] at this
    cases d <;> simp [isRd, wk, tl] at * <;> simp [*]
  | wr w k =>
    have : (nm d == Str.ofString "write") = true := by rw [h, nmWr]; rfl
    rw [nmWr] at this
    cases d <;> simp [isWr, wk, tl] at * <;> simp [*]
  | cm w =>
    have : (nm d == Str.ofString "commit") = true := by rw [h, nmCm]; rfl
    rw [nmCm] at this
    cases d <;> simp [isCm, wk] at * <;> assumption
  | ab w =>
    have : (nm d == Str.ofString "abort") = true := by rw [h, nmAb]; rfl
    rw [nmAb] at this
    cases d <;> simp [isAb, wk] at * <;> assumption
theorem eqv_enc (d e : Dd) : PyData.eqv (enc d) (enc e) = decide (d = e) := by
  unfold enc
  rw [PyData.eqv, PyData.eqvAll, PyData.eqvAll, eqvAll_ints, PyData.eqv, PyData.eqv]
  by_cases h : d = e
  · subst h; simp
  · rw [decide_eq_false h]
    by_cases h1 : nm d = nm e
    · by_cases h2 : wk d = wk e
      · have h3 : tl d ≠ tl e := fun h3 => h (nm_inj h1 h2 h3)
        simp [h3]
      · simp [h2]
    · have : (nm d == nm e) = false := by simpa using h1
      rw [this]; rfl
theorem depth_enc (d : Dd) : PyData.depth (enc d) = 1 := by
  unfold enc
  simp [PyData.depth, PyData.depthAll, Ev.depth_ints]
@[simp] theorem nd_enc (d : Dd) : nd (enc d) = true := by
  unfold enc
  simp [nd, ndAll, ndAll_ints]
theorem nd_rows (R : List Dd) : ndAll (R.map enc) = true := by induction R <;> simp_all [ndAll]
@[simp] theorem sh_enc (d : Dd) : sh (enc d) = true := by
  have h := depth_enc d
  have h2 := nd_enc d
  unfold enc at h h2 ⊢
  rw [nd] at h2
  simp [sh, h, h2]
theorem depth_rows : ∀ R : List Dd, PyData.depthAll (R.map enc) ≤ 1
  | [] => by simp [PyData.depthAll]
  | d :: R => by
    have := depth_rows R
    simp [PyData.depthAll, depth_enc]
    omega
@[simp] theorem sh_row (R : List Dd) : sh (.tuple (R.map enc)) = true := by
  have := depth_rows R
  simp [sh, PyData.depth, nd_rows]
  omega
@[simp] theorem sh_rowL (R : List Dd) : sh (.list (R.map enc)) = true := by
  have := depth_rows R
  simp [sh, PyData.depth, nd_rows]
  omega
theorem any_enc (e : Dd) : ∀ R : List Dd, ((R.map enc).any fun z => PyData.eqv z (enc e)) = decide (e ∈ R)
  | [] => by simp
  | d :: R => by
    rw [List.map_cons, List.any_cons, any_enc e R, eqv_enc]
    by_cases h : d = e
    · subst h; simp
    · have h' : ¬ e = d := fun q => h q.symm
      simp [h, h']
section
variable {n : Bool} {R : List Dd} {w k : Int} {Q : Bool → Prop} {X : Exc → Prop}
theorem in_enc {e : Dd} : (inD n (enc e) (.tuple (R.map enc))).run Q X = Q (if n then !decide (e ∈ R) else decide (e ∈ R)) := by
  show ((sh (enc e) = true ∧ sh (.tuple (R.map enc)) = true) ∧ Q _) = _
  rw [any_enc]
  simp
@[simp] theorem in_bg : (inD n (.tuple [.str (Str.ofString "begin"), .int w]) (.tuple (R.map enc))).run Q X = Q (if n then !decide (Dd.bg w ∈ R) else decide (Dd.bg w ∈ R)) := in_enc (e := .bg w)
@[simp] theorem in_cm : (inD n (.tuple [.str (Str.ofString "commit"), .int w]) (.tuple (R.map enc))).run Q X = Q (if n then !decide (Dd.cm w ∈ R) else decide (Dd.cm w ∈ R)) := in_enc (e := .cm w)
@[simp] theorem in_ab : (inD n (.tuple [.str (Str.ofString "abort"), .int w]) (.tuple (R.map enc))).run Q X = Q (if n then !decide (Dd.ab w ∈ R) else decide (Dd.ab w ∈ R)) := in_enc (e := .ab w)
@[simp] theorem eq_wr {d : Dd} : PyData.eqv (enc d) (.tuple [.str (Str.ofString "write"), .int w, .int k]) = decide (d = .wr w k) := eqv_enc d (.wr w k)
@[simp] theorem sh_wr : sh (.tuple [.str (Str.ofString "write"), .int w, .int k]) = true := sh_enc (.wr w k)
end
theorem idx_enc {R : List Dd} {e : Dd} {Q : D → Prop} {X : Exc → Prop} (h : e ∈ R) (q : Q (.int (R.idxOf e))) : (indexD (.tuple (R.map enc)) (enc e)).run Q X := by
  show ((sh (enc e) = true ∧ sh (.tuple (R.map enc)) = true) ∧ (match findD (R.map enc) (enc e) with | some j => W.ret (PyData.int j) | none => W.stuck : W Exc D).run Q X)
  have hf : findD (R.map enc) (enc e) = some (R.idxOf e) := by
    unfold findD
    rw [List.findIdx?_map]
    have e1 : ((fun z => PyData.eqv z (enc e)) ∘ enc) = fun d => d == e := by
      funext d
      show PyData.eqv (enc d) (enc e) = _
      rw [eqv_enc]; rfl
    rw [e1]
    have hl : R.idxOf e < R.length := List.idxOf_lt_length_iff.mpr h
    rw [List.findIdx?_eq_some_iff_findIdx_eq]
    exact ⟨hl, rfl⟩
  rw [hf]
  exact ⟨⟨sh_enc e, sh_row R⟩, q⟩
@[simp] theorem cut_row {R : List Dd} {p : Nat} : Ev.cutD (R.map enc) none (some (p : Int)) = (R.take p).map enc := by rw [cut_take, List.map_take]
@[simp] theorem eqv_row (R S : List Dd) : PyData.eqv (.tuple (R.map enc)) (.tuple (S.map enc)) = decide (R = S) := by
  have main : ∀ R S : List Dd, PyData.eqvAll (R.map enc) (S.map enc) = decide (R = S) := by
    intro R
    induction R with
    | nil => intro S; cases S <;> simp [PyData.eqvAll]
    | cons d R ih =>
      intro S
      cases S with
      | nil => simp [PyData.eqvAll]
      | cons e S =>
        rw [List.map_cons, List.map_cons, PyData.eqvAll, ih, eqv_enc]
        simp
  rw [PyData.eqv]
  exact main R S
theorem good_enc (n : Nat) (d : Dd) : good (n + 2) (enc d) := by
  intro x hx
  rcases List.mem_cons.mp hx with e | hx
  · rw [e]; trivial
  rcases List.mem_cons.mp hx with e | hx
  · rw [e]; trivial
  obtain ⟨i, _, rfl⟩ := List.mem_map.mp hx
  trivial
theorem good_row (n : Nat) (R : List Dd) : good (n + 3) (.tuple (R.map enc)) := by
  intro x hx
  obtain ⟨d, _, rfl⟩ := List.mem_map.mp hx
  exact good_enc n d
end EvR

/-! EvR2: small things for the walks over rows. -/
namespace EvR
open PySem PySem.Spec PyProof.Rows L2 Ev
section
variable {n : Bool} {a b c e : Int} {Q : Bool → Prop} {X : Exc → Prop}
@[simp] theorem in_t1 : (inD n (.int a) (.tuple [.int b])).run Q X = Q (if n then !decide (a = b) else decide (a = b)) := by
  have := in_ti (n := n) (a := a) (l := [b]) (Q := Q) (X := X)
  simpa using this
@[simp] theorem in_t2 : (inD n (.int a) (.tuple [.int b, .int c])).run Q X = Q (if n then !decide (a = b ∨ a = c) else decide (a = b ∨ a = c)) := by
  have := in_ti (n := n) (a := a) (l := [b, c]) (Q := Q) (X := X)
  simpa using this
end
@[simp] theorem eqv_lnil (l : List Int) : PyData.eqv (.list (l.map .int)) (.list []) = decide (l = []) := eqv_lints l []
@[simp] theorem eqv_tnil (l : List Int) : PyData.eqv (.tuple (l.map .int)) (.tuple []) = decide (l = []) := eqv_tints l []
@[simp] theorem sh_nil : sh (.list []) = true := sh_lints []
@[simp] theorem sh_tnil : sh (.tuple []) = true := sh_tints []
theorem line9 {n : Nat} (h : n ≤ 999) : n < sizeLine := Nat.lt_of_lt_of_le (show n < 1000 by omega) (small_of (by decide))
theorem line8 {n : Nat} (h : n ≤ 999) : n ≤ sizeLine := Nat.le_of_lt (line9 h)
theorem line7 {n : Nat} (h : n ≤ 1000000) : n ≤ sizeLine := by rw [sizeLine_eq]; omega
theorem line6 {n : Nat} (h : n ≤ 1000000) : n < sizeLine := by rw [sizeLine_eq]; omega
theorem scan7 {n : Nat} (h : n ≤ 4000) : n < scanBound := by
  have : (4000 : Nat) < scanBound := by decide
  omega
theorem uniqI_len (l : List Int) : (uniqI l).length ≤ l.length :=
  nodup_len (sorted_nodup linI (uniq_sorted linI l)) fun x hx => (uniq_mem linI l x).mp hx
@[simp] theorem srtS_li {l : List Int} {Q : List D → Prop} {X : Exc → Prop} : (srtSetD (.list (l.map .int))).run Q X = ((l.length + 1 < scanBound ∧ (uniqI l).length < 64) ∧ Q ((uniqI l).map .int)) := by
  show (match Ev.intsOf (l.map .int) with
    | some ns => (W.ask (ns.length + 1 < scanBound ∧ (uniqI ns).length < 64)).bind fun _ => .ret ((uniqI ns).map .int)
    | none => _ : W Exc (List D)).run Q X = _
  rw [Ev.intsOf_map]
  rfl
theorem atI_last {α : Type} (xs : List α) (x : α) : atI (xs ++ [x]) (-1) = some x := by
  have : ixN (xs ++ [x]).length (-1) = some xs.length := by
    unfold ixN
    rw [if_neg (by omega), if_pos (by simp; omega)]
    simp
    omega
  unfold atI
  rw [this]
  simp
theorem atI_last' {l : List Int} {v : Int} (h : l.getLast? = some v) : atI (l.map PyData.int) (-1) = some (.int v) := by
  obtain ⟨ys, rfl⟩ := List.getLast?_eq_some_iff.mp h
  rw [List.map_append]
  exact atI_last _ _
@[simp] theorem lst_l {ds : List D} {Q : List D → Prop} {X : Exc → Prop} : (listF (.list ds)).run Q X = Q ds := rfl
@[simp] theorem lst_t {ds : List D} {Q : List D → Prop} {X : Exc → Prop} : (listF (.tuple ds)).run Q X = Q ds := rfl
@[simp] theorem cat_l {xs ys : List D} {Q : List D → Prop} {X : Exc → Prop} : (catF (.list xs) (.list ys)).run Q X = (xs.length + ys.length ≤ sizeLine ∧ Q (xs ++ ys)) := rfl
/-- loops over a range -/
theorem forD_upto {t : T} {body : S} {lo : Int} {n : Nat} {ρ : List Sl} {Q : Out → Prop} {XX : XS → Prop} (I : Nat → List Sl → Prop) (h0 : I 0 ρ)
    (hs : ∀ (i : Nat) (ρ : List Sl), i < n → I i ρ → (asgT t (.int (lo + i)) ρ).run (fun ρ1 => (body ρ1).run (stepQ (I (i + 1)) Q) XX) (fun e => XX (e, ρ))) (hd : ∀ ρ, I n ρ → Q (.nx ρ)) : (forD t body (upto lo n) ρ).run Q XX := by
  refine forD_run I h0 (fun i x ρ hx hI => ?_) (fun ρ hI => hd ρ (by rwa [upto_len] at hI))
  have hl : i < n := by
    have := (List.getElem?_eq_some_iff.mp hx).1
    rwa [upto_len] at this
  have e : x = .int (lo + i) := by
    rw [upto_eq, List.getElem?_map, List.getElem?_range hl] at hx
    exact (Option.some.inj hx).symm
  rw [e]
  exact hs i ρ hl hI
/-- loops over a typed list -/
theorem forD_enc {α : Type} {enc : α → D} {t : T} {body : S} {xs : List α} {ρ : List Sl} {Q : Out → Prop} {XX : XS → Prop} (I : Nat → List Sl → Prop) (h0 : I 0 ρ)
    (hs : ∀ (i : Nat) (x : α) (ρ : List Sl), xs[i]? = some x → I i ρ → (asgT t (enc x) ρ).run (fun ρ1 => (body ρ1).run (stepQ (I (i + 1)) Q) XX) (fun e => XX (e, ρ))) (hd : ∀ ρ, I xs.length ρ → Q (.nx ρ)) : (forD t body (xs.map enc) ρ).run Q XX := by
  refine forD_run I h0 (fun i x ρ hx hI => ?_) (fun ρ hI => hd ρ (by rwa [List.length_map] at hI))
  rw [List.getElem?_map] at hx
  cases e : xs[i]? with
  | none => rw [e] at hx; cases hx
  | some y => rw [e] at hx; cases hx; exact hs i y ρ e hI
/-- a comprehension with a test -/
theorem lcD_fm {α β : Type} {enc : α → D} {enc' : β → D} {body : D → W Exc (Option D)} (p : α → Bool) (f : α → β) {Q : List D → Prop} {X : Exc → Prop} {xs : List α}
    (h : ∀ x ∈ xs, ∀ R : Option D → Prop, (p x = true → R (some (enc' (f x)))) → (p x = false → R none) → (body (enc x)).run R X) (q : Q (((xs.filter p).map f).map enc')) : (lcD body (xs.map enc) []).run Q X := by
  refine lcD_enc (fun x => if p x = true then some (enc' (f x)) else none) (fun x hx R hR => h x hx R (fun e => by simpa [e] using hR) (fun e => by simpa [e] using hR)) ?_
  rw [filterMap_enc p f enc', List.nil_append]
  exact q
/-- a comprehension without a test -/
theorem lcD_mp {α β : Type} {enc : α → D} {enc' : β → D} {body : D → W Exc (Option D)} (f : α → β) {Q : List D → Prop} {X : Exc → Prop} {xs : List α}
    (h : ∀ x ∈ xs, ∀ R : Option D → Prop, R (some (enc' (f x))) → (body (enc x)).run R X) (q : Q ((xs.map f).map enc')) : (lcD body (xs.map enc) []).run Q X := by
  refine lcD_fm (fun _ => true) f (fun x hx R h1 _ => h x hx R (h1 rfl)) ?_
  rwa [List.filter_eq_self.mpr (fun _ _ => rfl)]
/-! ### what rows tell -/
def cnt (R : List Dd) (w k : Int) : Nat := (R.filter fun d => decide (d = .wr w k)).length
def cms (R : List Dd) : List Int := (R.filter isCm).map wk
def isWrK (k : Int) : Dd → Bool
  | .wr _ k' => decide (k' = k)
  | _ => false
def wrs (R : List Dd) (k : Int) : List Int := (R.filter (isWrK k)).map wk
def lastV (R : List Dd) (k : Int) (l : List Int) : Int × Int := match l.getLast? with
  | some v => (v, cnt R v k)
  | none => (0, 0)
abbrev vD (p : Int × Int) : D := .tuple [.int p.1, .int p.2]
theorem cnt_pos {R : List Dd} {w k : Int} : 0 < cnt R w k ↔ Dd.wr w k ∈ R := by
  unfold cnt
  rw [List.length_pos_iff_exists_mem]
  constructor
  · rintro ⟨d, h⟩
    obtain ⟨h1, h2⟩ := List.mem_filter.mp h
    have : d = .wr w k := by simpa using h2
    rwa [this] at h1
  · intro h
    exact ⟨_, List.mem_filter.mpr ⟨h, by simp⟩⟩
theorem wrs_mem {R : List Dd} {w k : Int} : w ∈ wrs R k ↔ Dd.wr w k ∈ R := by
  unfold wrs
  constructor
  · intro h
    obtain ⟨d, h1, h2⟩ := List.mem_map.mp h
    obtain ⟨h3, h4⟩ := List.mem_filter.mp h1
    cases d <;> simp [isWrK] at h4
    subst h4
    simp [wk] at h2
    subst h2
    exact h3
  · intro h
    exact List.mem_map.mpr ⟨_, List.mem_filter.mpr ⟨h, by simp [isWrK]⟩, rfl⟩
theorem cms_mem {R : List Dd} {w : Int} : w ∈ cms R ↔ Dd.cm w ∈ R := by
  unfold cms
  constructor
  · intro h
    obtain ⟨d, h1, h2⟩ := List.mem_map.mp h
    obtain ⟨h3, h4⟩ := List.mem_filter.mp h1
    cases d <;> simp [isCm] at h4
    simp [wk] at h2
    subst h2
    exact h3
  · intro h
    exact List.mem_map.mpr ⟨_, List.mem_filter.mpr ⟨h, rfl⟩, rfl⟩
/-- which version is read -/
def Ver (mode : Int) (R : List Dd) (w k : Int) (p : Int × Int) : Prop :=
  if 0 < cnt R w k then p = (w, (cnt R w k : Int))
  else if mode = 2 ∨ mode = 3 then p = lastV R k ((cms (if mode = 2 then R.take (R.idxOf (.bg w)) else R)).filter fun o => decide (0 < cnt R o k))
  else if mode = 1 then p = lastV R k (wrs R k)
  else p = (0, 0) ∨ (Dd.wr p.1 k ∈ R ∧ 1 ≤ p.2 ∧ p.2 ≤ cnt R p.1 k)
end EvR

/-! EvR3: ranges, lists of our own; what the rows of the laws are. -/
namespace EvR
open PySem PySem.Spec PyProof.Rows L2 Ev
def rgI (lo : Int) (n : Nat) : List Int := (List.range n).map fun (i : Nat) => lo + (i : Int)
theorem upto_ints (lo : Int) (n : Nat) : upto lo n = (rgI lo n).map .int := by unfold rgI; rw [List.map_map]; rfl
theorem rgI_len (lo : Int) (n : Nat) : (rgI lo n).length = n := by simp [rgI]
theorem rgI_mem {lo : Int} {n : Nat} {w : Int} : w ∈ rgI lo n ↔ lo ≤ w ∧ w < lo + n := by
  unfold rgI
  rw [List.mem_map]
  constructor
  · rintro ⟨i, hi, rfl⟩
    have := List.mem_range.mp hi
    omega
  · rintro ⟨h1, h2⟩
    exact ⟨(w - lo).toNat, List.mem_range.mpr (by omega), by omega⟩
def inR2 (i j : Int) : Prop := -(2 ^ 62) ≤ i ∧ i < 2 ^ 62 ∧ -(2 ^ 62) ≤ j ∧ j < 2 ^ 62
theorem inR2_small {i j : Int} (h : 0 ≤ i) (h2 : i ≤ 100000) (h3 : -1 ≤ j) (h4 : j ≤ 100000) : inR2 i j := by unfold inR2; omega
@[simp] theorem rng2_run {i j : Int} {Q : List D → Prop} {X : Exc → Prop} : (rng2D (.int i) (.int j)).run Q X = (inR2 i j ∧ Q (upto i (j - i).toNat)) := rfl
section
variable {M : Mg} {ρ : List Sl}
@[simp] theorem dS_setI {i : Nat} {j e : IE} : denS M (.setI i j e) ρ = setW i (denE M j) (denE M e) ρ := rfl
@[simp] theorem ownW_0 {xs : List D} : ownW (.own xs :: ρ) 0 = .ret xs := rfl
@[simp] theorem ownW_s {s : Sl} {n : Nat} : ownW (s :: ρ) (n + 1) = ownW ρ n := rfl
end
theorem ixN_nat {n j : Nat} (h : j < n) : ixN n (j : Int) = some j := by
  unfold ixN
  rw [if_pos (by omega), if_pos (by omega)]
  simp
theorem setAt_int {L : List Int} {j : Nat} {v : Int} (h : j < L.length) : setAtD (L.map .int) (.int (j : Int)) (.int v) = some ((L.set j v).map .int) := by
  show Option.map (fun j => (L.map PyData.int).set j (.int v)) (ixN (L.map PyData.int).length (j : Int)) = _
  rw [List.length_map, ixN_nat h]
  simp
theorem row_snoc (R : List Dd) (d : Dd) : R.map enc ++ [enc d] = (R ++ [d]).map enc := by simp
/-! ### rows as the laws draw them -/
def Act (R : List Dd) (w : Int) : Prop := Dd.bg w ∈ R ∧ Dd.cm w ∉ R ∧ Dd.ab w ∉ R
inductive Gen (mode many keys : Int) : List Dd → Prop
  | nil : Gen mode many keys []
  | bg {R : List Dd} {w : Int} : Gen mode many keys R → 1 ≤ w → w ≤ many → Dd.bg w ∉ R → Gen mode many keys (R ++ [.bg w])
  | wr {R : List Dd} {w k : Int} : Gen mode many keys R → Act R w → 0 ≤ k → k < keys → Gen mode many keys (R ++ [.wr w k])
  | rd {R : List Dd} {w k v n : Int} : Gen mode many keys R → Act R w → 0 ≤ k → k < keys → Ver mode R w k (v, n) → Gen mode many keys (R ++ [.rd w k v n])
  | cm {R : List Dd} {w : Int} : Gen mode many keys R → Act R w → Gen mode many keys (R ++ [.cm w])
  | ab {R : List Dd} {w : Int} : Gen mode many keys R → Act R w → Gen mode many keys (R ++ [.ab w])
/-- all that began are over -/
def Over (R : List Dd) : Prop := ∀ w, Dd.bg w ∈ R → Dd.cm w ∈ R ∨ Dd.ab w ∈ R
section
variable {mode many keys : Int} {R : List Dd}
theorem Gen.begun (G : Gen mode many keys R) : ∀ d ∈ R, Dd.bg (wk d) ∈ R := by
  induction G with
  | nil => intro d h; cases h
  | bg G h1 h2 h3 ih =>
    intro d hd
    rcases List.mem_append.mp hd with hd | hd
    · exact List.mem_append_left _ (ih d hd)
    · rw [List.mem_singleton.mp hd]; exact List.mem_append_right _ (List.mem_singleton.mpr rfl)
  | wr G a _ _ ih =>
    intro d hd
    rcases List.mem_append.mp hd with hd | hd
    · exact List.mem_append_left _ (ih d hd)
    · rw [List.mem_singleton.mp hd]; exact List.mem_append_left _ a.1
  | rd G a _ _ _ ih =>
    intro d hd
    rcases List.mem_append.mp hd with hd | hd
    · exact List.mem_append_left _ (ih d hd)
    · rw [List.mem_singleton.mp hd]; exact List.mem_append_left _ a.1
  | cm G a ih =>
    intro d hd
    rcases List.mem_append.mp hd with hd | hd
    · exact List.mem_append_left _ (ih d hd)
    · rw [List.mem_singleton.mp hd]; exact List.mem_append_left _ a.1
  | ab G a ih =>
    intro d hd
    rcases List.mem_append.mp hd with hd | hd
    · exact List.mem_append_left _ (ih d hd)
    · rw [List.mem_singleton.mp hd]; exact List.mem_append_left _ a.1
theorem mem_snoc {d e : Dd} (h : d ∈ R ++ [e]) : d ∈ R ∨ d = e := by
  rcases List.mem_append.mp h with h | h
  · exact .inl h
  · exact .inr (List.mem_singleton.mp h)
theorem Gen.range (G : Gen mode many keys R) : ∀ w, Dd.bg w ∈ R → 1 ≤ w ∧ w ≤ many := by
  induction G with
  | nil => intro d h; cases h
  | bg G h1 h2 h3 ih =>
    intro w hd
    rcases mem_snoc hd with hd | hd
    · exact ih w hd
    · cases hd; exact ⟨h1, h2⟩
  | wr G a _ _ ih => intro w hd; rcases mem_snoc hd with hd | hd; exact ih w hd; cases hd
  | rd G a _ _ _ ih => intro w hd; rcases mem_snoc hd with hd | hd; exact ih w hd; cases hd
  | cm G a ih => intro w hd; rcases mem_snoc hd with hd | hd; exact ih w hd; cases hd
  | ab G a ih => intro w hd; rcases mem_snoc hd with hd | hd; exact ih w hd; cases hd
end
end EvR

/-! EvR4: flags, places, ends. -/
namespace EvR
open PySem PySem.Spec PyProof.Rows L2 Ev
@[simp] theorem bi_all : BI.op .all = allD := rfl
@[simp] theorem bi_any : BI.op .any = anyD := rfl
@[simp] theorem bi_min : BI.op .min = minD := rfl
@[simp] theorem all_bs {bs : List Bool} {Q : D → Prop} {X : Exc → Prop} : (allD (.list (bs.map .bool))).run Q X = Q (.bool (bs.all id)) := by
  show (optW (boolsOf (bs.map .bool)) fun bs => W.ret (.bool (bs.all id))).run Q X = _
  rw [boolsOf_map]; rfl
@[simp] theorem any_bs {bs : List Bool} {Q : D → Prop} {X : Exc → Prop} : (anyD (.list (bs.map .bool))).run Q X = Q (.bool (bs.any id)) := by
  show (optW (boolsOf (bs.map .bool)) fun bs => W.ret (.bool (bs.any id))).run Q X = _
  rw [boolsOf_map]; rfl
@[simp] theorem seqOnly_t {xs : List D} : seqOnly (.tuple xs) = .ret () := rfl
@[simp] theorem seqOnly_l {xs : List D} : seqOnly (.list xs) = .ret () := rfl
section
variable {I : List Sl → Prop} {Q : Out → Prop} {ρ : List Sl} {d : D}
@[simp] theorem stepQ_nx : stepQ I Q (.nx ρ) = I ρ := rfl
@[simp] theorem stepQ_ct : stepQ I Q (.ct ρ) = I ρ := rfl
@[simp] theorem stepQ_bk : stepQ I Q (.bk ρ) = Q (.nx ρ) := rfl
@[simp] theorem stepQ_rt : stepQ I Q (.rt d) = Q (.rt d) := rfl
end
def oD : Option Nat → D
  | none => .none
  | some n => .int n
def firstB (bs : List Bool) : Option Nat := bs.findIdx? id
theorem firstB_some {bs : List Bool} {i : Nat} (h : bs[i]? = some true) (h2 : ∀ j, j < i → bs[j]? = some false) : firstB bs = some i := by
  unfold firstB
  rw [List.findIdx?_eq_some_iff_getElem]
  have hl : i < bs.length := (List.getElem?_eq_some_iff.mp h).1
  refine ⟨hl, (List.getElem?_eq_some_iff.mp h).2, fun j hj => ?_⟩
  have := (List.getElem?_eq_some_iff.mp (h2 j hj)).2
  rw [this]
  simp
theorem firstB_none {bs : List Bool} (h2 : ∀ j, j < bs.length → bs[j]? = some false) : firstB bs = none := by
  unfold firstB
  rw [List.findIdx?_eq_none_iff]
  intro x hx
  obtain ⟨i, hi, e⟩ := List.getElem_of_mem hx
  have := (List.getElem?_eq_some_iff.mp (h2 i hi)).2
  rw [← e, this]; rfl
/-- the first number below n with p -/
def firstP (n : Nat) (p : Nat → Bool) : Option Nat := firstB ((List.range n).map p)
theorem firstP_some {n : Nat} {p : Nat → Bool} {i : Nat} (hi : i < n) (h : p i = true) (h2 : ∀ j, j < i → p j = false) : firstP n p = some i := by
  refine firstB_some (by rw [List.getElem?_map, List.getElem?_range hi]; simp [h]) fun j hj => ?_
  rw [List.getElem?_map, List.getElem?_range (by omega)]
  simp [h2 j hj]
theorem firstP_none {n : Nat} {p : Nat → Bool} (h2 : ∀ j, j < n → p j = false) : firstP n p = none := by
  refine firstB_none fun j hj => ?_
  have hj' : j < n := by simpa using hj
  rw [List.getElem?_map, List.getElem?_range hj']
  simp [h2 j hj']
theorem firstP_congr {n : Nat} {p q : Nat → Bool} (h : ∀ i, i < n → p i = q i) : firstP n p = firstP n q := by
  unfold firstP
  congr 1
  exact List.map_congr_left fun i hi => h i (List.mem_range.mp hi)
theorem firstP_eq_none {n : Nat} {p : Nat → Bool} : firstP n p = none ↔ ∀ j, j < n → p j = false := by
  refine ⟨fun h j hj => ?_, firstP_none⟩
  unfold firstP firstB at h
  rw [List.findIdx?_eq_none_iff] at h
  have := h (p j) (List.mem_map.mpr ⟨j, List.mem_range.mpr hj, rfl⟩)
  simpa using this
/-! ### places -/
theorem idx_take {R : List Dd} {e : Dd} {p : Nat} (h : e ∈ R) : R.idxOf e < p ↔ e ∈ R.take p := by
  constructor
  · intro hp
    have hl : R.idxOf e < R.length := List.idxOf_lt_length_iff.mpr h
    rw [List.mem_take_iff_getElem]
    exact ⟨R.idxOf e, by omega, List.getElem_idxOf hl⟩
  · intro hm
    rw [List.mem_take_iff_getElem] at hm
    obtain ⟨i, hi, e1⟩ := hm
    have : R.idxOf e ≤ i := by
      refine Nat.le_of_not_lt fun hlt => ?_
      have q := List.not_of_lt_findIdx (xs := R) (p := fun d => d == e) (i := i) hlt
      rw [e1] at q
      simp at q
    omega
theorem mem_of_take {R : List Dd} {e : Dd} {p : Nat} (h : e ∈ R.take p) : e ∈ R := List.mem_of_mem_take h
def comB (R : List Dd) (v : Int) (i : Nat) : Bool := decide (v = 0) || decide (Dd.cm v ∈ R.take i)
def endB (R : List Dd) (w : Int) (i : Nat) : Bool := decide (Dd.cm w ∈ R.take i) || decide (Dd.ab w ∈ R.take i)
def kof : Dd → Int
  | .rd _ k _ _ => k
  | .wr _ k => k
  | _ => 0
def vof : Dd → Int
  | .rd _ _ v _ => v
  | _ => 0
theorem ix2 {d : Dd} (h : isRW d = true) {Q : D → Prop} {X : Exc → Prop} (q : Q (.int (kof d))) : (ixD (enc d) (.int 2)).run Q X := by
  cases d <;> first
    | exact q
    | cases h
theorem ix3 {d : Dd} (h : isRd d = true) {Q : D → Prop} {X : Exc → Prop} (q : Q (.int (vof d))) : (ixD (enc d) (.int 3)).run Q X := by
  cases d <;> first
    | exact q
    | cases h
theorem row_at {R : List Dd} {i : Nat} {d : Dd} (h : R[i]? = some d) {Q : D → Prop} {X : Exc → Prop} (q : Q (enc d)) : (ixD (.tuple (R.map enc)) (.int (i : Int))).run Q X :=
  ix_t (Ev.atI_nat (by rw [List.getElem?_map, h]; rfl)) q
theorem any_strs (a : Str) : ∀ l : List Str, ((l.map PyData.str).any fun z => PyData.eqv z (.str a)) = decide (a ∈ l)
  | [] => by simp
  | i :: l => by
    rw [List.map_cons, List.any_cons, any_strs a l]
    by_cases h : i = a
    · subst h; simp
    · have h' : ¬ a = i := fun e => h e.symm
      simp [h, h']
theorem depth_strs : ∀ l : List Str, PyData.depthAll (l.map .str) = 0
  | [] => by simp [PyData.depthAll]
  | i :: l => by simp [PyData.depthAll, PyData.depth, depth_strs l]
theorem ndAll_strs (l : List Str) : ndAll (l.map .str) = true := by induction l <;> simp_all [ndAll, nd]
@[simp] theorem sh_tstrs (l : List Str) : sh (.tuple (l.map .str)) = true := by simp [sh, PyData.depth, depth_strs, ndAll_strs]
@[simp] theorem sh_lstrs (l : List Str) : sh (.list (l.map .str)) = true := by simp [sh, PyData.depth, depth_strs, ndAll_strs]
theorem in_ts {n : Bool} {a : Str} {l : List Str} {Q : Bool → Prop} {X : Exc → Prop} : (inD n (.str a) (.tuple (l.map .str))).run Q X = Q (if n then !decide (a ∈ l) else decide (a ∈ l)) := by
  show ((sh (.str a) = true ∧ sh (.tuple (l.map .str)) = true) ∧ Q _) = _
  rw [any_strs]
  simp
theorem in_ls {n : Bool} {a : Str} {l : List Str} {Q : Bool → Prop} {X : Exc → Prop} : (inD n (.str a) (.list (l.map .str))).run Q X = Q (if n then !decide (a ∈ l) else decide (a ∈ l)) := by
  show ((sh (.str a) = true ∧ sh (.list (l.map .str)) = true) ∧ Q _) = _
  rw [any_strs]
  simp
section
variable {n : Bool} {a b c e f : Str} {Q : Bool → Prop} {X : Exc → Prop}
@[simp] theorem in_s1 : (inD n (.str a) (.tuple [.str b])).run Q X = Q (if n then !(a == b) else (a == b)) := by
  have h := in_ts (n := n) (a := a) (l := [b]) (Q := Q) (X := X)
  have e : decide (a ∈ [b]) = (a == b) := by rw [Bool.eq_iff_iff]; simp
  rw [e] at h; exact h
@[simp] theorem in_s2 : (inD n (.str a) (.tuple [.str b, .str c])).run Q X = Q (if n then !(a == b || a == c) else (a == b || a == c)) := by
  have h := in_ts (n := n) (a := a) (l := [b, c]) (Q := Q) (X := X)
  have e : decide (a ∈ [b, c]) = (a == b || a == c) := by rw [Bool.eq_iff_iff]; simp
  rw [e] at h; exact h
@[simp] theorem in_sl1 : (inD n (.str a) (.list [.str b])).run Q X = Q (if n then !(a == b) else (a == b)) := by
  have h := in_ls (n := n) (a := a) (l := [b]) (Q := Q) (X := X)
  have e : decide (a ∈ [b]) = (a == b) := by rw [Bool.eq_iff_iff]; simp
  rw [e] at h; exact h
@[simp] theorem in_sl2 : (inD n (.str a) (.list [.str b, .str c])).run Q X = Q (if n then !(a == b || a == c) else (a == b || a == c)) := by
  have h := in_ls (n := n) (a := a) (l := [b, c]) (Q := Q) (X := X)
  have e : decide (a ∈ [b, c]) = (a == b || a == c) := by rw [Bool.eq_iff_iff]; simp
  rw [e] at h; exact h
end
section
variable {mode many keys : Int} {R : List Dd}
theorem Gen.one_end (G : Gen mode many keys R) : ∀ w, Dd.cm w ∈ R → Dd.ab w ∉ R := by
  induction G with
  | nil => intro w h; cases h
  | bg G h1 h2 h3 ih =>
    intro w hc ha
    rcases mem_snoc hc with hc | hc
    · rcases mem_snoc ha with ha | ha
      · exact ih w hc ha
      · cases ha
    · cases hc
  | wr G a _ _ ih =>
    intro w hc ha
    rcases mem_snoc hc with hc | hc
    · rcases mem_snoc ha with ha | ha
      · exact ih w hc ha
      · cases ha
    · cases hc
  | rd G a _ _ _ ih =>
    intro w hc ha
    rcases mem_snoc hc with hc | hc
    · rcases mem_snoc ha with ha | ha
      · exact ih w hc ha
      · cases ha
    · cases hc
  | cm G a ih =>
    intro w hc ha
    rcases mem_snoc ha with ha | ha
    · rcases mem_snoc hc with hc | hc
      · exact ih w hc ha
      · cases hc; exact a.2.2 ha
    · cases ha
  | ab G a ih =>
    intro w hc ha
    rcases mem_snoc hc with hc | hc
    · rcases mem_snoc ha with ha | ha
      · exact ih w hc ha
      · cases ha; exact a.2.1 hc
    · cases hc
end
end EvR

/-! Ev32: statements one by one. -/
namespace Ev
open PySem PySem.Spec PyProof.Rows L2
section
variable {M : Mg} {ρ : List Sl} {Q : Out → Prop} {XX : XS → Prop} {t a b : IT} {c : IC}
/-- the next statement alone -/
theorem stp {s : IS} (h : (denS M s ρ).run (fun o => match o with | .nx ρ' => (denT M t ρ').run Q XX | .rt d => Q (.rt d) | .bk ρ' => Q (.bk ρ') | .ct ρ' => Q (.ct ρ')) XX) : (denT M (.cons s t) ρ).run Q XX := by
  rw [dT_cons, seqS_run]
  exact h
/-- a test that fails -/
theorem ife_no (h : (denC M c ρ).run (fun k => k = false) (fun x => XX (x, ρ))) (h2 : (denT M t ρ).run Q XX) : (denT M (.cons (.ife c a .nil) t) ρ).run Q XX := by
  refine stp ?_
  refine (denC M c ρ).mono (fun k hk => ?_) (fun _ q => q) h
  subst hk
  exact h2
theorem ife_else (h : (denC M c ρ).run (fun k => k = false) (fun x => XX (x, ρ))) (h2 : (denT M b ρ).run (fun o => match o with | .nx ρ' => (denT M t ρ').run Q XX | .rt d => Q (.rt d) | .bk ρ' => Q (.bk ρ') | .ct ρ' => Q (.ct ρ')) XX) : (denT M (.cons (.ife c a b) t) ρ).run Q XX := by
  refine stp ?_
  refine (denC M c ρ).mono (fun k hk => ?_) (fun _ q => q) h
  subst hk
  exact h2
theorem ife_then (h : (denC M c ρ).run (fun k => k = true) (fun x => XX (x, ρ))) (h2 : (denT M a ρ).run (fun o => match o with | .nx ρ' => (denT M t ρ').run Q XX | .rt d => Q (.rt d) | .bk ρ' => Q (.bk ρ') | .ct ρ' => Q (.ct ρ')) XX) : (denT M (.cons (.ife c a b) t) ρ).run Q XX := by
  refine stp ?_
  refine (denC M c ρ).mono (fun k hk => ?_) (fun _ q => q) h
  subst hk
  exact h2
end
end Ev

/-! EvR5: while; who reads from whom, on and on. -/
namespace EvR
open PySem PySem.Spec PyProof.Rows L2 Ev
section
variable {M : Mg} {ρ : List Sl}
@[simp] theorem dS_whl {c : IC} {b : IT} : denS M (.whl c b) ρ = whileS (denC M c) (denT M b) ρ := rfl
@[simp] theorem dS_ext {i : Nat} {e : IE} : denS M (.ext i e) ρ = extW i (denE M e) ρ := rfl
@[simp] theorem dS_aug {i : Nat} {e : IE} : denS M (.aug i e) ρ = (lf ρ (getV ρ i)).bind fun d => (lf ρ (denE M e ρ)).bind fun f => (lf ρ (iaddD d f)).bind fun z => .ret (.nx (ρ.set i (.val z))) := rfl
@[simp] theorem listOnly_l {xs : List D} : listOnly (.list xs) = .ret xs := rfl
@[simp] theorem iadd_i {i j : Int} : iaddD (.int i) (.int j) = .ret (.int (i + j)) := rfl
end
theorem whileN_run {mt : List Sl → W Exc Bool} {body : S} {Q : Out → Prop} {XX : XS → Prop} (I : Nat → List Sl → Prop) (B : Nat)
    (hs : ∀ k ρ, I k ρ → (mt ρ).run (fun b => if b = true then k < B ∧ (body ρ).run (stepQ (I (k + 1)) Q) XX else Q (.nx ρ)) (fun e => XX (e, ρ))) : ∀ (n k : Nat) (ρ : List Sl), B < k + n → I k ρ → k ≤ B → (whileN mt body n ρ).run Q XX
  | 0, k, ρ, h1, h2, h3 => by omega
  | n + 1, k, ρ, h1, h2, h3 => by
    refine (mt ρ).mono (fun b hb => ?_) (fun _ q => q) (hs k ρ h2)
    cases b with
    | false => exact hb
    | true =>
      obtain ⟨hk, hb⟩ := hb
      refine (body ρ).mono (fun o ho => ?_) (fun _ q => q) hb
      cases o with
      | nx ρ' => exact whileN_run I B hs n (k + 1) ρ' (by omega) ho (by omega)
      | ct ρ' => exact whileN_run I B hs n (k + 1) ρ' (by omega) ho (by omega)
      | bk ρ' => exact ho
      | rt d => exact ho
theorem whileS_run {mt : List Sl → W Exc Bool} {body : S} {ρ : List Sl} {Q : Out → Prop} {XX : XS → Prop} (I : Nat → List Sl → Prop) (B : Nat) (h0 : I 0 ρ)
    (hs : ∀ k ρ, I k ρ → (mt ρ).run (fun b => if b = true then k < B ∧ (body ρ).run (stepQ (I (k + 1)) Q) XX else Q (.nx ρ)) (fun e => XX (e, ρ))) : (whileS mt body ρ).run Q XX :=
  ⟨B + 1, whileN_run I B hs (B + 1) 0 ρ (by omega) h0 (Nat.zero_le _)⟩
/-! ### who read from one -/
def rdP (v : Int) (d : Dd) : Bool := isRd d && decide (vof d = v)
def rdrs (R : List Dd) (v : Int) : List Int := (R.filter (rdP v)).map wk
theorem rdrs_mem {R : List Dd} {v w : Int} : w ∈ rdrs R v ↔ ∃ d ∈ R, isRd d = true ∧ vof d = v ∧ wk d = w := by
  unfold rdrs rdP
  constructor
  · intro h
    obtain ⟨d, hd, e⟩ := List.mem_map.mp h
    obtain ⟨h1, h2⟩ := List.mem_filter.mp hd
    simp at h2
    exact ⟨d, h1, h2.1, h2.2, e⟩
  · rintro ⟨d, h1, h2, h3, h4⟩
    exact List.mem_map.mpr ⟨d, List.mem_filter.mpr ⟨h1, by simp [h2, h3]⟩, h4⟩
def nxt (R : List Dd) (f : List Int) (v : Int) : List Int := (uniqI (rdrs R v)).filter fun o => !decide (o ∈ f)
theorem nxt_mem {R : List Dd} {f : List Int} {v w : Int} : w ∈ nxt R f v ↔ w ∈ rdrs R v ∧ w ∉ f := by
  unfold nxt
  rw [List.mem_filter, uniq_mem linI]
  simp
/-- after k turns -/
def iter (R : List Dd) (w : Int) : Nat → List Int
  | 0 => [w]
  | k + 1 => match (iter R w k)[k]? with
    | some v => iter R w k ++ nxt R (iter R w k) v
    | none => iter R w k
theorem iter_some {R : List Dd} {w v : Int} {k : Nat} (h : (iter R w k)[k]? = some v) : iter R w (k + 1) = iter R w k ++ nxt R (iter R w k) v := by
  rw [iter, h]
theorem iter_none {R : List Dd} {w : Int} {k : Nat} (h : (iter R w k).length ≤ k) : iter R w (k + 1) = iter R w k := by
  rw [iter, List.getElem?_eq_none h]
theorem iter_stay {R : List Dd} {w : Int} {k : Nat} (h : (iter R w k).length ≤ k) : ∀ m, iter R w (k + m) = iter R w k
  | 0 => rfl
  | m + 1 => by
    have ih := iter_stay h m
    rw [← Nat.add_assoc, iter_none (by rw [ih]; omega), ih]
theorem iter_nodup {R : List Dd} {w : Int} : ∀ k, (iter R w k).Nodup
  | 0 => by simp [iter]
  | k + 1 => by
    have ih := iter_nodup (R := R) (w := w) k
    rw [iter]
    split
    · rename_i v hv
      rw [List.nodup_append]
      refine ⟨ih, ?_, ?_⟩
      · unfold nxt
        exact (sorted_nodup linI (uniq_sorted linI _)).filter _
      · intro a ha b hb e
        subst e
        exact (nxt_mem.mp hb).2 ha
    · exact ih
theorem iter_sub {R : List Dd} {w : Int} {P : Int → Prop} (hw : P w) (hR : ∀ v x, x ∈ rdrs R v → P x) : ∀ k, ∀ x ∈ iter R w k, P x
  | 0, x, h => by simp [iter] at h; rw [h]; exact hw
  | k + 1, x, h => by
    rw [iter] at h
    split at h
    · rename_i v hv
      rcases List.mem_append.mp h with h | h
      · exact iter_sub hw hR k x h
      · exact hR v x (nxt_mem.mp h).1
    · exact iter_sub hw hR k x h
theorem iter_mono {R : List Dd} {w : Int} : ∀ k m x, x ∈ iter R w k → x ∈ iter R w (k + m)
  | k, 0, x, h => h
  | k, m + 1, x, h => by
    have ih := iter_mono k m x h
    rw [← Nat.add_assoc, iter]
    split
    · exact List.mem_append_left _ ih
    · exact ih
/-- what was found at place j does not move -/
theorem iter_at {R : List Dd} {w : Int} {k j : Nat} {v : Int} (h : (iter R w k)[j]? = some v) : ∀ m, (iter R w (k + m))[j]? = some v
  | 0 => h
  | m + 1 => by
    have ih := iter_at h m
    rw [← Nat.add_assoc, iter]
    split
    · rw [List.getElem?_append_left (List.getElem?_eq_some_iff.mp ih).1]
      exact ih
    · exact ih
/-- all that must be aborted with w: enough turns -/
def clos (R : List Dd) (w : Int) : List Int := iter R w 12
theorem clos_closed {R : List Dd} {w : Int} (hl : (clos R w).length ≤ 12) {v x : Int} (hv : v ∈ clos R w) (hx : x ∈ rdrs R v) : x ∈ clos R w := by
  obtain ⟨j, hj, e⟩ := List.getElem_of_mem hv
  have ej : (clos R w)[j]? = some v := by rw [← e]; exact List.getElem?_eq_getElem hj
  have hj12 : j < 12 := by omega
  -- at turn j the place j was there already, or never
  have key : (iter R w j)[j]? = some v := by
    by_cases q : j < (iter R w j).length
    · have e1 : (iter R w j)[j]? = some (iter R w j)[j] := List.getElem?_eq_getElem q
      have e2 := iter_at e1 (12 - j)
      rw [show j + (12 - j) = 12 by omega] at e2
      have e3 : (iter R w 12)[j]? = some v := ej
      rw [e1, ← e2, e3]
    · have e2 := iter_stay (R := R) (w := w) (k := j) (by omega) (12 - j)
      rw [show j + (12 - j) = 12 by omega] at e2
      have : (clos R w) = iter R w j := e2
      rw [this] at hj
      omega
  have h1 := iter_some key
  have h2 : x ∈ iter R w (j + 1) := by
    rw [h1]
    by_cases q : x ∈ iter R w j
    · exact List.mem_append_left _ q
    · exact List.mem_append_right _ (nxt_mem.mpr ⟨hx, q⟩)
  have h3 := iter_mono (j + 1) (12 - (j + 1)) x h2
  rwa [show j + 1 + (12 - (j + 1)) = 12 by omega] at h3
theorem clos_self (R : List Dd) (w : Int) : w ∈ clos R w := by
  have := iter_mono (R := R) (w := w) 0 12 w (by simp [iter])
  rwa [Nat.zero_add] at this
/-- each but the first was found by one before -/
theorem iter_parent {R : List Dd} {w : Int} : ∀ k x, x ∈ iter R w k → x ≠ w → ∃ v ∈ iter R w k, x ∈ rdrs R v ∧ v ≠ x
  | 0, x, h, hn => by simp [iter] at h; exact absurd h hn
  | k + 1, x, h, hn => by
    have sub : ∀ y ∈ iter R w k, y ∈ iter R w (k + 1) := fun y hy => iter_mono k 1 y hy
    by_cases q : x ∈ iter R w k
    · obtain ⟨v, h1, h2⟩ := iter_parent k x q hn
      exact ⟨v, sub v h1, h2⟩
    · rw [iter] at h
      split at h
      · rename_i v hv
        rcases List.mem_append.mp h with h | h
        · exact absurd h q
        · obtain ⟨h1, h2⟩ := nxt_mem.mp h
          have hvm : v ∈ iter R w k := List.mem_of_getElem? hv
          exact ⟨v, sub v hvm, h1, fun e => h2 (e ▸ hvm)⟩
      · exact absurd h q
/-- a property that goes over from one to its readers backwards holds of the first, if of one -/
theorem iter_back {R : List Dd} {w : Int} {P : Int → Prop} (hP : ∀ v x, x ∈ rdrs R v → v ≠ x → P x → P v) : ∀ k x, x ∈ iter R w k → P x → P w
  | 0, x, h, hx => by simp [iter] at h; rwa [← h]
  | k + 1, x, h, hx => by
    by_cases q : x ∈ iter R w k
    · exact iter_back hP k x q hx
    · rw [iter] at h
      split at h
      · rename_i v hv
        rcases List.mem_append.mp h with h | h
        · exact absurd h q
        · obtain ⟨h1, h2⟩ := nxt_mem.mp h
          have hvm : v ∈ iter R w k := List.mem_of_getElem? hv
          exact iter_back hP k v hvm (hP v x h1 (fun e => h2 (e ▸ hvm)) hx)
      · exact absurd h q
end EvR

/-! EvR6: rows with other ends, histories. -/
namespace EvR
open PySem PySem.Spec PyProof.Rows L2 Ev
@[simp] theorem add_l {xs ys : List D} {Q : D → Prop} {X : Exc → Prop} : (addD (.list xs) (.list ys)).run Q X = (xs.length + ys.length ≤ sizeLine ∧ Q (.list (xs ++ ys))) := rfl
def abs (R : List Dd) : List Int := (R.filter isAb).map wk
theorem abs_mem {R : List Dd} {w : Int} : w ∈ abs R ↔ Dd.ab w ∈ R := by
  unfold abs
  constructor
  · intro h
    obtain ⟨d, h1, h2⟩ := List.mem_map.mp h
    obtain ⟨h3, h4⟩ := List.mem_filter.mp h1
    cases d <;> simp [isAb] at h4
    simp [wk] at h2
    subst h2
    exact h3
  · intro h
    exact List.mem_map.mpr ⟨_, List.mem_filter.mpr ⟨h, rfl⟩, rfl⟩
def wks (R : List Dd) : List Int := uniqI (R.map wk)
theorem wks_mem {R : List Dd} {w : Int} : w ∈ wks R ↔ ∃ d ∈ R, wk d = w := by
  unfold wks
  rw [uniq_mem linI, List.mem_map]
def abT (ch : List Int) : Dd → Dd
  | .cm w => if w ∈ ch then .ab w else .cm w
  | d => d
def wab (R : List Dd) (ch : List Int) : List Dd := R.map (abT ch)
theorem wab_cm {R : List Dd} {ch : List Int} {w : Int} : Dd.cm w ∈ wab R ch ↔ Dd.cm w ∈ R ∧ w ∉ ch := by
  unfold wab
  rw [List.mem_map]
  constructor
  · rintro ⟨d, hd, e⟩
    cases d <;> simp only [abT] at e
    all_goals first
      | (cases e; done)
      | skip
    rename_i w'
    by_cases q : w' ∈ ch
    · rw [if_pos q] at e; cases e
    · rw [if_neg q] at e; cases e; exact ⟨hd, q⟩
  · rintro ⟨h1, h2⟩
    exact ⟨.cm w, h1, by simp only [abT]; rw [if_neg h2]⟩
theorem wab_ab {R : List Dd} {ch : List Int} {w : Int} : Dd.ab w ∈ wab R ch ↔ Dd.ab w ∈ R ∨ (Dd.cm w ∈ R ∧ w ∈ ch) := by
  unfold wab
  rw [List.mem_map]
  constructor
  · rintro ⟨d, hd, e⟩
    cases d <;> simp only [abT] at e
    case ab w' => cases e; exact .inl hd
    case cm w' =>
      by_cases q : w' ∈ ch
      · rw [if_pos q] at e; cases e; exact .inr ⟨hd, q⟩
      · rw [if_neg q] at e; cases e
    all_goals cases e
  · rintro (h | ⟨h1, h2⟩)
    · exact ⟨_, h, rfl⟩
    · exact ⟨.cm w, h1, by simp only [abT]; rw [if_pos h2]⟩
theorem wab_rd {R : List Dd} {ch : List Int} {w k v n : Int} : Dd.rd w k v n ∈ wab R ch ↔ Dd.rd w k v n ∈ R := by
  unfold wab
  rw [List.mem_map]
  constructor
  · rintro ⟨d, hd, e⟩
    cases d <;> simp only [abT] at e
    case rd => cases e; exact hd
    case cm w' =>
      by_cases q : w' ∈ ch
      · rw [if_pos q] at e; cases e
      · rw [if_neg q] at e; cases e
    all_goals cases e
  · intro h
    exact ⟨_, h, rfl⟩
theorem wab_len (R : List Dd) (ch : List Int) : (wab R ch).length = R.length := by simp [wab]
/-- the ends of a deed, from its key on -/
abbrev tlD (d : Dd) : D := .tuple ((tl d).map .int)
@[simp] theorem sl2 {d : Dd} : slD (enc d) (some 2) none = .ret (tlD d) := by
  have h := cut_drop (.str (nm d) :: .int (wk d) :: (tl d).map .int) 2
  show W.ret (PyData.tuple (Ev.cutD _ (some ((2 : Nat) : Int)) none)) = _
  rw [h]
  rfl
def outP (w : Int) (d : Dd) : Bool := decide (wk d = w) && (isRd d && !decide (vof d = w))
def outR (R : List Dd) (w : Int) : List Dd := R.filter (outP w)
theorem uniqI_le {l m : List Int} (h : ∀ x ∈ l, x ∈ m) : (uniqI l).length ≤ m.length :=
  nodup_len (sorted_nodup linI (uniq_sorted linI l)) fun x hx => h x ((uniq_mem linI l x).mp hx)
section
variable {mode many keys : Int} {R : List Dd}
theorem Gen.works_in (G : Gen mode many keys R) {w : Int} (h : Dd.bg w ∈ R) : w ∈ rgI 1 many.toNat := by
  obtain ⟨h1, h2⟩ := G.range w h
  exact rgI_mem.mpr ⟨h1, by omega⟩
theorem Gen.iter_in (G : Gen mode many keys R) {w : Int} (hb : Dd.bg w ∈ R) (k : Nat) : ∀ x ∈ iter R w k, Dd.bg x ∈ R :=
  iter_sub (P := fun x => Dd.bg x ∈ R) hb (fun v x hx => by
    obtain ⟨d, hd, _, _, e⟩ := rdrs_mem.mp hx
    rw [← e]
    exact G.begun d hd) k
theorem Gen.iter_len (G : Gen mode many keys R) {w : Int} (hb : Dd.bg w ∈ R) (k : Nat) : (iter R w k).length ≤ many.toNat := by
  have := nodup_len (iter_nodup (R := R) (w := w) k) (m := rgI 1 many.toNat) fun x hx => G.works_in (G.iter_in hb k x hx)
  rwa [rgI_len] at this
theorem Gen.rdrs_len (G : Gen mode many keys R) (v : Int) : (uniqI (rdrs R v)).length ≤ many.toNat := by
  have := uniqI_le (l := rdrs R v) (m := rgI 1 many.toNat) fun x hx => by
    obtain ⟨d, hd, _, _, e⟩ := rdrs_mem.mp hx
    rw [← e]
    exact G.works_in (G.begun d hd)
  rwa [rgI_len] at this
theorem Gen.wks_len (G : Gen mode many keys R) : (wks R).length ≤ many.toNat := by
  have := uniqI_le (l := R.map wk) (m := rgI 1 many.toNat) fun x hx => by
    obtain ⟨d, hd, e⟩ := List.mem_map.mp hx
    rw [← e]
    exact G.works_in (G.begun d hd)
  rwa [rgI_len] at this
end
theorem rdrs_len0 (R : List Dd) (v : Int) : (rdrs R v).length ≤ R.length := by unfold rdrs; rw [List.length_map]; exact List.length_filter_le _ _
/-- sorted(set(..)) and what is left out -/
theorem uniq_filter (l : List Int) (p : Int → Bool) : uniqI (l.filter p) = (uniqI l).filter p := by
  refine sorted_unique linI (uniq_sorted linI _) ((uniq_sorted linI l).filter _) fun z => ?_
  rw [uniq_mem linI, List.mem_filter, List.mem_filter, uniq_mem linI]
end EvR

/-! EvR7: comprehensions of two clauses; rows without a fault. -/
namespace EvR
open PySem PySem.Spec PyProof.Rows L2 Ev
section
variable {M : Mg} {ρ : List Sl}
@[simp] theorem dE_chn {o o' : CO} {a b c : IO} : denE M (.chn o o' a b c) ρ = (chW o.op o'.op (denO M a) (denO M b) (denO M c) ρ).bind fun k => .ret (.bool k) := rfl
@[simp] theorem dC_chn {o o' : CO} {a b c : IO} : denC M (.chn o o' a b c) ρ = chW o.op o'.op (denO M a) (denO M b) (denO M c) ρ := rfl
@[simp] theorem dF_lc2 {vs : List Nat} {t : T} {i : II} {c : IQ} {vs1 : List Nat} {t1 : T} {i1 : II} {c1 : IQ} {e : IE} : denF M (.lc2 vs t i c vs1 t1 i1 c1 e) ρ = lc2W t vs (denI M i) (denQ M c) t1 vs1 (denI M i1) (denQ M c1) (denE M e) ρ := rfl
end
theorem fold_fm {α β : Type} {enc : α → D} {enc' : β → D} (p : α → Bool) (f : α → β) {body : D → List D → W Exc (List D)} {Q : List D → Prop} {X : Exc → Prop} (B : Nat) : ∀ {xs : List α} {acc : List D}, acc.length + xs.length ≤ B →
    (∀ x ∈ xs, ∀ acc : List D, acc.length < B → ∀ R : List D → Prop, (p x = true → R (acc ++ [enc' (f x)])) → (p x = false → R acc) → (body (enc x) acc).run R X) → Q (acc ++ ((xs.filter p).map f).map enc') → (foldA body (xs.map enc) acc).run Q X
  | [], acc, hB, h, q => by
    show Q acc
    simpa using q
  | x :: xs, acc, hB, h, q => by
    simp only [List.length_cons] at hB
    refine h x List.mem_cons_self acc (by omega) _ (fun e => ?_) (fun e => ?_)
    · exact fold_fm p f B (by simp; omega) (fun y hy => h y (List.mem_cons_of_mem _ hy)) (by simpa [e] using q)
    · exact fold_fm p f B (by omega) (fun y hy => h y (List.mem_cons_of_mem _ hy)) (by simpa [e] using q)
theorem fold_out {α : Type} {enc : α → D} (g : α → List D) {body : D → List D → W Exc (List D)} {Q : List D → Prop} {X : Exc → Prop} (c B : Nat) : ∀ {xs : List α} {acc : List D}, acc.length + xs.length * c ≤ B → (∀ x ∈ xs, (g x).length ≤ c) →
    (∀ x ∈ xs, ∀ acc : List D, acc.length + c ≤ B → ∀ R : List D → Prop, R (acc ++ g x) → (body (enc x) acc).run R X) → Q (acc ++ xs.flatMap g) → (foldA body (xs.map enc) acc).run Q X
  | [], acc, hB, hc, h, q => by
    show Q acc
    simpa using q
  | x :: xs, acc, hB, hc, h, q => by
    have hg := hc x List.mem_cons_self
    have e : (x :: xs).length * c = xs.length * c + c := by rw [List.length_cons, Nat.succ_mul]
    rw [e] at hB
    refine h x List.mem_cons_self acc (by omega) _ ?_
    exact fold_out g c B (by rw [List.length_append]; omega) (fun y hy => hc y (List.mem_cons_of_mem _ hy)) (fun y hy => h y (List.mem_cons_of_mem _ hy)) (by simpa using q)
/-! ### a deed as a value -/
def lnE (d : Dd) : Nat := 2 + (tl d).length
@[simp] theorem ty_enc (d : Dd) : tyName (enc d) = "tuple" := rfl
@[simp] theorem len_enc {d : Dd} {Q : D → Prop} {X : Exc → Prop} : (lenD (enc d)).run Q X = (lnE d ≤ sizeLine → Q (.int (lnE d))) := by
  have e : (PyData.str (nm d) :: .int (wk d) :: (tl d).map .int).length = lnE d := by simp [lnE]; omega
  show (_ → Q (.int ((PyData.str (nm d) :: .int (wk d) :: (tl d).map .int).length : Nat))) = _
  rw [e]
theorem ix4 {d : Dd} {w k v n : Int} (h : d = .rd w k v n) {Q : D → Prop} {X : Exc → Prop} (q : Q (.int n)) : (ixD (enc d) (.int 4)).run Q X := by
  subst h; exact q
theorem kin_of {t : Tb} {z : Str} {o : Option Int} (h : t.lookup z = some o) {neg : Bool} {Q : Bool → Prop} {X : Exc → Prop} (q : Q (if neg then !o.isSome else o.isSome)) : (kinD neg t (.str z)).run Q X := by
  have e : tbo t z = o := by unfold tbo; rw [h]; rfl
  show Q (if neg then !(tbo t z).isSome else (tbo t z).isSome)
  rw [e]; exact q
theorem kix_of {t : Tb} {z : Str} {i : Int} (h : t.lookup z = some (some i)) {Q : D → Prop} {X : Exc → Prop} (q : Q (.int i)) : (kixD t (.str z)).run Q X := by
  have e : tbo t z = some i := by unfold tbo; rw [h]; rfl
  show (optW (tbo t z) fun i => W.ret (PyData.int i)).run Q X
  rw [e]; exact q
/-! ### each deed of a drawn row -/
def Step (mode many keys : Int) (S : List Dd) : Dd → Prop
  | .bg w => 1 ≤ w ∧ w ≤ many ∧ Dd.bg w ∉ S
  | .wr w k => Act S w ∧ 0 ≤ k ∧ k < keys
  | .rd w k v n => Act S w ∧ 0 ≤ k ∧ k < keys ∧ Ver mode S w k (v, n)
  | .cm w => Act S w
  | .ab w => Act S w
theorem gen_step {mode many keys : Int} {R : List Dd} (G : Gen mode many keys R) : ∀ (j : Nat) (d : Dd), R[j]? = some d → Gen mode many keys (R.take j) ∧ Step mode many keys (R.take j) d := by
  have step : ∀ {R : List Dd} {d : Dd}, Gen mode many keys R → (∀ (j : Nat) (e : Dd), R[j]? = some e → Gen mode many keys (R.take j) ∧ Step mode many keys (R.take j) e) → Step mode many keys R d →
      ∀ (j : Nat) (e : Dd), (R ++ [d])[j]? = some e → Gen mode many keys ((R ++ [d]).take j) ∧ Step mode many keys ((R ++ [d]).take j) e := by
    intro R d G ih hd j e hj
    have hl : j < (R ++ [d]).length := (List.getElem?_eq_some_iff.mp hj).1
    simp only [List.length_append, List.length_singleton] at hl
    by_cases q : j < R.length
    · rw [List.getElem?_append_left q] at hj
      rw [List.take_append_of_le_length (by omega)]
      exact ih j e hj
    · have : j = R.length := by omega
      subst this
      rw [List.getElem?_append_right (Nat.le_refl _)] at hj
      simp at hj
      rw [List.take_left, ← hj]
      exact ⟨G, hd⟩
  induction G with
  | nil => intro j d h; simp at h
  | bg G h1 h2 h3 ih => exact step G ih ⟨h1, h2, h3⟩
  | wr G a h1 h2 ih => exact step G ih ⟨a, h1, h2⟩
  | rd G a h1 h2 h3 ih => exact step G ih ⟨a, h1, h2, h3⟩
  | cm G a ih => exact step G ih a
  | ab G a ih => exact step G ih a
/-- what a read has read, weakly -/
theorem ver_ok {mode : Int} {S : List Dd} {w k v n : Int} (h : Ver mode S w k (v, n)) : ((v = 0 ∧ n = 0) ∨ (Dd.wr v k ∈ S ∧ 1 ≤ n ∧ n ≤ cnt S v k)) ∧ (0 < cnt S w k → v = w ∧ n = cnt S w k) := by
  have last : ∀ l : List Int, (∀ o ∈ l, 0 < cnt S o k) → (v, n) = lastV S k l → ((v = 0 ∧ n = 0) ∨ (Dd.wr v k ∈ S ∧ 1 ≤ n ∧ n ≤ cnt S v k)) := by
    intro l hl h
    unfold lastV at h
    cases e : l.getLast? with
    | none => rw [e] at h; cases h; exact .inl ⟨rfl, rfl⟩
    | some x =>
      rw [e] at h
      cases h
      have hp := hl v (List.mem_of_getLast? e)
      exact .inr ⟨cnt_pos.mp hp, by omega, by omega⟩
  unfold Ver at h
  split at h
  · rename_i hc
    cases h
    exact ⟨.inr ⟨cnt_pos.mp hc, by omega, by omega⟩, fun _ => ⟨rfl, rfl⟩⟩
  · rename_i hc
    refine ⟨?_, fun q => absurd q hc⟩
    split at h
    · exact last _ (fun o ho => by simpa using (List.mem_filter.mp ho).2) h
    · split at h
      · exact last _ (fun o ho => cnt_pos.mpr (wrs_mem.mp ho)) h
      · rcases h with h | h
        · cases h; exact .inl ⟨rfl, rfl⟩
        · exact .inr h
/-! ### no fault -/
def DeedOk (d : Dd) : Prop := (1 ≤ wk d ∧ wk d ≤ 9) ∧ match d with
  | .rd _ k v n => (0 ≤ k ∧ k ≤ 3) ∧ (0 ≤ v ∧ v ≤ 9) ∧ 0 ≤ n ∧ n ≤ 1000
  | .wr _ k => 0 ≤ k ∧ k ≤ 3
  | _ => True
def ReadOk (S : List Dd) : Dd → Prop
  | .rd w k v n => n ≤ (if v = 0 then 0 else cnt S v k : Nat) ∧ (n = 0 ↔ v = 0) ∧ (0 < cnt S w k → v = w ∧ n = cnt S w k)
  | _ => True
def FineAt (S : List Dd) (d : Dd) : Prop := (isBg d = true ↔ ∀ e ∈ S, wk e ≠ wk d) ∧ Dd.cm (wk d) ∉ S ∧ Dd.ab (wk d) ∉ S ∧ ReadOk S d
structure Fine (R : List Dd) : Prop where
  ok : ∀ d ∈ R, DeedOk d
  at_ : ∀ i d, R[i]? = some d → FineAt (R.take i) d
  end_ : ∀ d ∈ R, Dd.cm (wk d) ∈ R ∨ Dd.ab (wk d) ∈ R
theorem wk_abT (ch : List Int) (d : Dd) : wk (abT ch d) = wk d := by
  cases d <;> simp only [abT]
  split <;> rfl
theorem cnt_wab (S : List Dd) (ch : List Int) (v k : Int) : cnt (wab S ch) v k = cnt S v k := by
  unfold cnt wab
  rw [List.filter_map, List.length_map]
  congr 1
  refine List.filter_congr fun d _ => ?_
  show decide (abT ch d = .wr v k) = decide (d = .wr v k)
  cases d with
  | cm w =>
    by_cases q : w ∈ ch
    · rw [show abT ch (.cm w) = .ab w by simp only [abT]; rw [if_pos q]]; simp
    · rw [show abT ch (.cm w) = .cm w by simp only [abT]; rw [if_neg q]]
  | _ => rfl
theorem wab_bg {R : List Dd} {ch : List Int} {w : Int} : Dd.bg w ∈ wab R ch ↔ Dd.bg w ∈ R := by
  unfold wab
  rw [List.mem_map]
  constructor
  · rintro ⟨d, hd, e⟩
    cases d <;> simp only [abT] at e
    case bg => cases e; exact hd
    case cm w' =>
      by_cases q : w' ∈ ch
      · rw [if_pos q] at e; cases e
      · rw [if_neg q] at e; cases e
    all_goals cases e
  · intro h
    exact ⟨_, h, rfl⟩
theorem wab_nil (R : List Dd) : wab R [] = R := by
  unfold wab
  refine (List.map_congr_left fun d _ => ?_).trans (List.map_id R)
  cases d <;> simp [abT]
theorem fine_wab {mode many keys : Int} {R : List Dd} (G : Gen mode many keys R) (O : Over R) (hm : many ≤ 9) (hk : keys ≤ 4) (hz : R.length ≤ 200) (ch : List Int) : Fine (wab R ch) where
  ok := by
    intro d hd
    unfold wab at hd
    obtain ⟨e, he, rfl⟩ := List.mem_map.mp hd
    obtain ⟨j, hj, ej⟩ := List.getElem_of_mem he
    obtain ⟨G', st⟩ := gen_step G j e (by rw [← ej]; exact List.getElem?_eq_getElem hj)
    have hw := G.range (wk e) (G.begun e he)
    refine ⟨by rw [wk_abT]; omega, ?_⟩
    cases e with
    | bg w => trivial
    | wr w k => obtain ⟨_, h1, h2⟩ := st; exact ⟨h1, by omega⟩
    | rd w k v n =>
      obtain ⟨_, h1, h2, h3⟩ := st
      obtain ⟨h4, _⟩ := ver_ok h3
      refine ⟨⟨h1, by omega⟩, ?_⟩
      rcases h4 with ⟨rfl, rfl⟩ | ⟨h5, h6, h7⟩
      · exact ⟨by omega, by omega, by omega⟩
      · have hv := G'.range v (G'.begun _ h5)
        have hl : cnt (R.take j) v k ≤ (R.take j).length := List.length_filter_le _ _
        have hl2 : (R.take j).length ≤ R.length := by simp; omega
        exact ⟨⟨by omega, by omega⟩, by omega, by omega⟩
    | cm w =>
      by_cases q : w ∈ ch
      · rw [show abT ch (.cm w) = .ab w by simp only [abT]; rw [if_pos q]]; trivial
      · rw [show abT ch (.cm w) = .cm w by simp only [abT]; rw [if_neg q]]; trivial
    | ab w => trivial
  at_ := by
    intro i d hd
    unfold wab at hd
    rw [List.getElem?_map] at hd
    cases e : R[i]? with
    | none => rw [e] at hd; cases hd
    | some f =>
      rw [e] at hd
      cases hd
      obtain ⟨G', st⟩ := gen_step G i f e
      have eT : (wab R ch).take i = wab (R.take i) ch := by unfold wab; rw [List.map_take]
      rw [eT]
      generalize R.take i = S at G' st
      have hmem : ∀ g ∈ wab S ch, ∃ g' ∈ S, wk g = wk g' := by
        intro g hg
        unfold wab at hg
        obtain ⟨g', h1, rfl⟩ := List.mem_map.mp hg
        exact ⟨g', h1, wk_abT ch g'⟩
      have hact : Act S (wk f) → isBg (abT ch f) = false → ReadOk (wab S ch) (abT ch f) → FineAt (wab S ch) (abT ch f) := by
        intro ha hb hr
        refine ⟨?_, ?_, ?_, hr⟩
        · rw [hb]
          refine ⟨fun h => (by cases h), fun h => absurd (h _ (wab_bg.mpr ha.1)) ?_⟩
          rw [wk_abT]
          exact fun q => q rfl
        · rw [wk_abT]; exact fun h => ha.2.1 (wab_cm.mp h).1
        · rw [wk_abT]; intro h
          rcases wab_ab.mp h with h | h
          · exact ha.2.2 h
          · exact ha.2.1 h.1
      cases f with
      | bg w =>
        obtain ⟨h1, h2, h3⟩ := st
        have hno : ∀ g ∈ S, wk g ≠ w := fun g hg e => h3 (e ▸ G'.begun g hg)
        refine ⟨⟨fun _ g hg e => ?_, fun _ => rfl⟩, fun h => ?_, fun h => ?_, trivial⟩
        · obtain ⟨g', hg', e'⟩ := hmem g hg
          exact hno g' hg' (by rw [← e', e]; rfl)
        · obtain ⟨g', hg', e'⟩ := hmem _ h
          exact hno g' hg' e'.symm
        · obtain ⟨g', hg', e'⟩ := hmem _ h
          exact hno g' hg' e'.symm
      | wr w k => exact hact st.1 rfl trivial
      | rd w k v n =>
        refine hact st.1 rfl ?_
        obtain ⟨_, _, _, h3⟩ := st
        obtain ⟨h4, h5⟩ := ver_ok h3
        show _ ∧ _ ∧ _
        rw [cnt_wab, cnt_wab]
        refine ⟨?_, ?_, h5⟩
        · rcases h4 with ⟨rfl, rfl⟩ | ⟨h6, h7, h8⟩
          · exact Int.natCast_nonneg _
          · have := (G'.range v (G'.begun _ h6)).1
            rw [if_neg (by omega)]
            exact h8
        · rcases h4 with ⟨rfl, rfl⟩ | ⟨h6, h7, h8⟩
          · exact ⟨fun _ => rfl, fun _ => rfl⟩
          · have := (G'.range v (G'.begun _ h6)).1
            exact ⟨fun h => by omega, fun h => by omega⟩
      | cm w =>
        by_cases q : w ∈ ch
        · rw [show abT ch (.cm w) = .ab w by simp only [abT]; rw [if_pos q]] at hact ⊢
          exact hact st rfl trivial
        · rw [show abT ch (.cm w) = .cm w by simp only [abT]; rw [if_neg q]] at hact ⊢
          exact hact st rfl trivial
      | ab w => exact hact st rfl trivial
  end_ := by
    intro d hd
    unfold wab at hd
    obtain ⟨e, he, rfl⟩ := List.mem_map.mp hd
    rw [wk_abT]
    rcases O (wk e) (G.begun e he) with h | h
    · by_cases q : wk e ∈ ch
      · exact .inr (wab_ab.mpr (.inr ⟨h, q⟩))
      · exact .inl (wab_cm.mpr ⟨h, q⟩)
    · exact .inr (wab_ab.mpr (.inl h))
end EvR

/-! EvR8: more small things for the walks over rows. -/
namespace EvR
open PySem PySem.Spec PyProof.Rows L2 Ev
theorem lcD_any {body : D → W Exc (Option D)} (P : D → Prop) {Q : List D → Prop} {X : Exc → Prop} : ∀ {xs acc : List D}, (∀ x ∈ xs, ∀ R : Option D → Prop, R none → (∀ y, P y → R (some y)) → (body x).run R X) →
    (∀ ys : List D, ys.length ≤ xs.length → (∀ y ∈ ys, P y) → Q (acc ++ ys)) → (lcD body xs acc).run Q X
  | [], acc, h, q => by have := q [] (Nat.le_refl _) (fun _ z => nomatch z); rwa [List.append_nil] at this
  | x :: xs, acc, h, q => h x List.mem_cons_self _ (lcD_any P (fun y hy => h y (List.mem_cons_of_mem _ hy)) fun ys hl hp => q ys (by simp; omega) hp) fun y hy => by
    refine lcD_any P (acc := acc ++ [y]) (fun z hz => h z (List.mem_cons_of_mem _ hz)) fun ys hl hp => ?_
    have := q (y :: ys) (by simp; omega) (fun z hz => by
      rcases List.mem_cons.mp hz with e | e
      · rw [e]; exact hy
      · exact hp z e)
    simpa using this
@[simp] theorem in_ends {n : Bool} {d : Dd} {w v : Int} {Q : Bool → Prop} {X : Exc → Prop} : (inD n (enc d) (.tuple [.tuple [.str (Str.ofString "commit"), .int w], .tuple [.str (Str.ofString "abort"), .int v]])).run Q X =
    Q (if n then !(decide (d = .cm w) || decide (d = .ab v)) else (decide (d = .cm w) || decide (d = .ab v))) := by
  have h := in_enc (n := n) (e := d) (R := [.cm w, .ab v]) (Q := Q) (X := X)
  have e : decide (d ∈ [Dd.cm w, Dd.ab v]) = (decide (d = .cm w) || decide (d = .ab v)) := by rw [Bool.eq_iff_iff]; simp
  rw [e] at h
  exact h
theorem range_filter {n i : Nat} {p : Nat → Bool} (hi : i < n) (h : p i = true) (h2 : ∀ j, j < i → p j = false) : ∃ t, (List.range n).filter p = i :: t := by
  obtain ⟨m, rfl⟩ : ∃ m, n = i + (m + 1) := ⟨n - i - 1, by omega⟩
  rw [List.range_add, List.filter_append]
  have e : (List.range i).filter p = [] := by
    rw [List.filter_eq_nil_iff]
    intro j hj
    rw [h2 j (List.mem_range.mp hj)]
    decide
  rw [e, List.range_succ_eq_map, List.map_cons, List.filter_cons, Nat.add_zero, if_pos h]
  exact ⟨_, rfl⟩
theorem filterMap_ite {α β : Type} (p : α → Bool) (f : α → β) (l : List α) : (l.filterMap fun x => if p x = true then some (f x) else none) = (l.filter p).map f := by
  induction l with
  | nil => rfl
  | cons x l ih =>
    rw [List.filterMap_cons, ih]
    cases h : p x <;> simp [h]
theorem srtI_strict {l : List Int} (h : l.Nodup) : (srtI l).Pairwise fun a b => ltI a b = true := by
  have h1 : (srtI l).Pairwise fun a b => (decide (a ≤ b)) = true := List.pairwise_mergeSort (fun a b c => by simp; omega) (fun a b => by simp; omega) l
  have h2 : (srtI l).Nodup := (List.mergeSort_perm l _).nodup_iff.mpr h
  exact (h1.and h2).imp fun {a b} q => by
    obtain ⟨q1, q2⟩ := q
    simp [ltI] at *
    omega
theorem filter_strict {l : List Int} {p : Int → Bool} (h : l.Pairwise fun a b => ltI a b = true) : (l.filter p).Pairwise fun a b => ltI a b = true := h.filter _
theorem gen_nodup {mode many keys : Int} {R : List Dd} (G : Gen mode many keys R) : (abs R).Nodup ∧ (cms R).Nodup := by
  have snoc : ∀ {R : List Dd} {d : Dd}, ((abs R).Nodup ∧ (cms R).Nodup) → (∀ w, d = .ab w → Dd.ab w ∉ R) → (∀ w, d = .cm w → Dd.cm w ∉ R) → ((abs (R ++ [d])).Nodup ∧ (cms (R ++ [d])).Nodup) := by
    intro R d ⟨i1, i2⟩ h1 h2
    have ea : abs (R ++ [d]) = abs R ++ abs [d] := by unfold abs; rw [List.filter_append, List.map_append]
    have ec : cms (R ++ [d]) = cms R ++ cms [d] := by unfold cms; rw [List.filter_append, List.map_append]
    rw [ea, ec]
    have one : ∀ (l : List Int) (w : Int), l.Nodup → w ∉ l → (l ++ [w]).Nodup := by
      intro l w hl hw
      rw [List.nodup_append]
      refine ⟨hl, by simp, fun a ha b hb e => ?_⟩
      simp at hb
      subst hb
      subst e
      exact hw ha
    cases d with
    | ab w => exact ⟨one _ w i1 (fun q => h1 w rfl (abs_mem.mp q)), by rw [show cms [Dd.ab w] = [] from rfl, List.append_nil]; exact i2⟩
    | cm w => exact ⟨by rw [show abs [Dd.cm w] = [] from rfl, List.append_nil]; exact i1, one _ w i2 (fun q => h2 w rfl (cms_mem.mp q))⟩
    | bg w => exact ⟨by rw [show abs [Dd.bg w] = [] from rfl, List.append_nil]; exact i1, by rw [show cms [Dd.bg w] = [] from rfl, List.append_nil]; exact i2⟩
    | wr w k => exact ⟨by rw [show abs [Dd.wr w k] = [] from rfl, List.append_nil]; exact i1, by rw [show cms [Dd.wr w k] = [] from rfl, List.append_nil]; exact i2⟩
    | rd w k v n => exact ⟨by rw [show abs [Dd.rd w k v n] = [] from rfl, List.append_nil]; exact i1, by rw [show cms [Dd.rd w k v n] = [] from rfl, List.append_nil]; exact i2⟩
  induction G with
  | nil => simp [abs, cms]
  | bg G _ _ _ ih => exact snoc ih (fun _ e => by cases e) (fun _ e => by cases e)
  | wr G _ _ _ ih => exact snoc ih (fun _ e => by cases e) (fun _ e => by cases e)
  | rd G _ _ _ _ ih => exact snoc ih (fun _ e => by cases e) (fun _ e => by cases e)
  | cm G a ih => exact snoc ih (fun _ e => by cases e) (fun _ e => by cases e; exact a.2.1)
  | ab G a ih => exact snoc ih (fun _ e => by cases e; exact a.2.2) (fun _ e => by cases e)
/-- the aborted works are those that were not committed -/
theorem gone_eq {mode many keys : Int} {R : List Dd} (G : Gen mode many keys R) (O : Over R) : (wks R).filter (fun w => !decide (w ∈ srtI (cms R))) = srtI (abs R) := by
  obtain ⟨h1, h2⟩ := gen_nodup G
  refine sorted_unique linI (filter_strict (uniq_sorted linI _)) (srtI_strict h1) fun z => ?_
  simp only [List.mem_filter, srtI_mem, abs_mem, wks_mem, Bool.not_eq_true', decide_eq_false_iff_not, cms_mem]
  constructor
  · rintro ⟨⟨d, hd, rfl⟩, h⟩
    exact (O (wk d) (G.begun d hd)).resolve_left h
  · intro h
    exact ⟨⟨_, h, rfl⟩, fun q => G.one_end z q h⟩
abbrev pD (p : Int × Int) : D := .tuple [.int p.1, .int p.2]
end EvR

/-! EvR9: sorted sets of tuples of ints and texts; zip; places of ints. -/
namespace EvR
open PySem PySem.Spec PyProof.Rows L2 Ev
section
variable {M : Mg} {ρ : List Sl}
@[simp] theorem dI_zip {a b : IE} : denI M (.zip a b) ρ = (denE M a ρ).bind fun d => (denE M b ρ).bind fun f => zipD d f := rfl
@[simp] theorem zip_t {xs ys : List D} : zipD (.tuple xs) (.tuple ys) = .ret (pairsD xs ys) := rfl
@[simp] theorem zip_l {xs ys : List D} : zipD (.list xs) (.list ys) = .ret (pairsD xs ys) := rfl
end
/-! ### sorted(set(..)) -/
theorem srtS_mx {L : List (List Key)} {Q : List D → Prop} {X : Exc → Prop} (h : (uniqM L).length < 64) (ho : SrtM L) (q : Q ((uniqM L).map encM)) : (srtSetD (.list (L.map encM))).run Q X := by
  cases L with
  | nil => exact ⟨⟨by decide, by decide⟩, q⟩
  | cons l L =>
    show (match Ev.intsOf ((l :: L).map encM) with
      | some ns => (W.ask (ns.length + 1 < scanBound ∧ (uniqI ns).length < 64)).bind fun _ => .ret ((uniqI ns).map .int)
      | none => match mixOf ((l :: L).map encM) with
        | some L => (W.ask ((uniqM L).length < 64 ∧ SrtM L)).bind fun _ => .ret ((uniqM L).map encM)
        | none => .stuck : W Exc (List D)).run Q X
    rw [show Ev.intsOf ((l :: L).map encM) = none from rfl, mixOf_map]
    exact ⟨⟨h, ho⟩, q⟩
def srtM (L : List (List Key)) : List (List Key) := L.mergeSort fun a b => !ltM b a
theorem srtM_mem {L : List (List Key)} {x : List Key} : x ∈ srtM L ↔ x ∈ L := List.mem_mergeSort
theorem srtM_len (L : List (List Key)) : (srtM L).length = L.length := List.length_mergeSort _
theorem ltM_not {a b : List Key} (h : ltM a b = true) : ltM b a = false := by
  cases e : ltM b a with
  | false => rfl
  | true => have := linM.tr _ _ _ h e; rw [linM.irr] at this; cases this
theorem srtM_strict {L : List (List Key)} (h : L.Nodup) : (srtM L).Pairwise fun a b => ltM a b = true := by
  have T := PySem.W.sortLe_total ordT false fun q : List Key => toksM q
  have h1 : (srtM L).Pairwise fun a b => (!ltM b a) = true := List.pairwise_mergeSort (fun a b c => T.trans a b c) (fun a b => by rw [Bool.or_eq_true]; exact T.total a b) L
  have h2 : (srtM L).Nodup := (List.mergeSort_perm L _).nodup_iff.mpr h
  refine (h1.and h2).imp fun {a b} z => ?_
  cases c : ltM a b with
  | true => rfl
  | false => exact absurd (linM.tot _ _ c (by simpa using z.1)) z.2
theorem srtM_uniq {L N : List (List Key)} (h : L.Nodup) (hm : ∀ x, x ∈ L ↔ x ∈ N) : srtM L = uniqM N :=
  sorted_unique linM (srtM_strict h) (uniq_sorted linM _) fun z => by rw [srtM_mem, uniq_mem linM, hm]
theorem uniqM_same {L N : List (List Key)} (hm : ∀ x, x ∈ L ↔ x ∈ N) : uniqM L = uniqM N :=
  sorted_unique linM (uniq_sorted linM _) (uniq_sorted linM _) fun z => by rw [uniq_mem linM, uniq_mem linM, hm]
theorem uniqM_nodup (L : List (List Key)) : (uniqM L).Nodup := sorted_nodup linM (uniq_sorted linM _)
theorem uniqM_le {L N : List (List Key)} (h : ∀ x ∈ L, x ∈ N) : (uniqM L).length ≤ N.length := nodup_len (uniqM_nodup L) fun x hx => h x ((uniq_mem linM _ _).mp hx)
theorem depth_encKs (k : List Key) : PyData.depthAll (k.map encK) = 0 := by
  induction k with
  | nil => simp [PyData.depthAll]
  | cons a k ih => cases a <;> simp [PyData.depthAll, PyData.depth, encK, ih]
theorem nd_encM (L : List (List Key)) : ndAll (L.map encM) = true := by
  have one : ∀ k : List Key, ndAll (k.map encK) = true := by
    intro k
    induction k with
    | nil => rfl
    | cons a k ih => cases a <;> simp_all [ndAll, nd, encK]
  induction L with
  | nil => rfl
  | cons l L ih => simp [ndAll, nd, Ev.encM, one, ih]
theorem sh_encM (k : List Key) : sh (encM k) = true := by
  have one : ∀ k : List Key, ndAll (k.map encK) = true := by
    intro k
    induction k with
    | nil => rfl
    | cons a k ih => cases a <;> simp_all [ndAll, nd, encK]
  simp [sh, Ev.encM, PyData.depth, depth_encKs, one]
theorem srt_mx {L : List (List Key)} {Q : List D → Prop} {X : Exc → Prop} (ho : SrtM L) (q : Q ((srtM L).map encM)) : (srtD (.list (L.map encM))).run Q X := by
  refine ⟨⟨nd_encM L, ho.1, ho.ok, fun d hd => ?_⟩, ?_⟩
  · obtain ⟨k, _, rfl⟩ := List.mem_map.mp hd
    have := encM_depth k
    omega
  · have e : (L.map encM).mergeSort leD = (srtM L).map encM := (map_srt Ev.encM (fun a b => !ltM b a) leD fun _ _ => rfl).symm
    show Q ((L.map encM).mergeSort leD)
    rw [e]
    exact q
/-! ### edges: a word and three ints -/
abbrev Ed := Str × Int × Int × Int
def edK (e : Ed) : List Key := [.inr e.1, .inl e.2.1, .inl e.2.2.1, .inl e.2.2.2]
abbrev edD (e : Ed) : D := .tuple [.str e.1, .int e.2.1, .int e.2.2.1, .int e.2.2.2]
theorem edK_D (e : Ed) : encM (edK e) = edD e := rfl
theorem edK_map (E : List Ed) : (E.map edK).map encM = E.map edD := by rw [List.map_map]; rfl
theorem edK_inj {e f : Ed} (h : edK e = edK f) : e = f := by
  obtain ⟨z, a, b, c⟩ := e
  obtain ⟨z', a', b', c'⟩ := f
  simp [edK] at h
  obtain ⟨h1, h2, h3, h4⟩ := h
  rw [h1, h2, h3, h4]
theorem ed_ok (E : List Ed) : SrtM (E.map edK) := by
  refine ⟨fun d hd e he => ?_, fun k hk => ?_⟩
  · obtain ⟨x, hx, rfl⟩ := List.mem_map.mp hd
    obtain ⟨y, hy, rfl⟩ := List.mem_map.mp he
    obtain ⟨p, _, rfl⟩ := List.mem_map.mp hx
    obtain ⟨q, _, rfl⟩ := List.mem_map.mp hy
    simp [edK, Ev.encM, encK, PySem.W.alike, PySem.W.alikeAll]
  · obtain ⟨p, _, rfl⟩ := List.mem_map.mp hk
    simp [edK]
theorem ed_back : ∀ {L : List (List Key)}, (∀ k ∈ L, ∃ e, k = edK e) → ∃ E : List Ed, L = E.map edK
  | [], _ => ⟨[], rfl⟩
  | k :: L, h => by
    obtain ⟨e, rfl⟩ := h k List.mem_cons_self
    obtain ⟨E, rfl⟩ := ed_back (L := L) fun x hx => h x (List.mem_cons_of_mem _ hx)
    exact ⟨e :: E, rfl⟩
theorem mem_edK {E : List Ed} {e : Ed} : edK e ∈ E.map edK ↔ e ∈ E := by
  rw [List.mem_map]
  exact ⟨fun ⟨f, hf, e1⟩ => edK_inj e1 ▸ hf, fun h => ⟨e, h, rfl⟩⟩
/-- the edges of a set, in order -/
theorem ed_uniq (E : List Ed) : ∃ U : List Ed, uniqM (E.map edK) = U.map edK ∧ U.Nodup ∧ ∀ e, e ∈ U ↔ e ∈ E := by
  obtain ⟨U, hU⟩ := ed_back (L := uniqM (E.map edK)) fun k hk => by
    obtain ⟨e, _, rfl⟩ := List.mem_map.mp ((uniq_mem linM _ _).mp hk)
    exact ⟨e, rfl⟩
  have nd := uniqM_nodup (E.map edK)
  rw [hU] at nd
  refine ⟨U, hU, nodup_of_map nd, fun e => ?_⟩
  rw [← mem_edK (E := U), ← hU, uniq_mem linM, mem_edK]
theorem srtS_ed {E : List Ed} {Q : List D → Prop} {X : Exc → Prop} (B : List Ed) (hB : ∀ e ∈ E, e ∈ B) (hl : B.length < 64) (q : ∀ U : List Ed, uniqM (E.map edK) = U.map edK → U.Nodup → (∀ e, e ∈ U ↔ e ∈ E) → Q (U.map edD)) : (srtSetD (.list (E.map edD))).run Q X := by
  rw [← edK_map]
  obtain ⟨U, hU, nd, hm⟩ := ed_uniq E
  refine srtS_mx ?_ (ed_ok E) ?_
  · have := uniqM_le (L := E.map edK) (N := B.map edK) fun x hx => by
      obtain ⟨e, he, rfl⟩ := List.mem_map.mp hx
      exact List.mem_map_of_mem (hB e he)
    rw [List.length_map] at this
    omega
  · rw [hU, edK_map]
    exact q U hU nd hm
/-! ### places of ints -/
theorem findI {l : List Int} {v : Int} (h : v ∈ l) : findD (l.map .int) (.int v) = some (l.idxOf v) := by
  unfold findD
  rw [List.findIdx?_map]
  have e1 : ((fun z => PyData.eqv z (.int v)) ∘ PyData.int) = fun d => d == v := by
    funext d
    rfl
  rw [e1]
  have hl : l.idxOf v < l.length := List.idxOf_lt_length_iff.mpr h
  rw [List.findIdx?_eq_some_iff_findIdx_eq]
  exact ⟨hl, rfl⟩
theorem idx_ti {l : List Int} {v : Int} {Q : D → Prop} {X : Exc → Prop} (h : v ∈ l) (q : Q (.int (l.idxOf v))) : (indexD (.tuple (l.map .int)) (.int v)).run Q X := by
  show ((sh (.int v) = true ∧ sh (.tuple (l.map .int)) = true) ∧ (match findD (l.map .int) (.int v) with | some j => W.ret (PyData.int j) | none => W.stuck : W Exc D).run Q X)
  rw [findI h]
  exact ⟨⟨rfl, sh_tints l⟩, q⟩
theorem pairs_ints : ∀ l m : List Int, pairsD (l.map .int) (m.map .int) = (l.zip m).map fun p => PyData.tuple [.int p.1, .int p.2]
  | [], _ => by simp [pairsD]
  | _ :: _, [] => by simp [pairsD]
  | a :: l, b :: m => by
    have := pairs_ints l m
    simp [pairsD] at this ⊢
    exact this
/-! ### items of tuples -/
theorem ix_tn {xs : List D} {i : Nat} {d : D} (h : xs[i]? = some d) {Q : D → Prop} {X : Exc → Prop} (q : Q d) : (ixD (.tuple xs) (.int (i : Int))).run Q X := ix_t (Ev.atI_nat h) q
@[simp] theorem ix_t0 {a : D} {r : List D} {Q : D → Prop} {X : Exc → Prop} : (ixD (.tuple (a :: r)) (.int 0)).run Q X = Q a := by
  show (match atI (a :: r) ((0 : Nat) : Int) with | some d => W.ret d | none => W.stuck : W Exc D).run Q X = _
  rw [Ev.atI_nat (d := a) rfl]
  rfl
@[simp] theorem ix_t1 {a b : D} {r : List D} {Q : D → Prop} {X : Exc → Prop} : (ixD (.tuple (a :: b :: r)) (.int 1)).run Q X = Q b := by
  show (match atI (a :: b :: r) ((1 : Nat) : Int) with | some d => W.ret d | none => W.stuck : W Exc D).run Q X = _
  rw [Ev.atI_nat (d := b) rfl]
  rfl
theorem flat_take_le {α β : Type} (l : List α) (f : α → List β) (n : Nat) : ((l.take n).flatMap f).length ≤ (l.flatMap f).length := by
  have e : l.flatMap f = (l.take n).flatMap f ++ (l.drop n).flatMap f := by rw [← List.flatMap_append, List.take_append_drop]
  rw [e, List.length_append]
  omega
theorem flat_mem_le {α β : Type} {l : List α} (f : α → List β) {x : α} {i : Nat} (h : l[i]? = some x) : ((l.take i).flatMap f).length + (f x).length ≤ (l.flatMap f).length := by
  have e : (l.take (i + 1)).flatMap f = (l.take i).flatMap f ++ f x := by rw [List.take_succ, h]; simp
  have := flat_take_le l f (i + 1)
  rw [e, List.length_append] at this
  exact this
theorem flat_step {α β : Type} {l : List α} (f : α → List β) {x : α} {i : Nat} (h : l[i]? = some x) : (l.take (i + 1)).flatMap f = (l.take i).flatMap f ++ f x := by rw [List.take_succ, h]; simp
end EvR

/-! EvR10: raise and try, one by one. -/
namespace EvR
open PySem PySem.Spec PyProof.Rows L2 Ev
section
variable {M : Mg} {ρ : List Sl} {Q : Out → Prop} {XX : XS → Prop} {t b s : IT} {n : Str}
theorem raise_run {x : Str} {l : IL} (h : (denL M l ρ).run (fun ds => ds.length ≤ sizeLine ∧ XX (⟨x, []⟩, ρ)) fun e => XX (e, ρ)) : (denT M (.cons (.raise_ x l) t) ρ).run Q XX := by
  rw [dT_cons, seqS_run]
  exact h
theorem try_run (hn : n ∈ M.exs) (h : (denT M b ρ).run (fun o => match o with | .nx ρ' => (denT M t ρ').run Q XX | .rt d => Q (.rt d) | .bk ρ' => Q (.bk ρ') | .ct ρ' => Q (.ct ρ'))
    (fun x => x.1.cls = n ∧ (denT M s x.2).run (fun o => match o with | .nx ρ' => (denT M t ρ').run Q XX | .rt d => Q (.rt d) | .bk ρ' => Q (.bk ρ') | .ct ρ' => Q (.ct ρ')) fun _ => False)) : (denT M (.cons (.try_ n b s) t) ρ).run Q XX := by
  rw [dT_cons, seqS_run]
  show ((tryW (exOf M n) (denT M b) (fun ρ => noErrX (denT M s ρ))) ρ).run _ _
  show (denT M b ρ).run _ _
  refine (denT M b ρ).mono (fun o q => q) (fun x q => ?_) h
  obtain ⟨q1, q2⟩ := q
  have e : exOf M n x.1.cls = some true := by
    unfold exOf
    rw [q1, if_pos hn]
    simp
  show (match exOf M n x.1.cls with
    | some true => (fun ρ => noErrX (denT M s ρ)) x.2
    | some false => W.err x
    | none => W.stuck : W XS Out).run _ _
  rw [e]
  exact q2
end
end EvR

/-! EvP: pairs of ints; what is led to; parts of hands. -/
namespace EvR
open PySem PySem.Spec PyProof.Rows L2 Ev
/-! ### sorted sets of pairs -/
abbrev Pr := Int × Int
def prK (p : Pr) : List Key := [.inl p.1, .inl p.2]
theorem prK_map (E : List Pr) : (E.map prK).map encM = E.map pD := by rw [List.map_map]; rfl
theorem prK_inj {e f : Pr} (h : prK e = prK f) : e = f := by
  obtain ⟨a, b⟩ := e
  obtain ⟨a', b'⟩ := f
  simp [prK] at h
  rw [h.1, h.2]
theorem pr_ok (E : List Pr) : SrtM (E.map prK) := by
  refine ⟨fun d hd e he => ?_, fun k hk => ?_⟩
  · obtain ⟨x, hx, rfl⟩ := List.mem_map.mp hd
    obtain ⟨y, hy, rfl⟩ := List.mem_map.mp he
    obtain ⟨p, _, rfl⟩ := List.mem_map.mp hx
    obtain ⟨q, _, rfl⟩ := List.mem_map.mp hy
    simp [prK, Ev.encM, encK, PySem.W.alike, PySem.W.alikeAll]
  · obtain ⟨p, _, rfl⟩ := List.mem_map.mp hk
    simp [prK]
theorem mem_prK {E : List Pr} {e : Pr} : prK e ∈ E.map prK ↔ e ∈ E := by
  rw [List.mem_map]
  exact ⟨fun ⟨f, hf, e1⟩ => prK_inj e1 ▸ hf, fun h => ⟨e, h, rfl⟩⟩
def prB : List Key → Option Pr
  | [.inl a, .inl b] => some (a, b)
  | _ => none
theorem prB_K (E : List Pr) : (E.map prK).filterMap prB = E := by
  induction E with
  | nil => rfl
  | cons e E ih =>
    show (e :: (E.map prK).filterMap prB) = e :: E
    rw [ih]
/-- the pairs of a list, ascending, each once -/
def upr (E : List Pr) : List Pr := (uniqM (E.map prK)).filterMap prB
theorem upr_K (E : List Pr) : (upr E).map prK = uniqM (E.map prK) := by
  have gen : ∀ {L : List (List Key)}, (∀ k ∈ L, ∃ e, k = prK e) → (L.filterMap prB).map prK = L := by
    intro L
    induction L with
    | nil => exact fun _ => rfl
    | cons k L ih =>
      intro h
      obtain ⟨e, rfl⟩ := h k List.mem_cons_self
      show (prK e :: (L.filterMap prB).map prK) = prK e :: L
      rw [ih fun x hx => h x (List.mem_cons_of_mem _ hx)]
  refine gen fun k hk => ?_
  obtain ⟨e, _, rfl⟩ := List.mem_map.mp ((uniq_mem linM _ _).mp hk)
  exact ⟨e, rfl⟩
theorem upr_mem {E : List Pr} {p : Pr} : p ∈ upr E ↔ p ∈ E := by
  rw [← mem_prK (E := upr E), upr_K, uniq_mem linM, mem_prK]
theorem upr_nodup (E : List Pr) : (upr E).Nodup := by
  have nd := uniqM_nodup (E.map prK)
  rw [← upr_K] at nd
  exact nodup_of_map nd
theorem upr_same {E F : List Pr} (h : ∀ p, p ∈ E ↔ p ∈ F) : upr E = upr F := by
  unfold upr
  rw [uniqM_same fun x => ?_]
  rw [List.mem_map, List.mem_map]
  exact ⟨fun ⟨p, hp, e⟩ => ⟨p, (h p).mp hp, e⟩, fun ⟨p, hp, e⟩ => ⟨p, (h p).mpr hp, e⟩⟩
theorem upr_idem (E : List Pr) : upr (upr E) = upr E := upr_same fun _ => upr_mem
theorem srtS_pr {E : List Pr} {Q : List D → Prop} {X : Exc → Prop} (h : (upr E).length < 64) (q : Q ((upr E).map pD)) : (srtSetD (.list (E.map pD))).run Q X := by
  rw [← prK_map]
  refine srtS_mx ?_ (pr_ok E) ?_
  · rw [← upr_K, List.length_map]
    exact h
  · rw [← upr_K, prK_map]
    exact q
theorem srt_pr {E : List Pr} (nd : E.Nodup) {Q : List D → Prop} {X : Exc → Prop} (q : Q ((upr E).map pD)) : (srtD (.list (E.map pD))).run Q X := by
  rw [← prK_map]
  refine srt_mx (pr_ok E) ?_
  have nd' : (E.map prK).Nodup := by
    refine List.Pairwise.map prK (fun a b h e => h (prK_inj e)) nd
  rw [srtM_uniq nd' (N := E.map prK) fun _ => Iff.rfl, ← upr_K, prK_map]
  exact q
theorem eqv_pD (p q : Pr) : PyData.eqv (pD p) (pD q) = decide (p = q) := by
  obtain ⟨a, b⟩ := p
  obtain ⟨c, d⟩ := q
  rw [PyData.eqv, PyData.eqvAll, PyData.eqvAll, PyData.eqvAll, PyData.eqv, PyData.eqv, Bool.eq_iff_iff]
  simp
theorem eqvAll_prs : ∀ A B : List Pr, PyData.eqvAll (A.map pD) (B.map pD) = decide (A = B)
  | [], [] => by simp [PyData.eqvAll]
  | [], _ :: _ => by simp [PyData.eqvAll]
  | _ :: _, [] => by simp [PyData.eqvAll]
  | a :: A, b :: B => by
    rw [List.map_cons, List.map_cons, PyData.eqvAll, eqv_pD, eqvAll_prs A B, Bool.eq_iff_iff]
    simp
theorem eqv_prs (A B : List Pr) : PyData.eqv (.list (A.map pD)) (.list (B.map pD)) = decide (A = B) := by
  rw [PyData.eqv, eqvAll_prs]
theorem any_prs (p : Pr) : ∀ A : List Pr, ((A.map pD).any fun z => PyData.eqv z (pD p)) = decide (p ∈ A)
  | [] => by simp
  | a :: A => by
    rw [List.map_cons, List.any_cons, eqv_pD, any_prs p A, Bool.eq_iff_iff]
    simp only [Bool.or_eq_true, decide_eq_true_iff, List.mem_cons]
    exact ⟨fun h => h.imp Eq.symm id, fun h => h.imp Eq.symm id⟩
theorem sh_pD (p : Pr) : sh (pD p) = true := sh_tints [p.1, p.2]
theorem depth_prs (A : List Pr) : PyData.depthAll (A.map pD) ≤ 1 := by
  induction A with
  | nil => simp [PyData.depthAll]
  | cons a A ih =>
    simp [PyData.depthAll, PyData.depth]
    omega
theorem nd_prs (A : List Pr) : ndAll (A.map pD) = true := by
  induction A with
  | nil => rfl
  | cons a A ih => simp [ndAll, nd] ; exact ih
theorem sh_prs (A : List Pr) : sh (.list (A.map pD)) = true := by
  have h1 := depth_prs A
  have h2 := nd_prs A
  simp [sh, PyData.depth, h2]
  omega
theorem in_pl {n : Bool} {p : Pr} {A : List Pr} {Q : Bool → Prop} {X : Exc → Prop} : (inD n (pD p) (.list (A.map pD))).run Q X = Q (if n then !decide (p ∈ A) else decide (p ∈ A)) := by
  show ((sh (pD p) = true ∧ sh (.list (A.map pD)) = true) ∧ Q _) = _
  rw [any_prs]
  simp [sh_pD, sh_prs]
@[simp] theorem in_pl2 {n : Bool} {a b : Int} {A : List Pr} {Q : Bool → Prop} {X : Exc → Prop} : (inD n (.tuple [.int a, .int b]) (.list (A.map pD))).run Q X = Q (if n then !decide ((a, b) ∈ A) else decide ((a, b) ∈ A)) := in_pl (p := (a, b))
/-! ### what is led to -/
inductive Led (E : List Pr) : Int → Int → Prop
  | one {a b : Int} : (a, b) ∈ E → Led E a b
  | more {a b c : Int} : Led E a b → (b, c) ∈ E → Led E a c
theorem Led.trans {E : List Pr} {a b c : Int} (h : Led E a b) (k : Led E b c) : Led E a c := by
  induction k with
  | one e => exact .more h e
  | more _ e ih => exact .more ih e
theorem Led.mono {E F : List Pr} (h : ∀ p ∈ E, p ∈ F) {a b : Int} (k : Led E a b) : Led F a b := by
  induction k with
  | one e => exact .one (h _ e)
  | more _ e ih => exact .more ih (h _ e)
theorem Led.into {E : List Pr} {R : Int → Int → Prop} (h : ∀ a b, (a, b) ∈ E → R a b) (t : ∀ a b c, R a b → R b c → R a c) {a b : Int} (k : Led E a b) : R a b := by
  induction k with
  | one e => exact h _ _ e
  | more _ e ih => exact t _ _ _ ih (h _ _ e)
theorem Led.fst {E : List Pr} {a b : Int} (k : Led E a b) : ∃ c, (a, c) ∈ E := by
  induction k with
  | one e => exact ⟨_, e⟩
  | more _ _ ih => exact ih
theorem Led.snd {E : List Pr} {a b : Int} (k : Led E a b) : ∃ c, (c, b) ∈ E := by
  cases k with
  | one e => exact ⟨_, e⟩
  | more _ e => exact ⟨_, e⟩
open Classical in
/-- the pairs that are led on to, ascending -/
noncomputable def clo (E : List Pr) : List Pr := upr ((E.flatMap fun p => E.map fun q => (p.1, q.2)).filter fun p => decide (Led E p.1 p.2))
theorem clo_mem {E : List Pr} {a b : Int} : (a, b) ∈ clo E ↔ Led E a b := by
  unfold clo
  rw [upr_mem, List.mem_filter]
  simp only [decide_eq_true_iff]
  refine ⟨fun h => h.2, fun h => ⟨?_, h⟩⟩
  obtain ⟨c, hc⟩ := h.fst
  obtain ⟨d, hd⟩ := h.snd
  exact List.mem_flatMap.mpr ⟨_, hc, List.mem_map.mpr ⟨_, hd, rfl⟩⟩
theorem clo_upr (E : List Pr) : upr (clo E) = clo E := upr_idem _
theorem clo_nodup (E : List Pr) : (clo E).Nodup := upr_nodup _
theorem clo_of {E C : List Pr} (h : upr C = C) (m : ∀ a b, (a, b) ∈ C ↔ Led E a b) : C = clo E := by
  rw [← h, ← clo_upr E]
  exact upr_same fun ⟨a, b⟩ => by rw [m, clo_mem]
theorem clo_same {E F : List Pr} (h : ∀ p, p ∈ E ↔ p ∈ F) : clo E = clo F := by
  refine clo_of (clo_upr E) fun a b => ?_
  rw [clo_mem]
  exact ⟨Led.mono fun p hp => (h p).mp hp, Led.mono fun p hp => (h p).mpr hp⟩
/-- pairs over some numbers -/
def Over2 (N M : List Int) (E : List Pr) : Prop := ∀ p ∈ E, p.1 ∈ N ∧ p.2 ∈ M
theorem over2_len {N M : List Int} {E : List Pr} (h : Over2 N M E) (nd : E.Nodup) : E.length ≤ N.length * M.length := by
  have := nodup_len nd (m := N.flatMap fun a => M.map fun b => (a, b)) fun p hp => by
    obtain ⟨h1, h2⟩ := h p hp
    exact List.mem_flatMap.mpr ⟨_, h1, List.mem_map.mpr ⟨_, h2, rfl⟩⟩
  have e : (N.flatMap fun a => M.map fun b => (a, b)).length = N.length * M.length := by
    clear this h
    induction N with
    | nil => simp
    | cons a N ih =>
      rw [List.flatMap_cons, List.length_append, ih, List.length_map, List.length_cons, Nat.succ_mul]
      omega
  omega
theorem over2_upr {N M : List Int} {E : List Pr} (h : Over2 N M E) : (upr E).length ≤ N.length * M.length := over2_len (fun p hp => h p (upr_mem.mp hp)) (upr_nodup E)
theorem over2_led {N M : List Int} {E : List Pr} (h : Over2 N M E) {a b : Int} (k : Led E a b) : a ∈ N ∧ b ∈ M := by
  obtain ⟨c, hc⟩ := k.fst
  obtain ⟨d, hd⟩ := k.snd
  exact ⟨(h _ hc).1, (h _ hd).2⟩
end EvR

namespace K16
open PySem PySem.Spec PyProof.Rows L2 Ev EvR
theorem l1 : 1 ≤ sizeLine := small_of (by decide)
theorem l2 : 2 ≤ sizeLine := small_of (by decide)
theorem l3 : 3 ≤ sizeLine := small_of (by decide)
theorem l4 : 4 ≤ sizeLine := small_of (by decide)
theorem l5 : 5 ≤ sizeLine := small_of (by decide)
/-! ### what is led to, by the program and by the law -/
theorem strict_len {A B : List Pr} (h : ∀ p ∈ A, p ∈ B) (nA : A.Nodup) (hne : A ≠ B) (sA : upr A = A) (sB : upr B = B) : A.length < B.length := by
  have h1 : A.length ≤ B.length := nodup_len nA h
  by_cases c : A.length = B.length
  · exfalso
    refine hne ?_
    rw [← sA, ← sB]
    refine upr_same fun p => ⟨h p, fun hp => ?_⟩
    by_cases q : p ∈ A
    · exact q
    · have := nodup_len (List.nodup_cons.mpr ⟨q, nA⟩) (m := B) fun x hx => by
        rcases List.mem_cons.mp hx with rfl | hx
        · exact hp
        · exact h x hx
      rw [List.length_cons] at this
      omega
  · omega
def cmpA (F : List Pr) (p : Pr) : List Pr := (F.filter fun q => decide (p.2 = q.1)).map fun q => (p.1, q.2)
def cmp2 (F : List Pr) : List Pr := F.flatMap (cmpA F)
theorem cmpA_mem {F : List Pr} {p : Pr} {x : Pr} : x ∈ cmpA F p ↔ x.1 = p.1 ∧ (p.2, x.2) ∈ F := by
  unfold cmpA
  rw [List.mem_map]
  constructor
  · rintro ⟨q, hq, rfl⟩
    obtain ⟨h1, h2⟩ := List.mem_filter.mp hq
    refine ⟨rfl, ?_⟩
    rw [of_decide_eq_true h2]
    exact h1
  · rintro ⟨h1, h2⟩
    exact ⟨_, List.mem_filter.mpr ⟨h2, by simp⟩, by rw [← h1]⟩
theorem cmp2_mem {F : List Pr} {x : Pr} : x ∈ cmp2 F ↔ ∃ b, (x.1, b) ∈ F ∧ (b, x.2) ∈ F := by
  unfold cmp2
  rw [List.mem_flatMap]
  constructor
  · rintro ⟨p, hp, h⟩
    obtain ⟨h1, h2⟩ := cmpA_mem.mp h
    exact ⟨p.2, by rw [h1]; exact hp, h2⟩
  · rintro ⟨b, h1, h2⟩
    exact ⟨_, h1, cmpA_mem.mpr ⟨rfl, h2⟩⟩
def InvC (E : List Pr) (k : Nat) (ρ : List Sl) : Prop := ∃ (F : List Pr) (s2 s3 s4 s5 s6 s7 : Sl), ρ = [.val (.list (E.map pD)), .val (.list (F.map pD)), s2, s3, s4, s5, s6, s7] ∧ upr F = F ∧ (∀ p ∈ E, p ∈ F) ∧ (∀ p ∈ F, Led E p.1 p.2) ∧ k ≤ F.length
theorem closed_run {N M : List Int} {E : List Pr} (hO : Over2 N M E) (hB : N.length * M.length < 64) (hz : E.length ≤ 1000) {Q : D → Prop} {X : Exc → Prop} (q : Q (.list ((clo E).map pD))) : (f_closed [.d (.list (E.map pD))]).run Q X := by
  have bound : ∀ F : List Pr, (∀ p ∈ F, Led E p.1 p.2) → (upr F).length < 64 := fun F hF => by
    have : Over2 N M F := fun p hp => over2_led hO (hF p hp)
    have := over2_upr this
    omega
  unfold f_closed
  simp [b_closed, -dT_cons]
  refine stp ?_
  simp [-dT_cons]
  refine srtS_pr (bound E fun p hp => .one hp) ?_
  refine stp ?_
  refine whileS_run (InvC E) 64 ⟨upr E, _, _, _, _, _, _, rfl, upr_idem E, fun p hp => upr_mem.mpr hp, fun p hp => .one (upr_mem.mp hp), Nat.zero_le _⟩ ?_
  rintro k ρ ⟨F, s2, s3, s4, s5, s6, s7, rfl, hF1, hF2, hF3, hF4⟩
  have hl := bound F hF3
  rw [hF1] at hl
  simp [-dT_cons]
  have hc1 : ∀ p, (cmpA F p).length ≤ 64 := fun p => by
    unfold cmpA
    rw [List.length_map]
    have := List.length_filter_le (fun q : Pr => decide (p.2 = q.1)) F
    omega
  have hc2 : (cmp2 F).length ≤ 64 * 64 := by
    have gen : ∀ l : List Pr, (l.flatMap (cmpA F)).length ≤ l.length * 64 := by
      intro l
      induction l with
      | nil => simp
      | cons a l ih =>
        rw [List.flatMap_cons, List.length_append, List.length_cons, Nat.succ_mul]
        have := hc1 a
        omega
    have := gen F
    unfold cmp2
    have : F.length * 64 ≤ 64 * 64 := Nat.mul_le_mul_right _ (by omega)
    omega
  refine ⟨by omega, ?_⟩
  refine stp ?_
  simp [-dT_cons]
  unfold lc2W
  simp [-dT_cons]
  intro _
  refine fold_out (enc := pD) (fun p => (cmpA F p).map pD) 64 100000 (by simp; omega) (fun p hp => by rw [List.length_map]; exact hc1 p) (fun p hp acc hacc R' hR => ?_) ?_
  · simp [lc2Out, wipeR]
    intro _
    refine fold_fm (enc := pD) (enc' := pD) (fun q => decide (p.2 = q.1)) (fun q => (p.1, q.2)) 100000 (by omega) (fun r hr acc2 hacc2 R2 h1 h0 => ?_) ?_
    · simp [lc2In, wipeR]
      by_cases e : p.2 = r.1
      · simp [e, l2]
        exact ⟨line6 (by omega), h1 (by simp [e])⟩
      · simp [e]; exact h0 (by simp [e])
    exact hR
  simp only [List.nil_append, ← List.map_flatMap]
  show (denT _ _ [_, _, .val (.list ((cmp2 F).map pD)), _, _, _, _, _]).run _ _
  refine stp ?_
  simp [-dT_cons]
  refine ⟨line7 (by omega), ?_⟩
  rw [← List.map_append]
  have hF5 : ∀ p ∈ F ++ cmp2 F, Led E p.1 p.2 := fun p hp => by
    rcases List.mem_append.mp hp with hp | hp
    · exact hF3 p hp
    · obtain ⟨b, h1, h2⟩ := cmp2_mem.mp hp
      exact (hF3 _ h1).trans (hF3 _ h2)
  refine srtS_pr (bound _ hF5) ?_
  by_cases c : upr (F ++ cmp2 F) = F
  · refine ife_then ?_ ?_
    · simp [sh_prs, eqv_prs, c]
    simp [c]
    have hcl : F = clo E := by
      refine clo_of hF1 fun a b => ⟨fun h => hF3 _ h, fun h => ?_⟩
      induction h with
      | one e => exact hF2 _ e
      | more _ e ih =>
        rw [← c]
        exact upr_mem.mpr (List.mem_append_right _ (cmp2_mem.mpr ⟨_, ih, hF2 _ e⟩))
    rw [hcl]
    exact q
  · refine ife_no ?_ ?_
    · simp [sh_prs, eqv_prs, c]
    simp
    have hlt : F.length < (upr (F ++ cmp2 F)).length := by
      refine strict_len (fun p hp => upr_mem.mpr (List.mem_append_left _ hp)) ?_ (fun e => c e.symm) hF1 (upr_idem _)
      rw [← hF1]
      exact upr_nodup F
    exact ⟨_, _, _, _, _, _, _, rfl, upr_idem _, fun p hp => upr_mem.mpr (List.mem_append_left _ (hF2 p hp)), fun p hp => hF5 p (upr_mem.mp hp), by omega⟩
def mrP (F M : List Pr) (p q : Pr) : Bool := decide (q.1 = p.2) && (!decide ((p.1, q.2) ∈ F) && !decide ((p.1, q.2) ∈ M))
def mrA (F M : List Pr) (p : Pr) : List Pr := (F.filter (mrP F M p)).map fun q => (p.1, q.2)
def MrOk (F : List Pr) (i : Nat) (M : List Pr) : Prop := M.Nodup ∧ (∀ x ∈ M, x ∈ cmp2 F ∧ x ∉ F) ∧ ∀ x ∈ (F.take i).flatMap (cmpA F), x ∈ F ∨ x ∈ M
theorem mr_step {F M : List Pr} {i : Nat} {p : Pr} (nF : F.Nodup) (h : MrOk F i M) (e : F[i]? = some p) : MrOk F (i + 1) (M ++ mrA F M p) := by
  obtain ⟨h1, h2, h3⟩ := h
  have hp : p ∈ F := List.mem_of_getElem? e
  have mem : ∀ x, x ∈ mrA F M p ↔ (x.1 = p.1 ∧ (p.2, x.2) ∈ F) ∧ x ∉ F ∧ x ∉ M := by
    intro x
    unfold mrA mrP
    rw [List.mem_map]
    constructor
    · rintro ⟨q, hq, rfl⟩
      obtain ⟨q1, q2⟩ := List.mem_filter.mp hq
      simp at q2
      refine ⟨⟨rfl, ?_⟩, q2.2.1, q2.2.2⟩
      rw [← q2.1]
      exact q1
    · rintro ⟨⟨q1, q2⟩, q3, q4⟩
      refine ⟨_, List.mem_filter.mpr ⟨q2, ?_⟩, by rw [← q1]⟩
      rw [← q1]
      simp [q3, q4]
  have nA : (mrA F M p).Nodup := by
    unfold mrA
    refine List.Pairwise.map _ ?_ (List.Pairwise.and_mem.mp (nF.filter _))
    rintro a b ⟨ha, hb, hne⟩ he
    have ea := (List.mem_filter.mp ha).2
    have eb := (List.mem_filter.mp hb).2
    unfold mrP at ea eb
    simp at ea eb
    simp at he
    exact hne (Prod.ext (by rw [ea.1, eb.1]) he)
  refine ⟨List.nodup_append.mpr ⟨h1, nA, ?_⟩, ?_, ?_⟩
  · intro a ha b hb he
    subst he
    exact ((mem a).mp hb).2.2 ha
  · intro x hx
    rcases List.mem_append.mp hx with hx | hx
    · exact h2 x hx
    · obtain ⟨⟨q1, q2⟩, q3, _⟩ := (mem x).mp hx
      exact ⟨cmp2_mem.mpr ⟨p.2, by rw [q1]; exact hp, q2⟩, q3⟩
  · intro x hx
    rw [flat_step _ e] at hx
    rcases List.mem_append.mp hx with hx | hx
    · exact (h3 x hx).imp id fun z => List.mem_append_left _ z
    · by_cases c1 : x ∈ F
      · exact .inl c1
      · by_cases c2 : x ∈ M
        · exact .inr (List.mem_append_left _ c2)
        · exact .inr (List.mem_append_right _ ((mem x).mpr ⟨cmpA_mem.mp hx, c1, c2⟩))
theorem mr_nil (F : List Pr) : MrOk F 0 [] := ⟨List.nodup_nil, (by intro x hx; cases hx), (by intro x hx; cases hx)⟩
def InvG (E : List Pr) (k : Nat) (ρ : List Sl) : Prop := ∃ (F : List Pr) (g : Bool) (s3 s4 s5 s6 s7 : Sl), ρ = [.val (.list (E.map pD)), .val (.list (F.map pD)), .val (.bool g), s3, s4, s5, s6, s7] ∧ upr F = F ∧ (∀ p ∈ E, p ∈ F) ∧ (∀ p ∈ F, Led E p.1 p.2) ∧ (g = true ∨ ∀ p ∈ cmp2 F, p ∈ F) ∧ k ≤ F.length + (if g then 0 else 1)
def InvM (E F : List Pr) (g : Bool) (i : Nat) (ρ : List Sl) : Prop := ∃ (M : List Pr) (s4 s5 s6 s7 : Sl), ρ = [.val (.list (E.map pD)), .val (.list (F.map pD)), .val (.bool g), .val (.list (M.map pD)), s4, s5, s6, s7] ∧ MrOk F i M
noncomputable def rless (E : List Pr) : Bool := (clo E).all fun p => decide (p.1 ≠ p.2)
theorem rless_iff {E : List Pr} : rless E = true ↔ ∀ a, ¬ Led E a a := by
  unfold rless
  rw [List.all_eq_true]
  constructor
  · intro h a k
    have := h (a, a) (clo_mem.mpr k)
    simp at this
  · rintro h ⟨a, b⟩ hp
    have := clo_mem.mp hp
    simp
    rintro rfl
    exact h a this
theorem ringless_run {N M : List Int} {E : List Pr} (hO : Over2 N M E) (hB : N.length * M.length < 64) (hz : E.length ≤ 1000) {Q : D → Prop} {X : Exc → Prop} (q : Q (.bool (rless E))) : (f_is_ringless [.d (.list (E.map pD))]).run Q X := by
  unfold f_is_ringless
  simp [b_is_ringless]
  refine closed_run hO hB hz ?_
  have hl : (clo E).length < 64 := by
    have : Over2 N M (clo E) := fun p hp => over2_led hO (clo_mem.mp hp)
    have := over2_len this (clo_nodup E)
    omega
  simp
  intro _
  refine ⟨line7 (by omega), ?_⟩
  refine lcD_mp (enc := pD) (enc' := PyData.bool) (fun p : Pr => decide (p.1 ≠ p.2)) (fun p hp R' hR => ?_) ?_
  · simp [turnB, wipeR]
    have e : (p.1 == p.2) = decide (p.1 = p.2) := rfl
    rw [e]
    simpa using hR
  · have e : ((clo E).map fun p : Pr => decide (p.1 ≠ p.2)).all id = rless E := by
      unfold rless
      rw [List.all_map]
      rfl
    rw [all_bs, e]
    exact q
end K16

namespace K16
open PySem PySem.Spec PyProof.Rows L2 Ev EvR
theorem fold_mp {α β : Type} {enc : α → D} {enc' : β → D} (f : α → β) {body : D → List D → W Exc (List D)} {Q : List D → Prop} {X : Exc → Prop} (B : Nat) {xs : List α} {acc : List D} (hB : acc.length + xs.length ≤ B)
    (h : ∀ x ∈ xs, ∀ acc : List D, acc.length < B → ∀ R : List D → Prop, R (acc ++ [enc' (f x)]) → (body (enc x) acc).run R X) (q : Q (acc ++ (xs.map f).map enc')) : (foldA body (xs.map enc) acc).run Q X := by
  refine fold_fm (fun _ => true) f B hB (fun x hx acc ha R h1 h0 => h x hx acc ha R (h1 rfl)) ?_
  rw [List.filter_eq_self.mpr fun _ _ => rfl]
  exact q
/-! ### parts of hands -/
abbrev Wk := Int × List Dd
abbrev wkD (w : Wk) : D := .tuple [.int w.1, .tuple (w.2.map enc)]
abbrev hdD (h : List Wk) : D := .tuple (h.map wkD)
abbrev ptD (P : List (List Wk)) : D := .tuple (P.map hdD)
def allW (P : List (List Wk)) : List Wk := P.flatMap id
def nmsP (P : List (List Wk)) : List Int := (allW P).map (·.1)
structure PtOk (P : List (List Wk)) : Prop where
  h3 : P.length = 3
  nd : (nmsP P).Nodup
  rg : ∀ w ∈ nmsP P, 1 ≤ w ∧ w ≤ 5
  ds : ∀ x ∈ allW P, x.2.length ≤ 3 ∧ ∀ d ∈ x.2, isRW d = true ∧ wk d = x.1 ∧ (0 ≤ kof d ∧ kof d < 4) ∧ (isRd d = true → vof d = 0 ∨ vof d ∈ nmsP P)
theorem PtOk.len {P : List (List Wk)} (h : PtOk P) : (nmsP P).length ≤ 5 := by
  have := nodup_len h.nd (m := rgI 1 5) fun x hx => rgI_mem.mpr (by have := h.rg x hx; omega)
  rwa [rgI_len] at this
theorem PtOk.lenW {P : List (List Wk)} (h : PtOk P) : (allW P).length ≤ 5 := by
  have := h.len
  unfold nmsP at this
  rwa [List.length_map] at this
theorem hand_le {P : List (List Wk)} {h : List Wk} (hh : h ∈ P) : h.length ≤ (allW P).length := by
  obtain ⟨i, hi, e⟩ := List.getElem_of_mem hh
  have := flat_mem_le (l := P) id (i := i) (x := h) (by rw [List.getElem?_eq_getElem hi, e])
  unfold allW
  simp only [id] at this
  omega
theorem mem_allW {P : List (List Wk)} {h : List Wk} (hh : h ∈ P) {x : Wk} (hx : x ∈ h) : x ∈ allW P := List.mem_flatMap.mpr ⟨h, hh, hx⟩
theorem nms_flat (P : List (List Wk)) : P.flatMap (List.map fun x => x.1) = nmsP P := by
  unfold nmsP allW
  rw [List.map_flatMap]
  rfl
def wsP (P : List (List Wk)) : List Int := srtI (nmsP P)
theorem works_in_run {P : List (List Wk)} (h : PtOk P) {Q : D → Prop} {X : Exc → Prop} (q : Q (.list ((wsP P).map .int))) : (f_works_in [.d (ptD P)]).run Q X := by
  have h5 := h.lenW
  have h3 := h.h3
  unfold f_works_in
  simp [b_works_in]
  unfold lc2W
  simp
  intro _
  refine fold_out (enc := hdD) (fun hd => (hd.map (·.1)).map PyData.int) 5 100000 (by simp; omega) (fun hd hh => by rw [List.length_map, List.length_map]; exact Nat.le_trans (hand_le hh) h5) (fun hd hh acc hacc R' hR => ?_) ?_
  · have hl := Nat.le_trans (hand_le hh) h5
    simp [lc2Out, wipeR]
    intro _
    refine fold_mp (enc := wkD) (enc' := PyData.int) (fun x : Wk => x.1) 100000 (by omega) (fun x hx acc2 hacc2 R2 h1 => ?_) ?_
    · simp [lc2In, wipeR]
      exact ⟨line6 (by omega), h1⟩
    exact hR
  · simp only [List.nil_append, ← List.map_flatMap]
    rw [nms_flat, srt_li]
    exact q
/-! ### the deeds of a work -/
def filW (w : Int) (x : Wk) : Bool := decide (x.1 = w)
def hdL : List Wk → List Dd
  | x :: _ => x.2
  | [] => []
def dsP (P : List (List Wk)) (w : Int) : List Dd := hdL ((allW P).filter (filW w))
theorem dsP_at {P : List (List Wk)} {w : Int} (hw : w ∈ nmsP P) : ∃ x r, (allW P).filter (filW w) = x :: r ∧ x ∈ allW P ∧ x.1 = w ∧ dsP P w = x.2 := by
  unfold dsP
  cases e : (allW P).filter (filW w) with
  | nil =>
    obtain ⟨x, hx, e2⟩ := List.mem_map.mp hw
    have := List.filter_eq_nil_iff.mp e x hx
    simp [filW, e2] at this
  | cons x r =>
    have hx : x ∈ (allW P).filter (filW w) := by rw [e]; exact List.mem_cons_self
    obtain ⟨h1, h2⟩ := List.mem_filter.mp hx
    exact ⟨x, r, rfl, h1, of_decide_eq_true h2, rfl⟩
theorem deeds_in_run {P : List (List Wk)} (h : PtOk P) {w : Int} (hw : w ∈ nmsP P) {Q : D → Prop} {X : Exc → Prop} (q : Q (.tuple ((dsP P w).map enc))) : (f_deeds_in [.d (ptD P), .d (.int w)]).run Q X := by
  have h5 := h.lenW
  have h3 := h.h3
  unfold f_deeds_in
  simp [b_deeds_in]
  unfold lc2W
  simp
  intro _
  refine fold_out (enc := hdD) (fun hd => ((hd.filter (filW w)).map (·.2)).map fun ds => PyData.tuple (ds.map enc)) 5 100000 (by simp; omega) (fun hd hh => ?_) (fun hd hh acc hacc R' hR => ?_) ?_
  · rw [List.length_map, List.length_map]
    exact Nat.le_trans (List.length_filter_le _ _) (Nat.le_trans (hand_le hh) h5)
  · have hl := Nat.le_trans (hand_le hh) h5
    simp [lc2Out, wipeR]
    intro _
    refine fold_fm (enc := wkD) (enc' := fun ds : List Dd => PyData.tuple (ds.map enc)) (filW w) (fun x : Wk => x.2) 100000 (by omega) (fun x hx acc2 hacc2 R2 h1 h0 => ?_) ?_
    · simp [lc2In, wipeR]
      by_cases e : x.1 = w
      · simp [e]
        exact ⟨line6 (by omega), h1 (by simp [filW, e])⟩
      · simp [e]
        exact h0 (by simp [filW, e])
    exact hR
  · simp only [List.nil_append, ← List.map_flatMap]
    have e : P.flatMap (List.filter (filW w)) = (allW P).filter (filW w) := by
      unfold allW
      rw [List.filter_flatMap]
      rfl
    rw [e]
    obtain ⟨x, r, e1, _, _, e2⟩ := dsP_at hw
    rw [e1]
    rw [e2] at q
    exact ix_l (Ev.atI_nat (n := 0) rfl) q
/-! ### writes -/
def cntK (ds : List Dd) (k : Int) : Nat := (ds.filter (isWrK k)).length
theorem writes_in_run {ds : List Dd} {k : Int} (hz : ds.length ≤ 200) {Q : D → Prop} {X : Exc → Prop} (q : Q (.int (cntK ds k))) : (f_writes_in [.d (.tuple (ds.map enc)), .d (.int k)]).run Q X := by
  unfold f_writes_in
  simp [b_writes_in]
  intro _
  refine ⟨line8 (by omega), ?_⟩
  refine lcD_fm (isWrK k) id (enc' := enc) (fun d hd R' h1 h0 => ?_) ?_
  · simp [turnB, asgT, wipeR]
    cases d <;> simp [isWr, isWrK] at *
    · exact h0
    · exact h0
    · rename_i w' k'
      by_cases e : k' = k
      · simpa [e] using h1 e
      · simpa [e] using h0 e
    · exact h0
    · exact h0
  · simp
    intro _
    exact q
theorem l_wrote_run {ds : List Dd} {k : Int} (hz : ds.length ≤ 200) {Q : D → Prop} {X : Exc → Prop} (q : Q (.int (cntK ds k))) : (f_l_wrote [.d (.tuple (ds.map enc)), .d (.int k)]).run Q X := by
  unfold f_l_wrote
  simp [b_l_wrote]
  intro _
  refine ⟨line8 (by omega), ?_⟩
  refine lcD_fm (isWrK k) id (enc' := enc) (fun d hd R' h1 h0 => ?_) ?_
  · simp [turnB, asgT, wipeR]
    cases d <;> simp [isWr, isWrK] at *
    · exact h0
    · exact h0
    · rename_i w' k'
      by_cases e : k' = k
      · simpa [e] using h1 e
      · simpa [e] using h0 e
    · exact h0
    · exact h0
  · simp
    intro _
    exact q
end K16

namespace K16
open PySem PySem.Spec PyProof.Rows L2 Ev EvR
def nmA (P : List (List Wk)) (i : Nat) : List Int := (P.take i).flatMap (List.map fun x => x.1)
theorem nmA_step {P : List (List Wk)} {i : Nat} {h : List Wk} (e : P[i]? = some h) : nmA P (i + 1) = nmA P i ++ h.map (·.1) := flat_step _ e
theorem nmA_end (P : List (List Wk)) : nmA P P.length = nmsP P := by unfold nmA; rw [List.take_length, nms_flat]
theorem nmA_len (P : List (List Wk)) (i : Nat) : (nmA P i).length ≤ (nmsP P).length := by
  have := flat_take_le P (List.map fun x : Wk => x.1) i
  rw [nms_flat P] at this
  exact this
def InvN (P : List (List Wk)) (i : Nat) (ρ : List Sl) : Prop := ∃ s2 s3 s4, ρ = [.val (ptD P), .val (.list ((nmA P i).map .int)), s2, s3, s4]
theorem l_names_run {P : List (List Wk)} (h : PtOk P) {Q : D → Prop} {X : Exc → Prop} (q : Q (.list ((wsP P).map .int))) : (f_l_names [.d (ptD P)]).run Q X := by
  have h5 := h.lenW
  have h3 := h.h3
  unfold f_l_names
  simp [b_l_names, -dT_cons]
  refine stp ?_
  simp [-dT_cons]
  refine stp ?_
  simp [-dT_cons]
  intro _
  refine forD_enc (enc := hdD) (InvN P) ⟨_, _, _, rfl⟩ ?_ ?_
  · rintro i hd ρ e1 ⟨s2, s3, s4, rfl⟩
    have hl := Nat.le_trans (hand_le (List.mem_of_getElem? e1)) h5
    have hn := nmA_len P (i + 1)
    rw [nmA_step e1, List.length_append, List.length_map] at hn
    have h5' := h.len
    simp [-dT_cons]
    refine stp ?_
    simp [-dT_cons]
    intro _
    refine ⟨line7 (by omega), ?_⟩
    refine lcD_mp (enc := wkD) (enc' := PyData.int) (fun x : Wk => x.1) (fun x hx R' hR => ?_) ?_
    · simp [turnB, wipeR]
      exact hR
    refine ⟨line7 (by simp; omega), ?_⟩
    rw [← List.map_append, ← nmA_step e1]
    exact ⟨_, _, _, rfl⟩
  · rintro ρ ⟨s2, s3, s4, rfl⟩
    rw [nmA_end]
    simp
    exact q
def InvD1 (P : List (List Wk)) (w : Int) (i : Nat) (ρ : List Sl) : Prop := ((P.take i).flatMap id).filter (filW w) = [] ∧ ∃ s2 s3 s4, ρ = [.val (ptD P), .val (.int w), s2, s3, s4]
def InvD2 (P : List (List Wk)) (w : Int) (i : Nat) (hd : List Wk) (j : Nat) (ρ : List Sl) : Prop := (((P.take i).flatMap id) ++ hd.take j).filter (filW w) = [] ∧ ∃ s2 s3 s4, ρ = [.val (ptD P), .val (.int w), s2, s3, s4]
theorem l_deeds_run {P : List (List Wk)} (h : PtOk P) {w : Int} {Q : D → Prop} {X : Exc → Prop} (q : Q (.tuple ((dsP P w).map enc))) : (f_l_deeds [.d (ptD P), .d (.int w)]).run Q X := by
  have h5 := h.lenW
  have h3 := h.h3
  unfold f_l_deeds
  simp [b_l_deeds, -dT_cons]
  refine stp ?_
  simp [-dT_cons]
  intro _
  refine forD_enc (enc := hdD) (InvD1 P w) ⟨rfl, _, _, _, rfl⟩ ?_ ?_
  · rintro i hd ρ e1 ⟨hf, s2, s3, s4, rfl⟩
    simp [-dT_cons]
    refine stp ?_
    simp [-dT_cons]
    intro _
    refine forD_enc (enc := wkD) (InvD2 P w i hd) ⟨by simpa using hf, _, _, _, rfl⟩ ?_ ?_
    · rintro j x ρ e2 ⟨hf2, s2, s3, s4, rfl⟩
      simp [-dT_cons]
      by_cases c : x.1 = w
      · refine ife_then ?_ ?_
        · simp [c]
        have e : allW P = ((P.take i).flatMap id ++ hd.take j) ++ x :: (hd.drop (j + 1) ++ (P.drop (i + 1)).flatMap id) := by
          obtain ⟨hi, e1'⟩ := List.getElem?_eq_some_iff.mp e1
          obtain ⟨hj, e2'⟩ := List.getElem?_eq_some_iff.mp e2
          have a : P = P.take i ++ hd :: P.drop (i + 1) := by rw [← e1', ← List.drop_eq_getElem_cons hi, List.take_append_drop]
          have b : hd = hd.take j ++ x :: hd.drop (j + 1) := by rw [← e2', ← List.drop_eq_getElem_cons hj, List.take_append_drop]
          unfold allW
          conv => lhs; rw [a]
          rw [List.flatMap_append, List.flatMap_cons]
          simp only [id]
          conv => lhs; rw [b]
          simp
        have ed : dsP P w = x.2 := by
          unfold dsP
          rw [e, List.filter_append, hf2, List.nil_append, List.filter_cons_of_pos (by simp [filW, c])]
          rfl
        rw [ed] at q
        simp
        exact q
      · refine ife_no ?_ ?_
        · simp [c]
        refine ⟨?_, _, _, _, rfl⟩
        rw [List.take_add_one, e2]
        rw [List.filter_append] at hf2 ⊢
        rw [List.filter_append]
        obtain ⟨z1, z2⟩ := List.append_eq_nil_iff.mp hf2
        rw [z1, z2]
        simp [filW, c]
    · rintro ρ ⟨hf2, s2, s3, s4, rfl⟩
      refine ⟨?_, _, _, _, rfl⟩
      rw [List.take_length] at hf2
      rw [flat_step _ e1]
      exact hf2
  · rintro ρ ⟨hf, s2, s3, s4, rfl⟩
    have ed : dsP P w = [] := by
      unfold dsP allW
      rw [List.take_length] at hf
      rw [hf]
      rfl
    rw [ed] at q
    simp
    exact q
/-! ### reads from others -/
abbrev R4 := Int × Int × Int × Int
abbrev r4D (p : R4) : D := .tuple [.int p.1, .int p.2.1, .int p.2.2.1, .int p.2.2.2]
def outI (ds : List Dd) (w : Int) (i : Nat) : Option R4 := match ds[i]? with
  | some (.rd _ k v n) => if v = w then none else some ((i : Int), k, v, n)
  | _ => none
def outP (ds : List Dd) (w : Int) : List R4 := (List.range ds.length).filterMap (outI ds w)
theorem outP_len (ds : List Dd) (w : Int) : (outP ds w).length ≤ ds.length := by
  unfold outP
  have := List.length_filterMap_le (outI ds w) (List.range ds.length)
  rwa [List.length_range] at this
theorem sl2 {w k v n : Int} {Q : D → Prop} {X : Exc → Prop} (q : Q (.tuple [.int k, .int v, .int n])) : (slD (enc (.rd w k v n)) (some 2) none).run Q X := by
  have h := cut_drop [.str sRd, .int w, .int k, .int v, .int n] 2
  show (W.ret (PyData.tuple (Ev.cutD [PyData.str sRd, PyData.int w, PyData.int k, PyData.int v, PyData.int n] (some ((2 : Nat) : Int)) none))).run Q X
  rw [h]
  exact q
theorem outer_run {P : List (List Wk)} (h : PtOk P) {w : Int} (hw : w ∈ nmsP P) {Q : D → Prop} {X : Exc → Prop} (q : Q (.list ((outP (dsP P w) w).map r4D))) : (f_outer [.d (ptD P), .d (.int w)]).run Q X := by
  unfold f_outer
  simp [b_outer, -dT_cons]
  refine stp ?_
  simp [-dT_cons]
  refine deeds_in_run h hw ?_
  have hl : (dsP P w).length ≤ 3 := by
    obtain ⟨x, r, _, hx, _, e⟩ := dsP_at hw
    rw [e]
    exact (h.ds x hx).1
  generalize dsP P w = ds at hl q
  simp
  intro _
  refine ⟨inR_small (by omega) (by omega), by rw [upto_len]; exact line8 (by omega), ?_⟩
  refine lcD_upto (fun i => (outI ds w i).map r4D) (fun i hi R' hR => ?_) ?_
  · have e1 : ds[i]? = some ds[i] := List.getElem?_eq_getElem hi
    unfold outI at hR
    rw [e1] at hR
    generalize ds[i] = d at e1 hR
    simp [turnB, asgT, wipeR]
    refine row_at e1 ?_
    cases d with
    | rd w' k v n =>
      simp [isRd]
      refine row_at e1 ?_
      simp
      by_cases e : v = w
      · simpa [e] using hR
      · rw [if_neg e]
        refine ⟨l1, row_at e1 (sl2 ?_)⟩
        simp
        simp [e] at hR
        exact ⟨l4, hR⟩
    | _ => simpa [isRd] using hR
  · rw [List.nil_append, ← List.map_filterMap]
    exact q
end K16

namespace K16
open PySem PySem.Spec PyProof.Rows L2 Ev EvR
/-! ### pairs of one hand -/
def hpK (l : List Int) (k : Nat) : List Pr := (List.range k).map fun j => (l.getD j 0, l.getD k 0)
def hpL (l : List Int) : List Pr := (List.range l.length).flatMap (hpK l)
def nmH (h : List Wk) : List Int := h.map (·.1)
def hps (P : List (List Wk)) : List Pr := P.flatMap fun h => hpL (nmH h)
theorem hpK_len (l : List Int) (k : Nat) : (hpK l k).length = k := by simp [hpK]
theorem hpL_len (l : List Int) : (hpL l).length ≤ l.length * l.length := by
  have gen : ∀ m : List Nat, (∀ k ∈ m, k ≤ l.length) → (m.flatMap (hpK l)).length ≤ m.length * l.length := by
    intro m
    induction m with
    | nil => simp
    | cons k m ih =>
      intro h
      have h1 := h k List.mem_cons_self
      have h2 := ih fun x hx => h x (List.mem_cons_of_mem _ hx)
      rw [List.flatMap_cons, List.length_append, List.length_cons, Nat.succ_mul, hpK_len]
      omega
  have := gen (List.range l.length) fun k hk => Nat.le_of_lt (List.mem_range.mp hk)
  rwa [List.length_range] at this
theorem hpL_mem {l : List Int} {p : Pr} : p ∈ hpL l ↔ ∃ j k, j < k ∧ k < l.length ∧ p = (l.getD j 0, l.getD k 0) := by
  unfold hpL hpK
  simp only [List.mem_flatMap, List.mem_map, List.mem_range]
  constructor
  · rintro ⟨k, hk, j, hj, rfl⟩; exact ⟨j, k, hj, hk, rfl⟩
  · rintro ⟨j, k, hj, hk, rfl⟩; exact ⟨k, hk, j, hj, rfl⟩
theorem getD_mem {l : List Int} {j : Nat} (h : j < l.length) : l.getD j 0 ∈ l := by
  rw [List.getD_eq_getElem?_getD, List.getElem?_eq_getElem h]
  exact List.getElem_mem h
theorem getD_inj {l : List Int} (nd : l.Nodup) {i j : Nat} (hi : i < l.length) (hj : j < l.length) (e : l.getD i 0 = l.getD j 0) : i = j := by
  rw [List.getD_eq_getElem?_getD, List.getD_eq_getElem?_getD, List.getElem?_eq_getElem hi, List.getElem?_eq_getElem hj] at e
  exact (List.getElem_inj nd).mp e
theorem hpL_nodup {l : List Int} (nd : l.Nodup) : (hpL l).Nodup := by
  unfold hpL
  refine List.pairwise_flatMap.mpr ⟨fun k hk => ?_, ?_⟩
  · have hk := List.mem_range.mp hk
    unfold hpK
    refine List.Pairwise.map _ ?_ (List.Pairwise.and_mem.mp (List.nodup_range (n := k)))
    rintro a b ⟨ha, hb, hne⟩ he
    have ha := List.mem_range.mp ha
    have hb := List.mem_range.mp hb
    exact hne (getD_inj nd (by omega) (by omega) (Prod.ext_iff.mp he).1)
  · refine List.Pairwise.imp ?_ (List.Pairwise.and_mem.mp (List.nodup_range (n := l.length)))
    rintro a b ⟨ha, hb, hne⟩ x hx y hy he
    have ha := List.mem_range.mp ha
    have hb := List.mem_range.mp hb
    obtain ⟨j1, _, rfl⟩ := List.mem_map.mp hx
    obtain ⟨j2, _, rfl⟩ := List.mem_map.mp hy
    exact hne (getD_inj nd ha hb (Prod.ext_iff.mp he).2)
theorem PtOk.hands {P : List (List Wk)} (h : PtOk P) : (∀ hd ∈ P, (nmH hd).Nodup) ∧ P.Pairwise fun a b => ∀ x ∈ nmH a, ∀ y ∈ nmH b, x ≠ y := by
  have nd := h.nd
  rw [← nms_flat] at nd
  exact List.pairwise_flatMap.mp nd
theorem hps_nodup {P : List (List Wk)} (h : PtOk P) : (hps P).Nodup := by
  obtain ⟨h1, h2⟩ := h.hands
  unfold hps
  refine List.pairwise_flatMap.mpr ⟨fun hd hh => hpL_nodup (h1 hd hh), ?_⟩
  refine h2.imp ?_
  intro a b hab x hx y hy he
  obtain ⟨j, k, hj, hk, rfl⟩ := hpL_mem.mp hx
  obtain ⟨j', k', hj', hk', rfl⟩ := hpL_mem.mp hy
  exact hab _ (getD_mem (by omega)) _ (getD_mem (by omega)) (Prod.ext_iff.mp he).1
theorem nmH_len (h : List Wk) : (nmH h).length = h.length := by simp [nmH]
theorem nmH_at {h : List Wk} {i : Nat} {x : Wk} (e : h[i]? = some x) : (nmH h).getD i 0 = x.1 := by
  unfold nmH
  rw [List.getD_eq_getElem?_getD, List.getElem?_map, e]
  rfl
theorem hps_mem {P : List (List Wk)} {p : Pr} (hp : p ∈ hps P) : p.1 ∈ nmsP P ∧ p.2 ∈ nmsP P := by
  obtain ⟨hd, hh, h1⟩ := List.mem_flatMap.mp hp
  obtain ⟨j, k, hj, hk, rfl⟩ := hpL_mem.mp h1
  have gen : ∀ x ∈ nmH hd, x ∈ nmsP P := fun x hx => by
    obtain ⟨w, hw, rfl⟩ := List.mem_map.mp hx
    exact List.mem_map_of_mem (mem_allW hh hw)
  exact ⟨gen _ (getD_mem (by omega)), gen _ (getD_mem (by omega))⟩
theorem hd_at {hd : List Wk} {j : Nat} {x : Wk} (e : hd[j]? = some x) {Q : D → Prop} {X : Exc → Prop} (q : Q (wkD x)) : (ixD (hdD hd) (.int (j : Int))).run Q X :=
  ix_t (Ev.atI_nat (by rw [List.getElem?_map, e]; rfl)) q
def hpA (P : List (List Wk)) (i : Nat) : List Pr := (P.take i).flatMap fun h => hpL (nmH h)
theorem hpA_step {P : List (List Wk)} {i : Nat} {h : List Wk} (e : P[i]? = some h) : hpA P (i + 1) = hpA P i ++ hpL (nmH h) := flat_step _ e
theorem hpA_end (P : List (List Wk)) : hpA P P.length = hps P := by unfold hpA; rw [List.take_length]; rfl
theorem hps_len {P : List (List Wk)} (h : PtOk P) : (hps P).length ≤ 25 := by
  have : Over2 (wsP P) (wsP P) (hps P) := fun p hp => by
    obtain ⟨h1, h2⟩ := hps_mem hp
    exact ⟨srtI_mem.mpr h1, srtI_mem.mpr h2⟩
  have := over2_len this (hps_nodup h)
  have h5 := h.len
  have e : (wsP P).length = (nmsP P).length := srtI_len _
  have := Nat.mul_le_mul (show (wsP P).length ≤ 5 by omega) (show (wsP P).length ≤ 5 by omega)
  omega
theorem hpA_len {P : List (List Wk)} (h : PtOk P) (i : Nat) : (hpA P i).length ≤ 25 := by
  have := flat_take_le P (fun h => hpL (nmH h)) i
  have h2 := hps_len h
  unfold hps at h2
  unfold hpA
  omega
def InvH (P : List (List Wk)) (i : Nat) (ρ : List Sl) : Prop := ∃ s2 s3 s4, ρ = [.val (ptD P), .own ((hpA P i).map pD), s2, s3, s4]
theorem hand_pairs_run {P : List (List Wk)} (h : PtOk P) {Q : D → Prop} {X : Exc → Prop} (q : Q (.list ((upr (hps P)).map pD))) : (f_hand_pairs [.d (ptD P)]).run Q X := by
  have h5 := h.lenW
  have h3 := h.h3
  unfold f_hand_pairs
  simp [b_hand_pairs, -dT_cons]
  refine stp ?_
  simp [-dT_cons]
  refine stp ?_
  simp [-dT_cons]
  intro _
  refine forD_enc (enc := hdD) (InvH P) ⟨_, _, _, rfl⟩ ?_ ?_
  · rintro i hd ρ e1 ⟨s2, s3, s4, rfl⟩
    have hl := Nat.le_trans (hand_le (List.mem_of_getElem? e1)) h5
    have hA := hpA_len h i
    simp [-dT_cons]
    refine stp ?_
    simp [-dT_cons]
    unfold lc2W
    simp [-dT_cons]
    intro _
    refine ⟨inR_small (by omega) (by omega), ?_⟩
    rw [upto_eq]
    refine fold_out (enc := fun (k : Nat) => PyData.int (0 + k)) (fun k => (hpK (nmH hd) k).map pD) 5 100000 (by simp; omega) (fun k hk => ?_) (fun k hk acc hacc R' hR => ?_) ?_
    · rw [List.length_map, hpK_len]
      have := List.mem_range.mp hk
      omega
    · have hk' := List.mem_range.mp hk
      obtain ⟨y, e2⟩ : ∃ y, hd[k]? = some y := ⟨_, List.getElem?_eq_getElem hk'⟩
      simp [lc2Out, wipeR]
      refine ⟨inR_small (by omega) (by omega), ?_⟩
      rw [upto_eq]
      refine fold_mp (enc := fun (j : Nat) => PyData.int (0 + j)) (enc' := pD) (fun j => ((nmH hd).getD j 0, (nmH hd).getD k 0)) 100000 (by simp; omega) (fun j hj acc2 hacc2 R2 h1 => ?_) ?_
      · have hj' := List.mem_range.mp hj
        obtain ⟨x, e3⟩ : ∃ x, hd[j]? = some x := ⟨_, List.getElem?_eq_getElem (by omega)⟩
        rw [nmH_at e3, nmH_at e2] at h1
        simp [lc2In, wipeR]
        refine hd_at e3 ?_
        simp
        refine hd_at e2 ?_
        simp
        exact ⟨l2, line6 (by omega), h1⟩
      exact hR
    · have eh : ((List.range hd.length).flatMap fun k => (hpK (nmH hd) k).map pD) = (hpL (nmH hd)).map pD := by
        unfold hpL
        rw [List.map_flatMap, nmH_len]
      rw [List.nil_append, eh]
      have := hpA_len h (i + 1)
      rw [hpA_step e1, List.length_append] at this
      refine ⟨line7 (by rw [List.length_map]; omega), ?_⟩
      rw [← List.map_append, ← hpA_step e1]
      exact ⟨_, _, _, rfl⟩
  · rintro ρ ⟨s2, s3, s4, rfl⟩
    rw [hpA_end]
    simp
    exact srt_pr (hps_nodup h) q
def InvH1 (P : List (List Wk)) (i : Nat) (ρ : List Sl) : Prop := ∃ s2 s3 s4, ρ = [.val (ptD P), .val (.list ((hpA P i).map pD)), s2, s3, s4]
def hpT (P : List (List Wk)) (i : Nat) (l : List Int) (k : Nat) : List Pr := hpA P i ++ (List.range k).flatMap (hpK l)
theorem hpT_step (P : List (List Wk)) (i : Nat) (l : List Int) (k : Nat) : hpT P i l k ++ hpK l k = hpT P i l (k + 1) := by
  unfold hpT
  rw [List.range_succ, List.flatMap_append, List.append_assoc]
  simp
def InvH2 (P : List (List Wk)) (i : Nat) (hd : List Wk) (k : Nat) (ρ : List Sl) : Prop := ∃ s3 s4, ρ = [.val (ptD P), .val (.list ((hpT P i (nmH hd) k).map pD)), .val (hdD hd), s3, s4]
theorem l_hand_pairs_run {P : List (List Wk)} (h : PtOk P) {Q : D → Prop} {X : Exc → Prop} (q : Q (.list ((upr (hps P)).map pD))) : (f_l_hand_pairs [.d (ptD P)]).run Q X := by
  have h5 := h.lenW
  have h3 := h.h3
  unfold f_l_hand_pairs
  simp [b_l_hand_pairs, -dT_cons]
  refine stp ?_
  simp [-dT_cons]
  refine stp ?_
  simp [-dT_cons]
  intro _
  refine forD_enc (enc := hdD) (InvH1 P) ⟨_, _, _, rfl⟩ ?_ ?_
  · rintro i hd ρ e1 ⟨s2, s3, s4, rfl⟩
    have hl := Nat.le_trans (hand_le (List.mem_of_getElem? e1)) h5
    have hA := hpA_len h (i + 1)
    rw [hpA_step e1, List.length_append] at hA
    simp [-dT_cons]
    refine stp ?_
    simp [-dT_cons]
    intro _
    refine ⟨inR_small (by omega) (by omega), ?_⟩
    refine forD_upto (InvH2 P i hd) ⟨s3, s4, by simp [hpT]⟩ ?_ ?_
    · rintro k ρ hk ⟨s3, s4, rfl⟩
      obtain ⟨y, e2⟩ : ∃ y, hd[k]? = some y := ⟨_, List.getElem?_eq_getElem hk⟩
      have hT : (hpT P i (nmH hd) (k + 1)).length ≤ 25 := by
        unfold hpT
        have : ((List.range (k + 1)).flatMap (hpK (nmH hd))).length ≤ (hpL (nmH hd)).length := by
          have := flat_take_le (List.range (nmH hd).length) (hpK (nmH hd)) (k + 1)
          rw [List.take_range, nmH_len, Nat.min_eq_left (by omega)] at this
          unfold hpL
          rw [nmH_len]
          exact this
        rw [List.length_append]
        omega
      rw [← hpT_step, List.length_append] at hT
      simp [-dT_cons]
      refine stp ?_
      simp [-dT_cons]
      refine ⟨inR_small (by omega) (by omega), by rw [upto_len]; exact line8 (by omega), ?_⟩
      refine lcD_upto (fun j => some (pD ((nmH hd).getD j 0, (nmH hd).getD k 0))) (fun j hj R' hR => ?_) ?_
      · obtain ⟨x, e3⟩ : ∃ x, hd[j]? = some x := ⟨_, List.getElem?_eq_getElem (by omega)⟩
        rw [nmH_at e3, nmH_at e2] at hR
        simp [turnB, asgT, wipeR]
        refine hd_at e3 ?_
        simp
        refine hd_at e2 ?_
        simp
        exact ⟨l2, hR⟩
      · have e4 : (List.range k).filterMap (fun j => some (pD ((nmH hd).getD j 0, (nmH hd).getD k 0))) = (hpK (nmH hd) k).map pD := by
          unfold hpK
          rw [List.map_map, ← List.filterMap_eq_map]
          rfl
        rw [List.nil_append, e4]
        refine ⟨line7 (by rw [List.length_map]; omega), ?_⟩
        rw [← List.map_append, hpT_step]
        exact ⟨_, _, rfl⟩
    · rintro ρ ⟨s3, s4, rfl⟩
      have e5 : hpT P i (nmH hd) hd.length = hpA P (i + 1) := by
        rw [hpA_step e1]
        unfold hpT hpL
        rw [nmH_len]
      rw [e5]
      exact ⟨_, _, _, rfl⟩
  · rintro ρ ⟨s2, s3, s4, rfl⟩
    rw [hpA_end]
    simp
    exact srt_pr (hps_nodup h) q
end K16

namespace K16
open PySem PySem.Spec PyProof.Rows L2 Ev EvR
/-! ### who read from whom -/
def outW (P : List (List Wk)) (w : Int) : List R4 := outP (dsP P w) w
def wrP (r : R4) : Bool := decide (0 < r.2.2.1)
def rpA (P : List (List Wk)) (w : Int) : List Pr := ((outW P w).filter wrP).map fun r => (r.2.2.1, w)
def rps (P : List (List Wk)) : List Pr := (wsP P).flatMap (rpA P)
theorem wsP_mem {P : List (List Wk)} {w : Int} : w ∈ wsP P ↔ w ∈ nmsP P := srtI_mem
theorem wsP_len {P : List (List Wk)} (h : PtOk P) : (wsP P).length ≤ 5 := by
  have := h.len
  unfold wsP
  rwa [srtI_len]
theorem dsP_ok {P : List (List Wk)} (h : PtOk P) {w : Int} (hw : w ∈ nmsP P) : (dsP P w).length ≤ 3 ∧ ∀ d ∈ dsP P w, isRW d = true ∧ wk d = w ∧ (0 ≤ kof d ∧ kof d < 4) ∧ (isRd d = true → vof d = 0 ∨ vof d ∈ nmsP P) := by
  obtain ⟨x, r, _, hx, e1, e⟩ := dsP_at hw
  rw [e, ← e1]
  exact h.ds x hx
theorem outW_len {P : List (List Wk)} (h : PtOk P) {w : Int} (hw : w ∈ nmsP P) : (outW P w).length ≤ 3 := Nat.le_trans (outP_len _ _) (dsP_ok h hw).1
theorem outP_mem {ds : List Dd} {w : Int} {r : R4} (hr : r ∈ outP ds w) : ∃ (i : Nat) (w' : Int), ds[i]? = some (.rd w' r.2.1 r.2.2.1 r.2.2.2) ∧ r.1 = (i : Int) ∧ r.2.2.1 ≠ w := by
  obtain ⟨i, hi, e⟩ := List.mem_filterMap.mp hr
  unfold outI at e
  split at e
  · rename_i w' k v n e2
    split at e
    · cases e
    · rename_i hv
      cases e
      exact ⟨i, w', e2, rfl, hv⟩
  · cases e
theorem outW_ok {P : List (List Wk)} (h : PtOk P) {w : Int} (hw : w ∈ nmsP P) {r : R4} (hr : r ∈ outW P w) : (0 ≤ r.2.1 ∧ r.2.1 < 4) ∧ (r.2.2.1 = 0 ∨ r.2.2.1 ∈ nmsP P) ∧ r.2.2.1 ≠ w := by
  obtain ⟨i, w', e1, _, e3⟩ := outP_mem hr
  have hd := (dsP_ok h hw).2 _ (List.mem_of_getElem? e1)
  exact ⟨hd.2.2.1, hd.2.2.2 rfl, e3⟩
theorem PtOk.pos {P : List (List Wk)} (h : PtOk P) : (0 : Int) ∉ nmsP P := fun hz => by
  have := h.rg 0 hz
  omega
theorem rps_mem {P : List (List Wk)} (h : PtOk P) {p : Pr} (hp : p ∈ rps P) : p.1 ∈ nmsP P ∧ p.2 ∈ nmsP P := by
  obtain ⟨w, hw, h1⟩ := List.mem_flatMap.mp hp
  obtain ⟨r, hr, rfl⟩ := List.mem_map.mp h1
  obtain ⟨h2, h3⟩ := List.mem_filter.mp hr
  have hw := wsP_mem.mp hw
  have := (outW_ok h hw h2).2.1
  unfold wrP at h3
  have h3 := of_decide_eq_true h3
  exact ⟨this.resolve_left (by omega), hw⟩
theorem rpA_len {P : List (List Wk)} (h : PtOk P) {w : Int} (hw : w ∈ nmsP P) : (rpA P w).length ≤ 3 := by
  unfold rpA
  rw [List.length_map]
  exact Nat.le_trans (List.length_filter_le _ _) (outW_len h hw)
theorem flat_le {α β : Type} {f : α → List β} (c : Nat) : ∀ {l : List α}, (∀ x ∈ l, (f x).length ≤ c) → (l.flatMap f).length ≤ l.length * c
  | [], _ => by simp
  | x :: l, h => by
    rw [List.flatMap_cons, List.length_append, List.length_cons, Nat.succ_mul]
    have := h x List.mem_cons_self
    have := flat_le c (l := l) fun y hy => h y (List.mem_cons_of_mem _ hy)
    omega
theorem rps_len {P : List (List Wk)} (h : PtOk P) : (rps P).length ≤ 15 := by
  have := flat_le 3 (l := wsP P) (f := rpA P) fun w hw => rpA_len h (wsP_mem.mp hw)
  have h5 := wsP_len h
  unfold rps
  omega
def rqA (P : List (List Wk)) (i : Nat) : List Pr := ((wsP P).take i).flatMap (rpA P)
theorem rqA_step {P : List (List Wk)} {i : Nat} {w : Int} (e : (wsP P)[i]? = some w) : rqA P (i + 1) = rqA P i ++ rpA P w := flat_step _ e
theorem rqA_end (P : List (List Wk)) : rqA P (wsP P).length = rps P := by unfold rqA; rw [List.take_length]; rfl
theorem rqA_len {P : List (List Wk)} (h : PtOk P) (i : Nat) : (rqA P i).length ≤ 15 := by
  have := flat_take_le (wsP P) (rpA P) i
  have h2 := rps_len h
  unfold rps at h2
  unfold rqA
  omega
theorem over_ws {P : List (List Wk)} {E : List Pr} (h : ∀ p ∈ E, p.1 ∈ nmsP P ∧ p.2 ∈ nmsP P) : Over2 (wsP P) (wsP P) E := fun p hp => ⟨wsP_mem.mpr (h p hp).1, wsP_mem.mpr (h p hp).2⟩
theorem ws_sq {P : List (List Wk)} (h : PtOk P) : (wsP P).length * (wsP P).length ≤ 25 := by
  have h5 := wsP_len h
  exact Nat.mul_le_mul h5 h5
theorem upr_rps {P : List (List Wk)} (h : PtOk P) : (upr (rps P)).length < 64 := by
  have := over2_upr (over_ws fun p hp => rps_mem h hp)
  have := ws_sq h
  omega
def InvR1 (P : List (List Wk)) (i : Nat) (ρ : List Sl) : Prop := ∃ s2 s3 s4, ρ = [.val (ptD P), .own ((rqA P i).map pD), s2, s3, s4]
theorem read_pairs_run {P : List (List Wk)} (h : PtOk P) {Q : D → Prop} {X : Exc → Prop} (q : Q (.list ((upr (rps P)).map pD))) : (f_read_pairs [.d (ptD P)]).run Q X := by
  unfold f_read_pairs
  simp [b_read_pairs, -dT_cons]
  refine stp ?_
  simp [-dT_cons]
  refine stp ?_
  simp [-dT_cons]
  refine works_in_run h ?_
  simp [-dT_cons]
  intro _
  refine forD_enc (enc := PyData.int) (InvR1 P) ⟨_, _, _, rfl⟩ ?_ ?_
  · rintro i w ρ e1 ⟨s2, s3, s4, rfl⟩
    have hw := wsP_mem.mp (List.mem_of_getElem? e1)
    have hA := rqA_len h (i + 1)
    rw [rqA_step e1, List.length_append] at hA
    have ho := outW_len h hw
    simp [-dT_cons]
    refine stp ?_
    simp [-dT_cons]
    refine outer_run h hw ?_
    simp [-dT_cons]
    intro _
    have ho' : (outP (dsP P w) w).length ≤ 3 := ho
    refine ⟨line7 (by omega), ?_⟩
    refine lcD_fm (enc := r4D) (enc' := pD) wrP (fun r : R4 => (r.2.2.1, w)) (fun r hr R' h1 h0 => ?_) ?_
    · simp [turnB, wipeR]
      by_cases e : 0 < r.2.2.1
      · simpa [e, l2] using h1 (by simp [wrP, e])
      · simpa [e] using h0 (by simp [wrP, e])
    refine ⟨line7 (by rw [List.length_map]; exact Nat.le_trans hA (by omega)), ?_⟩
    rw [← List.map_append]
    show InvR1 P (i + 1) [_, .own ((rqA P i ++ rpA P w).map pD), _, _, _]
    rw [← rqA_step e1]
    exact ⟨_, _, _, rfl⟩
  · rintro ρ ⟨s2, s3, s4, rfl⟩
    rw [rqA_end]
    simp
    exact srtS_pr (upr_rps h) q
def InvR2 (P : List (List Wk)) (i : Nat) (ρ : List Sl) : Prop := ∃ s2 s3 s4 s5 s6, ρ = [.val (ptD P), .val (.list ((rqA P i).map pD)), s2, s3, s4, s5, s6]
/-! ### plain parts -/
def okR (P : List (List Wk)) (r : R4) : Bool := !(decide (0 < r.2.2.1) && !decide (r.2.2.2 = (cntK (dsP P r.2.2.1) r.2.1 : Int)))
def okW (P : List (List Wk)) (w : Int) : Bool := (outW P w).all (okR P)
def plP (P : List (List Wk)) : Bool := (wsP P).all (okW P)
theorem all_bad {α : Type} {l : List α} {p : α → Bool} {x : α} (h : x ∈ l) (hp : p x = false) : l.all p = false := by
  rw [List.all_eq_false]
  exact ⟨x, h, by simp [hp]⟩
theorem all_step {α : Type} {l : List α} {p : α → Bool} {i : Nat} {x : α} (e : l[i]? = some x) : (l.take (i + 1)).all p = ((l.take i).all p && p x) := by
  rw [List.take_add_one, e]
  simp
def InvP1 (P : List (List Wk)) (i : Nat) (ρ : List Sl) : Prop := ((wsP P).take i).all (okW P) = true ∧ ∃ s1 s2 s3 s4 s5, ρ = [.val (ptD P), s1, s2, s3, s4, s5]
def InvP2 (P : List (List Wk)) (w : Int) (j : Nat) (ρ : List Sl) : Prop := ((outW P w).take j).all (okR P) = true ∧ ∃ s1 s2 s3 s4 s5, ρ = [.val (ptD P), s1, s2, s3, s4, s5]
theorem is_plain_run {P : List (List Wk)} (h : PtOk P) {Q : D → Prop} {X : Exc → Prop} (q : Q (.bool (plP P))) : (f_is_plain [.d (ptD P)]).run Q X := by
  unfold f_is_plain
  simp [b_is_plain, -dT_cons]
  refine stp ?_
  simp [-dT_cons]
  refine works_in_run h ?_
  simp [-dT_cons]
  intro _
  refine forD_enc (enc := PyData.int) (InvP1 P) ⟨rfl, _, _, _, _, _, rfl⟩ ?_ ?_
  · rintro i w ρ e1 ⟨hA, s1, s2, s3, s4, s5, rfl⟩
    have hwm := List.mem_of_getElem? e1
    have hw := wsP_mem.mp hwm
    have ho := outW_len h hw
    simp [-dT_cons]
    refine stp ?_
    simp [-dT_cons]
    refine outer_run h hw ?_
    simp [-dT_cons]
    intro _
    refine forD_enc (enc := r4D) (InvP2 P w) ⟨rfl, _, _, _, _, _, rfl⟩ ?_ ?_
    · rintro j r ρ e2 ⟨hB, s1, s2, s3, s4, s5, rfl⟩
      have hrm : r ∈ outW P w := List.mem_of_getElem? e2
      have hro := outW_ok h hw hrm
      have st := all_step (p := okR P) e2
      rw [show ((outP (dsP P w) w).take j) = (outW P w).take j from rfl, hB, Bool.true_and] at st
      simp [-dT_cons]
      cases hb : okR P r with
      | true =>
        refine ife_no ?_ ?_
        · simp
          unfold okR at hb
          by_cases c : 0 < r.2.2.1
          · have hv := hro.2.1.resolve_left (by omega)
            rw [if_pos c]
            refine deeds_in_run h hv (writes_in_run (Nat.le_trans (dsP_ok h hv).1 (by omega)) ?_)
            simpa [c] using hb
          · simp [c]
            omega
        rw [hb] at st
        exact ⟨st, _, _, _, _, _, rfl⟩
      | false =>
        refine ife_then ?_ ?_
        · simp
          unfold okR at hb
          by_cases c : 0 < r.2.2.1
          · have hv := hro.2.1.resolve_left (by omega)
            refine ⟨c, ?_⟩
            refine deeds_in_run h hv (writes_in_run (Nat.le_trans (dsP_ok h hv).1 (by omega)) ?_)
            simpa [c] using hb
          · simp [c] at hb
        have e : plP P = false := all_bad hwm (all_bad hrm hb)
        rw [e] at q
        simp
        exact q
    · rintro ρ ⟨hB, s1, s2, s3, s4, s5, rfl⟩
      have st := all_step (p := okW P) e1
      rw [hA, Bool.true_and] at st
      refine ⟨?_, _, _, _, _, _, rfl⟩
      rw [st]
      unfold okW
      rw [show (outP (dsP P w) w).length = (outW P w).length from rfl, List.take_length] at hB
      exact hB
  · rintro ρ ⟨hA, s1, s2, s3, s4, s5, rfl⟩
    rw [List.take_length] at hA
    rw [show plP P = true from hA] at q
    simp
    exact q
/-! ### keys -/
def ksP (P : List (List Wk)) (w : Int) : List Int := (rgI 0 4).filter fun k => decide (0 < cntK (dsP P w) k)
theorem keys_run {P : List (List Wk)} (h : PtOk P) {w : Int} (hw : w ∈ nmsP P) {Q : D → Prop} {X : Exc → Prop} (q : Q (.list ((ksP P w).map .int))) : (f_keys_of [.d (ptD P), .d (.int w)]).run Q X := by
  unfold f_keys_of
  simp [b_keys_of, v_KEYS]
  refine ⟨inR_small (by omega) (by omega), by rw [upto_len]; exact line8 (by omega), ?_⟩
  rw [upto_ints]
  refine lcD_fm (enc := PyData.int) (enc' := PyData.int) (fun k => decide (0 < cntK (dsP P w) k)) id (fun k hk R' h1 h0 => ?_) ?_
  · simp [turnB, asgT, wipeR]
    refine deeds_in_run h hw (writes_in_run (Nat.le_trans (dsP_ok h hw).1 (by omega)) ?_)
    simp
    by_cases e : 0 < cntK (dsP P w) k
    · simpa [e] using h1 (by simp [e])
    · simpa [e] using h0 (by simp [e])
  · rw [List.map_id]
    exact q
theorem writes_key_run {P : List (List Wk)} (h : PtOk P) {w k : Int} (hw : w ∈ nmsP P) {Q : D → Prop} {X : Exc → Prop} (q : Q (.bool (decide (0 < cntK (dsP P w) k)))) : (f_writes_key [.d (ptD P), .d (.int w), .d (.int k)]).run Q X := by
  have hz : w ≠ 0 := by have := h.rg w hw; omega
  unfold f_writes_key
  simp [b_writes_key, hz]
  refine deeds_in_run h hw (writes_in_run (Nat.le_trans (dsP_ok h hw).1 (by omega)) ?_)
  simp
  exact q
theorem ksP_mem {P : List (List Wk)} {w k : Int} : k ∈ ksP P w ↔ (0 ≤ k ∧ k < 4) ∧ 0 < cntK (dsP P w) k := by
  unfold ksP
  rw [List.mem_filter, rgI_mem]
  simp
end K16

namespace K16
open PySem PySem.Spec PyProof.Rows L2 Ev EvR
/-! ### parts as the law draws them -/
/-! ### shuffled -/
theorem dS_appPop {M : Mg} {ρ : List Sl} {f i : Nat} {j : IE} : denS M (.appPop f i j) ρ = appPopS f i (denE M j) ρ := rfl
theorem pop_ok {l : List Int} {v : Nat} (h : v < l.length) (hz : l.length ≤ 1000) : popAtD (l.map .int) (.int (v : Int)) = some (.int (l[v]'h), (l.eraseIdx v).map .int) := by
  unfold popAtD
  have e : seqIndex? (v : Int) (l.map PyData.int).length = some v := by
    unfold seqIndex?
    have : ¬ (v : Int) < 0 := by omega
    simp [this, h]
  have hb : -(2 ^ 63) ≤ (v : Int) ∧ (v : Int) < 2 ^ 63 := by omega
  simp only [if_pos hb, e, Option.bind_some]
  rw [List.getElem?_map, List.getElem?_eq_getElem h]
  simp [List.eraseIdx_eq_take_drop_succ]
theorem erase_perm : ∀ {a : List Int} {n : Nat} (h : n < a.length), (a[n] :: a.eraseIdx n).Perm a
  | x :: a, 0, h => .refl _
  | x :: a, n + 1, h => by
    have := erase_perm (a := a) (n := n) (by simpa using h)
    simp only [List.eraseIdx_cons_succ, List.getElem_cons_succ]
    exact (List.Perm.swap x _ _).trans (this.cons x)
def InvS (l : List Int) (k : Nat) (ρ : List Sl) : Prop := ∃ a b : List Int, ρ = [.pool, .val (.list (l.map .int)), .own (a.map .int), .own (b.map .int)] ∧ (b ++ a).Perm l ∧ b.length = k
theorem shuffled_run {l : List Int} (hz : l.length ≤ 1000) {Q : D → Prop} {X : Exc → Prop} (h : ∀ m : List Int, m.Perm l → Q (.list (m.map .int))) : (f_l_shuffled [.pool, .d (.list (l.map .int))]).run Q X := by
  unfold f_l_shuffled
  simp [b_l_shuffled, -dT_cons]
  refine stp ?_
  simp [-dT_cons]
  refine stp ?_
  simp [-dT_cons]
  refine stp ?_
  simp [-dT_cons]
  refine whileS_run (InvS l) l.length ⟨l, [], rfl, .refl _, rfl⟩ ?_
  rintro k ρ ⟨a, b, rfl, hp, hb⟩
  have hlen : b.length + a.length = l.length := by rw [← hp.length_eq, List.length_append]
  simp [-dT_cons]
  by_cases ha : a = []
  · rw [if_pos ha]
    subst ha
    rw [List.append_nil] at hp
    simp [frzR]
    exact h b hp
  · rw [if_neg ha]
    have hpos : 0 < a.length := List.length_pos_iff.mpr ha
    refine ⟨by omega, ?_⟩
    simp [dS_appPop]
    intro _
    refine ⟨by omega, hpos, fun v h1 h2 => ?_⟩
    obtain ⟨n, rfl⟩ : ∃ n : Nat, v = n := ⟨v.toNat, by omega⟩
    have hn : n < a.length := by omega
    rw [pop_ok hn (by omega)]
    simp
    refine ⟨line6 (by omega), a.eraseIdx n, b ++ [a[n]], by simp, ?_, by simp [hb]⟩
    refine .trans ?_ hp
    rw [List.append_assoc]
    exact (erase_perm hn).append_left b
theorem pick_run {xs : List D} {Q : D → Prop} {X : Exc → Prop} (h0 : 0 < xs.length) (h1 : xs.length < 100000) (h : ∀ d ∈ xs, Q d) : (f_l_pick [.pool, .d (.list xs)]).run Q X := by
  unfold f_l_pick
  simp [b_l_pick]
  refine fun _ => ⟨by omega, by omega, fun v h2 h3 => ?_⟩
  obtain ⟨n, rfl⟩ : ∃ n : Nat, v = n := ⟨v.toNat, by omega⟩
  have hn : n < xs.length := by omega
  exact ix_l (Ev.atI_nat (List.getElem?_eq_getElem hn)) (h _ (List.getElem_mem hn))
abbrev St := Bool × Int
abbrev stD (s : St) : D := .tuple [.str (if s.1 then Str.ofString "write" else Str.ofString "read"), .int s.2]
abbrev plD (l : List St) : D := .list (l.map stD)
def PlOk (l : List St) : Prop := l.length ≤ 3 ∧ ∀ s ∈ l, 0 ≤ s.2 ∧ s.2 < 4
def PlsOk (L : List (List St)) : Prop := ∀ l ∈ L, PlOk l
def DeOk (many : Int) (w : Int) (d : Dd) : Prop := isRW d = true ∧ wk d = w ∧ (0 ≤ kof d ∧ kof d < 4) ∧ (isRd d = true → vof d = 0 ∨ (1 ≤ vof d ∧ vof d ≤ many))
def WkOk (many : Int) (x : Wk) : Prop := x.2.length ≤ 3 ∧ ∀ d ∈ x.2, DeOk many x.1 d
theorem sh_st (s : St) : sh (stD s) = true := by
  obtain ⟨b, k⟩ := s
  cases b <;> rfl
theorem sh_stw (z : Str) (k : Int) : sh (.tuple [.str z, .int k]) = true := rfl
theorem depth_sts (l : List St) : PyData.depthAll (l.map stD) ≤ 1 := by
  induction l with
  | nil => simp [PyData.depthAll]
  | cons a A ih =>
    simp [PyData.depthAll, PyData.depth]
    omega
theorem nd_sts (l : List St) : ndAll (l.map stD) = true := by
  induction l with
  | nil => rfl
  | cons a A ih => simp [ndAll, nd]; exact ih
theorem sh_pl (l : List St) : sh (plD l) = true := by
  have h1 := depth_sts l
  have h2 := nd_sts l
  simp [sh, PyData.depth, h2]
  omega
theorem in_st {n : Bool} {z : Str} {k : Int} {l : List St} {Q : Bool → Prop} {X : Exc → Prop} (h : ∀ b, Q b) : (inD n (.tuple [.str z, .int k]) (plD l)).run Q X := by
  show ((sh (.tuple [.str z, .int k]) = true ∧ sh (plD l) = true) ∧ Q _)
  exact ⟨⟨rfl, sh_pl l⟩, h _⟩
theorem pl_at {L : List (List St)} {i : Nat} (hi : i < L.length) {Q : D → Prop} {X : Exc → Prop} (q : ∀ l ∈ L, Q (plD l)) : (ixD (.list (L.map plD)) (.int (i : Int))).run Q X :=
  ix_l (Ev.atI_nat (d := plD L[i]) (by rw [List.getElem?_map, List.getElem?_eq_getElem hi]; rfl)) (q _ (List.getElem_mem hi))
theorem pl_at1 {L : List (List St)} {w : Int} (h1 : 1 ≤ w) (h2 : w ≤ L.length) {Q : D → Prop} {X : Exc → Prop} (q : ∀ l ∈ L, Q (plD l)) : (ixD (.list (L.map plD)) (.int (w - 1))).run Q X := by
  obtain ⟨i, hi⟩ : ∃ i : Nat, w - 1 = (i : Int) := ⟨(w - 1).toNat, by omega⟩
  rw [hi]
  exact pl_at (by omega) q
theorem EvP_nodup (lo : Int) (n : Nat) : (rgI lo n).Nodup := by
  unfold rgI
  refine List.Pairwise.map _ ?_ (List.nodup_range (n := n))
  intro a b h e
  omega
theorem set_split {P : List (List Wk)} {n : Nat} (hn : n < P.length) (h' : List Wk) : P = P.take n ++ P[n] :: P.drop (n + 1) ∧ P.set n h' = P.take n ++ h' :: P.drop (n + 1) := by
  constructor
  · rw [← List.drop_eq_getElem_cons hn, List.take_append_drop]
  · rw [List.set_eq_take_append_cons_drop, if_pos hn]
theorem nms_app (A B : List (List Wk)) : nmsP (A ++ B) = nmsP A ++ nmsP B := by
  unfold nmsP allW
  rw [List.flatMap_append, List.map_append]
theorem nms_cons (h : List Wk) (B : List (List Wk)) : nmsP (h :: B) = h.map (·.1) ++ nmsP B := by
  unfold nmsP allW
  rw [List.flatMap_cons, List.map_append]
  rfl
theorem set_names {P : List (List Wk)} {n : Nat} (hn : n < P.length) (x : Wk) : (nmsP (P.set n (P[n] ++ [x]))).Perm (nmsP P ++ [x.1]) := by
  obtain ⟨e1, e2⟩ := set_split hn (P[n] ++ [x])
  generalize P[n] = hd at e1 e2
  rw [e2]
  conv => rhs; rw [e1]
  rw [nms_app, nms_app, nms_cons, nms_cons, List.map_append, List.append_assoc, List.append_assoc, List.append_assoc]
  exact ((List.perm_append_comm).append_left _).append_left _
theorem set_all {P : List (List Wk)} {n : Nat} (hn : n < P.length) (x : Wk) {y : Wk} (hy : y ∈ allW (P.set n (P[n] ++ [x]))) : y ∈ allW P ∨ y = x := by
  obtain ⟨h, hh, hy⟩ := List.mem_flatMap.mp hy
  rcases List.mem_or_eq_of_mem_set hh with h1 | rfl
  · exact .inl (List.mem_flatMap.mpr ⟨h, h1, hy⟩)
  · rcases List.mem_append.mp hy with h1 | h1
    · exact .inl (List.mem_flatMap.mpr ⟨_, List.getElem_mem hn, h1⟩)
    · exact .inr (List.mem_singleton.mp h1)
theorem setAt_hd {P : List (List Wk)} {n : Nat} (hn : n < P.length) (h : List Wk) : setAtD (P.map hdD) (.int (n : Int)) (hdD h) = some ((P.set n h).map hdD) := by
  show Option.map (fun j => (P.map hdD).set j (hdD h)) (ixN (P.map hdD).length (n : Int)) = _
  rw [List.length_map, ixN_nat hn]
  simp [List.map_set]
theorem steps_of {keys : Int} : ∀ {ys : List D}, (∀ y ∈ ys, ∃ s : St, y = stD s ∧ 0 ≤ s.2 ∧ s.2 < keys) → ∃ l : List St, ys = l.map stD ∧ ∀ s ∈ l, 0 ≤ s.2 ∧ s.2 < keys
  | [], _ => ⟨[], rfl, fun s h => by cases h⟩
  | y :: ys, h => by
    obtain ⟨s, rfl, h1⟩ := h y List.mem_cons_self
    obtain ⟨l, rfl, h2⟩ := steps_of (ys := ys) fun x hx => h x (List.mem_cons_of_mem _ hx)
    refine ⟨s :: l, rfl, fun x hx => ?_⟩
    rcases List.mem_cons.mp hx with rfl | hx
    · exact h1
    · exact h2 x hx
def InvA1 (most many keys : Int) (i : Nat) (ρ : List Sl) : Prop := ∃ (L : List (List St)) (s5 s6 s7 s8 s9 s10 s11 s12 s13 s14 s15 s16 s17 s18 : Sl), ρ = [.pool, .val (.int most), .val (.int many), .val (.int keys), .own (L.map plD), s5, s6, s7, s8, s9, s10, s11, s12, s13, s14, s15, s16, s17, s18] ∧ L.length = i ∧ PlsOk L
def InvA2 (most many keys : Int) (L : List (List St)) (m : List Int) (i : Nat) (ρ : List Sl) : Prop := ∃ (P : List (List Wk)) (s5 s7 s8 s9 s10 s11 s12 s13 s14 s15 s16 s17 s18 : Sl), ρ = [.pool, .val (.int most), .val (.int many), .val (.int keys), .own (L.map plD), s5, .own (P.map hdD), s7, s8, s9, s10, s11, s12, s13, s14, s15, s16, s17, s18] ∧ P.length = 3 ∧ (nmsP P).Perm (m.take i) ∧ (∀ x ∈ allW P, WkOk many x)
def InvA3 (most many keys : Int) (L : List (List St)) (P : List (List Wk)) (w : Int) (j : Nat) (ρ : List Sl) : Prop := ∃ (ds : List Dd) (s8 s9 s10 s11 s12 s13 s14 s15 s16 s17 s18 : Sl), ρ = [.pool, .val (.int most), .val (.int many), .val (.int keys), .own (L.map plD), .val (.int w), .own (P.map hdD), .val (.tuple (ds.map enc)), s8, s9, s10, s11, s12, s13, s14, s15, s16, s17, s18] ∧ ds.length = j ∧ (∀ d ∈ ds, DeOk many w d)
theorem ints_of {many : Int} : ∀ {ys : List D}, (∀ y ∈ ys, ∃ g : Int, y = .int g ∧ 1 ≤ g ∧ g ≤ many) → ∃ l : List Int, ys = l.map .int ∧ ∀ g ∈ l, 1 ≤ g ∧ g ≤ many
  | [], _ => ⟨[], rfl, fun s h => by cases h⟩
  | y :: ys, h => by
    obtain ⟨s, rfl, h1⟩ := h y List.mem_cons_self
    obtain ⟨l, rfl, h2⟩ := ints_of (ys := ys) fun x hx => h x (List.mem_cons_of_mem _ hx)
    refine ⟨s :: l, rfl, fun x hx => ?_⟩
    rcases List.mem_cons.mp hx with rfl | hx
    · exact h1
    · exact h2 x hx
theorem tail_run {many w : Int} {st : St} {v n : Int} {ds : List Dd} (hw : DeOk many w (if st.1 then Dd.wr w st.2 else .rd w st.2 v n)) (hz : ds.length ≤ 10) {s0 s1 s2 s3 s4 s6 s8 s11 s12 s14 s15 s16 s17 s18 : Sl} {K : Out → Prop} {XX : XS → Prop}
    (q : ∀ d, DeOk many w d → K (.nx [s0, s1, s2, s3, s4, .val (.int w), s6, .val (.tuple ((ds ++ [d]).map enc)), s8, .val (.str (if st.1 then Str.ofString "write" else Str.ofString "read")), .val (.int st.2), s11, s12, .val (.tuple [.int v, .int n]), s14, s15, s16, s17, s18])) :
    (denT m_l_some_parts (IT.cons (IS.set 7 (IE.bin .add (IO.e (IE.v 7)) (IO.e (IE.tup (IL.cons (IE.ife (IC.cmp .eq (IO.e (IE.v 9)) (IO.e (IE.s (Str.ofString "write")))) (IE.tup (IL.cons (IE.s (Str.ofString "write")) (IL.cons (IE.v 5) (IL.cons (IE.v 10) IL.nil)))) (IE.bin .add (IO.e (IE.tup (IL.cons (IE.s (Str.ofString "read")) (IL.cons (IE.v 5) (IL.cons (IE.v 10) IL.nil))))) (IO.e (IE.v 13)))) IL.nil))))) IT.nil)
      [s0, s1, s2, s3, s4, .val (.int w), s6, .val (.tuple (ds.map enc)), s8, .val (.str (if st.1 then Str.ofString "write" else Str.ofString "read")), .val (.int st.2), s11, s12, .val (.tuple [.int v, .int n]), s14, s15, s16, s17, s18]).run K XX := by
  obtain ⟨b, k⟩ := st
  cases b with
  | true =>
    have := q _ hw
    simp at this
    simp
    exact ⟨l3, l1, line7 (by omega), this⟩
  | false =>
    have e : (Str.ofString "read" == Str.ofString "write") = false := by decide +kernel
    have e' : ¬ (Str.ofString "read" = Str.ofString "write") := by decide +kernel
    have := q _ hw
    simp at this
    simp [e, e']
    exact ⟨l3, l5, l1, line7 (by omega), this⟩
theorem some_parts_run {most : Int} (hm : 1 ≤ most ∧ most ≤ 5) {Q : D → Prop} {X : Exc → Prop} (q : ∀ P, PtOk P → Q (ptD P)) : (f_l_some_parts [.pool, .d (.int most)]).run Q X := by
  unfold f_l_some_parts
  simp [b_l_some_parts, -dT_cons]
  refine stp ?_
  simp [-dT_cons]
  refine ⟨by omega, by omega, fun v h1 h2 => ?_⟩
  refine stp ?_
  simp [-dT_cons]
  intro v' h3 h4
  refine stp ?_
  simp [-dT_cons]
  refine stp ?_
  simp [-dT_cons]
  refine ⟨inR2_small (by omega) (by omega) (by omega) (by omega), ?_⟩
  generalize hM : 1 + v = many
  generalize hK : 1 + v' = keys
  refine forD_upto (InvA1 most many keys) ⟨[], _, _, _, _, _, _, _, _, _, _, _, _, _, _, rfl, rfl, fun l hl => (by cases hl)⟩ ?_ ?_
  · rintro i ρ hi ⟨L, s5, s6, s7, s8, s9, s10, s11, s12, s13, s14, s15, s16, s17, s18, rfl, hLl, hL⟩
    simp [-dT_cons]
    refine stp ?_
    simp [-dT_cons]
    intro v'' h5 h6
    refine ⟨inR_small (by omega) (by omega), by rw [upto_len]; exact line8 (by omega), ?_⟩
    refine lcD_any (fun y => ∃ s : St, y = stD s ∧ 0 ≤ s.2 ∧ s.2 < keys) (fun x hx R' _ h1 => ?_) fun ys hl hy => ?_
    · simp [turnB, asgT, wipeR]
      refine ⟨l2, pick_run (by simp) (by simp) fun d hd => ?_⟩
      refine ⟨by omega, by omega, fun v7 h7 h8 => ⟨l2, ?_⟩⟩
      simp at hd
      rcases hd with rfl | rfl
      · exact h1 _ ⟨(false, v7), rfl, h7, h8⟩
      · exact h1 _ ⟨(true, v7), rfl, h7, h8⟩
    · obtain ⟨l, rfl, hl2⟩ := steps_of hy
      rw [upto_len, List.length_map] at hl
      rw [List.nil_append, show L.map plD ++ [PyData.list (l.map stD)] = (L ++ [l]).map plD by simp]
      refine ⟨line6 (by omega), L ++ [l], _, _, _, _, _, _, _, _, _, _, _, _, _, _, rfl, by simp [hLl], ?_⟩
      · intro l' hl'
        rcases List.mem_append.mp hl' with h | h
        · exact hL l' h
        · rw [List.mem_singleton.mp h]
          exact ⟨by omega, fun s hs => by have := hl2 s hs; omega⟩
  · rintro ρ ⟨L, s5, s6, s7, s8, s9, s10, s11, s12, s13, s14, s15, s16, s17, s18, rfl, hLl, hL⟩
    simp [-dT_cons]
    refine stp ?_
    simp [-dT_cons]
    refine ⟨l3, ?_⟩
    refine stp ?_
    simp [-dT_cons]
    refine ⟨by unfold RgOk; omega, ?_⟩
    rw [upto_ints]
    refine shuffled_run (by rw [rgI_len]; omega) fun m hm => ?_
    have em : ∀ w ∈ m, 1 ≤ w ∧ w ≤ many := fun w hw => by
      have := rgI_mem.mp (hm.mem_iff.mp hw)
      omega
    have hLm : (L.length : Int) = many := by omega
    simp [-dT_cons]
    intro _
    refine forD_enc (enc := PyData.int) (InvA2 most many keys L m) ⟨[[], [], []], _, _, _, _, _, _, _, _, _, _, _, _, _, rfl, rfl, .refl _, fun x hx => (by simp [allW] at hx)⟩ ?_ ?_
    · rintro i w ρ e1 ⟨P, s5, s7, s8, s9, s10, s11, s12, s13, s14, s15, s16, s17, s18, rfl, hP3, hPn, hPw⟩
      have hw := em w (List.mem_of_getElem? e1)
      simp [-dT_cons]
      refine stp ?_
      simp [-dT_cons]
      refine stp ?_
      simp [-dT_cons]
      refine pl_at1 hw.1 (by omega) fun l hl => ?_
      have hlo := hL l hl
      have hll := hlo.1
      simp [-dT_cons]
      intro _
      refine forD_enc (enc := stD) (InvA3 most many keys L P w) ⟨[], _, _, _, _, _, _, _, _, _, _, _, rfl, rfl, fun x hx => (by cases hx)⟩ ?_ ?_
      · rintro j st ρ e2 ⟨ds, s8, s9, s10, s11, s12, s13, s14, s15, s16, s17, s18, rfl, hdl, hds⟩
        have hj := (List.getElem?_eq_some_iff.mp e2).1
        have hst := hlo.2 st (List.mem_of_getElem? e2)
        simp [-dT_cons]
        refine stp ?_
        simp [-dT_cons]
        refine l_wrote_run (by omega) ?_
        refine stp ?_
        simp [-dT_cons]
        refine ⟨inR2_small (by omega) (by omega) (by omega) (by omega), by rw [upto_len]; exact line8 (by omega), ?_⟩
        refine lcD_any (fun y => ∃ g : Int, y = .int g ∧ 1 ≤ g ∧ g ≤ many) (fun x hx R' h0 h1 => ?_) fun ys hyl hys => ?_
        · rw [upto_ints] at hx
          obtain ⟨g, hg, rfl⟩ := List.mem_map.mp hx
          have hg := rgI_mem.mp hg
          simp [turnB, asgT, wipeR]
          by_cases c : g = w
          · simpa [c] using h0
          · rw [if_neg c]
            refine ⟨l2, pl_at1 (by omega) (by omega) fun l2' _ => in_st fun b => ?_⟩
            cases b with
            | true => exact h1 _ ⟨g, rfl, by omega, by omega⟩
            | false => exact h0
        rw [List.nil_append]
        rw [upto_len] at hyl
        have fin : ∀ {v n : Int}, (v = 0 ∨ (1 ≤ v ∧ v ≤ many)) → DeOk many w (if st.1 then Dd.wr w st.2 else .rd w st.2 v n) := fun {v n} hv => by
          cases st.1 with
          | true => exact ⟨rfl, rfl, hst, fun h => by cases h⟩
          | false => exact ⟨rfl, rfl, hst, fun _ => hv⟩
        have nxt : ∀ d, DeOk many w d → ∀ x ∈ ds ++ [d], DeOk many w x := fun d hd x hx => by
          rcases List.mem_append.mp hx with h | h
          · exact hds x h
          · rw [List.mem_singleton.mp h]; exact hd
        refine stp ?_
        simp [-dT_cons]
        by_cases c : 0 < cntK ds st.2
        · simp only [if_pos c]
          refine ⟨l2, ?_⟩
          refine ife_no ?_ ?_
          · simp
            have c' : ¬ cntK ds st.2 = 0 := by omega
            simp [c']
          refine tail_run (fin (.inr hw)) (by omega) fun d hd => ?_
          exact ⟨_, _, _, _, _, _, _, _, _, _, _, _, rfl, by simp; omega, nxt d hd⟩
        · simp only [if_neg c]
          refine ⟨l2, ?_⟩
          have c' : cntK ds st.2 = 0 := by omega
          refine stp ?_
          obtain ⟨o, rfl, ho⟩ := ints_of hys
          rw [List.length_map] at hyl
          simp [-dT_cons, c']
          by_cases co : o = []
          · simp only [if_pos co]
            refine tail_run (fin (.inl rfl)) (by omega) fun d hd => ?_
            exact ⟨_, _, _, _, _, _, _, _, _, _, _, _, rfl, by simp; omega, nxt d hd⟩
          · simp only [if_neg co]
            intro v3 h30 h31
            by_cases cv : 0 < v3
            · simp only [if_pos cv]
              refine stp ?_
              simp [-dT_cons]
              have hop : 0 < o.length := List.length_pos_iff.mpr co
              refine pick_run (by simpa using hop) (by simp; omega) fun d hd => ?_
              obtain ⟨g, hg, rfl⟩ := List.mem_map.mp hd
              have hg := ho g hg
              refine stp ?_
              simp [-dT_cons]
              refine pl_at1 (by omega) (by omega) fun l5 hl5 => ?_
              have hl5 := (hL l5 hl5).1
              simp [-dT_cons]
              intro _
              refine ⟨line7 (by omega), ?_⟩
              refine lcD_any (fun y => y = .int 1) (fun x hx R' h0 h1 => ?_) fun zs hzl hzs => ?_
              · obtain ⟨sx, hsx, rfl⟩ := List.mem_map.mp hx
                simp [turnB, asgT, wipeR]
                refine ⟨l2, ⟨sh_st sx, rfl⟩, ?_⟩
                split
                · exact h1 _ rfl
                · exact h0
              intro _
              generalize ([] ++ zs).length = nz
              refine stp ?_
              simp [-dT_cons]
              intro v8 h80 h81
              split
              · refine ⟨l2, tail_run (fin (.inr hg)) (by omega) fun d hd => ?_⟩
                exact ⟨_, _, _, _, _, _, _, _, _, _, _, _, rfl, by simp; omega, nxt d hd⟩
              · refine ⟨l2, tail_run (fin (.inr hg)) (by omega) fun d hd => ?_⟩
                exact ⟨_, _, _, _, _, _, _, _, _, _, _, _, rfl, by simp; omega, nxt d hd⟩
            · simp only [if_neg cv]
              refine tail_run (fin (.inl rfl)) (by omega) fun d hd => ?_
              exact ⟨_, _, _, _, _, _, _, _, _, _, _, _, rfl, by simp; omega, nxt d hd⟩
      · rintro ρ ⟨ds, s8, s9, s10, s11, s12, s13, s14, s15, s16, s17, s18, rfl, hdl, hds⟩
        simp [-dT_cons]
        refine stp ?_
        simp [-dT_cons]
        intro v9 h9 h10
        refine stp ?_
        simp [-dT_cons]
        obtain ⟨n, rfl⟩ : ∃ n : Nat, v9 = n := ⟨v9.toNat, by omega⟩
        have hn : n < P.length := by omega
        refine ix_l (Ev.atI_nat (d := hdD P[n]) (by rw [List.getElem?_map, List.getElem?_eq_getElem hn]; rfl)) ?_
        have hmm : m.length ≤ 5 := by rw [hm.length_eq, rgI_len]; omega
        have hPl : P[n].length ≤ 5 := by
          have h1 := hand_le (List.getElem_mem hn)
          have h2 := hPn.length_eq
          unfold nmsP at h2
          rw [List.length_map, List.length_take] at h2
          omega
        refine ⟨l2, l1, ?_⟩
        simp
        refine ⟨line7 (by omega), ?_⟩
        have e3 : P[n].map wkD ++ [PyData.tuple [.int w, .tuple (ds.map enc)]] = (P[n] ++ [(w, ds)]).map wkD := by simp
        rw [e3, setAt_hd hn]
        refine ⟨P.set n (P[n] ++ [(w, ds)]), _, _, _, _, _, _, _, _, _, _, _, _, _, rfl, by simp [hP3], ?_, ?_⟩
        · refine (set_names hn (w, ds)).trans ?_
          rw [List.take_add_one, e1]
          exact hPn.append_right _
        · intro x hx
          rcases set_all hn (w, ds) hx with h | rfl
          · exact hPw x h
          · exact ⟨by show ds.length ≤ 3; omega, hds⟩
    · rintro ρ ⟨P, s5, s7, s8, s9, s10, s11, s12, s13, s14, s15, s16, s17, s18, rfl, hP3, hPn, hPw⟩
      rw [List.take_length] at hPn
      have hlm : many.toNat = m.length := by rw [hm.length_eq, rgI_len]; omega
      simp
      refine q P ⟨hP3, ?_, ?_, ?_⟩
      · exact hPn.nodup_iff.mpr (hm.nodup_iff.mpr (EvP_nodup _ _))
      · intro w hw
        have := em w (hPn.mem_iff.mp hw)
        omega
      · intro x hx
        refine ⟨(hPw x hx).1, fun d hd => ?_⟩
        obtain ⟨h1, h2, h3, h4⟩ := (hPw x hx).2 d hd
        refine ⟨h1, h2, h3, fun hr => (h4 hr).imp id fun h5 => ?_⟩
        exact hPn.mem_iff.mpr (hm.mem_iff.mpr (rgI_mem.mpr (by omega)))
end K16

namespace K16
open PySem PySem.Spec PyProof.Rows L2 Ev EvR
/-! ### earlier in an order; keys in common -/
abbrev odD (o : List Int) : D := .tuple (o.map .int)
def befB (o : List Int) (a b : Int) : Bool := decide (o.idxOf a < o.idxOf b)
theorem before_run {o : List Int} {a b : Int} (ha : a ∈ o) (hb : b ∈ o) (h0 : a ≠ 0) (h1 : b ≠ 0) {Q : D → Prop} {X : Exc → Prop} (q : Q (.bool (befB o a b))) : (f_before [.d (odD o), .d (.int a), .d (.int b)]).run Q X := by
  unfold f_before
  simp [b_before, -dT_cons]
  refine ife_no ?_ ?_
  · simp [h0, h1]
  simp
  refine idx_ti ha (idx_ti hb ?_)
  simp
  exact q
def shrB (P : List (List Wk)) (a b : Int) : Bool := decide (a ≠ b) && (ksP P a).any fun k => decide (k ∈ ksP P b)
theorem ksP_len (P : List (List Wk)) (w : Int) : (ksP P w).length ≤ 4 := by
  unfold ksP
  have := List.length_filter_le (fun k => decide (0 < cntK (dsP P w) k)) (rgI 0 4)
  rw [rgI_len] at this
  exact this
theorem shares_run {P : List (List Wk)} (h : PtOk P) {a b : Int} (ha : a ∈ nmsP P) (hb : b ∈ nmsP P) {Q : D → Prop} {X : Exc → Prop} (q : Q (.bool (shrB P a b))) : (f_shares_key [.d (ptD P), .d (.int a), .d (.int b)]).run Q X := by
  unfold f_shares_key
  simp [b_shares_key]
  unfold shrB at q
  by_cases e : a = b
  · subst e
    simpa using q
  · simp [e]
    refine keys_run h ha ?_
    have hk := ksP_len P a
    simp
    intro _
    refine ⟨line7 (by omega), ?_⟩
    refine lcD_mp (enc := PyData.int) (enc' := PyData.bool) (fun k => decide (k ∈ ksP P b)) (fun k hk R' hR => ?_) ?_
    · simp [turnB, asgT, wipeR]
      refine keys_run h hb ?_
      rw [in_li]
      simpa using hR
    · rw [any_bs, List.any_map]
      simpa [e] using q
theorem len_any {α : Type} (l : List α) (p : α → Bool) : decide (0 < (l.filter p).length) = l.any p := by
  rw [Bool.eq_iff_iff, decide_eq_true_iff, List.any_eq_true, List.length_pos_iff_exists_mem]
  simp only [List.mem_filter]
/-! ### what must have been seen -/
inductive Lv where | rd | at_ | ca | pr | pi_ | se
def lvS : Lv → Str
  | .rd => Str.ofString "read"
  | .at_ => Str.ofString "atomic"
  | .ca => Str.ofString "causal"
  | .pr => Str.ofString "prefix"
  | .pi_ => Str.ofString "pictures"
  | .se => Str.ofString "serial"
def lvN : Lv → Nat
  | .rd => 0
  | .at_ => 1
  | .ca => 2
  | .pr => 3
  | .pi_ => 4
  | .se => 5
theorem lv0 (l : Lv) : (lvS l == Str.ofString "read") = decide (lvN l = 0) := by cases l <;> decide +kernel
theorem lv1 (l : Lv) : (lvS l == Str.ofString "atomic") = decide (lvN l = 1) := by cases l <;> decide +kernel
theorem lv2 (l : Lv) : (lvS l == Str.ofString "causal") = decide (lvN l = 2) := by cases l <;> decide +kernel
theorem lv3 (l : Lv) : (lvS l == Str.ofString "prefix") = decide (lvN l = 3) := by cases l <;> decide +kernel
theorem lv4 (l : Lv) : (lvS l == Str.ofString "pictures") = decide (lvN l = 4) := by cases l <;> decide +kernel
theorem lv5 (l : Lv) : (lvS l == Str.ofString "serial") = decide (lvN l = 5) := by cases l <;> decide +kernel
theorem beqQ {x y : Str} {p : Prop} [Decidable p] (h : (x == y) = decide p) : (x = y) = p := by
  rw [beqP h, decide_eq_true_iff]
theorem lv0' (l : Lv) : (lvS l = Str.ofString "read") = (lvN l = 0) := beqQ (lv0 l)
theorem lv1' (l : Lv) : (lvS l = Str.ofString "atomic") = (lvN l = 1) := beqQ (lv1 l)
theorem lv2' (l : Lv) : (lvS l = Str.ofString "causal") = (lvN l = 2) := beqQ (lv2 l)
theorem lv3' (l : Lv) : (lvS l = Str.ofString "prefix") = (lvN l = 3) := beqQ (lv3 l)
theorem lv4' (l : Lv) : (lvS l = Str.ofString "pictures") = (lvN l = 4) := beqQ (lv4 l)
theorem lv5' (l : Lv) : (lvS l = Str.ofString "serial") = (lvN l = 5) := beqQ (lv5 l)
def dir (P : List (List Wk)) : List Pr := upr (hps P) ++ upr (rps P)
theorem dir_mem {P : List (List Wk)} (h : PtOk P) {p : Pr} (hp : p ∈ dir P) : p.1 ∈ nmsP P ∧ p.2 ∈ nmsP P := by
  rcases List.mem_append.mp hp with hp | hp
  · exact hps_mem (upr_mem.mp hp)
  · exact rps_mem h (upr_mem.mp hp)
theorem dir_len {P : List (List Wk)} (h : PtOk P) : (dir P).length ≤ 50 := by
  have h1 := over2_upr (over_ws fun p hp => hps_mem (P := P) hp)
  have h2 := over2_upr (over_ws fun p hp => rps_mem h hp)
  have h3 := ws_sq h
  unfold dir
  rw [List.length_append]
  omega
theorem dir_over {P : List (List Wk)} (h : PtOk P) : Over2 (wsP P) (wsP P) (dir P) := over_ws fun p hp => dir_mem h hp
def rdsB (P : List (List Wk)) (w : Int) (n : Nat) : List Int := (((dsP P w).take n).filter isRd).map vof
def mid (P : List (List Wk)) (w : Int) : List Int := ((dir P).filter fun p => decide (p.2 = w)).map (·.1)
def riv (P : List (List Wk)) (o : List Int) (w : Int) : List Int := (wsP P).filter fun a => shrB P a w && befB o a w
def upB (o : List Int) (x a : Int) : Bool := decide (x = a) || befB o x a
noncomputable def seesP (l : Lv) (P : List (List Wk)) (o : List Int) (x w : Int) (n : Nat) : Bool := match l with
  | .rd => decide (x ∈ rdsB P w n)
  | .at_ => decide ((x, w) ∈ dir P)
  | .ca => decide ((x, w) ∈ clo (dir P))
  | .pr => (mid P w).any (upB o x)
  | .pi_ => (mid P w).any (upB o x) || (riv P o w).any (upB o x)
  | .se => befB o x w
theorem seen_before_run {P : List (List Wk)} (h : PtOk P) {w : Int} (hw : w ∈ nmsP P) {n : Nat} {Q : D → Prop} {X : Exc → Prop} (q : ∀ l : List Int, (∀ x, x ∈ l ↔ x ∈ rdsB P w n ∧ x ≠ 0 ∧ x ≠ w) → Q (.list (l.map .int))) : (f_seen_before [.d (ptD P), .d (.int w), .d (.int n)]).run Q X := by
  unfold f_seen_before
  simp [b_seen_before]
  refine deeds_in_run h hw ?_
  have hd := (dsP_ok h hw).1
  have hl : ((dsP P w).take n).length ≤ 3 := by rw [List.length_take]; omega
  simp [-List.map_take]
  refine fun _ => ⟨line7 (by omega), ?_⟩
  refine lcD_fm (enc := enc) (enc' := PyData.int) (fun d => isRd d && !decide (vof d = 0 ∨ vof d = w)) vof (fun d hd R' h1 h0 => ?_) ?_
  · simp [turnB, asgT, wipeR]
    cases e : isRd d with
    | false => simpa [e] using h0 (by simp [e])
    | true =>
      simp [e]
      refine ix3 e ?_
      simp [l2]
      by_cases c : vof d = 0 ∨ vof d = w
      · have := h0 (by simp [e, c])
        rcases c with c | c
        · simpa [c] using this
        · simpa [c] using this
      · have h1 := h1 (by simp [e, c])
        have c1 : vof d ≠ 0 := fun z => c (.inl z)
        have c2 : vof d ≠ w := fun z => c (.inr z)
        simp [c1, c2]
        exact ix3 e h1
  · refine q _ fun x => ?_
    unfold rdsB
    simp only [List.mem_map, List.mem_filter, Bool.and_eq_true, Bool.not_eq_true', decide_eq_false_iff_not]
    constructor
    · rintro ⟨d, ⟨h1, h2, h3⟩, rfl⟩
      exact ⟨⟨d, ⟨h1, h2⟩, rfl⟩, fun z => h3 (.inl z), fun z => h3 (.inr z)⟩
    · rintro ⟨⟨d, ⟨h1, h2⟩, rfl⟩, h3, h4⟩
      exact ⟨d, ⟨h1, h2, fun z => z.elim h3 h4⟩, rfl⟩
theorem mid_mem {P : List (List Wk)} (h : PtOk P) {w a : Int} (ha : a ∈ mid P w) : a ∈ nmsP P := by
  obtain ⟨p, hp, rfl⟩ := List.mem_map.mp ha
  exact (dir_mem h (List.mem_filter.mp hp).1).1
theorem dir_go {P : List (List Wk)} (h : PtOk P) {K : D → Prop} {X1 X2 : Exc → Prop} (q : K (.list ((dir P).map pD))) : (f_hand_pairs [.d (ptD P)]).run (fun a => (f_read_pairs [.d (ptD P)]).run (fun b => (addD a b).run K X1) X2) X1 := by
  refine hand_pairs_run h (read_pairs_run h ?_)
  have := dir_len h
  unfold dir at this q
  rw [List.length_append] at this
  rw [add_l]
  refine ⟨line7 (by rw [List.length_map, List.length_map]; omega), ?_⟩
  rw [← List.map_append]
  exact q
theorem ups_go {o A : List Int} {x : Int} (hx : x ∈ o) (hx0 : x ≠ 0) (hA : ∀ a ∈ A, a ∈ o ∧ a ≠ 0) {s0 s1 s4 s5 s6 s7 s8 s9 s10 : Sl} {K : List D → Prop} {X : Exc → Prop} (q : K ((A.map (upB o x)).map .bool)) :
    (lcD (turnB (T.nm 9) (denQ m_sees IQ.no) (denE m_sees (IE.or (IB.more (IE.cmp CO.eq (IO.e (IE.v 3)) (IO.e (IE.v 9))) (IB.one (IE.call 4 (IA.d (IE.v 2) (IA.d (IE.v 3) (IA.d (IE.v 9) IA.nil)))))))) (wipeR [s0, s1, .val (odD o), .val (.int x), s4, s5, s6, s7, s8, s9, s10] [9])) (A.map .int) []).run K X := by
  refine lcD_mp (enc := PyData.int) (enc' := PyData.bool) (upB o x) (fun a ha R' hR => ?_) q
  obtain ⟨h1, h2⟩ := hA a ha
  simp [turnB, asgT, wipeR]
  unfold upB at hR
  by_cases c : x = a
  · subst c
    simpa using hR
  · have c' : (x == a) = false := by simpa using c
    simp [c, c']
    refine before_run hx h1 hx0 h2 ?_
    simpa [c] using hR
theorem sees_run {l : Lv} {P : List (List Wk)} (h : PtOk P) {o : List Int} (ho : 3 ≤ lvN l → ∀ w ∈ nmsP P, w ∈ o) {x w : Int} (hx : x ∈ nmsP P) (hw : w ∈ nmsP P) (hxw : x ≠ w) {n : Nat} {Q : D → Prop} {X : Exc → Prop} (q : Q (.bool (seesP l P o x w n))) :
    (f_sees [.d (.str (lvS l)), .d (ptD P), .d (odD o), .d (.int x), .d (.int w), .d (.int n)]).run Q X := by
  have hp := fun a (ha : a ∈ nmsP P) => (show a ≠ 0 from fun z => h.pos (z ▸ ha))
  unfold f_sees
  simp [b_sees, -dT_cons]
  refine stp ?_
  simp [-dT_cons]
  refine dir_go h ?_
  by_cases c0 : lvN l = 0
  · refine ife_then (by simp [lv0', lv0, c0]) ?_
    cases l <;> simp [lvN] at c0
    simp
    refine seen_before_run h hw fun m hm => ?_
    simp
    have e : decide (x ∈ m) = decide (x ∈ rdsB P w n) := by
      rw [Bool.eq_iff_iff, decide_eq_true_iff, decide_eq_true_iff, hm]
      exact ⟨fun z => z.1, fun z => ⟨z, hp x hx, hxw⟩⟩
    rw [e]
    exact q
  refine ife_no (by simp [lv0', lv0, c0]) ?_
  by_cases c1 : lvN l = 1
  · refine ife_then (by simp [lv1', lv1, c1]) ?_
    cases l <;> simp [lvN] at c1
    simp
    exact ⟨l2, q⟩
  refine ife_no (by simp [lv1', lv1, c1]) ?_
  by_cases c2 : lvN l = 2
  · refine ife_then (by simp [lv2', lv2, c2]) ?_
    cases l <;> simp [lvN] at c2
    simp
    refine ⟨l2, closed_run (dir_over h) (by have := ws_sq h; omega) (by have := dir_len h; omega) ?_⟩
    simp
    exact q
  refine ife_no (by simp [lv2', lv2, c2]) ?_
  have hoo := ho (by cases l <;> simp [lvN] at *)
  by_cases c5 : lvN l = 5
  · refine ife_then (by simp [lv5', lv5, c5]) ?_
    cases l <;> simp [lvN] at c5
    simp
    exact before_run (hoo x hx) (hoo w hw) (hp x hx) (hp w hw) q
  refine ife_no (by simp [lv5', lv5, c5]) ?_
  refine stp ?_
  simp [-dT_cons]
  have hdl := dir_len h
  refine fun _ => ⟨line7 (by omega), ?_⟩
  refine lcD_fm (enc := pD) (enc' := PyData.int) (fun p : Pr => decide (p.2 = w)) (fun p => p.1) (fun p hp R' h1 h0 => ?_) ?_
  · simp [turnB, wipeR]
    by_cases c : p.2 = w
    · simpa [c] using h1 (by simp [c])
    · simpa [c] using h0 (by simp [c])
  rw [show ((dir P).filter fun p => decide (p.2 = w)).map (fun p => p.1) = mid P w from rfl]
  have hml : (mid P w).length ≤ 50 := by
    unfold mid
    rw [List.length_map]
    exact Nat.le_trans (List.length_filter_le _ _) hdl
  have hmm : ∀ a ∈ mid P w, a ∈ nmsP P := fun a ha => mid_mem h ha
  cases hB : (mid P w).any (upB o x) with
  | true =>
    refine ife_then ?_ ?_
    · simp
      intro _
      refine ⟨line7 (by omega), ups_go (hoo x hx) (hp x hx) (fun a ha => ⟨hoo a (hmm a ha), hp a (hmm a ha)⟩) ?_⟩
      rw [any_bs, List.any_map]
      exact hB
    have e : seesP l P o x w n = true := by
      cases l <;> simp [lvN] at c0 c1 c2 c5 <;> simp [seesP, hB]
    rw [e] at q
    simp
    exact q
  | false =>
    refine ife_no ?_ ?_
    · simp
      intro _
      refine ⟨line7 (by omega), ups_go (hoo x hx) (hp x hx) (fun a ha => ⟨hoo a (hmm a ha), hp a (hmm a ha)⟩) ?_⟩
      rw [any_bs, List.any_map]
      exact hB
    by_cases c3 : lvN l = 3
    · refine ife_then (by simp [lv3', lv3, c3]) ?_
      cases l <;> simp [lvN] at c3
      simpa [seesP, hB] using q
    refine ife_no (by simp [lv3', lv3, c3]) ?_
    have e4 : l = .pi_ := by cases l <;> simp [lvN] at *
    subst e4
    refine stp ?_
    simp [-dT_cons]
    refine works_in_run h ?_
    have hwl := wsP_len h
    simp [-dT_cons]
    refine fun _ => ⟨line7 (by omega), ?_⟩
    refine lcD_fm (enc := PyData.int) (enc' := PyData.int) (fun a => shrB P a w && befB o a w) id (fun a ha R' h1 h0 => ?_) ?_
    · have ha' := wsP_mem.mp ha
      simp [turnB, asgT, wipeR]
      refine shares_run h ha' hw ?_
      simp
      by_cases c : shrB P a w = true
      · rw [if_pos c]
        refine before_run (hoo a ha') (hoo w hw) (hp a ha') (hp w hw) ?_
        simp
        by_cases c' : befB o a w = true
        · simpa [c'] using h1 (by simp [c, c'])
        · simpa [c'] using h0 (by simp [c'])
      · simpa [c] using h0 (by simp [c])
    rw [List.map_id]
    show (denT _ _ [_, _, _, _, _, _, _, _, .val (.list ((riv P o w).map .int)), _, _]).run _ _
    have hrl : (riv P o w).length ≤ 5 := Nat.le_trans (List.length_filter_le _ _) hwl
    have hrm : ∀ a ∈ riv P o w, a ∈ nmsP P := fun a ha => wsP_mem.mp (List.mem_filter.mp ha).1
    simp
    intro _
    refine ⟨line7 (by omega), ups_go (hoo x hx) (hp x hx) (fun a ha => ⟨hoo a (hrm a ha), hp a (hrm a ha)⟩) ?_⟩
    rw [any_bs, List.any_map]
    simpa [seesP, hB] using q
end K16

namespace K16
open PySem PySem.Spec PyProof.Rows L2 Ev EvR
end K16

namespace K16
open PySem PySem.Spec PyProof.Rows L2 Ev EvR
/-! ### what a level demands -/
def rvX (P : List (List Wk)) (w : Int) (r : R4) (x : Int) : Bool := !decide (x = w ∨ x = r.2.2.1) && decide (0 < cntK (dsP P x) r.2.1)
noncomputable def dmX (l : Lv) (P : List (List Wk)) (o : List Int) (w : Int) (r : R4) (x : Int) : Bool := rvX P w r x && seesP l P o x w r.1.toNat
noncomputable def dmR (l : Lv) (P : List (List Wk)) (o : List Int) (w : Int) (r : R4) : List Pr := ((wsP P).filter (dmX l P o w r)).map fun x => (x, r.2.2.1)
noncomputable def dmW (l : Lv) (P : List (List Wk)) (o : List Int) (w : Int) : List Pr := (outW P w).flatMap (dmR l P o w)
noncomputable def dms (l : Lv) (P : List (List Wk)) (o : List Int) : List Pr := dir P ++ (wsP P).flatMap (dmW l P o)
theorem dmR_len {l : Lv} {P : List (List Wk)} (h : PtOk P) {o : List Int} {w : Int} (r : R4) : (dmR l P o w r).length ≤ 5 := by
  unfold dmR
  rw [List.length_map]
  exact Nat.le_trans (List.length_filter_le _ _) (wsP_len h)
theorem dmW_len {l : Lv} {P : List (List Wk)} (h : PtOk P) {o : List Int} {w : Int} (hw : w ∈ nmsP P) : (dmW l P o w).length ≤ 15 := by
  have := flat_le 5 (l := outW P w) (f := dmR l P o w) fun r _ => dmR_len h r
  have := outW_len h hw
  unfold dmW
  omega
theorem dms_len {l : Lv} {P : List (List Wk)} (h : PtOk P) {o : List Int} : (dms l P o).length ≤ 125 := by
  have := flat_le 15 (l := wsP P) (f := dmW l P o) fun w hw => dmW_len h (wsP_mem.mp hw)
  have := wsP_len h
  have := dir_len h
  unfold dms
  rw [List.length_append]
  omega
theorem dms_mem {l : Lv} {P : List (List Wk)} (h : PtOk P) {o : List Int} {p : Pr} (hp : p ∈ dms l P o) : p.1 ∈ nmsP P ∧ (p.2 = 0 ∨ p.2 ∈ nmsP P) := by
  rcases List.mem_append.mp hp with hp | hp
  · exact ⟨(dir_mem h hp).1, .inr (dir_mem h hp).2⟩
  · obtain ⟨w, hw, hp⟩ := List.mem_flatMap.mp hp
    obtain ⟨r, hr, hp⟩ := List.mem_flatMap.mp hp
    obtain ⟨x, hx, rfl⟩ := List.mem_map.mp hp
    exact ⟨wsP_mem.mp (List.mem_filter.mp hx).1, (outW_ok h (wsP_mem.mp hw) hr).2.1⟩
theorem dms_over {l : Lv} {P : List (List Wk)} (h : PtOk P) {o : List Int} : Over2 (wsP P) (0 :: wsP P) (dms l P o) := fun p hp => by
  obtain ⟨h1, h2⟩ := dms_mem h hp
  exact ⟨wsP_mem.mpr h1, List.mem_cons.mpr (h2.imp id fun z => wsP_mem.mpr z)⟩
theorem ws_sq0 {P : List (List Wk)} (h : PtOk P) : (wsP P).length * ((0 : Int) :: wsP P).length ≤ 30 := by
  have h5 := wsP_len h
  have h6 : ((0 : Int) :: wsP P).length ≤ 6 := by rw [List.length_cons]; omega
  exact Nat.mul_le_mul h5 h6
theorem dms_upr {l : Lv} {P : List (List Wk)} (h : PtOk P) {o : List Int} : (upr (dms l P o)).length < 64 := by
  have := over2_upr (dms_over (l := l) (o := o) h)
  have := ws_sq0 h
  omega
noncomputable def dA (l : Lv) (P : List (List Wk)) (o : List Int) (i : Nat) : List Pr := dir P ++ ((wsP P).take i).flatMap (dmW l P o)
noncomputable def dB (l : Lv) (P : List (List Wk)) (o : List Int) (i : Nat) (w : Int) (j : Nat) : List Pr := dA l P o i ++ ((outW P w).take j).flatMap (dmR l P o w)
noncomputable def dC (l : Lv) (P : List (List Wk)) (o : List Int) (i : Nat) (w : Int) (j : Nat) (r : R4) (k : Nat) : List Pr := dB l P o i w j ++ (((wsP P).take k).filter (dmX l P o w r)).map fun x => (x, r.2.2.1)
section
variable {l : Lv} {P : List (List Wk)} {o : List Int} {i j k : Nat} {w : Int} {r : R4} {x : Int}
theorem dA_end : dA l P o (wsP P).length = dms l P o := by unfold dA; rw [List.take_length]; rfl
theorem dB_0 : dB l P o i w 0 = dA l P o i := by simp [dB]
theorem dB_end (e : (wsP P)[i]? = some w) : dB l P o i w (outW P w).length = dA l P o (i + 1) := by
  unfold dB dA
  rw [List.take_length, flat_step _ e, List.append_assoc]
  rfl
theorem dC_0 : dC l P o i w j r 0 = dB l P o i w j := by simp [dC]
theorem dC_end (e : (outW P w)[j]? = some r) : dC l P o i w j r (wsP P).length = dB l P o i w (j + 1) := by
  unfold dC dB
  rw [List.take_length, flat_step _ e, List.append_assoc]
  rfl
theorem dC_step (e : (wsP P)[k]? = some x) : dC l P o i w j r (k + 1) = if dmX l P o w r x = true then dC l P o i w j r k ++ [(x, r.2.2.1)] else dC l P o i w j r k := by
  unfold dC
  rw [List.take_add_one, e, List.filter_append, List.map_append]
  by_cases c : dmX l P o w r x = true
  · simp [c]
  · simp [c]
theorem dA_len (h : PtOk P) : (dA l P o i).length ≤ 125 := by
  have := flat_take_le (wsP P) (dmW l P o) i
  have h2 := dms_len (l := l) (o := o) h
  unfold dms at h2
  rw [List.length_append] at h2
  unfold dA
  rw [List.length_append]
  omega
theorem dB_len (h : PtOk P) (hw : w ∈ nmsP P) : (dB l P o i w j).length ≤ 140 := by
  have := flat_take_le (outW P w) (dmR l P o w) j
  have h2 := dmW_len (l := l) (o := o) h hw
  have h3 := dA_len (l := l) (o := o) (i := i) h
  unfold dmW at h2
  unfold dB
  rw [List.length_append]
  omega
theorem dC_len (h : PtOk P) (hw : w ∈ nmsP P) : (dC l P o i w j r k).length ≤ 145 := by
  have h3 := dB_len (l := l) (o := o) (i := i) (j := j) h hw
  have h4 := wsP_len h
  have := List.length_filter_le (dmX l P o w r) ((wsP P).take k)
  rw [List.length_take] at this
  unfold dC
  rw [List.length_append, List.length_map]
  omega
end
abbrev lvD (l : Lv) : D := .str (lvS l)
def InvD1' (l : Lv) (P : List (List Wk)) (o : List Int) (F : Nat → List Pr) (i : Nat) (ρ : List Sl) : Prop := ∃ s4 s5 s6 s7 s8 s9, ρ = [.val (lvD l), .val (ptD P), .val (odD o), .own ((F i).map pD), s4, s5, s6, s7, s8, s9]
def InvD2' (l : Lv) (P : List (List Wk)) (o : List Int) (w : Int) (F : Nat → List Pr) (i : Nat) (ρ : List Sl) : Prop := ∃ s5 s6 s7 s8 s9, ρ = [.val (lvD l), .val (ptD P), .val (odD o), .own ((F i).map pD), .val (.int w), s5, s6, s7, s8, s9]
def InvD3' (l : Lv) (P : List (List Wk)) (o : List Int) (w : Int) (r : R4) (F : Nat → List Pr) (i : Nat) (ρ : List Sl) : Prop := ∃ s9, ρ = [.val (lvD l), .val (ptD P), .val (odD o), .own ((F i).map pD), .val (.int w), .val (.int r.1), .val (.int r.2.1), .val (.int r.2.2.1), .val (.int r.2.2.2), s9]
theorem r1_nat {P : List (List Wk)} {w : Int} {r : R4} (hr : r ∈ outW P w) : r.1 = (r.1.toNat : Int) := by
  obtain ⟨i, _, _, e, _⟩ := outP_mem hr
  omega
theorem demands_run {l : Lv} {P : List (List Wk)} (h : PtOk P) {o : List Int} (ho : 3 ≤ lvN l → ∀ w ∈ nmsP P, w ∈ o) {Q : D → Prop} {X : Exc → Prop} (q : Q (.list ((upr (dms l P o)).map pD))) : (f_demands [.d (lvD l), .d (ptD P), .d (odD o)]).run Q X := by
  have hwl := wsP_len h
  unfold f_demands
  simp [b_demands, -dT_cons]
  refine stp ?_
  simp [-dT_cons]
  refine hand_pairs_run h (read_pairs_run h ?_)
  have hdl := dir_len h
  unfold dir at hdl
  rw [List.length_append] at hdl
  simp [-dT_cons]
  refine ⟨line7 (by omega), ?_⟩
  rw [← List.map_append]
  show (denT _ _ [_, _, _, .own ((dir P).map pD), _, _, _, _, _, _]).run _ _
  refine stp ?_
  simp [-dT_cons]
  refine works_in_run h ?_
  simp [-dT_cons]
  intro _
  refine forD_enc (enc := PyData.int) (InvD1' l P o (dA l P o)) ⟨_, _, _, _, _, _, by rw [show dA l P o 0 = dir P by simp [dA]]⟩ ?_ ?_
  · rintro i w ρ e1 ⟨s4, s5, s6, s7, s8, s9, rfl⟩
    have hw := wsP_mem.mp (List.mem_of_getElem? e1)
    have hol := outW_len h hw
    simp [-dT_cons]
    refine stp ?_
    simp [-dT_cons]
    refine outer_run h hw ?_
    simp [-dT_cons]
    intro _
    refine forD_enc (enc := r4D) (InvD2' l P o w (dB l P o i w)) ⟨_, _, _, _, _, by rw [dB_0]⟩ ?_ ?_
    · rintro j r ρ e2 ⟨s5, s6, s7, s8, s9, rfl⟩
      have e2 : (outW P w)[j]? = some r := e2
      have hr : r ∈ outW P w := List.mem_of_getElem? e2
      have hro := outW_ok h hw hr
      simp [-dT_cons]
      refine stp ?_
      simp [-dT_cons]
      refine works_in_run h ?_
      simp [-dT_cons]
      intro _
      refine forD_enc (enc := PyData.int) (InvD3' l P o w r (dC l P o i w j r)) ⟨_, by rw [dC_0]⟩ ?_ ?_
      · rintro k x ρ e3 ⟨s9, rfl⟩
        have hx := wsP_mem.mp (List.mem_of_getElem? e3)
        have hcl := dC_len (l := l) (o := o) (i := i) (j := j) (r := r) (k := k) h hw
        have st := dC_step (l := l) (o := o) (i := i) (w := w) (j := j) (r := r) e3
        simp [-dT_cons]
        cases hc : rvX P w r x with
        | false =>
          refine ife_then ?_ ?_
          · simp [l2]
            intro z1 z2
            refine writes_key_run h hx ?_
            simpa [rvX, z1, z2] using hc
          have e4 : dmX l P o w r x = false := by unfold dmX; rw [hc, Bool.false_and]
          rw [e4, if_neg (by decide)] at st
          simp
          exact ⟨_, by rw [st]⟩
        | true =>
          refine ife_no ?_ ?_
          · simp [l2]
            simp [rvX] at hc
            refine ⟨hc.1, ?_⟩
            refine writes_key_run h hx ?_
            simpa using hc.2
          have e4 : dmX l P o w r x = seesP l P o x w r.1.toNat := by unfold dmX; rw [hc, Bool.true_and]
          rw [e4] at st
          have hxw : x ≠ w := by
            intro z
            simp [rvX, z] at hc
          have er := r1_nat hr
          cases hs : seesP l P o x w r.1.toNat with
          | true =>
            refine ife_then ?_ ?_
            · simp
              rw [er]
              refine sees_run h ho hx hw hxw ?_
              simpa using hs
            rw [hs, if_pos rfl] at st
            simp
            refine ⟨l2, line6 (by omega), .val (.int x), ?_⟩
            rw [st]
            simp
          | false =>
            refine ife_no ?_ ?_
            · simp
              rw [er]
              refine sees_run h ho hx hw hxw ?_
              simpa using hs
            rw [hs, if_neg (by decide)] at st
            exact ⟨.val (.int x), by rw [st]⟩
      · rintro ρ ⟨s9, rfl⟩
        rw [dC_end e2]
        exact ⟨_, _, _, _, _, rfl⟩
    · rintro ρ ⟨s5, s6, s7, s8, s9, rfl⟩
      rw [show (outP (dsP P w) w) = outW P w from rfl, dB_end e1]
      exact ⟨_, _, _, _, _, _, rfl⟩
  · rintro ρ ⟨s4, s5, s6, s7, s8, s9, rfl⟩
    rw [dA_end]
    simp
    exact srtS_pr (dms_upr h) q
def InvE1' (l : Lv) (P : List (List Wk)) (o : List Int) (F : Nat → List Pr) (i : Nat) (ρ : List Sl) : Prop := ∃ s4 s5 s6 s7 s8 s9 s10, ρ = [.val (lvD l), .val (ptD P), .val (odD o), .val (.list ((F i).map pD)), s4, s5, s6, s7, s8, s9, s10]
def InvE2' (l : Lv) (P : List (List Wk)) (o : List Int) (w : Int) (F : Nat → List Pr) (i : Nat) (ρ : List Sl) : Prop := ∃ s5 s6 s7 s8 s9 s10, ρ = [.val (lvD l), .val (ptD P), .val (odD o), .val (.list ((F i).map pD)), .val (.int w), s5, s6, s7, s8, s9, s10]
end K16

namespace K16
open PySem PySem.Spec PyProof.Rows L2 Ev EvR
/-! ### all orders -/
def wo (l : List Int) (x : Int) : List Int := l.filter fun y => decide (y ≠ x)
def ordX (f : List Int → List (List Int)) (l : List Int) (x : Int) : List (List Int) := (f (wo l x)).map fun o => x :: o
def ords : Nat → List Int → List (List Int)
  | 0, _ => [[]]
  | n + 1, l => (srtI l).flatMap (ordX (ords n) l)
def fct : Nat → Nat
  | 0 => 1
  | n + 1 => (n + 1) * fct n
theorem wo_len : ∀ {l : List Int} {x : Int}, l.Nodup → x ∈ l → (wo l x).length + 1 = l.length
  | a :: l, x, nd, hx => by
    unfold wo
    by_cases e : a = x
    · subst e
      rw [List.filter_cons_of_neg (by simp), List.filter_eq_self.mpr fun y hy => ?_]
      · rfl
      · have := (List.nodup_cons.mp nd).1
        simp
        rintro rfl
        exact this hy
    · rw [List.filter_cons_of_pos (by simpa using e), List.length_cons, List.length_cons]
      have := wo_len (List.nodup_cons.mp nd).2 ((List.mem_cons.mp hx).resolve_left fun z => e z.symm)
      unfold wo at this
      omega
theorem wo_nodup {l : List Int} {x : Int} (nd : l.Nodup) : (wo l x).Nodup := nd.filter _
theorem wo_perm {l : List Int} {x : Int} (nd : l.Nodup) (hx : x ∈ l) : (x :: wo l x).Perm l := by
  refine (List.perm_ext_iff_of_nodup ?_ nd).mpr fun y => ?_
  · refine List.nodup_cons.mpr ⟨?_, wo_nodup nd⟩
    unfold wo
    simp
  · unfold wo
    simp
    constructor
    · rintro (rfl | h)
      · exact hx
      · exact h.1
    · intro h
      by_cases e : y = x
      · exact .inl e
      · exact .inr ⟨h, e⟩
theorem ords_len : ∀ {n : Nat} {l : List Int}, l.Nodup → l.length = n → (ords n l).length ≤ fct n
  | 0, l, _, _ => Nat.le_refl _
  | n + 1, l, nd, hl => by
    have := flat_le (fct n) (l := srtI l) (f := ordX (ords n) l) fun x hx => by
      unfold ordX
      rw [List.length_map]
      refine ords_len (wo_nodup nd) ?_
      have := wo_len nd (srtI_mem.mp hx)
      omega
    rw [srtI_len, hl] at this
    exact this
theorem ords_mem : ∀ {n : Nat} {l o : List Int}, l.Nodup → l.length = n → (o ∈ ords n l ↔ o.Perm l)
  | 0, l, o, _, hl => by
    have : l = [] := List.eq_nil_of_length_eq_zero hl
    subst this
    simp [ords]
  | n + 1, l, o, nd, hl => by
    unfold ords
    rw [List.mem_flatMap]
    constructor
    · rintro ⟨x, hx, ho⟩
      obtain ⟨o', h1, rfl⟩ := List.mem_map.mp ho
      have hx := srtI_mem.mp hx
      have hn := wo_len nd hx
      have := (ords_mem (n := n) (wo_nodup nd) (by omega)).mp h1
      exact (this.cons x).trans (wo_perm nd hx)
    · intro hp
      cases o with
      | nil => rw [← hp.length_eq] at hl; cases hl
      | cons x o =>
        have hx : x ∈ l := hp.mem_iff.mp List.mem_cons_self
        have hn := wo_len nd hx
        refine ⟨x, srtI_mem.mpr hx, List.mem_map.mpr ⟨o, ?_, rfl⟩⟩
        refine (ords_mem (n := n) (wo_nodup nd) (by omega)).mpr ?_
        exact (hp.trans (wo_perm nd hx).symm).cons_inv
def opA (n : Nat) (l : List Int) (i : Nat) : List (List Int) := ((srtI l).take i).flatMap (ordX (ords n) l)
theorem opA_step {n : Nat} {l : List Int} {i : Nat} {x : Int} (e : (srtI l)[i]? = some x) : opA n l (i + 1) = opA n l i ++ ordX (ords n) l x := flat_step _ e
theorem opA_end (n : Nat) (l : List Int) : opA n l (srtI l).length = ords (n + 1) l := by unfold opA; rw [List.take_length]; rfl
theorem opA_len {n : Nat} {l : List Int} (nd : l.Nodup) (hl : l.length = n + 1) (i : Nat) : (opA n l i).length ≤ fct (n + 1) := by
  have := flat_take_le (srtI l) (ordX (ords n) l) i
  have h2 := ords_len nd hl
  unfold ords at h2
  unfold opA
  omega
theorem fct_le {n : Nat} (h : n ≤ 5) : fct n ≤ 120 := by
  have : n = 0 ∨ n = 1 ∨ n = 2 ∨ n = 3 ∨ n = 4 ∨ n = 5 := by omega
  rcases this with rfl | rfl | rfl | rfl | rfl | rfl <;> decide
def InvOr (n : Nat) (l : List Int) (i : Nat) (ρ : List Sl) : Prop := ∃ s2 s3 s4 s5, ρ = [.val (.list (l.map .int)), .own ((opA n l i).map odD), s2, s3, s4, s5]
theorem orders_of_run : ∀ {n : Nat} {l : List Int}, l.Nodup → l.length = n → n ≤ 5 → ∀ {m : Nat}, n < m → ∀ {Q : D → Prop} {X : Exc → Prop}, Q (.list ((ords n l).map odD)) → (f_orders_of m [.d (.list (l.map .int))]).run Q X := by
  intro n
  induction n with
  | zero =>
    intro l nd hl h5 m hm Q X q
    have : l = [] := List.eq_nil_of_length_eq_zero hl
    subst this
    obtain ⟨m, rfl⟩ : ∃ k, m = k + 1 := ⟨m - 1, by omega⟩
    show (denD (m_orders_of (f_orders_of m)) 1 6 b_orders_of [.d (.list [])]).run Q X
    simp [b_orders_of, -dT_cons]
    refine ife_then ?_ ?_
    · simp
    simp
    exact ⟨l1, q⟩
  | succ n ih =>
    intro l nd hl h5 m hm Q X q
    obtain ⟨m, rfl⟩ : ∃ k, m = k + 1 := ⟨m - 1, by omega⟩
    show (denD (m_orders_of (f_orders_of m)) 1 6 b_orders_of [.d (.list (l.map .int))]).run Q X
    simp [b_orders_of, -dT_cons]
    refine ife_no ?_ ?_
    · simp
      intro _ e
      rw [e] at hl
      cases hl
    refine stp ?_
    simp [-dT_cons]
    refine stp ?_
    simp [-dT_cons]
    intro _
    refine forD_enc (enc := PyData.int) (InvOr n l) ⟨_, _, _, _, rfl⟩ ?_ ?_
    · rintro i x ρ e1 ⟨s2, s3, s4, s5, rfl⟩
      have hx := srtI_mem.mp (List.mem_of_getElem? e1)
      have hwl := wo_len nd hx
      simp [-dT_cons]
      refine stp ?_
      simp [-dT_cons]
      refine fun _ => ⟨line7 (by omega), ?_⟩
      refine lcD_fm (enc := PyData.int) (enc' := PyData.int) (fun y => decide (y ≠ x)) id (fun y hy R' h1 h0 => ?_) ?_
      · simp [turnB, asgT, wipeR]
        by_cases c : y = x
        · simpa [c] using h0 (by simp [c])
        · simpa [c] using h1 (by simp [c])
      rw [List.map_id]
      show (denT _ _ [_, _, _, .val (.list ((wo l x).map .int)), _, _]).run _ _
      refine stp ?_
      simp [-dT_cons]
      refine ih (wo_nodup nd) (by omega) (by omega) (by omega) ?_
      have hol := ords_len (wo_nodup nd) (show (wo l x).length = n by omega)
      have hf := fct_le (show n ≤ 5 by omega)
      have hA := opA_len nd hl (i + 1)
      have hf' := fct_le h5
      rw [opA_step e1, List.length_append] at hA
      simp
      intro _
      refine ⟨line7 (by omega), ?_⟩
      refine lcD_mp (enc := odD) (enc' := odD) (fun o => x :: o) (fun o ho R' hR => ?_) ?_
      · have := ((ords_mem (wo_nodup nd) (by omega)).mp ho).length_eq
        simp [turnB, asgT, wipeR]
        exact ⟨l1, line7 (by omega), hR⟩
      · rw [show (ords n (wo l x)).map (fun o => x :: o) = ordX (ords n) l x from rfl]
        refine ⟨line7 (by rw [List.length_map]; omega), ?_⟩
        rw [← List.map_append, ← opA_step e1]
        exact ⟨_, _, _, _, rfl⟩
    · rintro ρ ⟨s2, s3, s4, s5, rfl⟩
      rw [opA_end]
      simp [frzR]
      exact q
def InvOr2 (n : Nat) (l : List Int) (i : Nat) (ρ : List Sl) : Prop := ∃ s2 s3 s4, ρ = [.val (.list (l.map .int)), .val (.list ((opA n l i).map odD)), s2, s3, s4]
/-! ### orders that keep pairs -/
def inB (o : List Int) (p : Pr) : Bool := decide (p.1 ∈ o) && decide (p.2 ∈ o)
def keptB (o : List Int) (E : List Pr) : Bool := (E.filter (inB o)).all fun p => befB o p.1 p.2
theorem is_kept_run {o : List Int} {E : List Pr} (hz : E.length ≤ 200) {Q : D → Prop} {X : Exc → Prop} (q : Q (.bool (keptB o E))) : (f_is_kept [.d (odD o), .d (.list (E.map pD))]).run Q X := by
  unfold f_is_kept
  simp [b_is_kept]
  refine fun _ => ⟨line7 (by omega), ?_⟩
  refine lcD_fm (enc := pD) (enc' := PyData.bool) (inB o) (fun p => befB o p.1 p.2) (fun p hp R' h1 h0 => ?_) ?_
  · simp [turnB, wipeR]
    by_cases c1 : p.1 ∈ o
    · by_cases c2 : p.2 ∈ o
      · simp [c1, c2]
        refine idx_ti c1 (idx_ti c2 ?_)
        simp
        exact h1 (by simp [inB, c1, c2])
      · simpa [c1, c2] using h0 (by simp [inB, c2])
    · simpa [c1] using h0 (by simp [inB, c1])
  · rw [all_bs, List.all_map]
    exact q
theorem all_orders_run {l : List Int} {E : List Pr} (nd : l.Nodup) (h5 : l.length ≤ 5) (hz : E.length ≤ 200) {Q : D → Prop} {X : Exc → Prop} (q : Q (.list (((ords l.length l).filter fun o => keptB o E).map odD))) : (f_all_orders [.d (.list (l.map .int)), .d (.list (E.map pD))]).run Q X := by
  unfold f_all_orders
  simp [b_all_orders]
  refine orders_of_run nd rfl h5 (by omega) ?_
  have hol := ords_len nd rfl
  have hf := fct_le h5
  simp
  refine fun _ => ⟨line7 (by omega), ?_⟩
  refine lcD_fm (enc := odD) (enc' := odD) (fun o => keptB o E) id (fun o ho R' h1 h0 => ?_) ?_
  · simp [turnB, asgT, wipeR]
    refine is_kept_run hz ?_
    simp
    by_cases c : keptB o E = true
    · simpa [c] using h1 c
    · simpa [c] using h0 (by simpa using c)
  · rw [List.map_id]
    exact q
end K16

namespace K16
open PySem PySem.Spec PyProof.Rows L2 Ev EvR
def isI : D → Bool
  | .int _ => true
  | _ => false
def inN : D → Int → Int → Bool
  | .int i, lo, hi => decide (lo ≤ i) && decide (i ≤ hi)
  | _, _, _ => false
/-- small values, not deep -/
def SM : Nat → D → Prop
  | 0, .tuple _ => False
  | k + 1, .tuple ds => ds.length ≤ 200 ∧ ∀ d ∈ ds, SM k d
  | _, .str z => z.length ≤ 100
  | _, _ => True
theorem ixt_any {xs : List D} {v : Int} (h0 : 0 ≤ v) (h1 : v < xs.length) {Q : D → Prop} {X : Exc → Prop} (h : ∀ d ∈ xs, Q d) : (ixD (.tuple xs) (.int v)).run Q X := by
  obtain ⟨n, rfl⟩ : ∃ n : Nat, v = n := ⟨v.toNat, by omega⟩
  have hn : n < xs.length := by omega
  exact ix_t (Ev.atI_nat (List.getElem?_eq_getElem hn)) (h _ (List.getElem_mem hn))
theorem cut_len {xs : List D} {lo hi : Option Int} : (cutD xs lo hi).length ≤ xs.length := by
  unfold Ev.cutD
  simp
  omega
theorem pick_any {xs : List D} {Q : D → Prop} {X : Exc → Prop} (h0 : 0 < xs.length) (h1 : xs.length < 100000) (h : ∀ d, Q d) : (f_l_pick [.pool, .d (.list xs)]).run Q X := pick_run h0 h1 fun d _ => h d
theorem set_ok {ds : List D} {v : Int} (h0 : 0 ≤ v) (h1 : v < ds.length) (d : D) : setAtD ds (.int v) d = some (ds.set v.toNat d) := by
  unfold setAtD ixN
  simp [h0, h1]
theorem ixl_any {xs : List D} {v : Int} (h0 : 0 ≤ v) (h1 : v < xs.length) {Q : D → Prop} {X : Exc → Prop} (h : ∀ d ∈ xs, Q d) : (ixD (.list xs) (.int v)).run Q X := by
  obtain ⟨n, rfl⟩ : ∃ n : Nat, v = n := ⟨v.toNat, by omega⟩
  have hn : n < xs.length := by omega
  exact ix_l (Ev.atI_nat (List.getElem?_eq_getElem hn)) (h _ (List.getElem_mem hn))
theorem swp_ok {M : Mg} {t a o u v : D} {xs ys zs : List D} (e1 : setAtD xs a u = some ys) (e2 : setAtD ys o v = some zs) {K : Out → Prop} {XX : XS → Prop} (h : K (.nx [.pool, .val t, .val a, .val o, .own zs])) :
    (swpK 4 (denE M (IE.v 2)) (denE M (IE.v 3)) [.pool, .val t, .val a, .val o, .own xs] [u, v]).run K XX := by
  show ((setA1 4 (denE M (IE.v 2)) u [.pool, .val t, .val a, .val o, .own xs]).bind fun ρ1 => (setA1 4 (denE M (IE.v 3)) v ρ1).bind fun ρ2 => W.ret (Out.nx ρ2)).run _ _
  simp [setA1, e1, e2]
  exact h
def tlT : IT → IT
  | .cons _ t => t
  | .nil => .nil
def InvO (i : Nat) (ρ : List Sl) : Prop := ∃ d s1, ρ = [.val d, s1]
end K16

namespace K16
open PySem PySem.Spec PyProof.Rows L2 Ev EvR
/-! ### faults of any value -/
def rowB : D → Bool
  | .tuple ds => ds.all fun d => inN d 1 9
  | _ => false
theorem rowB_ok {d : D} (h : rowB d = true) : ∃ o : List Int, d = odD o := by
  cases d with
  | tuple ds =>
    have : ∀ ds : List D, (ds.all fun d => inN d 1 9) = true → ∃ o : List Int, ds = o.map .int := by
      intro ds
      induction ds with
      | nil => exact fun _ => ⟨[], rfl⟩
      | cons d ds ih =>
        intro h
        rw [List.all_cons, Bool.and_eq_true] at h
        obtain ⟨o, rfl⟩ := ih h.2
        cases d <;> simp [inN] at h
        rename_i i
        exact ⟨i :: o, rfl⟩
    obtain ⟨o, rfl⟩ := this ds h
    exact ⟨o, rfl⟩
  | _ => cases h
/-! ### levels -/
def lvL : List Lv := [.rd, .at_, .ca, .pr, .pi_, .se]
theorem lv_all (l : Lv) : l ∈ lvL := by cases l <;> simp [lvL]
theorem levels_eq : v_LEVELS = .tuple ((lvL.map lvS).map .str) := rfl
theorem must_be_ok {l : Lv} {Q : D → Prop} {X : Exc → Prop} (q : Q .none) : (f_must_be_level [.d (lvD l)]).run Q X := by
  unfold f_must_be_level
  simp [b_must_be_level, -dT_cons]
  refine ife_no ?_ ?_
  · simp
    rw [levels_eq, in_ts]
    simp
    exact ⟨l, lv_all l, rfl⟩
  simp
  exact q
theorem must_be_no {z : Str} (h : z ∉ lvL.map lvS) {Q : D → Prop} {X : Exc → Prop} (q : X ⟨Str.ofString "NotAllowed", []⟩) : (f_must_be_level [.d (.str z)]).run Q X := by
  unfold f_must_be_level
  simp [b_must_be_level, -dT_cons]
  refine ife_then ?_ ?_
  · simp
    rw [levels_eq, in_ts]
    simpa using h
  refine raise_run ?_
  simp
  exact ⟨l1, q⟩
/-! ### faults -/
noncomputable def badP (l : Lv) (P : List (List Wk)) (o : List Int) : List Pr := (upr (dms l P o)).filter fun p => decide (p.2 = 0) || decide (o.idxOf p.2 < o.idxOf p.1)
def prO : List Pr → D
  | p :: _ => .tuple [.str (Str.ofString "pair"), pD p]
  | [] => .none
noncomputable def fltO (l : Lv) (P : List (List Wk)) (o : List Int) : D :=
  if srtI o = wsP P then (if plP P then prO (badP l P o) else .tuple [.str (Str.ofString "plain"), .int 0]) else .tuple [.str (Str.ofString "works"), .int 0]
open Classical in
noncomputable def fltD (l : Lv) (P : List (List Wk)) (d : D) : D :=
  if h : rowB d = true then fltO l P (Classical.choose (rowB_ok h)) else .tuple [.str (Str.ofString "form"), .int 0]
theorem fltD_od {l : Lv} {P : List (List Wk)} {o : List Int} (h : rowB (odD o) = true) : fltD l P (odD o) = fltO l P o := by
  unfold fltD
  rw [dif_pos h]
  have := Classical.choose_spec (rowB_ok h)
  generalize Classical.choose (rowB_ok h) = o' at this
  have e : o = o' := by
    have e1 : o.map PyData.int = o'.map PyData.int := by
      injection this
    exact (List.map_inj_right fun a b h => by injection h).mp e1
  rw [e]
theorem perm_of {P : List (List Wk)} {o : List Int} (h : srtI o = wsP P) : o.Perm (nmsP P) := by
  have h1 : (srtI o).Perm o := List.mergeSort_perm o _
  have h2 : (wsP P).Perm (nmsP P) := List.mergeSort_perm _ _
  exact h1.symm.trans (h ▸ h2)
end K16

namespace K16
open PySem PySem.Spec PyProof.Rows L2 Ev EvR
/-! ### orders that are as a level demands -/
theorem hps_ne {P : List (List Wk)} (h : PtOk P) {p : Pr} (hp : p ∈ hps P) : p.1 ≠ p.2 := by
  obtain ⟨hd, hh, h1⟩ := List.mem_flatMap.mp hp
  obtain ⟨j, k, hj, hk, rfl⟩ := hpL_mem.mp h1
  intro e
  have := getD_inj (h.hands.1 hd hh) (by omega) hk e
  omega
theorem rps_ne {P : List (List Wk)} (h : PtOk P) {p : Pr} (hp : p ∈ rps P) : p.1 ≠ p.2 := by
  obtain ⟨w, hw, h1⟩ := List.mem_flatMap.mp hp
  obtain ⟨r, hr, rfl⟩ := List.mem_map.mp h1
  exact (outW_ok h (wsP_mem.mp hw) (List.mem_filter.mp hr).1).2.2
theorem dir_ne {P : List (List Wk)} (h : PtOk P) {p : Pr} (hp : p ∈ dir P) : p.1 ≠ p.2 := by
  rcases List.mem_append.mp hp with hp | hp
  · exact hps_ne h (upr_mem.mp hp)
  · exact rps_ne h (upr_mem.mp hp)
theorem dms_ne {l : Lv} {P : List (List Wk)} (h : PtOk P) {o : List Int} {p : Pr} (hp : p ∈ dms l P o) : p.1 ≠ p.2 := by
  rcases List.mem_append.mp hp with hp | hp
  · exact dir_ne h hp
  · obtain ⟨w, hw, hp⟩ := List.mem_flatMap.mp hp
    obtain ⟨r, hr, hp⟩ := List.mem_flatMap.mp hp
    obtain ⟨x, hx, rfl⟩ := List.mem_map.mp hp
    have := (List.mem_filter.mp hx).2
    intro e
    simp only at e
    simp [dmX, rvX, e] at this
noncomputable def okC (l : Lv) (P : List (List Wk)) (o : List Int) : Bool := plP P && (badP l P o).isEmpty
/-- what a right order keeps -/
theorem idx_ne {o : List Int} {a b : Int} (ha : a ∈ o) (hb : b ∈ o) (h : a ≠ b) (h2 : ¬ o.idxOf b < o.idxOf a) : o.idxOf a < o.idxOf b := by
  have : o.idxOf a ≠ o.idxOf b := fun e => by
    have h1 := List.getElem_idxOf (List.idxOf_lt_length_iff.mpr ha)
    have h2 := List.getElem_idxOf (List.idxOf_lt_length_iff.mpr hb)
    simp only [e] at h1
    exact h (h1.symm.trans h2)
  omega
theorem okC_iff {l : Lv} {P : List (List Wk)} (h : PtOk P) {o : List Int} (ho : o.Perm (nmsP P)) : okC l P o = true ↔ plP P = true ∧ ∀ p ∈ dms l P o, p.2 ≠ 0 ∧ befB o p.1 p.2 = true := by
  unfold okC badP
  rw [Bool.and_eq_true, List.isEmpty_iff, List.filter_eq_nil_iff]
  refine and_congr Iff.rfl ⟨fun q p hp => ?_, fun q p hp => ?_⟩
  · have := q p (upr_mem.mpr hp)
    simp at this
    obtain ⟨z1, z2⟩ := dms_mem h hp
    refine ⟨this.1, ?_⟩
    unfold befB
    exact decide_eq_true (idx_ne (ho.mem_iff.mpr z1) (ho.mem_iff.mpr (z2.resolve_left this.1)) (dms_ne h hp) (by omega))
  · have := q p (upr_mem.mp hp)
    unfold befB at this
    have t2 := of_decide_eq_true this.2
    simp [this.1]
    omega
noncomputable def goodB (l : Lv) (P : List (List Wk)) (o : List Int) : Bool := plP P && (keptB o (upr (dms l P o)) && !((upr (dms l P o)).any fun p => decide (p.2 = 0)))
theorem good_ok {l : Lv} {P : List (List Wk)} (h : PtOk P) {o : List Int} (ho : o.Perm (nmsP P)) : goodB l P o = okC l P o := by
  rw [Bool.eq_iff_iff, okC_iff h ho]
  unfold goodB keptB
  rw [Bool.and_eq_true, Bool.and_eq_true, Bool.not_eq_true', List.all_eq_true, List.any_eq_false]
  refine and_congr Iff.rfl ⟨fun q p hp => ?_, fun q => ⟨fun p hp => ?_, fun p hp => ?_⟩⟩
  · obtain ⟨z1, z2⟩ := dms_mem h hp
    have n0 := q.2 p (upr_mem.mpr hp)
    simp at n0
    refine ⟨n0, q.1 p (List.mem_filter.mpr ⟨upr_mem.mpr hp, ?_⟩)⟩
    simp [inB, ho.mem_iff.mpr z1, ho.mem_iff.mpr (z2.resolve_left n0)]
  · exact (q p (upr_mem.mp (List.mem_filter.mp hp).1)).2
  · simpa using (q p (upr_mem.mp hp)).1
theorem is_good_run {l : Lv} {P : List (List Wk)} (h : PtOk P) {o : List Int} (ho : o.Perm (nmsP P)) {Q : D → Prop} {X : Exc → Prop} (q : Q (.bool (okC l P o))) : (f_is_good [.d (lvD l), .d (ptD P), .d (odD o)]).run Q X := by
  rw [← good_ok h ho] at q
  unfold goodB at q
  unfold f_is_good
  simp [b_is_good, -dT_cons]
  refine stp ?_
  simp [-dT_cons]
  refine must_be_ok ?_
  simp [-dT_cons]
  cases hp : plP P with
  | false =>
    refine ife_then ?_ ?_
    · simp
      refine is_plain_run h ?_
      rw [hp]
      rfl
    simp
    simpa [hp] using q
  | true =>
    refine ife_no ?_ ?_
    · simp
      refine is_plain_run h ?_
      rw [hp]
      rfl
    rw [hp, Bool.true_and] at q
    refine stp ?_
    simp [-dT_cons]
    refine demands_run h (fun _ w hw => ho.mem_iff.mpr hw) ?_
    have hdl := dms_upr (l := l) (o := o) h
    simp
    refine is_kept_run (by omega) ?_
    simp
    cases hk : keptB o (upr (dms l P o)) with
    | false =>
      simp
      simpa [hk] using q
    | true =>
      rw [hk, Bool.true_and] at q
      simp
      refine fun _ => ⟨line7 (by omega), ?_⟩
      refine lcD_mp (enc := pD) (enc' := PyData.bool) (fun p : Pr => decide (p.2 = 0)) (fun p hp R' hR => ?_) ?_
      · simp [turnB, wipeR]
        have e : (p.2 == 0) = decide (p.2 = 0) := rfl
        rw [e]
        exact hR
      · rw [any_bs, List.any_map]
        simpa using q
/-! ### the first right order -/
noncomputable def okL (l : Lv) (P : List (List Wk)) : List (List Int) := (ords (wsP P).length (wsP P)).filter (okC l P)
def frO : List (List Int) → D
  | o :: _ => odD o
  | [] => .none
theorem wsP_nodup {P : List (List Wk)} (h : PtOk P) : (wsP P).Nodup := (List.mergeSort_perm _ _).nodup_iff.mpr h.nd
theorem ords_ws {P : List (List Wk)} (h : PtOk P) {o : List Int} : o ∈ ords (wsP P).length (wsP P) ↔ o.Perm (nmsP P) := by
  rw [ords_mem (wsP_nodup h) rfl]
  have hp : (wsP P).Perm (nmsP P) := List.mergeSort_perm _ _
  exact ⟨fun z => z.trans hp, fun z => z.trans hp.symm⟩
theorem dir_dms (l : Lv) (P : List (List Wk)) (o : List Int) {p : Pr} (hp : p ∈ dir P) : p ∈ dms l P o := List.mem_append_left _ hp
theorem bef_trans {o : List Int} {a b c : Int} (h1 : befB o a b = true) (h2 : befB o b c = true) : befB o a c = true := by
  unfold befB at *
  have h1 := of_decide_eq_true h1
  have h2 := of_decide_eq_true h2
  exact decide_eq_true (by omega)
theorem led_bef {o : List Int} {E : List Pr} (h : ∀ p ∈ E, befB o p.1 p.2 = true) {a b : Int} (k : Led E a b) : befB o a b = true :=
  Led.into (R := fun a b => befB o a b = true) (fun a b hp => h (a, b) hp) (fun _ _ _ => bef_trans) k
theorem ok_rless {l : Lv} {P : List (List Wk)} (h : PtOk P) {o : List Int} (ho : o.Perm (nmsP P)) (q : okC l P o = true) : rless (dir P) = true := by
  refine rless_iff.mpr fun a k => ?_
  have := led_bef (o := o) (fun p hp => (((okC_iff h ho).mp q).2 p (dir_dms l P o hp)).2) k
  unfold befB at this
  have := of_decide_eq_true this
  omega
theorem find_eq {l : Lv} {P : List (List Wk)} (h : PtOk P) : okL l P = ((ords (wsP P).length (wsP P)).filter fun o => keptB o (dir P)).filter (okC l P) := by
  rw [List.filter_filter]
  unfold okL
  refine List.filter_congr fun o ho => ?_
  have ho := (ords_ws h).mp ho
  cases e : okC l P o with
  | false => rfl
  | true =>
    have q := (okC_iff h ho).mp e
    have : keptB o (dir P) = true := by
      unfold keptB
      rw [List.all_eq_true]
      exact fun p hp => (q.2 p (dir_dms l P o (List.mem_filter.mp hp).1)).2
    rw [this]
    rfl
theorem find_run {l : Lv} {P : List (List Wk)} (h : PtOk P) {Q : D → Prop} {X : Exc → Prop} (q : Q (frO (okL l P))) : (f_find [.d (lvD l), .d (ptD P)]).run Q X := by
  have hdl := dir_len h
  unfold f_find
  simp [b_find, -dT_cons]
  refine stp ?_
  simp [-dT_cons]
  refine must_be_ok ?_
  simp [-dT_cons]
  refine stp ?_
  simp [-dT_cons]
  refine dir_go h ?_
  cases hc : plP P && rless (dir P) with
  | false =>
    have e : okL l P = [] := by
      unfold okL
      rw [List.filter_eq_nil_iff]
      intro o ho z
      have ho := (ords_ws h).mp ho
      have z1 := ((okC_iff h ho).mp z).1
      rw [z1, ok_rless h ho z] at hc
      cases hc
    rw [e] at q
    refine ife_then ?_ ?_
    · simp
      refine is_plain_run h ?_
      simp
      cases hp : plP P with
      | false => simp
      | true =>
        simp
        refine ringless_run (dir_over h) (by have := ws_sq h; omega) (by omega) ?_
        rw [hp, Bool.true_and] at hc
        rw [hc]
        rfl
    simp
    exact q
  | true =>
    obtain ⟨hp, hr⟩ := and2 hc
    refine ife_no ?_ ?_
    · simp
      refine is_plain_run h ?_
      rw [hp]
      simp
      refine ringless_run (dir_over h) (by have := ws_sq h; omega) (by omega) ?_
      rw [hr]
      rfl
    refine stp ?_
    simp [-dT_cons]
    refine works_in_run h ?_
    refine all_orders_run (wsP_nodup h) (wsP_len h) (by omega) ?_
    have hol := ords_len (wsP_nodup h) rfl
    have hf := fct_le (wsP_len h)
    have hfl := List.length_filter_le (fun o => keptB o (dir P)) (ords (wsP P).length (wsP P))
    simp [-dT_cons]
    refine fun _ => ⟨line7 (by omega), ?_⟩
    refine lcD_fm (enc := odD) (enc' := odD) (okC l P) id (fun o ho R' h1 h0 => ?_) ?_
    · have ho := (ords_ws h).mp (List.mem_filter.mp ho).1
      simp [turnB, asgT, wipeR]
      refine is_good_run h ho ?_
      simp
      by_cases c : okC l P o = true
      · simpa [c] using h1 c
      · simpa [c] using h0 (by simpa using c)
    rw [List.map_id, ← find_eq h]
    generalize okL l P = L at q
    cases L with
    | nil =>
      simp
      exact q
    | cons o L =>
      simp
      exact fun _ => ix_l (Ev.atI_nat (n := 0) rfl) q
end K16

namespace K16
open PySem PySem.Spec PyProof.Rows L2 Ev EvR
/-! ### wishes -/
inductive Wi | fo | rb | ro | wr
  deriving DecidableEq
def wiS : Wi → Str
  | .fo => Str.ofString "follow"
  | .rb => Str.ofString "readback"
  | .ro => Str.ofString "readon"
  | .wr => Str.ofString "writeon"
theorem wi1 (x : Wi) : (wiS x == Str.ofString "readback") = decide (x = .rb) := by cases x <;> decide +kernel
theorem wi2 (x : Wi) : (wiS x == Str.ofString "readon") = decide (x = .ro) := by cases x <;> decide +kernel
theorem wi3 (x : Wi) : (wiS x == Str.ofString "writeon") = decide (x = .wr) := by cases x <;> decide +kernel
theorem wi1' (x : Wi) : (wiS x = Str.ofString "readback") = (x = .rb) := beqQ (wi1 x)
theorem wi2' (x : Wi) : (wiS x = Str.ofString "readon") = (x = .ro) := beqQ (wi2 x)
theorem wi3' (x : Wi) : (wiS x = Str.ofString "writeon") = (x = .wr) := beqQ (wi3 x)
theorem wiS_inj {x y : Wi} (h : wiS x = wiS y) : x = y := by
  revert h
  cases x <;> cases y <;> first | (intro _; rfl) | (intro h; exact absurd h (by decide +kernel))
def wA (P : List (List Wk)) (w : Int) : Bool := (dsP P w).any isWr
def rA (P : List (List Wk)) (w : Int) : Bool := (dsP P w).any isRd
def own (P : List (List Wk)) : List Pr := upr (hps P)
theorem own_mem {P : List (List Wk)} {p : Pr} (h : p ∈ own P) : p.1 ∈ nmsP P ∧ p.2 ∈ nmsP P := hps_mem (upr_mem.mp h)
theorem own_len {P : List (List Wk)} (h : PtOk P) : (own P).length ≤ 25 := by
  have := over2_upr (over_ws fun p hp => hps_mem hp : Over2 (wsP P) (wsP P) (hps P))
  have := ws_sq h
  unfold own
  omega
def roA (P : List (List Wk)) (p : Pr) : List Pr := ((own P).filter fun q => decide (q.1 = p.2) && (rA P p.2 && rA P q.2)).map fun q => (p.1, q.2)
def wrA (S : List Pr) (p : Pr) : List Pr := (S.filter fun q => decide (q.1 = p.2)).map fun q => (p.1, q.2)
def bkA (P : List (List Wk)) (p : Pr) : List Pr := ((own P).filter fun q => decide (q.1 = p.2) && wA P q.2).map fun q => (p.1, q.2)
def wrF (P : List (List Wk)) (p : Pr) : Bool := wA P p.1 && wA P p.2
def rbF (P : List (List Wk)) (p : Pr) : Bool := wA P p.1 && rA P p.2
def wpL (P : List (List Wk)) (S : List Pr) : Wi → List Pr
  | .rb => (own P).filter (rbF P)
  | .ro => S.flatMap (roA P)
  | .wr => ((own P).filter (wrF P)).flatMap (wrA S)
  | .fo => (S.flatMap (bkA P)).flatMap (wrA S)
def bl (L S : List Pr) : Bool := L.all fun p => decide (p.1 = p.2) || decide (p ∈ S)
theorem bl_same {L L' S : List Pr} (h : ∀ p, p ∈ L ↔ p ∈ L') : bl L S = bl L' S := by
  unfold bl
  rw [Bool.eq_iff_iff, List.all_eq_true, List.all_eq_true]
  exact ⟨fun q p hp => q p ((h p).mpr hp), fun q p hp => q p ((h p).mp hp)⟩
structure SeOk (P : List (List Wk)) (S : List Pr) : Prop where
  len : S.length ≤ 25
  mem : ∀ p ∈ S, p.1 ∈ nmsP P ∧ p.2 ∈ nmsP P
/-- what makes all wishes come true -/
structure SeGd (P : List (List Wk)) (S : List Pr) : Prop where
  ow : ∀ p ∈ own P, p ∈ S
  tr : ∀ a b c, (a, b) ∈ S → (b, c) ∈ S → (a, c) ∈ S
theorem wrA_mem {S : List Pr} {p x : Pr} : x ∈ wrA S p ↔ x.1 = p.1 ∧ (p.2, x.2) ∈ S := by
  unfold wrA
  rw [List.mem_map]
  constructor
  · rintro ⟨q, hq, rfl⟩
    obtain ⟨h1, h2⟩ := List.mem_filter.mp hq
    refine ⟨rfl, ?_⟩
    rw [← of_decide_eq_true h2]
    exact h1
  · rintro ⟨h1, h2⟩
    exact ⟨_, List.mem_filter.mpr ⟨h2, by simp⟩, by rw [← h1]⟩
theorem roA_mem {P : List (List Wk)} {p x : Pr} : x ∈ roA P p ↔ x.1 = p.1 ∧ (p.2, x.2) ∈ own P ∧ rA P p.2 = true ∧ rA P x.2 = true := by
  unfold roA
  rw [List.mem_map]
  constructor
  · rintro ⟨q, hq, rfl⟩
    obtain ⟨h1, h2⟩ := List.mem_filter.mp hq
    simp only [Bool.and_eq_true, decide_eq_true_iff] at h2
    refine ⟨rfl, ?_, h2.2.1, h2.2.2⟩
    rw [← h2.1]
    exact h1
  · rintro ⟨h1, h2, h3, h4⟩
    exact ⟨_, List.mem_filter.mpr ⟨h2, by simp [h3, h4]⟩, by rw [← h1]⟩
theorem bkA_mem {P : List (List Wk)} {p x : Pr} : x ∈ bkA P p ↔ x.1 = p.1 ∧ (p.2, x.2) ∈ own P ∧ wA P x.2 = true := by
  unfold bkA
  rw [List.mem_map]
  constructor
  · rintro ⟨q, hq, rfl⟩
    obtain ⟨h1, h2⟩ := List.mem_filter.mp hq
    simp only [Bool.and_eq_true, decide_eq_true_iff] at h2
    refine ⟨rfl, ?_, h2.2⟩
    rw [← h2.1]
    exact h1
  · rintro ⟨h1, h2, h3⟩
    exact ⟨_, List.mem_filter.mpr ⟨h2, by simp [h3]⟩, by rw [← h1]⟩
def wb (P : List (List Wk)) (S : List Pr) (x : Wi) : Bool := bl (wpL P S x) S
theorem wb_gd {P : List (List Wk)} {S : List Pr} (g : SeGd P S) (x : Wi) : wb P S x = true := by
  unfold wb bl
  rw [List.all_eq_true]
  intro p hp
  have : p ∈ S := by
    cases x with
    | rb => exact g.ow p (List.mem_filter.mp hp).1
    | ro =>
      obtain ⟨q, hq, h⟩ := List.mem_flatMap.mp hp
      obtain ⟨h1, h2, _⟩ := roA_mem.mp h
      exact g.tr p.1 q.2 p.2 (by rw [h1]; exact hq) (g.ow _ h2)
    | wr =>
      obtain ⟨q, hq, h⟩ := List.mem_flatMap.mp hp
      obtain ⟨h1, h2⟩ := wrA_mem.mp h
      exact g.tr p.1 q.2 p.2 (by rw [h1]; exact g.ow _ (List.mem_filter.mp hq).1) h2
    | fo =>
      obtain ⟨q, hq, h⟩ := List.mem_flatMap.mp hp
      obtain ⟨r, hr, k⟩ := List.mem_flatMap.mp hq
      obtain ⟨h1, h2⟩ := wrA_mem.mp h
      obtain ⟨k1, k2, _⟩ := bkA_mem.mp k
      refine g.tr p.1 q.2 p.2 (g.tr p.1 r.2 q.2 ?_ (g.ow _ k2)) h2
      rw [h1, k1]; exact hr
  simp [this]
/-! ### the law's own lists -/
def lbk (P : List (List Wk)) : List Pr := (own P).filter (rbF P)
def lonA (S : List Pr) (p : Pr) : List Pr := (S.filter fun q => decide (q.2 = p.1)).map fun q => (q.1, p.2)
def lonF (P : List (List Wk)) (p : Pr) : Bool := rA P p.1 && rA P p.2
def lfoB (S : List Pr) (p q : Pr) : List Pr := (S.filter fun r => decide (r.1 = p.2)).map fun r => (q.1, r.2)
def lfoA (S : List Pr) (p : Pr) : List Pr := (S.filter fun q => decide (q.2 = p.1)).flatMap (lfoB S p)
def lfoF (P : List (List Wk)) (p : Pr) : Bool := wA P p.2
def lwL (P : List (List Wk)) (S : List Pr) : Wi → List Pr
  | .rb => lbk P
  | .ro => ((own P).filter (lonF P)).flatMap (lonA S)
  | .wr => ((own P).filter (wrF P)).flatMap (wrA S)
  | .fo => ((own P).filter (lfoF P)).flatMap (lfoA S)
theorem lonA_mem {S : List Pr} {p x : Pr} : x ∈ lonA S p ↔ x.2 = p.2 ∧ (x.1, p.1) ∈ S := by
  unfold lonA
  rw [List.mem_map]
  constructor
  · rintro ⟨q, hq, rfl⟩
    obtain ⟨h1, h2⟩ := List.mem_filter.mp hq
    refine ⟨rfl, ?_⟩
    rw [← of_decide_eq_true h2]
    exact h1
  · rintro ⟨h1, h2⟩
    exact ⟨_, List.mem_filter.mpr ⟨h2, by simp⟩, by rw [← h1]⟩
theorem lfoA_mem {S : List Pr} {p x : Pr} : x ∈ lfoA S p ↔ (x.1, p.1) ∈ S ∧ (p.2, x.2) ∈ S := by
  unfold lfoA
  rw [List.mem_flatMap]
  constructor
  · rintro ⟨q, hq, h⟩
    obtain ⟨h1, h2⟩ := List.mem_filter.mp hq
    unfold lfoB at h
    obtain ⟨r, hr, rfl⟩ := List.mem_map.mp h
    obtain ⟨h3, h4⟩ := List.mem_filter.mp hr
    refine ⟨?_, ?_⟩
    · rw [← of_decide_eq_true h2]; exact h1
    · rw [← of_decide_eq_true h4]; exact h3
  · rintro ⟨h1, h2⟩
    exact ⟨_, List.mem_filter.mpr ⟨h1, by simp⟩, List.mem_map.mpr ⟨_, List.mem_filter.mpr ⟨h2, by simp⟩, rfl⟩⟩
theorem lw_same {P : List (List Wk)} {S : List Pr} (x : Wi) : bl (lwL P S x) S = wb P S x := by
  unfold wb
  cases x with
  | rb => rfl
  | wr => rfl
  | ro =>
    refine bl_same fun p => ?_
    show p ∈ ((own P).filter (lonF P)).flatMap (lonA S) ↔ p ∈ S.flatMap (roA P)
    rw [List.mem_flatMap, List.mem_flatMap]
    constructor
    · rintro ⟨q, hq, h⟩
      obtain ⟨h1, h2⟩ := List.mem_filter.mp hq
      obtain ⟨h3, h4⟩ := lonA_mem.mp h
      unfold lonF at h2
      simp only [Bool.and_eq_true] at h2
      exact ⟨_, h4, roA_mem.mpr ⟨rfl, by rw [h3]; exact h1, h2.1, by rw [h3]; exact h2.2⟩⟩
    · rintro ⟨q, hq, h⟩
      obtain ⟨h1, h2, h3, h4⟩ := roA_mem.mp h
      exact ⟨_, List.mem_filter.mpr ⟨h2, by simp [lonF, h3, h4]⟩, lonA_mem.mpr ⟨rfl, by rw [h1]; exact hq⟩⟩
  | fo =>
    refine bl_same fun p => ?_
    show p ∈ ((own P).filter (lfoF P)).flatMap (lfoA S) ↔ p ∈ (S.flatMap (bkA P)).flatMap (wrA S)
    rw [List.mem_flatMap, List.mem_flatMap]
    constructor
    · rintro ⟨q, hq, h⟩
      obtain ⟨h1, h2⟩ := List.mem_filter.mp hq
      obtain ⟨h3, h4⟩ := lfoA_mem.mp h
      exact ⟨(p.1, q.2), List.mem_flatMap.mpr ⟨_, h3, bkA_mem.mpr ⟨rfl, h1, h2⟩⟩, wrA_mem.mpr ⟨rfl, h4⟩⟩
    · rintro ⟨q, hq, h⟩
      obtain ⟨r, hr, k⟩ := List.mem_flatMap.mp hq
      obtain ⟨h1, h2⟩ := wrA_mem.mp h
      obtain ⟨k1, k2, k3⟩ := bkA_mem.mp k
      exact ⟨_, List.mem_filter.mpr ⟨k2, k3⟩, lfoA_mem.mpr ⟨by rw [h1, k1]; exact hr, h2⟩⟩
/-! ### what they answer -/
def wis : List Wi := [.fo, .rb, .ro, .wr]
def wil : List Wi := [.rb, .ro, .wr, .fo]
def wD (P : List (List Wk)) (S : List Pr) (l : List Wi) : D := .dict (dkv (l.map wiS) (l.map fun x => .bool (wb P S x)))
theorem wishes_eq : v_WISHES = .tuple ((wis.map wiS).map .str) := rfl
theorem in_pt {n : Bool} {p : Pr} {A : List Pr} {Q : Bool → Prop} {X : Exc → Prop} : (inD n (pD p) (.tuple (A.map pD))).run Q X = Q (if n then !decide (p ∈ A) else decide (p ∈ A)) := by
  show ((sh (pD p) = true ∧ sh (.tuple (A.map pD)) = true) ∧ Q _) = _
  rw [any_prs]
  have h1 := depth_prs A
  have h2 := nd_prs A
  have h3 : sh (.tuple (A.map pD)) = true := by
    simp [sh, PyData.depth, h2]
    omega
  simp [sh_pD, h3]
@[simp] theorem in_pt2 {n : Bool} {a b : Int} {A : List Pr} {Q : Bool → Prop} {X : Exc → Prop} : (inD n (.tuple [.int a, .int b]) (.tuple (A.map pD))).run Q X = Q (if n then !decide ((a, b) ∈ A) else decide ((a, b) ∈ A)) := in_pt (p := (a, b))
end K16

namespace K16
open PySem PySem.Spec PyProof.Rows L2 Ev EvR
theorem any_kind {ds : List Dd} {p : Dd → Bool} : ((ds.map p).map PyData.bool) = ds.map fun d => PyData.bool (p d) := by rw [List.map_map]; rfl
theorem writes_any_run {P : List (List Wk)} (h : PtOk P) {w : Int} (hw : w ∈ nmsP P) {Q : D → Prop} {X : Exc → Prop} (q : Q (.bool (wA P w))) : (f_writes_any [.d (ptD P), .d (.int w)]).run Q X := by
  have hd := (dsP_ok h hw).1
  unfold f_writes_any
  simp [b_writes_any]
  refine deeds_in_run h hw ?_
  simp
  intro _
  refine ⟨line8 (by omega), ?_⟩
  refine lcD_mp (enc := enc) (enc' := PyData.bool) isWr (fun d hd R' hR => ?_) ?_
  · simp [turnB, wipeR]
    cases d <;> simp [isWr] at * <;> exact hR
  · rw [any_bs, List.any_map]
    exact q
theorem reads_any_run {P : List (List Wk)} (h : PtOk P) {w : Int} (hw : w ∈ nmsP P) {Q : D → Prop} {X : Exc → Prop} (q : Q (.bool (rA P w))) : (f_reads_any [.d (ptD P), .d (.int w)]).run Q X := by
  have hd := (dsP_ok h hw).1
  unfold f_reads_any
  simp [b_reads_any]
  refine deeds_in_run h hw ?_
  simp
  intro _
  refine ⟨line8 (by omega), ?_⟩
  refine lcD_mp (enc := enc) (enc' := PyData.bool) isRd (fun d hd R' hR => ?_) ?_
  · simp [turnB, wipeR]
    cases d <;> simp [isRd] at * <;> exact hR
  · rw [any_bs, List.any_map]
    exact q
theorem l_any_w {P : List (List Wk)} (h : PtOk P) {w : Int} (hw : w ∈ nmsP P) {Q : D → Prop} {X : Exc → Prop} (q : Q (.bool (wA P w))) : (f_l_any [.d (ptD P), .d (.int w), .d (.str (Str.ofString "write"))]).run Q X := by
  have hd := (dsP_ok h hw).1
  unfold f_l_any
  simp [b_l_any]
  refine l_deeds_run h ?_
  simp
  intro _
  refine ⟨line8 (by omega), ?_⟩
  refine lcD_fm (enc := enc) (enc' := enc) isWr id (fun d hd R' g1 g0 => ?_) ?_
  · simp [turnB, wipeR]
    cases d <;> simp [isWr] at * <;> first | exact g1 | exact g0
  · simp
    intro _
    have e : decide (0 < ((dsP P w).filter isWr).length) = wA P w := len_any _ _
    rw [← e] at q
    simpa using q
theorem l_any_r {P : List (List Wk)} (h : PtOk P) {w : Int} (hw : w ∈ nmsP P) {Q : D → Prop} {X : Exc → Prop} (q : Q (.bool (rA P w))) : (f_l_any [.d (ptD P), .d (.int w), .d (.str (Str.ofString "read"))]).run Q X := by
  have hd := (dsP_ok h hw).1
  unfold f_l_any
  simp [b_l_any]
  refine l_deeds_run h ?_
  simp
  intro _
  refine ⟨line8 (by omega), ?_⟩
  refine lcD_fm (enc := enc) (enc' := enc) isRd id (fun d hd R' g1 g0 => ?_) ?_
  · simp [turnB, wipeR]
    cases d <;> simp [isRd] at * <;> first | exact g1 | exact g0
  · simp
    intro _
    have e : decide (0 < ((dsP P w).filter isRd).length) = rA P w := len_any _ _
    rw [← e] at q
    simpa using q
abbrev seD (S : List Pr) (o : D) : D := .tuple [.tuple (S.map pD), o]
theorem wish_pairs_run {P : List (List Wk)} (h : PtOk P) {S : List Pr} (hS : SeOk P S) {o : D} (x : Wi) {Q : D → Prop} {X : Exc → Prop} (q : Q (.list ((wpL P S x).map pD))) : (f_wish_pairs [.d (.str (wiS x)), .d (ptD P), .d (seD S o)]).run Q X := by
  have hO := own_len h
  have hSl := hS.len
  have mO : ∀ p ∈ own P, p.1 ∈ nmsP P ∧ p.2 ∈ nmsP P := fun p hp => own_mem hp
  have mS := hS.mem
  unfold f_wish_pairs
  simp [b_wish_pairs, -dT_cons]
  refine stp ?_
  simp [-dT_cons]
  refine stp ?_
  simp [-dT_cons]
  refine hand_pairs_run h ?_
  rw [show upr (hps P) = own P from rfl]
  have lwr : ∀ p : Pr, (wrA S p).length ≤ 25 := fun p => by
    unfold wrA
    rw [List.length_map]
    exact Nat.le_trans (List.length_filter_le _ _) hSl
  have lro : ∀ p : Pr, (roA P p).length ≤ 25 := fun p => by
    unfold roA
    rw [List.length_map]
    exact Nat.le_trans (List.length_filter_le _ _) hO
  have lbk : ∀ p : Pr, (bkA P p).length ≤ 25 := fun p => by
    unfold bkA
    rw [List.length_map]
    exact Nat.le_trans (List.length_filter_le _ _) hO
  by_cases c1 : x = .rb
  · subst c1
    refine ife_then ?_ ?_
    · simp [wi1]
    simp
    intro _
    refine ⟨line8 (by omega), ?_⟩
    refine lcD_fm (enc := pD) (enc' := pD) (rbF P) id (fun p hp R' g1 g0 => ?_) ?_
    · simp [turnB, wipeR]
      refine writes_any_run h (mO p hp).1 ?_
      cases c : wA P p.1 with
      | false => simpa using g0 (by simp [rbF, c])
      | true =>
        simp
        refine reads_any_run h (mO p hp).2 ?_
        cases d : rA P p.2 with
        | false => simpa using g0 (by simp [rbF, d])
        | true => simpa [l2] using g1 (by simp [rbF, c, d])
    rw [List.map_id]
    exact q
  refine ife_no ?_ ?_
  · simp [wi1, c1]
  by_cases c2 : x = .ro
  · subst c2
    refine ife_then ?_ ?_
    · simp [wi2]
    simp
    unfold lc2W
    simp
    intro _
    refine fold_out (enc := pD) (fun p => (roA P p).map pD) 25 100000 (by simp; omega) (fun p hp => by rw [List.length_map]; exact lro p) (fun p hp acc hacc R' hR => ?_) ?_
    · simp [lc2Out, wipeR]
      intro _
      refine fold_fm (enc := pD) (enc' := pD) (fun q : Pr => decide (q.1 = p.2) && (rA P p.2 && rA P q.2)) (fun q => (p.1, q.2)) 100000 (by omega) (fun r hr acc2 hacc2 R2 h1 h0 => ?_) ?_
      · simp [lc2In, wipeR]
        by_cases c : r.1 = p.2
        · simp [c]
          refine reads_any_run h (mS p hp).2 ?_
          cases d : rA P p.2 with
          | false => simpa using h0 (by simp [d])
          | true =>
            simp
            refine reads_any_run h (mO r hr).2 ?_
            cases e : rA P r.2 with
            | false => simpa using h0 (by simp [e])
            | true =>
              simp [l2]
              exact ⟨line6 (by omega), h1 (by simp [c, d, e])⟩
        · simp [c]
          exact h0 (by simp [c])
      exact hR
    · simp only [List.nil_append, ← List.map_flatMap]
      exact q
  refine ife_no ?_ ?_
  · simp [wi2, c2]
  by_cases c3 : x = .wr
  · subst c3
    refine ife_then ?_ ?_
    · simp [wi3]
    simp
    unfold lc2W
    simp
    intro _
    have e0 : (own P).flatMap (fun p => if wrF P p = true then (wrA S p).map pD else []) = (((own P).filter (wrF P)).flatMap (wrA S)).map pD := by
      rw [List.map_flatMap]
      generalize own P = l
      induction l with
      | nil => rfl
      | cons a l ih =>
        rw [List.flatMap_cons, ih, List.filter_cons]
        cases c : wrF P a <;> simp
    refine fold_out (enc := pD) (fun p => if wrF P p = true then (wrA S p).map pD else []) 25 100000 (by simp; omega) (fun p hp => by
      show (if wrF P p = true then (wrA S p).map pD else []).length ≤ 25
      split
      · rw [List.length_map]; exact lwr p
      · simp) (fun p hp acc hacc R' hR => ?_) ?_
    · simp [lc2Out, wipeR]
      refine writes_any_run h (mO p hp).1 ?_
      cases c : wA P p.1 with
      | false =>
        simp
        simpa [wrF, c] using hR
      | true =>
        simp
        refine writes_any_run h (mO p hp).2 ?_
        cases d : wA P p.2 with
        | false =>
          simp
          simpa [wrF, d] using hR
        | true =>
          simp
          intro _
          refine fold_fm (enc := pD) (enc' := pD) (fun q : Pr => decide (q.1 = p.2)) (fun q => (p.1, q.2)) 100000 (by omega) (fun r hr acc2 hacc2 R2 h1 h0 => ?_) ?_
          · simp [lc2In, wipeR]
            by_cases e : r.1 = p.2
            · simp [e, l2]
              exact ⟨line6 (by omega), h1 (by simp [e])⟩
            · simp [e]
              exact h0 (by simp [e])
          · have : wrF P p = true := by simp [wrF, c, d]
            rw [this] at hR
            exact hR
    · rw [List.nil_append, e0]
      exact q
  refine ife_no ?_ ?_
  · simp [wi3, c3]
  have c4 : x = .fo := by cases x <;> first | rfl | exact absurd rfl c1 | exact absurd rfl c2 | exact absurd rfl c3
  subst c4
  refine stp ?_
  simp [-dT_cons]
  unfold lc2W
  simp [-dT_cons]
  intro _
  refine fold_out (enc := pD) (fun p => (bkA P p).map pD) 25 100000 (by simp; omega) (fun p hp => by rw [List.length_map]; exact lbk p) (fun p hp acc hacc R' hR => ?_) ?_
  · simp [lc2Out, wipeR]
    intro _
    refine fold_fm (enc := pD) (enc' := pD) (fun q : Pr => decide (q.1 = p.2) && wA P q.2) (fun q => (p.1, q.2)) 100000 (by omega) (fun r hr acc2 hacc2 R2 h1 h0 => ?_) ?_
    · simp [lc2In, wipeR]
      by_cases c : r.1 = p.2
      · simp [c]
        refine writes_any_run h (mO r hr).2 ?_
        cases e : wA P r.2 with
        | false => simpa using h0 (by simp [e])
        | true =>
          simp [l2]
          exact ⟨line6 (by omega), h1 (by simp [c, e])⟩
      · simp [c]
        exact h0 (by simp [c])
    exact hR
  · simp only [List.nil_append, ← List.map_flatMap]
    have hb : (S.flatMap (bkA P)).length ≤ 625 := by
      have := flat_le (f := bkA P) 25 (l := S) fun x _ => lbk x
      have : S.length * 25 ≤ 25 * 25 := Nat.mul_le_mul_right _ hSl
      omega
    simp
    unfold lc2W
    simp
    intro _
    refine fold_out (enc := pD) (fun p => (wrA S p).map pD) 25 100000 (by simp only [List.length_nil]; omega) (fun p hp => by rw [List.length_map]; exact lwr p) (fun p hp acc hacc R' hR => ?_) ?_
    · simp [lc2Out, wipeR]
      intro _
      refine fold_fm (enc := pD) (enc' := pD) (fun q : Pr => decide (q.1 = p.2)) (fun q => (p.1, q.2)) 100000 (by omega) (fun r hr acc2 hacc2 R2 h1 h0 => ?_) ?_
      · simp [lc2In, wipeR]
        by_cases e : r.1 = p.2
        · simp [e, l2]
          exact ⟨line6 (by omega), h1 (by simp [e])⟩
        · simp [e]
          exact h0 (by simp [e])
      exact hR
    · simp only [List.nil_append, ← List.map_flatMap]
      exact q
end K16

namespace K16
open PySem PySem.Spec PyProof.Rows L2 Ev EvR
theorem inr_inj (a b : Wi) (h : (Sum.inr (wiS a) : Key) = Sum.inr (wiS b)) : a = b := wiS_inj (Sum.inr.inj h)
def wT (P : List (List Wk)) (S : List Pr) (l : List Wi) : List (Key × D) := l.map fun x => (Sum.inr (wiS x), .bool (wb P S x))
theorem wT_put {P : List (List Wk)} {S : List Pr} {l : List Wi} (nd : l.Nodup) {i : Nat} {x : Wi} (e : l[i]? = some x) : putKD (wT P S (l.take i)) (.inr (wiS x)) (.bool (wb P S x)) = wT P S (l.take (i + 1)) := by
  unfold wT
  rw [putKD_new, List.take_add_one, e]
  · simp
  · rintro a ha z
    have := inr_inj _ _ z
    subst this
    have hi := (List.getElem?_eq_some_iff.mp e)
    obtain ⟨j, hj, e2⟩ := List.getElem_of_mem ha
    rw [List.length_take] at hj
    rw [List.getElem_take] at e2
    have := (List.getElem_inj nd).mp (e2.trans hi.2.symm)
    omega
theorem wis_nd : wis.Nodup := by decide
theorem wil_nd : wil.Nodup := by decide
theorem txK_wT {P : List (List Wk)} {S : List Pr} : ∀ l : List Wi, txK (wT P S l) = some (l.map wiS)
  | [] => rfl
  | x :: l => by
    have := txK_wT (P := P) (S := S) l
    unfold wT at this ⊢
    rw [List.map_cons, txK, this]
    rfl
theorem wT_vals {P : List (List Wk)} {S : List Pr} (l : List Wi) : (wT P S l).map (·.2) = l.map fun x => .bool (wb P S x) := by
  unfold wT
  rw [List.map_map]
  rfl
theorem wp_len {P : List (List Wk)} (h : PtOk P) {S : List Pr} (hS : SeOk P S) (x : Wi) : (wpL P S x).length ≤ 15625 := by
  have hO := own_len h
  have hSl := hS.len
  have lwr : ∀ p : Pr, (wrA S p).length ≤ 25 := fun p => by
    unfold wrA
    rw [List.length_map]
    exact Nat.le_trans (List.length_filter_le _ _) hSl
  have lro : ∀ p : Pr, (roA P p).length ≤ 25 := fun p => by
    unfold roA
    rw [List.length_map]
    exact Nat.le_trans (List.length_filter_le _ _) hO
  have lbk : ∀ p : Pr, (bkA P p).length ≤ 25 := fun p => by
    unfold bkA
    rw [List.length_map]
    exact Nat.le_trans (List.length_filter_le _ _) hO
  cases x with
  | rb =>
    have := List.length_filter_le (rbF P) (own P)
    show ((own P).filter (rbF P)).length ≤ _
    omega
  | ro =>
    have := flat_le (f := roA P) 25 (l := S) fun x _ => lro x
    have : S.length * 25 ≤ 25 * 25 := Nat.mul_le_mul_right _ hSl
    show (S.flatMap (roA P)).length ≤ _
    omega
  | wr =>
    have := flat_le (f := wrA S) 25 (l := (own P).filter (wrF P)) fun x _ => lwr x
    have h2 := List.length_filter_le (wrF P) (own P)
    have : ((own P).filter (wrF P)).length * 25 ≤ 25 * 25 := Nat.mul_le_mul_right _ (by omega)
    show (((own P).filter (wrF P)).flatMap (wrA S)).length ≤ _
    omega
  | fo =>
    have h1 := flat_le (f := bkA P) 25 (l := S) fun x _ => lbk x
    have h2 : S.length * 25 ≤ 25 * 25 := Nat.mul_le_mul_right _ hSl
    have h3 := flat_le (f := wrA S) 25 (l := S.flatMap (bkA P)) fun x _ => lwr x
    have h4 : (S.flatMap (bkA P)).length * 25 ≤ 625 * 25 := Nat.mul_le_mul_right _ (by omega)
    show ((S.flatMap (bkA P)).flatMap (wrA S)).length ≤ _
    omega
def InvW (P : List (List Wk)) (S : List Pr) (o : D) (i : Nat) (ρ : List Sl) : Prop := ∃ s3 s4 s5, ρ = [.val (ptD P), .val (seD S o), .dic (wT P S (wis.take i)), s3, s4, s5]
theorem wishes_run {P : List (List Wk)} (h : PtOk P) {S : List Pr} (hS : SeOk P S) {o : D} {Q : D → Prop} {X : Exc → Prop} (q : Q (wD P S wis)) : (f_wishes [.d (ptD P), .d (seD S o)]).run Q X := by
  unfold f_wishes
  simp [b_wishes, -dT_cons]
  refine stp ?_
  simp [-dT_cons]
  refine stp ?_
  simp [-dT_cons]
  rw [wishes_eq]
  simp [-dT_cons]
  intro _
  rw [show (wis.map (PyData.str ∘ wiS)) = wis.map (fun x => PyData.str (wiS x)) from rfl]
  refine forD_enc (enc := fun x => PyData.str (wiS x)) (InvW P S o) ⟨_, _, _, rfl⟩ ?_ ?_
  · rintro i x ρ e1 ⟨s3, s4, s5, rfl⟩
    have hl := wp_len h hS x
    simp [-dT_cons]
    refine stp ?_
    simp [-dT_cons]
    refine wish_pairs_run h hS x ?_
    simp [-dT_cons]
    intro _
    refine ⟨line7 (by omega), ?_⟩
    refine lcD_mp (enc := pD) (enc' := PyData.bool) (fun p : Pr => decide (p.1 = p.2) || decide (p ∈ S)) (fun p hp R' hR => ?_) ?_
    · simp [turnB, wipeR]
      by_cases c : p.1 = p.2
      · simpa [c] using hR
      · have c' : (p.1 == p.2) = false := by simpa using c
        simpa [c, c', l2] using hR
    rw [all_bs, List.all_map]
    simp [-dT_cons]
    refine ⟨line8 (by unfold wT; simp [wis]; omega), ?_⟩
    rw [show ((wpL P S x).all fun p : Pr => decide (p.1 = p.2) || decide (p ∈ S)) = wb P S x from rfl, wT_put wis_nd e1]
    exact ⟨_, _, _, rfl⟩
  · rintro ρ ⟨s3, s4, s5, rfl⟩
    rw [show wis.take wis.length = wis from List.take_length]
    refine stp ?_
    simp [frzR, txK_wT, wT_vals]
    exact q
/-! ### the law's -/
theorem ife_join {M : Mg} {ρ : List Sl} {Q : Out → Prop} {XX : XS → Prop} {c : IC} {a t : IT} {b : Bool} {ρ1 : List Sl} (h : (denC M c ρ).run (fun k => k = b) (fun x => XX (x, ρ))) (ha : b = true → (denT M a ρ).run (fun o => o = .nx ρ1) XX) (hb : b = false → ρ = ρ1) (ht : (denT M t ρ1).run Q XX) : (denT M (.cons (.ife c a .nil) t) ρ).run Q XX := by
  cases b with
  | false =>
    have := hb rfl
    subst this
    exact ife_no h ht
  | true =>
    refine ife_then h ?_
    refine (denT M a ρ).mono (fun o e => ?_) (fun _ q => q) (ha rfl)
    subst e
    exact ht
def fT (F : Pr → Bool) (g : Pr → List Pr) (O : List Pr) (i : Nat) : List Pr := ((O.take i).filter F).flatMap g
theorem fT_step {F : Pr → Bool} {g : Pr → List Pr} {O : List Pr} {i : Nat} {p : Pr} (e : O[i]? = some p) : fT F g O (i + 1) = fT F g O i ++ (if F p = true then g p else []) := by
  unfold fT
  rw [List.take_add_one, e, List.filter_append, List.flatMap_append]
  cases c : F p <;> simp [c]
theorem fT_len {F : Pr → Bool} {g : Pr → List Pr} {O : List Pr} {i c : Nat} (hO : O.length ≤ 25) (hg : ∀ p, (g p).length ≤ c) : (fT F g O i).length ≤ 25 * c := by
  unfold fT
  have := flat_le (f := g) c (l := (O.take i).filter F) fun x _ => hg x
  have h1 := List.length_filter_le F (O.take i)
  have h2 : (O.take i).length ≤ 25 := by rw [List.length_take]; omega
  exact Nat.le_trans this (Nat.mul_le_mul_right _ (by omega))
def bkT (P : List (List Wk)) (i : Nat) : List Pr := ((own P).take i).filter (rbF P)
theorem bkT_step {P : List (List Wk)} {i : Nat} {p : Pr} (e : (own P)[i]? = some p) : bkT P (i + 1) = bkT P i ++ (if rbF P p = true then [p] else []) := by
  unfold bkT
  rw [List.take_add_one, e, List.filter_append]
  cases c : rbF P p <;> simp [c]
def InvL1 (P : List (List Wk)) (S : List Pr) (i : Nat) (ρ : List Sl) : Prop := ∃ s3 s8 s9 s10 s11 s12 s13 s14 s15 s16, ρ = [.val (ptD P), .val (.tuple (S.map pD)), .val (.list ((own P).map pD)), s3, .own ((bkT P i).map pD), .val (.list ((fT (lonF P) (lonA S) (own P) i).map pD)), .val (.list ((fT (wrF P) (wrA S) (own P) i).map pD)), .val (.list ((fT (lfoF P) (lfoA S) (own P) i).map pD)), s8, s9, s10, s11, s12, s13, s14, s15, s16]
def InvL2 (P : List (List Wk)) (S : List Pr) (B O W F : List Pr) (p : Pr) (i : Nat) (ρ : List Sl) : Prop := ∃ s3 s10 s11 s12 s13 s14 s15 s16, ρ = [.val (ptD P), .val (.tuple (S.map pD)), .val (.list ((own P).map pD)), s3, .own (B.map pD), .val (.list (O.map pD)), .val (.list (W.map pD)), .val (.list ((F ++ ((S.take i).filter fun q => decide (q.2 = p.1)).flatMap (lfoB S p)).map pD)), .val (.int p.1), .val (.int p.2), s10, s11, s12, s13, s14, s15, s16]
abbrev lwD (P : List (List Wk)) (S : List Pr) (x : Wi) : D := .tuple [.str (wiS x), .list ((lwL P S x).map pD)]
def InvL3 (P : List (List Wk)) (S : List Pr) (i : Nat) (ρ : List Sl) : Prop := ∃ s2 s4 s5 s6 s7 s8 s9 s10 s11 s12 s13 s14 s15 s16, ρ = [.val (ptD P), .val (.tuple (S.map pD)), s2, .dic (wT P S (wil.take i)), s4, s5, s6, s7, s8, s9, s10, s11, s12, s13, s14, s15, s16]
theorem l_wishes_run {P : List (List Wk)} (h : PtOk P) {S : List Pr} (hS : SeOk P S) {Q : D → Prop} {X : Exc → Prop} (q : Q (wD P S wil)) : (f_l_wishes [.d (ptD P), .d (.tuple (S.map pD))]).run Q X := by
  have hO := own_len h
  have hSl := hS.len
  have llon : ∀ p : Pr, (lonA S p).length ≤ 25 := fun p => by
    unfold lonA
    rw [List.length_map]
    exact Nat.le_trans (List.length_filter_le _ _) hSl
  have lwr : ∀ p : Pr, (wrA S p).length ≤ 25 := fun p => by
    unfold wrA
    rw [List.length_map]
    exact Nat.le_trans (List.length_filter_le _ _) hSl
  have lfb : ∀ p q : Pr, (lfoB S p q).length ≤ 25 := fun p q => by
    unfold lfoB
    rw [List.length_map]
    exact Nat.le_trans (List.length_filter_le _ _) hSl
  have lfo : ∀ p : Pr, (lfoA S p).length ≤ 625 := fun p => by
    unfold lfoA
    have h1 := flat_le (f := lfoB S p) 25 (l := S.filter fun q => decide (q.2 = p.1)) fun x _ => lfb p x
    have h2 := List.length_filter_le (fun q : Pr => decide (q.2 = p.1)) S
    have : (S.filter fun q => decide (q.2 = p.1)).length * 25 ≤ 25 * 25 := Nat.mul_le_mul_right _ (by omega)
    omega
  unfold f_l_wishes
  simp [b_l_wishes, -dT_cons]
  refine stp ?_
  simp [-dT_cons]
  refine l_hand_pairs_run h ?_
  rw [show upr (hps P) = own P from rfl]
  refine stp ?_
  simp [-dT_cons]
  refine stp ?_
  simp [-dT_cons]
  intro _
  refine forD_enc (enc := pD) (InvL1 P S) ⟨_, _, _, _, _, _, _, _, _, _, rfl⟩ ?_ ?_
  · rintro i p ρ e1 ⟨s3, s8, s9, s10, s11, s12, s13, s14, s15, s16, rfl⟩
    have hp := own_mem (List.mem_of_getElem? e1)
    have hbk : (bkT P i).length ≤ 25 := by
      unfold bkT
      refine Nat.le_trans (List.length_filter_le _ _) ?_
      rw [List.length_take]; omega
    have h1 := fT_len (F := lonF P) (i := i) hO llon
    have h2 := fT_len (F := wrF P) (i := i) hO lwr
    have h3 := fT_len (F := lfoF P) (i := i) hO lfo
    simp [-dT_cons]
    refine ife_join (b := rbF P p) (ρ1 := [.val (ptD P), .val (.tuple (S.map pD)), .val (.list ((own P).map pD)), s3, .own ((bkT P (i + 1)).map pD), .val (.list ((fT (lonF P) (lonA S) (own P) i).map pD)), .val (.list ((fT (wrF P) (wrA S) (own P) i).map pD)), .val (.list ((fT (lfoF P) (lfoA S) (own P) i).map pD)), .val (.int p.1), .val (.int p.2), s10, s11, s12, s13, s14, s15, s16]) ?_ (fun hb => ?_) (fun hb => ?_) ?_
    · simp
      refine l_any_w h hp.1 ?_
      cases c : wA P p.1 with
      | false => simp [rbF, c]
      | true =>
        simp
        refine l_any_r h hp.2 ?_
        cases d : rA P p.2 <;> simp [rbF, c, d]
    · simp [appW, ownW, l2]
      refine ⟨line6 (by omega), ?_⟩
      rw [bkT_step e1, hb]
      simp
    · rw [bkT_step e1, hb]
      simp
    refine ife_join (b := lonF P p) (ρ1 := [.val (ptD P), .val (.tuple (S.map pD)), .val (.list ((own P).map pD)), s3, .own ((bkT P (i + 1)).map pD), .val (.list ((fT (lonF P) (lonA S) (own P) (i + 1)).map pD)), .val (.list ((fT (wrF P) (wrA S) (own P) i).map pD)), .val (.list ((fT (lfoF P) (lfoA S) (own P) i).map pD)), .val (.int p.1), .val (.int p.2), s10, s11, s12, s13, s14, s15, s16]) ?_ (fun hb => ?_) (fun hb => ?_) ?_
    · simp
      refine l_any_r h hp.1 ?_
      cases c : rA P p.1 with
      | false => simp [lonF, c]
      | true =>
        simp
        refine l_any_r h hp.2 ?_
        cases d : rA P p.2 <;> simp [lonF, c, d]
    · simp
      refine fun _ => ⟨line8 (by omega), ?_⟩
      refine lcD_fm (enc := pD) (enc' := pD) (fun q : Pr => decide (q.2 = p.1)) (fun q => (q.1, p.2)) (fun r hr R' g1 g0 => ?_) ?_
      · simp [turnB, wipeR]
        by_cases c : r.2 = p.1
        · simpa [c, l2] using g1 (by simp [c])
        · simpa [c] using g0 (by simp [c])
      rw [show (S.filter fun q : Pr => decide (q.2 = p.1)).map (fun q => (q.1, p.2)) = lonA S p from rfl]
      have := llon p
      refine ⟨line7 (by simp only [List.length_map]; omega), ?_⟩
      rw [fT_step e1, hb]
      simp
    · rw [fT_step e1, hb]
      simp
    refine ife_join (b := wrF P p) (ρ1 := [.val (ptD P), .val (.tuple (S.map pD)), .val (.list ((own P).map pD)), s3, .own ((bkT P (i + 1)).map pD), .val (.list ((fT (lonF P) (lonA S) (own P) (i + 1)).map pD)), .val (.list ((fT (wrF P) (wrA S) (own P) (i + 1)).map pD)), .val (.list ((fT (lfoF P) (lfoA S) (own P) i).map pD)), .val (.int p.1), .val (.int p.2), s10, s11, s12, s13, s14, s15, s16]) ?_ (fun hb => ?_) (fun hb => ?_) ?_
    · simp
      refine l_any_w h hp.1 ?_
      cases c : wA P p.1 with
      | false => simp [wrF, c]
      | true =>
        simp
        refine l_any_w h hp.2 ?_
        cases d : wA P p.2 <;> simp [wrF, c, d]
    · simp
      refine fun _ => ⟨line8 (by omega), ?_⟩
      refine lcD_fm (enc := pD) (enc' := pD) (fun q : Pr => decide (q.1 = p.2)) (fun q => (p.1, q.2)) (fun r hr R' g1 g0 => ?_) ?_
      · simp [turnB, wipeR]
        by_cases c : r.1 = p.2
        · simpa [c, l2] using g1 (by simp [c])
        · simpa [c] using g0 (by simp [c])
      rw [show (S.filter fun q : Pr => decide (q.1 = p.2)).map (fun q => (p.1, q.2)) = wrA S p from rfl]
      have := lwr p
      refine ⟨line7 (by simp only [List.length_map]; omega), ?_⟩
      rw [fT_step (F := wrF P) e1, hb]
      simp
    · rw [fT_step (F := wrF P) e1, hb]
      simp
    cases c : lfoF P p with
    | false =>
      refine ife_no ?_ ?_
      · simp
        refine l_any_w h hp.2 ?_
        simpa [lfoF] using c
      simp
      refine ⟨s3, .val (.int p.1), .val (.int p.2), s10, s11, s12, s13, s14, s15, s16, ?_⟩
      rw [fT_step (F := lfoF P) e1, c]
      simp only [Bool.false_eq_true, if_false, List.append_nil]
    | true =>
      refine ife_then ?_ ?_
      · simp
        refine l_any_w h hp.2 ?_
        simpa [lfoF] using c
      refine stp ?_
      simp [-dT_cons]
      intro _
      refine forD_enc (enc := pD) (InvL2 P S (bkT P (i + 1)) (fT (lonF P) (lonA S) (own P) (i + 1)) (fT (wrF P) (wrA S) (own P) (i + 1)) (fT (lfoF P) (lfoA S) (own P) i) p) ⟨s3, _, _, _, _, _, _, _, by rw [List.take_zero, List.filter_nil, List.flatMap_nil, List.append_nil]⟩ ?_ ?_
      · rintro j r ρ e2 ⟨s3, s10, s11, s12, s13, s14, s15, s16, rfl⟩
        have hfl : (((S.take j).filter fun q => decide (q.2 = p.1)).flatMap (lfoB S p)).length ≤ 625 := by
          have h1 := flat_le (f := lfoB S p) 25 (l := (S.take j).filter fun q => decide (q.2 = p.1)) fun x _ => lfb p x
          have h2 := List.length_filter_le (fun q : Pr => decide (q.2 = p.1)) (S.take j)
          have h3 : (S.take j).length ≤ 25 := by rw [List.length_take]; omega
          have : ((S.take j).filter fun q => decide (q.2 = p.1)).length * 25 ≤ 25 * 25 := Nat.mul_le_mul_right _ (by omega)
          omega
        have est : ((S.take (j + 1)).filter fun q => decide (q.2 = p.1)).flatMap (lfoB S p) = ((S.take j).filter fun q => decide (q.2 = p.1)).flatMap (lfoB S p) ++ (if r.2 = p.1 then lfoB S p r else []) := by
          rw [List.take_add_one, e2, List.filter_append, List.flatMap_append]
          by_cases c : r.2 = p.1 <;> simp [c]
        generalize hG : ((S.take j).filter fun q => decide (q.2 = p.1)).flatMap (lfoB S p) = G at hfl est
        simp [-dT_cons]
        by_cases c2 : r.2 = p.1
        · refine ife_then ?_ ?_
          · simp [c2]
          simp
          refine fun _ => ⟨line8 (by omega), ?_⟩
          refine lcD_fm (enc := pD) (enc' := pD) (fun q : Pr => decide (q.1 = p.2)) (fun q => (r.1, q.2)) (fun z hz R' g1 g0 => ?_) ?_
          · simp [turnB, wipeR]
            by_cases c : z.1 = p.2
            · simpa [c, l2] using g1 (by simp [c])
            · simpa [c] using g0 (by simp [c])
          rw [show (S.filter fun q : Pr => decide (q.1 = p.2)).map (fun q => (r.1, q.2)) = lfoB S p r from rfl]
          have := lfb p r
          refine ⟨line7 (by simp only [List.length_map, List.length_append]; omega), s3, s10, s11, .val (.int r.1), .val (.int r.2), s14, s15, s16, ?_⟩
          rw [est, if_pos c2]
          simp
        · refine ife_no ?_ ?_
          · simp [c2]
          simp
          refine ⟨s3, s10, s11, .val (.int r.1), .val (.int r.2), s14, s15, s16, ?_⟩
          rw [est, if_neg c2, List.append_nil, List.map_append]
      · rintro ρ ⟨s3, s10, s11, s12, s13, s14, s15, s16, rfl⟩
        simp
        refine ⟨s3, .val (.int p.1), .val (.int p.2), s10, s11, s12, s13, s14, s15, s16, ?_⟩
        rw [fT_step (F := lfoF P) e1, c, if_pos rfl, List.map_append]
        rfl
  · rintro ρ ⟨s3, s8, s9, s10, s11, s12, s13, s14, s15, s16, rfl⟩
    have e1 : bkT P (own P).length = lwL P S .rb := by unfold bkT; rw [List.take_length]; rfl
    have e2 : fT (lonF P) (lonA S) (own P) (own P).length = lwL P S .ro := by unfold fT; rw [List.take_length]; rfl
    have e3 : fT (wrF P) (wrA S) (own P) (own P).length = lwL P S .wr := by unfold fT; rw [List.take_length]; rfl
    have e4 : fT (lfoF P) (lfoA S) (own P) (own P).length = lwL P S .fo := by unfold fT; rw [List.take_length]; rfl
    rw [e1, e2, e3, e4]
    have hll : ∀ x, (lwL P S x).length ≤ 15625 := fun x => by
      cases x with
      | rb => have := List.length_filter_le (rbF P) (own P); show ((own P).filter (rbF P)).length ≤ _; omega
      | ro => rw [← e2]; have := fT_len (F := lonF P) (i := (own P).length) hO llon; omega
      | wr => rw [← e3]; have := fT_len (F := wrF P) (i := (own P).length) hO lwr; omega
      | fo => rw [← e4]; have := fT_len (F := lfoF P) (i := (own P).length) hO lfo; omega
    refine stp ?_
    simp [-dT_cons]
    refine stp ?_
    simp [frzR, l2, l4, -dT_cons]
    refine forD_enc (enc := lwD P S) (xs := wil) (InvL3 P S) ⟨_, _, _, _, _, _, _, _, _, _, _, _, _, _, rfl⟩ ?_ ?_
    · rintro i x ρ ex ⟨s2, s4, s5, s6, s7, s8, s9, s10, s11, s12, s13, s14, s15, s16, rfl⟩
      have hx := hll x
      simp [-dT_cons]
      refine stp ?_
      simp [-dT_cons]
      intro _
      refine ⟨line7 (by omega), ?_⟩
      refine lcD_fm (enc := pD) (enc' := pD) (fun p : Pr => !decide (p.1 = p.2) && !decide (p ∈ S)) id (fun p hp R' g1 g0 => ?_) ?_
      · simp [turnB, wipeR]
        by_cases c : p.1 = p.2
        · simpa [c] using g0 (by simp [c])
        · by_cases d : p ∈ S
          · have d' : (p.1, p.2) ∈ S := d
            simpa [c, d'] using g0 (by simp [d])
          · have d' : (p.1, p.2) ∉ S := d
            simpa [c, d'] using g1 (by simp [c, d])
      rw [List.map_id]
      simp [-dT_cons]
      intro _
      have eb : ((((lwL P S x).filter fun p : Pr => !decide (p.1 = p.2) && !decide (p ∈ S)).length : Int) == 0) = wb P S x := by
        rw [← lw_same x]
        unfold bl
        rw [Bool.eq_iff_iff, List.all_eq_true]
        simp [List.filter_eq_nil_iff]
        refine ⟨fun q a b m => ?_, fun q a b m c => (q a b m).resolve_left c⟩
        by_cases c : a = b
        · exact .inl c
        · exact .inr (q a b m c)
      refine ⟨line8 (by unfold wT; simp [wil]; omega), ?_⟩
      rw [eb, wT_put wil_nd ex]
      exact ⟨_, _, _, _, _, _, _, _, _, _, _, _, _, _, rfl⟩
    · rintro ρ ⟨s2, s4, s5, s6, s7, s8, s9, s10, s11, s12, s13, s14, s15, s16, rfl⟩
      rw [show wil.take wil.length = wil from List.take_length]
      refine stp ?_
      simp [frzR, txK_wT, wT_vals]
      exact q
end K16

namespace K16
open PySem PySem.Spec PyProof.Rows L2 Ev EvR
/-! ### what was seen, of an order of commits -/
def evF (o : List Int) (a b : Int) : Bool := decide (a ≠ b) && befB o a b
def evA (P : List (List Wk)) (o : List Int) (a : Int) : List Pr := ((wsP P).filter (evF o a)).map fun b => (a, b)
def mcF (o : List Int) (p : Pr) (c : Int) : Bool := decide (c = p.1) || befB o c p.1
def mcA (P : List (List Wk)) (o : List Int) (p : Pr) : List Pr := ((wsP P).filter (mcF o p)).map fun c => (c, p.2)
def mcL (P : List (List Wk)) (o : List Int) : List Pr := (dir P).flatMap (mcA P o)
noncomputable def seL (l : Lv) (P : List (List Wk)) (o : List Int) : List Pr := if lvN l = 2 then clo (dir P) else upr (mcL P o)
theorem mcL_mem {P : List (List Wk)} {o : List Int} {x : Pr} : x ∈ mcL P o ↔ ∃ a, (a, x.2) ∈ dir P ∧ x.1 ∈ wsP P ∧ (x.1 = a ∨ befB o x.1 a = true) := by
  unfold mcL
  rw [List.mem_flatMap]
  constructor
  · rintro ⟨p, hp, h⟩
    unfold mcA at h
    obtain ⟨c, hc, rfl⟩ := List.mem_map.mp h
    obtain ⟨h1, h2⟩ := List.mem_filter.mp hc
    unfold mcF at h2
    simp only [Bool.or_eq_true, decide_eq_true_iff] at h2
    exact ⟨p.1, hp, h1, h2⟩
  · rintro ⟨a, h1, h2, h3⟩
    refine ⟨(a, x.2), h1, ?_⟩
    unfold mcA
    refine List.mem_map.mpr ⟨x.1, List.mem_filter.mpr ⟨h2, ?_⟩, rfl⟩
    unfold mcF
    simp only [Bool.or_eq_true, decide_eq_true_iff]
    exact h3
theorem mcL_over {P : List (List Wk)} (h : PtOk P) (o : List Int) : Over2 (wsP P) (wsP P) (mcL P o) := fun x hx => by
  obtain ⟨a, h1, h2, _⟩ := mcL_mem.mp hx
  exact ⟨h2, (dir_over h _ h1).2⟩
theorem seL_ok {l : Lv} {P : List (List Wk)} (h : PtOk P) (o : List Int) : SeOk P (seL l P o) := by
  have hs := ws_sq h
  unfold seL
  split
  · have ov : Over2 (wsP P) (wsP P) (clo (dir P)) := fun p hp => over2_led (dir_over h) (clo_mem.mp hp)
    refine ⟨?_, fun p hp => ?_⟩
    · have := over2_len ov (clo_nodup _)
      omega
    · exact ⟨wsP_mem.mp (ov p hp).1, wsP_mem.mp (ov p hp).2⟩
  · refine ⟨?_, fun p hp => ?_⟩
    · have := over2_upr (mcL_over h o)
      omega
    · have := mcL_over h o p (upr_mem.mp hp)
      exact ⟨wsP_mem.mp this.1, wsP_mem.mp this.2⟩
theorem own_dir (P : List (List Wk)) {p : Pr} (h : p ∈ own P) : p ∈ dir P := List.mem_append_left _ h
theorem seL_gd {l : Lv} {P : List (List Wk)} (h : PtOk P) {o : List Int} (ho : ∀ p ∈ dir P, befB o p.1 p.2 = true) : SeGd P (seL l P o) := by
  unfold seL
  split
  · exact ⟨fun p hp => clo_mem.mpr (.one (own_dir P hp)), fun a b c h1 h2 => clo_mem.mpr ((clo_mem.mp h1).trans (clo_mem.mp h2))⟩
  · refine ⟨fun p hp => upr_mem.mpr (mcL_mem.mpr ⟨p.1, own_dir P hp, (dir_over h _ (own_dir P hp)).1, .inl rfl⟩), fun a b c h1 h2 => ?_⟩
    obtain ⟨m, k1, k2, k3⟩ := mcL_mem.mp (upr_mem.mp h1)
    obtain ⟨n, j1, j2, j3⟩ := mcL_mem.mp (upr_mem.mp h2)
    refine upr_mem.mpr (mcL_mem.mpr ⟨n, j1, k2, .inr ?_⟩)
    have hab : befB o a b = true := by
      have hmb := ho _ k1
      rcases k3 with e | k3
      · show befB o a b = true
        have e' : a = m := e
        rw [e']; exact hmb
      · exact bef_trans k3 hmb
    rcases j3 with e | j3
    · have e' : b = n := e
      rw [← e']; exact hab
    · exact bef_trans hab j3
theorem dS_drop' {M : Mg} {e : IE} {ρ : List Sl} : denS M (.drop e) ρ = (lf ρ (denE M e ρ)).bind fun _ => .ret (.nx ρ) := rfl
theorem from_commits_run {l : Lv} (hl : l = .ca ∨ l = .pr) {P : List (List Wk)} (h : PtOk P) {o : List Int} (ho : o.Perm (nmsP P)) {Q : D → Prop} {X : Exc → Prop} (q : Q (seD (seL l P o) (odD o))) : (f_from_commits [.d (lvD l), .d (ptD P), .d (odD o)]).run Q X := by
  have h5 := wsP_len h
  have hs := ws_sq h
  have hdl := dir_len h
  have mo : ∀ w ∈ wsP P, w ∈ o ∧ w ≠ 0 := fun w hw => ⟨ho.mem_iff.mpr (wsP_mem.mp hw), fun e => h.pos (by rw [← e]; exact wsP_mem.mp hw)⟩
  have lev : ∀ a, (evA P o a).length ≤ 5 := fun a => by
    unfold evA
    rw [List.length_map]
    exact Nat.le_trans (List.length_filter_le _ _) h5
  have lmr : ∀ p, (mcA P o p).length ≤ 5 := fun a => by
    unfold mcA
    rw [List.length_map]
    exact Nat.le_trans (List.length_filter_le _ _) h5
  unfold f_from_commits
  simp [b_from_commits, -dT_cons]
  refine stp ?_
  rw [dS_drop']
  simp [-dT_cons]
  refine must_be_ok ?_
  skip
  refine stp ?_
  simp [-dT_cons]
  refine dir_go h ?_
  refine stp ?_
  simp [-dT_cons]
  refine works_in_run h ?_
  refine stp ?_
  simp [-dT_cons]
  unfold lc2W
  simp [-dT_cons]
  intro _
  refine fold_out (enc := PyData.int) (fun a => (evA P o a).map pD) 5 100000 (by simp only [List.length_nil]; omega) (fun a ha => by rw [List.length_map]; exact lev a) (fun a ha acc hacc R' hR => ?_) ?_
  · simp [lc2Out, wipeR]
    intro _
    refine fold_fm (enc := PyData.int) (enc' := pD) (evF o a) (fun b => (a, b)) 100000 (by omega) (fun b hb acc2 hacc2 R2 h1 h0 => ?_) ?_
    · simp [lc2In, wipeR]
      by_cases c : a = b
      · simp [c]
        exact h0 (by simp [evF, c])
      · simp [c]
        refine before_run (mo a ha).1 (mo b hb).1 (mo a ha).2 (mo b hb).2 ?_
        cases e : befB o a b with
        | false => simpa using h0 (by simp [evF, e])
        | true =>
          simp [l2]
          exact ⟨line6 (by omega), h1 (by simp [evF, c, e])⟩
    exact hR
  simp only [List.nil_append, ← List.map_flatMap]
  generalize hE : (wsP P).flatMap (evA P o) = E
  refine ife_no ?_ ?_
  · rcases hl with rfl | rfl
    · simp [lv5, lvN]
    · simp [lv5, lvN]
  refine ife_no ?_ ?_
  · rcases hl with rfl | rfl
    · simp [lv0, lv1, lvN, l2]
    · simp [lv0, lv1, lvN, l2]
  rcases hl with rfl | rfl
  · refine ife_then ?_ ?_
    · simp [lv2, lvN]
    simp
    refine closed_run (dir_over h) (by omega) (by omega) ?_
    simp [l2]
    simpa [seL, lvN] using q
  · refine ife_no ?_ ?_
    · simp [lv2, lvN]
    refine ife_no ?_ ?_
    · simp [lv4, lvN]
    refine stp ?_
    simp [-dT_cons]
    unfold lc2W
    simp [-dT_cons]
    intro _
    refine fold_out (enc := pD) (fun p => (mcA P o p).map pD) 5 100000 (by simp only [List.length_nil]; omega) (fun p hp => by rw [List.length_map]; exact lmr p) (fun p hp acc hacc R' hR => ?_) ?_
    · have hp1 := (dir_over h p hp).1
      simp [lc2Out, wipeR]
      intro _
      refine fold_fm (enc := PyData.int) (enc' := pD) (mcF o p) (fun c => (c, p.2)) 100000 (by omega) (fun c hc acc2 hacc2 R2 h1 h0 => ?_) ?_
      · simp [lc2In, wipeR]
        by_cases e : c = p.1
        · simp [e, l2]
          exact ⟨line6 (by omega), by have := h1 (by simp [mcF, e]); rw [e] at this; exact this⟩
        · simp [e]
          refine before_run (mo c hc).1 (mo _ hp1).1 (mo c hc).2 (mo _ hp1).2 ?_
          cases d : befB o c p.1 with
          | false => simpa using h0 (by simp [mcF, e, d])
          | true =>
            simp [l2]
            exact ⟨line6 (by omega), h1 (by simp [mcF, d])⟩
      exact hR
    simp only [List.nil_append, ← List.map_flatMap]
    rw [show (dir P).flatMap (mcA P o) = mcL P o from rfl]
    simp
    refine srtS_pr (by have := over2_upr (mcL_over h o); omega) ?_
    simp [l2]
    simpa [seL, lvN] using q
/-! ### what is compared -/
theorem eqv_refl_sb (l : List (Str × Bool)) : PyData.eqv (.list (l.map fun p => .tuple [.str p.1, .bool p.2])) (.list (l.map fun p => .tuple [.str p.1, .bool p.2])) = true := by
  rw [PyData.eqv]
  induction l with
  | nil => rfl
  | cons p l ih =>
    rw [List.map_cons, PyData.eqvAll, ih, PyData.eqv, PyData.eqvAll, PyData.eqvAll, PyData.eqvAll, PyData.eqv, PyData.eqv]
    simp
def sbD (P : List (List Wk)) (S : List Pr) (x : Wi) : D := .tuple [.str (wiS x), .bool (wb P S x)]
theorem dlk_w {P : List (List Wk)} {S : List Pr} {x : Wi} : ∀ {l : List Wi}, x ∈ l → dlk (dkv (l.map wiS) (l.map fun x => .bool (wb P S x))) (wiS x) = some (.bool (wb P S x))
  | y :: l, h => by
    show (if wiS x == wiS y then some (PyData.bool (wb P S y)) else dlk (dkv (l.map wiS) (l.map fun x => .bool (wb P S x))) (wiS x)) = _
    by_cases c : x = y
    · subst c; simp
    · have hne : (wiS x == wiS y) = false := by
        cases e : wiS x == wiS y with
        | false => rfl
        | true => exact absurd (wiS_inj (by simpa using e)) c
      rw [hne]
      simp only [Bool.false_eq_true, if_false]
      exact dlk_w ((List.mem_cons.mp h).resolve_left c)
def leW (P : List (List Wk)) (S : List Pr) (x y : Wi) : Bool := leD (sbD P S x) (sbD P S y)
theorem sb_toks {P : List (List Wk)} {S : List Pr} {x y : Wi} (h : PySem.W.keyToks (sbD P S x) = PySem.W.keyToks (sbD P S y)) : x = y := by
  unfold sbD at h
  simp [PySem.W.keyToks, PySem.W.keyToksAll] at h
  refine wiS_inj (PySem.W.str_of_cps ?_)
  rw [h.1]
theorem srt_wis {P : List (List Wk)} {S : List Pr} {l m : List Wi} (h : l.Perm m) : (l.map (sbD P S)).mergeSort leD = (m.map (sbD P S)).mergeSort leD := by
  have T := PySem.W.sortLe_total ordT false fun x : Wi => PySem.W.keyToks (sbD P S x)
  have e : ∀ l : List Wi, (l.map (sbD P S)).mergeSort leD = (l.mergeSort (leW P S)).map (sbD P S) := fun l => (map_srt (sbD P S) (leW P S) leD fun _ _ => rfl).symm
  rw [e, e]
  congr 1
  have srt : ∀ l : List Wi, (l.mergeSort (leW P S)).Pairwise fun a b => leW P S a b = true := fun l => List.pairwise_mergeSort (fun a b c => T.trans a b c) (fun a b => by rw [Bool.or_eq_true]; exact T.total a b) l
  refine List.Perm.eq_of_pairwise (le := fun a b => leW P S a b = true) (fun a b _ _ h1 h2 => ?_) (srt l) (srt m) ((List.mergeSort_perm l _).trans (h.trans (List.mergeSort_perm m _).symm))
  refine sb_toks (P := P) (S := S) (ordT.total _ _ ?_ ?_)
  · have : (!ordT.blt (PySem.W.keyToks (sbD P S a)) (PySem.W.keyToks (sbD P S b))) = true := h2
    simpa using this
  · have : (!ordT.blt (PySem.W.keyToks (sbD P S b)) (PySem.W.keyToks (sbD P S a))) = true := h1
    simpa using this
theorem srt_sb {P : List (List Wk)} {S : List Pr} {l : List Wi} {Q : List D → Prop} {X : Exc → Prop} (q : Q ((l.map (sbD P S)).mergeSort leD)) : (srtD (.list (l.map (sbD P S)))).run Q X := by
  refine ⟨⟨?_, fun d hd e he => ?_, .inl fun d hd => ?_, fun d hd => ?_⟩, q⟩
  · clear q
    induction l with
    | nil => rfl
    | cons x l ih =>
      rw [List.map_cons, ndAll, Bool.and_eq_true]
      exact ⟨rfl, ih⟩
  · obtain ⟨x, _, rfl⟩ := List.mem_map.mp hd
    obtain ⟨y, _, rfl⟩ := List.mem_map.mp he
    simp [sbD, PySem.W.alike, PySem.W.alikeAll]
  · obtain ⟨x, _, rfl⟩ := List.mem_map.mp hd
    exact ⟨_, _, rfl⟩
  · obtain ⟨x, _, rfl⟩ := List.mem_map.mp hd
    simp [sbD, PyData.depth, PyData.depthAll]
theorem eqv_srt {P : List (List Wk)} {S : List Pr} (l : List Wi) : PyData.eqv (.list ((l.map (sbD P S)).mergeSort leD)) (.list ((l.map (sbD P S)).mergeSort leD)) = true := by
  have e : (l.map (sbD P S)).mergeSort leD = (l.mergeSort (leW P S)).map (sbD P S) := (map_srt (sbD P S) (leW P S) leD fun _ _ => rfl).symm
  rw [e]
  have := eqv_refl_sb ((l.mergeSort (leW P S)).map fun x => (wiS x, wb P S x))
  rw [List.map_map] at this
  exact this
theorem sh_srt {P : List (List Wk)} {S : List Pr} (l : List Wi) : sh (.list ((l.map (sbD P S)).mergeSort leD)) = true := by
  have e : (l.map (sbD P S)).mergeSort leD = (l.mergeSort (leW P S)).map (sbD P S) := (map_srt (sbD P S) (leW P S) leD fun _ _ => rfl).symm
  rw [e]
  generalize l.mergeSort (leW P S) = m
  have h1 : PyData.depthAll (m.map (sbD P S)) ≤ 1 := by
    induction m with
    | nil => simp [PyData.depthAll]
    | cons a A ih =>
      rw [List.map_cons, PyData.depthAll]
      have : PyData.depth (sbD P S a) = 1 := by simp [sbD, PyData.depth, PyData.depthAll]
      omega
  have h2 : ndAll (m.map (sbD P S)) = true := by
    induction m with
    | nil => rfl
    | cons x l ih =>
      have h1' : PyData.depthAll (l.map (sbD P S)) ≤ 1 := by
        rw [List.map_cons, PyData.depthAll] at h1
        omega
      rw [List.map_cons, ndAll, Bool.and_eq_true]
      exact ⟨rfl, ih h1'⟩
  simp [sh, PyData.depth, h2]
  omega
end K16

namespace K16
open PySem PySem.Spec PyProof.Rows L2 Ev EvR
abbrev Pp := List Pr × List Int
abbrev ppD (p : Pp) : D := seD p.1 (odD p.2)
/-- the pairs of a list, in order -/
def srP (L : List Pr) : List Pr := (srtM (L.map prK)).filterMap prB
theorem srP_K (L : List Pr) : (srP L).map prK = srtM (L.map prK) := by
  have gen : ∀ {N : List (List Key)}, (∀ k ∈ N, ∃ e, k = prK e) → (N.filterMap prB).map prK = N := by
    intro N
    induction N with
    | nil => exact fun _ => rfl
    | cons k N ih =>
      intro h
      obtain ⟨e, rfl⟩ := h k List.mem_cons_self
      show (prK e :: (N.filterMap prB).map prK) = prK e :: N
      rw [ih fun x hx => h x (List.mem_cons_of_mem _ hx)]
  refine gen fun k hk => ?_
  obtain ⟨e, _, rfl⟩ := List.mem_map.mp (srtM_mem.mp hk)
  exact ⟨e, rfl⟩
theorem srP_len (L : List Pr) : (srP L).length = L.length := by
  have := congrArg List.length (srP_K L)
  rw [List.length_map, srtM_len, List.length_map] at this
  exact this
theorem srP_mem {L : List Pr} {p : Pr} : p ∈ srP L ↔ p ∈ L := by
  rw [← mem_prK (E := srP L), srP_K, srtM_mem, mem_prK]
theorem srt_pp {L : List Pr} {Q : List D → Prop} {X : Exc → Prop} (q : Q ((srP L).map pD)) : (srtD (.list (L.map pD))).run Q X := by
  rw [← prK_map]
  refine srt_mx (pr_ok L) ?_
  rw [← srP_K, prK_map]
  exact q
def okP (P : List (List Wk)) (y : D) : Prop := ∃ p : Pr, y = pD p ∧ p.1 ∈ nmsP P ∧ p.2 ∈ nmsP P
theorem pairs_of {P : List (List Wk)} : ∀ {ys : List D}, (∀ y ∈ ys, okP P y) → ∃ L : List Pr, ys = L.map pD ∧ ∀ p ∈ L, p.1 ∈ nmsP P ∧ p.2 ∈ nmsP P
  | [], _ => ⟨[], rfl, fun p hp => by cases hp⟩
  | y :: ys, h => by
    obtain ⟨p, rfl, h1⟩ := h y List.mem_cons_self
    obtain ⟨L, rfl, h2⟩ := pairs_of fun z hz => h z (List.mem_cons_of_mem _ hz)
    exact ⟨p :: L, rfl, fun q hq => by
      rcases List.mem_cons.mp hq with rfl | hq
      · exact h1
      · exact h2 q hq⟩
def InvLaw (i : Nat) (ρ : List Sl) : Prop := ∃ s0 s2 s3 s4 s5 s6 s7 s8 s9 s10 s11 s12 s13 s14, ρ = [s0, .pool, s2, s3, s4, s5, s6, s7, s8, s9, s10, s11, s12, s13, s14]
def InvPr (P : List (List Wk)) (m : List Int) (i : Nat) (ρ : List Sl) : Prop := ∃ (L : List Pr) (s0 s2 s6 s7 s8 s9 s10 s11 s12 s13 s14 : Sl), ρ = [s0, .pool, s2, .val (ptD P), .val (odD m), .val (.list (L.map pD)), s6, s7, s8, s9, s10, s11, s12, s13, s14] ∧ L.length ≤ 5 * i ∧ ∀ p ∈ L, p.1 ∈ nmsP P ∧ p.2 ∈ nmsP P
structure PpOk (P : List (List Wk)) (A : List Pp) : Prop where
  ok : ∀ p ∈ A, SeOk P p.1
  gd : ∀ p ∈ A.drop 1, SeGd P p.1
  ne : A ≠ []
def InvV (P : List (List Wk)) (i : Nat) (ρ : List Sl) : Prop := ∃ (A : List Pp) (s0 s2 s4 s5 s6 s8 s9 s10 s11 s12 s13 s14 : Sl), ρ = [s0, .pool, s2, .val (ptD P), s4, s5, s6, .val (.list (A.map ppD)), s8, s9, s10, s11, s12, s13, s14] ∧ PpOk P A ∧ A.length ≤ 1 + i
def InvQ (P : List (List Wk)) (A : List Pp) (i : Nat) (ρ : List Sl) : Prop := ∃ (s0 s2 s4 s5 s6 s8 s9 s10 s11 s12 s13 s14 : Sl), ρ = [s0, .pool, s2, .val (ptD P), s4, s5, s6, .val (.list (A.map ppD)), s8, s9, s10, s11, s12, s13, s14]
theorem wD_keys {P : List (List Wk)} {S : List Pr} (l : List Wi) : (dkv (l.map wiS) (l.map fun x => PyData.bool (wb P S x))).map (·.1) = l.map fun x => PyData.str (wiS x) := by
  rw [dkv_keys (by simp), List.map_map]
  rfl
@[simp] theorem iter_d {kvs : List (D × D)} : iterD (.dict kvs) = .ret (kvs.map (·.1)) := rfl
theorem ix_w {P : List (List Wk)} {S : List Pr} {l : List Wi} {x : Wi} (h : x ∈ l) {Q : D → Prop} {X : Exc → Prop} (q : Q (.bool (wb P S x))) : (ixD (wD P S l) (.str (wiS x))).run Q X := by
  show (match dlk (dkv (l.map wiS) (l.map fun x => PyData.bool (wb P S x))) (wiS x) with | some d => W.ret d | none => W.stuck : W Exc D).run Q X
  rw [dlk_w h]
  exact q
theorem len_cut (A : List Pp) : cutD (A.map ppD) (some 1) none = (A.drop 1).map ppD := by
  have := cut_drop (A.map ppD) 1
  rw [List.map_drop]
  exact this
theorem sh_bools (l : List Bool) : sh (.list (l.map .bool)) = true := by
  have h1 : PyData.depthAll (l.map PyData.bool) = 0 := by
    induction l with
    | nil => simp [PyData.depthAll]
    | cons a A ih => simp [PyData.depthAll, PyData.depth, ih]
  have h2 : ndAll (l.map PyData.bool) = true := by
    induction l with
    | nil => rfl
    | cons a A ih =>
      have : PyData.depthAll (A.map PyData.bool) = 0 := by
        simp [PyData.depthAll, PyData.depth] at h1
        exact h1
      simp [ndAll, nd]; exact ih this
  simp [sh, PyData.depth, h1, h2]
theorem in_bools {b : Bool} {l : List Bool} {Q : Bool → Prop} {X : Exc → Prop} (q : Q (l.any fun z => z == b)) : (inD false (.bool b) (.list (l.map .bool))).run Q X := by
  refine ⟨⟨rfl, sh_bools l⟩, ?_⟩
  show Q ((l.map PyData.bool).any fun z => PyData.eqv z (.bool b))
  rw [List.any_map]
  have : ((fun z => PyData.eqv z (PyData.bool b)) ∘ PyData.bool) = fun z => z == b := by
    funext z
    exact eqv_bool
  rw [this]
  exact q
theorem law_run : (denT m_law b_law ((List.replicate 15 Sl.un).set 1 .pool)).run lawQ fun _ => False := by
  simp [b_law, -dT_cons]
  refine stp ?_
  simp [-dT_cons]
  refine ⟨inR_small (by decide) (by decide), ?_⟩
  refine forD_upto InvLaw ⟨_, _, _, _, _, _, _, _, _, _, _, _, _, _, rfl⟩ ?_ ?_
  · rintro i ρ hi ⟨s0, s2, s3, s4, s5, s6, s7, s8, s9, s10, s11, s12, s13, s14, rfl⟩
    simp [-dT_cons]
    refine stp ?_
    simp [-dT_cons]
    refine some_parts_run (by decide) fun P h => ?_
    have h5 := wsP_len h
    refine stp ?_
    simp [-dT_cons]
    refine l_names_run h ?_
    refine shuffled_run (by omega) fun m hm => ?_
    have hml : m.length ≤ 5 := by rw [hm.length_eq]; exact h5
    have hmm : ∀ w ∈ m, w ∈ nmsP P := fun w hw => wsP_mem.mp (hm.mem_iff.mp hw)
    simp [-dT_cons]
    refine stp ?_
    simp [-dT_cons]
    refine stp ?_
    simp [-dT_cons]
    refine fun _ => ⟨inR_small (by omega) (by omega), ?_⟩
    refine forD_upto (InvPr P m) ⟨[], _, _, _, _, _, _, _, _, _, _, _, rfl, by simp, fun p hp => by cases hp⟩ ?_ ?_
    · rintro k ρ hk ⟨L, s0, s2, s6, s7, s8, s9, s10, s11, s12, s13, s14, rfl, hL, hLm⟩
      simp [-dT_cons]
      refine stp ?_
      simp [-dT_cons]
      refine ⟨inR_small (by omega) (by omega), by rw [upto_len]; exact line8 (by omega), ?_⟩
      rw [upto_eq]
      refine lcD_any (okP P) (fun x hx R' h0 h1 => ?_) fun ys hl hy => ?_
      · obtain ⟨j, hj, rfl⟩ := List.mem_map.mp hx
        have hj' := List.mem_range.mp hj
        simp [turnB, wipeR]
        refine fun v _ _ => ?_
        by_cases c : v = 0
        · simp [c]
          refine ix_tn (i := j) (d := .int m[j]) (by simp [show j < m.length by omega]) ?_
          skip
          refine ix_tn (i := k) (d := .int m[k]) (by simp [hk]) ?_
          simp [l2]
          exact h1 _ ⟨(m[j], m[k]), rfl, hmm _ (List.getElem_mem _), hmm _ (List.getElem_mem _)⟩
        · simpa [c] using h0
      · obtain ⟨L', rfl, hL'⟩ := pairs_of hy
        rw [List.length_map, List.length_map, List.length_range] at hl
        rw [List.nil_append]
        refine ⟨line8 (by simp; omega), ?_⟩
        rw [← List.map_append]
        refine ⟨L ++ L', _, _, _, _, _, _, _, _, _, _, _, rfl, by rw [List.length_append]; omega, fun p hp => ?_⟩
        rcases List.mem_append.mp hp with hp | hp
        · exact hLm p hp
        · exact hL' p hp
    · rintro ρ ⟨L, s0, s2, s6, s7, s8, s9, s10, s11, s12, s13, s14, rfl, hL, hLm⟩
      refine stp ?_
      simp [-dT_cons]
      refine srt_pp ?_
      simp [l1, l2, -dT_cons]
      refine stp ?_
      simp [l1, l2, -dT_cons]
      have hA0 : PpOk P [(srP L, m)] := ⟨fun p hp => by
        rw [List.mem_singleton.mp hp]
        exact ⟨by rw [srP_len]; omega, fun q hq => hLm q (srP_mem.mp hq)⟩, fun p hp => by simp at hp, by simp⟩
      refine forD_enc (enc := lvD) (xs := [Lv.ca, Lv.pr]) (InvV P) ⟨[(srP L, m)], _, _, _, _, _, _, _, _, _, _, _, _, rfl, hA0, by simp⟩ ?_ ?_
      · rintro k l ρ e1 ⟨A, s0, s2, s4, s5, s6, s8, s9, s10, s11, s12, s13, s14, rfl, hA, hAl⟩
        have hk2 : k < 2 := (List.getElem?_eq_some_iff.mp e1).1
        have hl : l = .ca ∨ l = .pr := by
          have := List.mem_of_getElem? e1
          simpa using this
        simp [-dT_cons]
        refine stp ?_
        simp [-dT_cons]
        refine find_run h ?_
        refine stp ?_
        simp [-dT_cons]
        cases e : okL l P with
        | nil =>
          simp [frO]
          exact ⟨A, _, _, _, _, _, _, _, _, _, _, _, _, rfl, hA, by omega⟩
        | cons o r =>
          have ho : o ∈ okL l P := by rw [e]; exact List.mem_cons_self
          obtain ⟨h1, h2⟩ := List.mem_filter.mp ho
          have pm := (ords_ws h).mp h1
          obtain ⟨_, h4⟩ := (okC_iff h pm).mp h2
          have hdir : ∀ p ∈ dir P, befB o p.1 p.2 = true := fun p hp => (h4 p (dir_dms l P o hp)).2
          simp [frO]
          refine from_commits_run hl h pm ?_
          simp [l1]
          refine ⟨line8 (by simp; omega), A ++ [(seL l P o, o)], _, _, _, _, _, _, _, _, _, _, _, _, by rw [List.map_append]; rfl, ⟨fun p hp => ?_, fun p hp => ?_, by simp⟩, by rw [List.length_append, List.length_singleton]; omega⟩
          · rcases List.mem_append.mp hp with hp | hp
            · exact hA.ok p hp
            · rw [List.mem_singleton.mp hp]; exact seL_ok h o
          · have hpos : 0 < A.length := List.length_pos_iff.mpr hA.ne
            rw [List.drop_append_of_le_length (by omega)] at hp
            rcases List.mem_append.mp hp with hp | hp
            · exact hA.gd p hp
            · rw [List.mem_singleton.mp hp]; exact seL_gd h hdir
      · rintro ρ ⟨A, s0, s2, s4, s5, s6, s8, s9, s10, s11, s12, s13, s14, rfl, hA, hAl⟩
        have hAl : A.length ≤ 3 := hAl
        refine stp ?_
        simp [-dT_cons]
        intro _
        refine forD_enc (enc := ppD) (InvQ P A) ⟨_, _, _, _, _, _, _, _, _, _, _, _, rfl⟩ ?_ ?_
        · rintro k p ρ e1 ⟨s0, s2, s4, s5, s6, s8, s9, s10, s11, s12, s13, s14, rfl⟩
          have hS := hA.ok p (List.mem_of_getElem? e1)
          simp [-dT_cons]
          refine stp ?_
          simp [-dT_cons]
          refine wishes_run h hS ?_
          refine l_wishes_run h hS ?_
          skip
          refine ife_no ?_ ?_
          · simp [wD]
            rw [wD_keys]
            refine ⟨small_of (by simp [dkv, wis, wil]), ?_⟩
            refine lcD_mp (enc := fun x => PyData.str (wiS x)) (enc' := sbD P p.1) id (fun x hx R' hR => ?_) ?_
            · simp [turnB, wipeR]
              refine ix_w hx ?_
              simp [l2]
              exact hR
            rw [List.map_id]
            refine srt_sb ?_
            rw [wD_keys]
            refine ⟨small_of (by simp [dkv, wis, wil]), ?_⟩
            refine lcD_mp (enc := fun x => PyData.str (wiS x)) (enc' := sbD P p.1) id (fun x hx R' hR => ?_) ?_
            · simp [turnB, wipeR]
              refine ix_w hx ?_
              simp [l2]
              exact hR
            rw [List.map_id]
            refine srt_sb ?_
            rw [srt_wis (P := P) (S := p.1) (show wil.Perm wis by decide)]
            refine ⟨⟨sh_srt _, sh_srt _⟩, ?_⟩
            rw [eqv_srt]
          simp
          exact ⟨_, _, _, _, _, _, _, _, _, _, _, _, rfl⟩
        · rintro ρ ⟨s0, s2, s4, s5, s6, s8, s9, s10, s11, s12, s13, s14, rfl⟩
          refine ife_no ?_ ?_
          · simp
            rw [len_cut]
            refine fun _ => ⟨line8 (by simp; omega), ?_⟩
            refine lcD_fm (enc := ppD) (enc' := ppD) (fun _ => false) id (fun p hp R' g1 g0 => ?_) ?_
            · have hS := hA.ok p (List.mem_of_mem_drop hp)
              have hG := hA.gd p hp
              simp [turnB, wipeR]
              refine wishes_run h hS ?_
              simp [wD]
              rw [wD_keys]
              refine ⟨small_of (by simp [dkv, wis, wil]), ?_⟩
              refine lcD_mp (enc := fun x => PyData.str (wiS x)) (enc' := PyData.bool) (wb P p.1) (fun x hx R2 hR => ?_) ?_
              · simp [turnB, wipeR]
                refine wishes_run h hS ?_
                refine ix_w hx ?_
                exact hR
              refine in_bools ?_
              have : ((wis.map (wb P p.1)).any fun z => z == false) = false := by
                rw [List.any_map, List.any_eq_false]
                intro x _
                show ¬ (wb P p.1 x == false) = true
                rw [wb_gd hG x]
                decide
              rw [this]
              simpa using g0 rfl
            simp
          simp
          exact ⟨_, _, _, _, _, _, _, _, _, _, _, _, _, _, rfl⟩
  · rintro ρ ⟨s0, s2, s3, s4, s5, s6, s7, s8, s9, s10, s11, s12, s13, s14, rfl⟩
    simp [lawQ]
end K16

open PySem PySem.W PySem.Calls PyProof.Rows
theorem PySem.Challenge.cw_everyhistory_k16_whole_wishes_of_hands_holds : PySem.Challenge.rw_everyhistory_k16_whole_wishes_of_hands.Holds := by
  w_on; o_law
  refine HandSHeadRun.head_any (r := OpenLaw.row PySem.Challenge.rw_everyhistory_k16_whole_wishes_of_hands) (q := view (OpenLaw.row PySem.Challenge.rw_everyhistory_k16_whole_wishes_of_hands).prog [50]) (H := K16.hk) (ob := K16.ob) (M := 3060) (loose := [(PySem.Str.ofString "KEYS"), (PySem.Str.ofString "closed"), (PySem.Str.ofString "is_ringless"), (PySem.Str.ofString "orders_of"), (PySem.Str.ofString "all_orders"), (PySem.Str.ofString "is_kept"), (PySem.Str.ofString "HistoryError"), (PySem.Str.ofString "NotAllowed"), (PySem.Str.ofString "works_in"), (PySem.Str.ofString "deeds_in"), (PySem.Str.ofString "writes_in"), (PySem.Str.ofString "outer"), (PySem.Str.ofString "writes_key"), (PySem.Str.ofString "is_plain"), (PySem.Str.ofString "hand_pairs"), (PySem.Str.ofString "read_pairs"), (PySem.Str.ofString "keys_of"), (PySem.Str.ofString "LEVELS"), (PySem.Str.ofString "must_be_level"), (PySem.Str.ofString "seen_before"), (PySem.Str.ofString "before"), (PySem.Str.ofString "sees"), (PySem.Str.ofString "shares_key"), (PySem.Str.ofString "demands"), (PySem.Str.ofString "is_good"), (PySem.Str.ofString "find"), (PySem.Str.ofString "WISHES"), (PySem.Str.ofString "from_commits"), (PySem.Str.ofString "wish_pairs"), (PySem.Str.ofString "writes_any"), (PySem.Str.ofString "reads_any"), (PySem.Str.ofString "wishes"), (PySem.Str.ofString "_law_pool"), (PySem.Str.ofString "_law_spread"), (PySem.Str.ofString "_law_draw"), (PySem.Str.ofString "_law_pick"), (PySem.Str.ofString "_law_shuffled"), (PySem.Str.ofString "_law_wrote"), (PySem.Str.ofString "_law_names"), (PySem.Str.ofString "_law_deeds"), (PySem.Str.ofString "_law_hand_pairs"), (PySem.Str.ofString "_law_some_parts"), (PySem.Str.ofString "_law_any"), (PySem.Str.ofString "_law_wishes")]) (d := HandSHeadRun.topDef (OpenLaw.row PySem.Challenge.rw_everyhistory_k16_whole_wishes_of_hands).prog 50) (kwd := []) K16.ob_eq
    (by kernel_rfl) (fun s => by kernel_rfl) K16.run (by kernel_rfl) (by kernel_rfl) (by kernel_rfl) (by rfl) (by first | assumption | decide +kernel) (by decide +kernel) ⟨rfl, rfl, rfl, rfl, rfl, by decide +kernel⟩ ?hw ?hc
  case hw => w_witness2
  case hc =>
    refine Ev.walk_ev (l := PySem.Challenge.rw_everyhistory_k16_whole_wishes_of_hands) (k := 11) rfl (by kernel_rfl) ⟨rfl, by decide, by decide⟩ ?F
    intro w mg fa h Y G hmg0
    obtain ⟨K, KX, c⟩ := Y
    have hmg : mg ("law" : PySem.Str) = some (.ref fa) := by
      have e : (HandSHeadRun.topDef (OpenLaw.row PySem.Challenge.rw_everyhistory_k16_whole_wishes_of_hands).prog 50).name = ("law" : PySem.Str) := by kernel_rfl
      rw [← e]
      exact hmg0
    obtain ⟨fd, hb, hF⟩ := K16.ok_law (P := (PySem.Challenge.rw_everyhistory_k16_whole_wishes_of_hands).prog) (w := w) KX G c K16.law_run
    have e := hmg.symm.trans (He.glo_ok KX G (c.t.d.fact 39 (f := .glo "law") rfl))
    cases e
    exact ⟨K, fd, KX, hb, fun base _ _ => hF base⟩

