import PyProof.Rows.All
import Wide.All
import OpenK.AllK
import Wide.FinOn
import HandS.ForMost
import HandS.Deep
import HandS.CallSlots
import HandS.TupAny
import HandS.Style
import HandS.TupMul
import HandS.IsInst
import HandS.Codes
import KE.SortData
import HandS.More
import HandS.Small
import KE.KStateDown
import HandS.Defaults
import HandS.Head0
import HandS.Head1
import HandS.Head2
import HandS.HeadEnd
import HandS.HeadHook1
import HandS.HeadHook2
import PySem.Challenge.RW_rungward_k27_tables_of_states
set_option Elab.async false
set_option linter.all false
set_option autoImplicit false
set_option maxRecDepth 100000
set_option maxHeartbeats 4000000
namespace PV
open PySem PySem.Spec PyProof.Rows L2

/-! data, cells, the machine of data -/
abbrev D := PyData
inductive Cell where
  | emp | shr (d : D) | own (d : D)
abbrev EnvD := List PV.Cell
structure Ex where
  c : Str
  fs : List D
inductive Res (α : Type) where
  | ok (a : α) (e : EnvD) | exc (x : Ex) (e : EnvD) | no
abbrev M (α : Type) := EnvD → Res α
def ret {α : Type} (a : α) : M α := fun e => .ok a e
def bnd {α β : Type} (m : M α) (k : α → M β) : M β := fun e => match m e with
  | .ok a e1 => k a e1
  | .exc x e1 => .exc x e1
  | .no => .no
def lft {α : Type} (o : Option α) : M α := fun e => match o with
  | some a => .ok a e
  | none => .no

/-- what may be changed in place -/
def Mu : HO → Prop
  | .lst _ => True
  | .dK _ => True
  | .dT _ => True
  | .set _ _ => True
  | .ins _ _ _ => True
  | .ext _ => True
  | _ => False

/-- all that was tracked is as it was, but what stands in N and may be changed -/
def Keep (N : Addr → Prop) (H H' : Hp) : Prop := ∀ a o, H a = some o → H' a = some o ∨ (N a ∧ Mu o ∧ ∃ o', H' a = some o' ∧ Mu o')
theorem Keep.refl (N : Addr → Prop) (H : Hp) : Keep N H H := fun _ _ h => .inl h
theorem Keep.of_same {N : Addr → Prop} {H H' : Hp} (s : Same H H') : Keep N H H' := fun a o h => .inl (s a o h)
theorem Keep.mono {N N' : Addr → Prop} {H H' : Hp} (k : Keep N H H') (h : ∀ a, N a → N' a) : Keep N' H H' := fun a o e =>
  (k a o e).imp id fun ⟨n, r⟩ => ⟨h a n, r⟩
theorem Keep.trans {N N' : Addr → Prop} {H H1 H2 : Hp} (k : Keep N H H1) (k' : Keep N' H1 H2) (h : ∀ a, (∃ o, H a = some o) → N' a → N a) : Keep N H H2 := fun a o e => by
  rcases k a o e with e1 | ⟨n, m, o1, e1, m1⟩
  · rcases k' a o e1 with e2 | ⟨n', m', r⟩
    · exact .inl e2
    · exact .inr ⟨h a ⟨o, e⟩ n', m', r⟩
  · rcases k' a o1 e1 with e2 | ⟨n', m', r⟩
    · exact .inr ⟨n, m, o1, e2, m1⟩
    · exact .inr ⟨n, m, r⟩
theorem Keep.there {N : Addr → Prop} {H H' : Hp} (k : Keep N H H') {a : Addr} (h : ∃ o, H a = some o) : ∃ o, H' a = some o := by
  obtain ⟨o, e⟩ := h
  rcases k a o e with e1 | ⟨_, _, o1, e1, _⟩
  · exact ⟨o, e1⟩
  · exact ⟨o1, e1⟩
theorem Keep.at {N : Addr → Prop} {H H' : Hp} (k : Keep N H H') {a : Addr} {o : HO} (e : H a = some o) (n : ¬ N a) : H' a = some o :=
  (k a o e).resolve_right fun z => n z.1
theorem Keep.tup {N : Addr → Prop} {H H' : Hp} (k : Keep N H H') {a : Addr} {o : HO} (e : H a = some o) (n : ¬ Mu o) : H' a = some o :=
  (k a o e).resolve_right fun z => n z.2.1

def keyD : Key → D
  | .inl i => .int i
  | .inr x => .str x

/-! a value stands for data; no address in N is in it -/
mutual
inductive Rp (K : PySem.W.Frag) (H : Hp) (N : Addr → Prop) : V → D → Prop
  | non : Rp K H N .non .none
  | bl (b : Bool) : Rp K H N (.bl b) (.bool b)
  | int (i : Int) : Rp K H N (.int i) (.int i)
  | str (x : Str) : PyData.strOk x = true → Rp K H N (.str x) (.str x)
  | tup {a : Addr} {xs : List V} {ds : List D} : SqT K H a xs → RpAll K H N xs ds → Rp K H N (.ref a) (.tuple ds)
  | lst {a : Addr} {xs : List V} {ds : List D} : Rd H a (.lst xs) → ¬ N a → RpAll K H N xs ds → Rp K H N (.ref a) (.list ds)
  | dct {a : Addr} {kvs : List (Key × V)} {es : List (D × D)} : H a = some (.dK kvs) → ¬ N a → RpKV K H N kvs es → Rp K H N (.ref a) (.dict es)
inductive RpAll (K : PySem.W.Frag) (H : Hp) (N : Addr → Prop) : List V → List D → Prop
  | nil : RpAll K H N [] []
  | cons {v : V} {vs : List V} {d : D} {ds : List D} : Rp K H N v d → RpAll K H N vs ds → RpAll K H N (v :: vs) (d :: ds)
inductive RpKV (K : PySem.W.Frag) (H : Hp) (N : Addr → Prop) : List (Key × V) → List (D × D) → Prop
  | nil : RpKV K H N [] []
  | cons {k : Key} {v : V} {kvs : List (Key × V)} {d : D} {es : List (D × D)} : Rp K H N v d → RpKV K H N kvs es → RpKV K H N ((k, v) :: kvs) ((keyD k, d) :: es)
end

/-- the frame: nothing outside M is changed; the new forbidden set is empty of what stands in the value -/
structure Fwd (K : PySem.W.Frag) (N N' : Addr → Prop) (H H' : Hp) : Prop where
  keep : ∀ a o, H a = some o → ¬ N a → H' a = some o
  tup : ∀ a o, H a = some o → ¬ Mu o → H' a = some o
  sub : ∀ a, N' a → ¬ N a → H a = none
theorem sqT_fwd {K : PySem.W.Frag} {N N' : Addr → Prop} {H H' : Hp} (f : Fwd K N N' H H') {a : Addr} {xs : List V} (h : SqT K H a xs) : SqT K H' a xs := by
  rcases h with (h | ⟨o, h⟩) | h
  · exact .inl (.inl (f.tup _ _ h (fun z => z)))
  · exact .inl (.inr ⟨o, f.tup _ _ h (fun z => z)⟩)
  · exact .inr h
theorem sqL_fwd {K : PySem.W.Frag} {N N' : Addr → Prop} {H H' : Hp} (f : Fwd K N N' H H') {a : Addr} {xs : List V} (h : Rd H a (.lst xs)) (n : ¬ N a) : Rd H' a (.lst xs) ∧ ¬ N' a := by
  rcases h with h | ⟨o, h⟩
  · exact ⟨.inl (f.keep _ _ h n), fun z => by rw [f.sub a z n] at h; cases h⟩
  · exact ⟨.inr ⟨o, f.keep _ _ h n⟩, fun z => by rw [f.sub a z n] at h; cases h⟩
mutual
theorem Rp.fwd {K : PySem.W.Frag} {N N' : Addr → Prop} {H H' : Hp} (f : Fwd K N N' H H') : ∀ {v : V} {d : D}, Rp K H N v d → Rp K H' N' v d
  | _, _, .non => .non
  | _, _, .bl b => .bl b
  | _, _, .int i => .int i
  | _, _, .str x h => .str x h
  | _, _, .tup h r => .tup (sqT_fwd f h) (RpAll.fwd f r)
  | _, _, .lst h n r => .lst (sqL_fwd f h n).1 (sqL_fwd f h n).2 (RpAll.fwd f r)
  | _, _, .dct h n r => .dct (f.keep _ _ h n) (fun z => by rw [f.sub _ z n] at h; cases h) (RpKV.fwd f r)
theorem RpAll.fwd {K : PySem.W.Frag} {N N' : Addr → Prop} {H H' : Hp} (f : Fwd K N N' H H') : ∀ {vs : List V} {ds : List D}, RpAll K H N vs ds → RpAll K H' N' vs ds
  | _, _, .nil => .nil
  | _, _, .cons h r => .cons (Rp.fwd f h) (RpAll.fwd f r)
theorem RpKV.fwd {K : PySem.W.Frag} {N N' : Addr → Prop} {H H' : Hp} (f : Fwd K N N' H H') : ∀ {vs : List (Key × V)} {ds : List (D × D)}, RpKV K H N vs ds → RpKV K H' N' vs ds
  | _, _, .nil => .nil
  | _, _, .cons h r => .cons (Rp.fwd f h) (RpKV.fwd f r)
end
theorem Fwd.of_same {K : PySem.W.Frag} {N : Addr → Prop} {H H' : Hp} (s : Same H H') : Fwd K N N H H' := ⟨fun a o h _ => s a o h, fun a o h _ => s a o h, fun _ z n => absurd z n⟩
theorem Fwd.sub_same {K : PySem.W.Frag} {N N' : Addr → Prop} {H H' : Hp} (s : Same H H') (h : ∀ a, N' a → N a) : Fwd K N N' H H' := ⟨fun a o h _ => s a o h, fun a o h _ => s a o h, fun a z n => absurd (h a z) n⟩
theorem Fwd.of_keep {K : PySem.W.Frag} {N N' : Addr → Prop} {H H' : Hp} (k : Keep N H H') (h : ∀ a, N' a → N a) : Fwd K N N' H H' := ⟨fun a o e n => k.at e n, fun a o e m => k.tup e m, fun a z n => absurd (h a z) n⟩

theorem RpAll.length {K : PySem.W.Frag} {N : Addr → Prop} {H : Hp} : ∀ {vs : List V} {ds : List D}, RpAll K H N vs ds → vs.length = ds.length
  | _, _, .nil => rfl
  | _, _, .cons _ r => congrArg (· + 1) (RpAll.length r)
theorem RpAll.get {K : PySem.W.Frag} {N : Addr → Prop} {H : Hp} : ∀ {vs : List V} {ds : List D} {i : Nat} {d : D}, RpAll K H N vs ds → ds[i]? = some d → ∃ v, vs[i]? = some v ∧ Rp K H N v d
  | _, _, _, _, .nil, e => by simp at e
  | _, _, 0, _, .cons h _, e => by simp at e; subst e; exact ⟨_, rfl, h⟩
  | _, _, i + 1, _, .cons _ r, e => by
    obtain ⟨v, e1, h⟩ := RpAll.get (i := i) r (by simpa using e)
    exact ⟨v, by simpa using e1, h⟩
theorem RpAll.getV {K : PySem.W.Frag} {N : Addr → Prop} {H : Hp} : ∀ {vs : List V} {ds : List D} {i : Nat} {v : V}, RpAll K H N vs ds → vs[i]? = some v → ∃ d, ds[i]? = some d ∧ Rp K H N v d
  | _, _, _, _, .nil, e => by simp at e
  | _, _, 0, _, .cons h _, e => by simp at e; subst e; exact ⟨_, rfl, h⟩
  | _, _, i + 1, _, .cons _ r, e => by
    obtain ⟨v, e1, h⟩ := RpAll.getV (i := i) r (by simpa using e)
    exact ⟨v, by simpa using e1, h⟩
theorem RpAll.append {K : PySem.W.Frag} {N : Addr → Prop} {H : Hp} : ∀ {vs ws : List V} {ds es : List D}, RpAll K H N vs ds → RpAll K H N ws es → RpAll K H N (vs ++ ws) (ds ++ es)
  | _, _, _, _, .nil, h => h
  | _, _, _, _, .cons h r, q => .cons h (RpAll.append r q)
theorem RpAll.take {K : PySem.W.Frag} {N : Addr → Prop} {H : Hp} : ∀ {vs : List V} {ds : List D} (n : Nat), RpAll K H N vs ds → RpAll K H N (vs.take n) (ds.take n)
  | _, _, 0, _ => .nil
  | _, _, _ + 1, .nil => .nil
  | _, _, n + 1, .cons h r => .cons h (RpAll.take n r)
theorem RpAll.drop {K : PySem.W.Frag} {N : Addr → Prop} {H : Hp} : ∀ {vs : List V} {ds : List D} (n : Nat), RpAll K H N vs ds → RpAll K H N (vs.drop n) (ds.drop n)
  | _, _, 0, h => h
  | _, _, _ + 1, .nil => .nil
  | _, _, n + 1, .cons _ r => RpAll.drop n r
theorem RpAll.set {K : PySem.W.Frag} {N : Addr → Prop} {H : Hp} {v : V} {d : D} (h : Rp K H N v d) : ∀ {vs : List V} {ds : List D} (i : Nat), RpAll K H N vs ds → RpAll K H N (vs.set i v) (ds.set i d)
  | _, _, _, .nil => .nil
  | _, _, 0, .cons _ r => .cons h r
  | _, _, i + 1, .cons q r => .cons q (RpAll.set h i r)
theorem RpAll.reverse {K : PySem.W.Frag} {N : Addr → Prop} {H : Hp} : ∀ {vs : List V} {ds : List D}, RpAll K H N vs ds → RpAll K H N vs.reverse ds.reverse
  | _, _, .nil => .nil
  | _, _, .cons h r => by
    rw [List.reverse_cons, List.reverse_cons]
    exact (RpAll.reverse r).append (.cons h .nil)

/-- the value, its own root free to stand in N -/
inductive RpC (K : PySem.W.Frag) (H : Hp) (N : Addr → Prop) : V → D → Prop
  | of {v : V} {d : D} : Rp K H N v d → RpC K H N v d
  | lst {a : Addr} {xs : List V} {ds : List D} : Rd H a (.lst xs) → RpAll K H N xs ds → RpC K H N (.ref a) (.list ds)
  | dct {a : Addr} {kvs : List (Key × V)} {es : List (D × D)} : H a = some (.dK kvs) → RpKV K H N kvs es → RpC K H N (.ref a) (.dict es)
theorem RpC.list {K : PySem.W.Frag} {H : Hp} {N : Addr → Prop} {v : V} {ds : List D} (h : RpC K H N v (.list ds)) : ∃ a xs, v = .ref a ∧ Rd H a (.lst xs) ∧ RpAll K H N xs ds := by
  cases h with
  | of h => cases h with
    | lst h1 _ h2 => exact ⟨_, _, rfl, h1, h2⟩
  | lst h1 h2 => exact ⟨_, _, rfl, h1, h2⟩
theorem RpC.tuple {K : PySem.W.Frag} {H : Hp} {N : Addr → Prop} {v : V} {ds : List D} (h : RpC K H N v (.tuple ds)) : ∃ a xs, v = .ref a ∧ SqT K H a xs ∧ RpAll K H N xs ds := by
  cases h with
  | of h => cases h with
    | tup h1 h2 => exact ⟨_, _, rfl, h1, h2⟩
theorem RpC.dict {K : PySem.W.Frag} {H : Hp} {N : Addr → Prop} {v : V} {es : List (D × D)} (h : RpC K H N v (.dict es)) : ∃ a kvs, v = .ref a ∧ H a = some (.dK kvs) ∧ RpKV K H N kvs es := by
  cases h with
  | of h => cases h with
    | dct h1 _ h2 => exact ⟨_, _, rfl, h1, h2⟩
  | dct h1 h2 => exact ⟨_, _, rfl, h1, h2⟩
theorem RpC.int {K : PySem.W.Frag} {H : Hp} {N : Addr → Prop} {v : V} {i : Int} (h : RpC K H N v (.int i)) : v = .int i := by
  cases h with
  | of h => cases h; rfl
theorem RpC.str {K : PySem.W.Frag} {H : Hp} {N : Addr → Prop} {v : V} {i : Str} (h : RpC K H N v (.str i)) : v = .str i := by
  cases h with
  | of h => cases h; rfl
theorem RpC.strOk {K : PySem.W.Frag} {H : Hp} {N : Addr → Prop} {v : V} {i : Str} (h : RpC K H N v (.str i)) : PyData.strOk i = true := by
  cases h with
  | of h => cases h; assumption
theorem RpC.bool {K : PySem.W.Frag} {H : Hp} {N : Addr → Prop} {v : V} {i : Bool} (h : RpC K H N v (.bool i)) : v = .bl i := by
  cases h with
  | of h => cases h; rfl
theorem RpC.none {K : PySem.W.Frag} {H : Hp} {N : Addr → Prop} {v : V} (h : RpC K H N v .none) : v = .non := by
  cases h with
  | of h => cases h; rfl
theorem RpC.same {K : PySem.W.Frag} {H H' : Hp} {N N' : Addr → Prop} {v : V} {d : D} (s : Same H H') (sub : ∀ a, N' a → N a) (h : RpC K H N v d) : RpC K H' N' v d := by
  have f : Fwd K N N' H H' := .sub_same s sub
  cases h with
  | of h => exact .of (h.fwd f)
  | lst h r => exact .lst (h.imp (s _ _) fun ⟨o, h⟩ => ⟨o, s _ _ h⟩) (r.fwd f)
  | dct h r => exact .dct (s _ _ h) (r.fwd f)

/-- a new one (or such as never changes): its root was not there in H -/
def RpF (K : PySem.W.Frag) (H H' : Hp) (N : Addr → Prop) (v : V) : D → Prop
  | .list ds => ∃ a xs, v = .ref a ∧ H a = none ∧ H' a = some (.lst xs) ∧ RpAll K H' (fun b => N b ∨ b = a) xs ds
  | .dict es => ∃ a kvs, v = .ref a ∧ H a = none ∧ H' a = some (.dK kvs) ∧ RpKV K H' (fun b => N b ∨ b = a) kvs es
  | d => Rp K H' N v d
end PV
namespace PV
open PySem PySem.Spec PyProof.Rows L2

/-! where one stands: the heap at the def's entry, what must not be aliased, what may be changed -/
structure Amb where
  H0 : Hp
  N : Addr → Prop
  fx : List Nat
  fa : Nat → Addr
  Z : Addr → Prop
  W : Value → Option Addr → L2.St → Hp → Prop
  XR : Ex → Value → Option Addr → Hp → Prop
  nd : ∀ a, N a → ∃ o, H0 a = some o
  ion : ∀ i ∈ fx, N (fa i)
def Amb.IO (G : Amb) (a : Addr) : Prop := ∃ i ∈ G.fx, G.fa i = a
def rts (σ : L2.St) (env : EnvD) (a : Addr) : Prop := ∃ (i : Nat) (d : D), env[i]? = some (PV.Cell.own d) ∧ σ[i]? = some (some (V.ref a))
def Amb.R (G : Amb) (σ : L2.St) (env : EnvD) (a : Addr) : Prop := (G.N a ∨ G.Z a) ∨ rts σ env a

inductive Root (K : PySem.W.Frag) (H : Hp) (N : Addr → Prop) : Addr → D → Prop
  | lst {a : Addr} {xs : List V} {ds : List D} : H a = some (.lst xs) → RpAll K H N xs ds → Root K H N a (.list ds)
  | dct {a : Addr} {kvs : List (Key × V)} {es : List (D × D)} : H a = some (.dK kvs) → RpKV K H N kvs es → Root K H N a (.dict es)
theorem Root.there {K : PySem.W.Frag} {H : Hp} {N : Addr → Prop} {a : Addr} {d : D} (r : Root K H N a d) : ∃ o, H a = some o ∧ Mu o := by
  cases r with
  | lst h _ => exact ⟨_, h, trivial⟩
  | dct h _ => exact ⟨_, h, trivial⟩
theorem Root.rpC {K : PySem.W.Frag} {H : Hp} {N : Addr → Prop} {a : Addr} {d : D} (r : Root K H N a d) : RpC K H N (.ref a) d := by
  cases r with
  | lst h q => exact .lst (.inl h) q
  | dct h q => exact .dct h q
theorem Root.same {K : PySem.W.Frag} {H H' : Hp} {N N' : Addr → Prop} {a : Addr} {d : D} (s : Same H H') (sub : ∀ a, N' a → N a) (r : Root K H N a d) : Root K H' N' a d := by
  cases r with
  | lst h q => exact .lst (s _ _ h) (q.fwd (.sub_same s sub))
  | dct h q => exact .dct (s _ _ h) (q.fwd (.sub_same s sub))
/-- kept where its own address is -/
theorem Root.at {K : PySem.W.Frag} {H H' : Hp} {N N' : Addr → Prop} {a : Addr} {d : D} (f : Fwd K N N' H H') (e : H' a = H a) (r : Root K H N a d) : Root K H' N' a d := by
  cases r with
  | lst h q => exact .lst (e.trans h) (q.fwd f)
  | dct h q => exact .dct (e.trans h) (q.fwd f)
theorem Root.rp {K : PySem.W.Frag} {H : Hp} {N : Addr → Prop} {a : Addr} {d : D} (r : Root K H N a d) (n : ¬ N a) : Rp K H N (.ref a) d := by
  cases r with
  | lst h q => exact .lst (.inl h) n q
  | dct h q => exact .dct h n q

structure StR (K : PySem.W.Frag) (G : Amb) (σ : L2.St) (H : Hp) (env : EnvD) : Prop where
  len : env.length = σ.length
  keep : Keep G.IO G.H0 H
  shr : ∀ (i : Nat) (d : D), env[i]? = some (PV.Cell.shr d) → ∃ v, σ[i]? = some (some v) ∧ Rp K H (G.R σ env) v d
  own : ∀ (i : Nat) (d : D), env[i]? = some (PV.Cell.own d) → ∃ a, σ[i]? = some (some (V.ref a)) ∧ Root K H (G.R σ env) a d ∧ (G.H0 a = none ∨ G.IO a) ∧ ¬ G.Z a
  dis : ∀ (i j : Nat) (d e : D) (a : Addr), env[i]? = some (PV.Cell.own d) → env[j]? = some (PV.Cell.own e) → σ[i]? = some (some (V.ref a)) → σ[j]? = some (some (V.ref a)) → i = j
  zd : ∀ a, G.Z a → (∃ o, H a = some o) ∧ G.H0 a = none
  fix : ∀ i ∈ G.fx, σ[i]? = some (some (V.ref (G.fa i))) ∧ ∃ d, env[i]? = some (PV.Cell.own d)

section
variable {K : PySem.W.Frag} {G : Amb} {σ : L2.St} {H H' H1 H2 : Hp} {env env' env1 env2 : EnvD}
theorem StR.dom (S : StR K G σ H env) : ∀ a, G.R σ env a → ∃ o, H a = some o := by
  intro a h
  rcases h with (h | h) | ⟨i, d, e1, e2⟩
  · exact S.keep.there (G.nd a h)
  · exact (S.zd a h).1
  · obtain ⟨b, e3, r, _⟩ := S.own i d e1
    have : a = b := by rw [e2] at e3; cases e3; rfl
    subst this
    obtain ⟨o, q, _⟩ := r.there
    exact ⟨o, q⟩
theorem StR.same (S : StR K G σ H env) (s : Same H H') : StR K G σ H' env where
  len := S.len
  keep := S.keep.trans (Keep.of_same (N := G.IO) s) fun _ _ h => h
  shr := fun i d e => let ⟨v, e1, r⟩ := S.shr i d e; ⟨v, e1, r.fwd (.of_same s)⟩
  own := fun i d e => let ⟨a, e1, r, o⟩ := S.own i d e; ⟨a, e1, r.same s (fun _ h => h), o⟩
  dis := S.dis
  zd := fun a z => let ⟨⟨o, e⟩, n⟩ := S.zd a z; ⟨⟨o, s _ _ e⟩, n⟩
  fix := S.fix

/-- what an expression may do -/
structure Eff (K : PySem.W.Frag) (G : Amb) (p : Bool) (σ : L2.St) (H : Hp) (env : EnvD) (H' : Hp) (env' : EnvD) : Prop where
  st : StR K G σ H' env'
  pure : p = true → env' = env ∧ Same H H'
  keepo : Keep (rts σ env) H H'
  subo : ∀ a, rts σ env' a → rts σ env a
theorem R_of {σ' : L2.St} (h : ∀ a, rts σ' env' a → rts σ env a) (a : Addr) (z : G.R σ' env' a) : G.R σ env a := z.imp id (h a)
theorem Eff.keep {p : Bool} (f : Eff K G p σ H env H' env') : Keep (G.R σ env) H H' := f.keepo.mono fun _ z => .inr z
theorem Eff.sub {p : Bool} (f : Eff K G p σ H env H' env') : ∀ a, G.R σ env' a → G.R σ env a := R_of f.subo
theorem Eff.refl {p : Bool} (S : StR K G σ H env) : Eff K G p σ H env H env := ⟨S, fun _ => ⟨rfl, Same.refl H⟩, .refl _ _, fun _ h => h⟩
theorem Eff.of_same {p : Bool} (S : StR K G σ H env) (s : Same H H') : Eff K G p σ H env H' env := ⟨S.same s, fun _ => ⟨rfl, s⟩, .of_same s, fun _ h => h⟩
theorem Eff.trans {p p' : Bool} (a : Eff K G p σ H env H1 env1) (b : Eff K G p' σ H1 env1 H2 env2) : Eff K G (p && p') σ H env H2 env2 where
  st := b.st
  pure := fun h => by
    have h2 := Bool.and_eq_true_iff.mp h
    obtain ⟨e1, s1⟩ := a.pure h2.1
    obtain ⟨e2, s2⟩ := b.pure h2.2
    exact ⟨e2.trans e1, s1.trans s2⟩
  keepo := a.keepo.trans b.keepo fun c _ h => a.subo c h
  subo := fun c h => a.subo c (b.subo c h)
theorem Eff.weak {p p' : Bool} (a : Eff K G p σ H env H1 env1) (h : p' = true → p = true) : Eff K G p' σ H env H1 env1 := ⟨a.st, fun e => a.pure (h e), a.keepo, a.subo⟩

inductive Lvl where
  | bor | saf | fre
def Lvl.safe : Lvl → Bool
  | .bor => false
  | _ => true
def RpX (l : Lvl) (K : PySem.W.Frag) (H H' : Hp) (N : Addr → Prop) (v : V) (d : D) : Prop := match l with
  | .bor => RpC K H' N v d
  | .saf => Rp K H' N v d
  | .fre => RpF K H H' N v d
theorem RpF.rp {N : Addr → Prop} {v : V} {d : D} (dom : ∀ a, N a → ∃ o, H a = some o) (h : RpF K H H' N v d) : Rp K H' N v d := by
  have n : ∀ a, H a = none → ¬ N a := fun a e z => by
    obtain ⟨o, q⟩ := dom a z
    rw [e] at q; cases q
  cases d with
  | list ds =>
    obtain ⟨a, xs, rfl, h1, h2, h3⟩ := h
    exact .lst (.inl h2) (n a h1) (h3.fwd (.sub_same (Same.refl _) fun _ z => .inl z))
  | dict es =>
    obtain ⟨a, xs, rfl, h1, h2, h3⟩ := h
    exact .dct h2 (n a h1) (h3.fwd (.sub_same (Same.refl _) fun _ z => .inl z))
  | none => exact h
  | bool _ => exact h
  | int _ => exact h
  | str _ => exact h
  | tuple _ => exact h
theorem RpX.rp {l : Lvl} {N : Addr → Prop} {v : V} {d : D} (dom : ∀ a, N a → ∃ o, H a = some o) (hl : l.safe = true) (h : RpX l K H H' N v d) : Rp K H' N v d := by
  cases l with
  | bor => cases hl
  | saf => exact h
  | fre => exact RpF.rp dom h
theorem RpX.rpC {l : Lvl} {N : Addr → Prop} {v : V} {d : D} (dom : ∀ a, N a → ∃ o, H a = some o) (h : RpX l K H H' N v d) : RpC K H' N v d := by
  cases l with
  | bor => exact h
  | saf => exact .of h
  | fre => exact .of (RpF.rp dom h)

/-- what is wanted behind the machine of data -/
def Ok {α : Type} (K : PySem.W.Frag) (G : Amb) (p : Bool) (σ : L2.St) (H : Hp) (env : EnvD) (r : Res α) (P : α → EnvD → Hp → Prop) : Prop := match r with
  | .ok a env' => ∀ H', Eff K G p σ H env H' env' → P a env' H'
  | .exc x env' => ∀ c d H', Eff K G p σ H env H' env' → G.XR x c d H' → G.W c d σ H'
  | .no => False
theorem Ok.bind {α β : Type} {p p' : Bool} {m : M α} {k : α → M β} {P : β → EnvD → Hp → Prop} (h : Ok K G (p && p') σ H env (bnd m k env) P) :
    Ok K G p σ H env (m env) fun a env1 H1 => Eff K G p σ H env H1 env1 ∧ Ok K G p' σ H1 env1 (k a env1) P := by
  unfold bnd at h
  unfold Ok
  cases e : m env with
  | no => rw [e] at h; exact h
  | exc x env1 =>
    rw [e] at h
    exact fun c d H1 f hx => h c d H1 (f.weak fun z => (Bool.and_eq_true_iff.mp z).1) hx
  | ok a env1 =>
    rw [e] at h
    intro H1 f
    refine ⟨f, ?_⟩
    simp only at h
    unfold Ok at h
    cases e2 : k a env1 with
    | no => rw [e2] at h; exact h
    | exc x env2 =>
      rw [e2] at h
      exact fun c d H2 f2 hx => h c d H2 (f.trans f2) hx
    | ok b env2 =>
      rw [e2] at h
      exact fun H2 f2 => h H2 (f.trans f2)
theorem Ok.mono {α : Type} {p : Bool} {r : Res α} {P P' : α → EnvD → Hp → Prop} (h : Ok K G p σ H env r P) (q : ∀ a e H1, P a e H1 → P' a e H1) : Ok K G p σ H env r P' := by
  cases r with
  | no => exact h
  | exc x e => exact h
  | ok a e => exact fun H1 f => q _ _ _ (h H1 f)
theorem Ok.weak {α : Type} {p p' : Bool} {r : Res α} {P : α → EnvD → Hp → Prop} (h : Ok K G p σ H env r P) (q : p' = true → p = true) (hp : p = true → p' = true) : Ok K G p' σ H env r P := by
  have e : p = p' := by cases p <;> cases p' <;> simp_all
  subst e; exact h
theorem Ok.lft {α : Type} {p : Bool} {o : Option α} {P : α → EnvD → Hp → Prop} (S : StR K G σ H env) (h : Ok K G p σ H env (lft o env) P) : ∃ a, o = some a ∧ ∀ H', Same H H' → P a env H' := by
  cases o with
  | none => exact False.elim h
  | some a => exact ⟨a, rfl, fun H' s => h H' (.of_same S s)⟩

def tM (K : PySem.W.Frag) (G : Amb) (p : Bool) (l : Lvl) (f : M D) : TE := fun σ H Q => ∃ env, StR K G σ H env ∧
  Ok K G p σ H env (f env) fun d env' H' => ∀ v, RpX l K H H' (G.R σ env') v d → Q v H'
def tMT (K : PySem.W.Frag) (G : Amb) (p : Bool) (f : M Bool) : TT := fun σ H Q => ∃ env, StR K G σ H env ∧
  Ok K G p σ H env (f env) fun b env' H' => Q b H'
inductive RpCAll (K : PySem.W.Frag) (H : Hp) (N : Addr → Prop) : List V → List D → Prop
  | nil : RpCAll K H N [] []
  | cons {v : V} {vs : List V} {d : D} {ds : List D} : RpC K H N v d → RpCAll K H N vs ds → RpCAll K H N (v :: vs) (d :: ds)
def RpA (sf : Bool) (K : PySem.W.Frag) (H : Hp) (N : Addr → Prop) (vs : List V) (ds : List D) : Prop := if sf = true then RpAll K H N vs ds else RpCAll K H N vs ds
def tMA (K : PySem.W.Frag) (G : Amb) (p : Bool) (sf : Bool) (f : M (List D)) : TA := fun σ H Q => ∃ env, StR K G σ H env ∧
  Ok K G p σ H env (f env) fun ds env' H' => ∀ vs, RpA sf K H' (G.R σ env') vs ds → Q vs H'
end

/-! the judgements -/
def J (X : Cx) (G : Amb) (p : Bool) (l : Lvl) (e : Expr) (f : M D) : Prop := PE X e (tM X.K G p l f)
def JT (X : Cx) (G : Amb) (p : Bool) (e : Expr) (f : M Bool) : Prop := PT X e (tMT X.K G p f)
def JW (X : Cx) (G : Amb) (p : Bool) (e : Expr) (f : M Bool) : Prop := PW X e (tMT X.K G p f)
def JA (X : Cx) (G : Amb) (p : Bool) (sf : Bool) (es : List Expr) (f : M (List D)) : Prop := PA X es (tMA X.K G p sf f)
theorem pe_mono {X : Cx} {e : Expr} {t t' : TE} (h : PE X e t) (m : ∀ σ H Q, t' σ H Q → t σ H Q) : PE X e t' := ⟨fun pins s σ H Q I q => h.run pins s σ H Q I (m _ _ _ q)⟩
theorem pt_mono {X : Cx} {e : Expr} {t t' : TT} (h : PT X e t) (m : ∀ σ H Q, t' σ H Q → t σ H Q) : PT X e t' := ⟨fun pins s σ H Q I q => h.run pins s σ H Q I (m _ _ _ q)⟩
theorem pw_mono {X : Cx} {e : Expr} {t t' : TT} (h : PW X e t) (m : ∀ σ H Q, t' σ H Q → t σ H Q) : PW X e t' := ⟨fun wh pins s σ H Q I q => h.run wh pins s σ H Q I (m _ _ _ q)⟩
theorem pa_mono {X : Cx} {e : List Expr} {t t' : TA} (h : PA X e t) (m : ∀ σ H Q, t' σ H Q → t σ H Q) : PA X e t' := ⟨fun pos pins s σ H Q I q => h.run pos pins s σ H Q I (m _ _ _ q)⟩
theorem ps_mono {X : Cx} {e : Stmt} {t t' : TS} (h : PS X e t) (m : ∀ Dn σ H, t' Dn σ H → t Dn σ H) : PS X e t' := ⟨fun pins s σ H Dn I q => h.run pins s σ H Dn I (m _ _ _ q)⟩
theorem pss_mono {X : Cx} {e : List Stmt} {t t' : TS} (h : PSs X e t) (m : ∀ Dn σ H, t' Dn σ H → t Dn σ H) : PSs X e t' := ⟨fun pins s σ H Dn I q => h.run pins s σ H Dn I (m _ _ _ q)⟩

section
variable {X : Cx} {G : Amb} {p pa pb pc : Bool} {l la lb : Lvl} {e a b c : Expr} {es : List Expr} {f fa fb fc : M D} {pos : Pos}

/-! ### levels -/
theorem J.saf (h : J X G p l e f) (hl : l.safe = true := by rfl) : J X G p .saf e f := pe_mono h fun σ H Q ⟨env, S, q⟩ => ⟨env, S, by
  revert q; unfold Ok
  cases f env with
  | no => exact id
  | exc x e1 => exact id
  | ok d e1 => exact fun q H' f v r => q H' f v (RpX.rp (fun a z => f.st.dom a z |> fun _ => S.dom a (f.sub a z)) hl r)⟩
theorem J.bor (h : J X G p l e f) : J X G p .bor e f := pe_mono h fun σ H Q ⟨env, S, q⟩ => ⟨env, S, by
  revert q; unfold Ok
  cases f env with
  | no => exact id
  | exc x e1 => exact id
  | ok d e1 => exact fun q H' f v r => q H' f v (RpX.rpC (fun a z => S.dom a (f.sub a z)) r)⟩
theorem J.imp (h : J X G true l e f) : J X G false l e f := pe_mono h fun σ H Q ⟨env, S, q⟩ => ⟨env, S, by
  revert q; unfold Ok
  cases f env with
  | no => exact id
  | exc x e1 => exact fun q c d H' f hx => q c d H' (f.weak nofun) hx
  | ok d e1 => exact fun q H' f v r => q H' (f.weak nofun) v r⟩
end
end PV
namespace PV
open PySem PySem.Spec PyProof.Rows L2

/-! the machine's words -/
def rdS (i : Nat) : M D := fun e => match e[i]? with
  | some (.shr d) => .ok d e
  | _ => .no
def rdB (i : Nat) : M D := fun e => match e[i]? with
  | some (.shr d) => .ok d e
  | some (.own d) => .ok d e
  | _ => .no
def rdF (i : Nat) : M D := fun e => match e[i]? with
  | some (.shr d) => .ok d e
  | some (.own d) => .ok d (e.set i (.shr d))
  | _ => .no
def op1 (g : D → Option D) (m : M D) : M D := bnd m fun a => lft (g a)
def op2 (g : D → D → Option D) (m k : M D) : M D := bnd m fun a => bnd k fun b => lft (g a b)
def ifE {α : Type} (t : M Bool) (a b : M α) : M α := bnd t fun c => if c = true then a else b
def truD : D → Option Bool
  | .none => some false
  | .bool b => some b
  | .int i => some (i != 0)
  | .str y => if y.length ≤ sizeLine then some ((y.length : Int) != 0) else none
  | .tuple ds => some (!ds.isEmpty)
  | .list ds => some (!ds.isEmpty)
  | .dict es => some (!es.isEmpty)
def tru (m : M D) : M Bool := bnd m fun a => lft (truD a)
def andT (a b : M Bool) : M Bool := bnd a fun x => if x = true then b else ret false
def orT (a b : M Bool) : M Bool := bnd a fun x => if x = true then ret true else b
def notT (a : M Bool) : M Bool := bnd a fun x => ret (!x)
def bolD : D → Option Bool
  | .bool b => some b
  | _ => none
def andV (a b : M D) : M D := bnd a fun x => bnd (lft (bolD x)) fun c => if c = true then b else ret (.bool false)
def orV (a b : M D) : M D := bnd a fun x => bnd (lft (bolD x)) fun c => if c = true then ret (.bool true) else b
def nilA : M (List D) := ret []
def consA (a : M D) (r : M (List D)) : M (List D) := bnd a fun x => bnd r fun xs => ret (x :: xs)
def tupE (r : M (List D)) : M D := bnd r fun ds => lft (if ds.length ≤ sizeLine then some (.tuple ds) else none)
def lstE (r : M (List D)) : M D := bnd r fun ds => lft (if ds.length ≤ sizeLine then some (.list ds) else none)

section
variable {K : PySem.W.Frag} {G : Amb} {σ : L2.St} {H H' H1 H2 : Hp} {env env' env1 env2 : EnvD}
theorem Eff.back {p : Bool} (f : Eff K G p σ H env H1 env1) {l : Lvl} {N : Addr → Prop} {v : V} {d : D} (h : RpX l K H1 H' N v d) : RpX l K H H' N v d := by
  cases l with
  | bor => exact h
  | saf => exact h
  | fre =>
    have n : ∀ a, H1 a = none → H a = none := fun a e => by
      cases q : H a with
      | none => rfl
      | some o =>
        obtain ⟨o', z⟩ := f.keep.there ⟨o, q⟩
        rw [e] at z; cases z
    cases d with
    | list ds =>
      obtain ⟨a, xs, e, h1, r⟩ := h
      exact ⟨a, xs, e, n a h1, r⟩
    | dict ds =>
      obtain ⟨a, xs, e, h1, r⟩ := h
      exact ⟨a, xs, e, n a h1, r⟩
    | none => exact h
    | bool _ => exact h
    | int _ => exact h
    | str _ => exact h
    | tuple _ => exact h
/-- a value already there, behind more work -/
theorem Eff.carry {p : Bool} (f : Eff K G p σ H1 env1 H2 env2) (S : StR K G σ H1 env1) {l : Lvl} {v : V} {d : D} (h : RpX l K H H1 (G.R σ env1) v d) (dom : ∀ a, G.R σ env1 a → ∃ o, H a = some o)
    (hs : (l.safe || p) = true) : RpC K H2 (G.R σ env2) v d ∧ (l.safe = true → Rp K H2 (G.R σ env2) v d) := by
  have saf : l.safe = true → Rp K H2 (G.R σ env2) v d := fun q => (RpX.rp dom q h).fwd (.of_keep f.keep f.sub)
  refine ⟨?_, saf⟩
  cases hl : l.safe with
  | true => exact .of (saf hl)
  | false =>
    rw [hl] at hs
    obtain ⟨e, s⟩ := f.pure (by simpa using hs)
    exact (RpX.rpC dom h).same s f.sub
end

theorem Ok.bind3 {K : PySem.W.Frag} {G : Amb} {σ : L2.St} {H : Hp} {env : EnvD} {α β : Type} {p p' p3 : Bool} {m : M α} {k : α → M β} {P : β → EnvD → Hp → Prop} (hp : p3 = (p && p')) (h : Ok K G p3 σ H env (bnd m k env) P) :
    Ok K G p σ H env (m env) fun a env1 H1 => Eff K G p σ H env H1 env1 ∧ Ok K G p' σ H1 env1 (k a env1) P := by
  subst hp; exact h.bind

def r1 (K : PySem.W.Frag) (l : Lvl) (g : D → Option D) : V → Hp → VK → Prop := fun x H Q => ∃ (N : Addr → Prop) (da d : D), (∀ a, N a → ∃ o, H a = some o) ∧ RpC K H N x da ∧ g da = some d ∧
  ∀ v H', Same H H' → RpX l K H H' N v d → Q v H'
def r2 (K : PySem.W.Frag) (l : Lvl) (g : D → D → Option D) : R2 := fun x y H Q => ∃ (N : Addr → Prop) (da db d : D), (∀ a, N a → ∃ o, H a = some o) ∧ RpC K H N x da ∧ RpC K H N y db ∧ g da db = some d ∧
  ∀ v H', Same H H' → RpX l K H H' N v d → Q v H'

section
variable {X : Cx} {G : Amb} {p pa pb pc : Bool} {l la lb : Lvl} {e a b c : Expr} {es rest : List Expr} {f fa fb fc : M D} {pos : Pos} {ta tb : M Bool}

/-! ### names, constants -/
theorem j_rdS (i : Nat) {x : Str} (h : PE X (.Name x pos) (tVar i)) : J X G true .saf (.Name x pos) (rdS i) := pe_mono h fun σ H Q ⟨env, S, q⟩ => by
  unfold rdS at q
  cases ec : env[i]? with
  | none => rw [ec] at q; exact q.elim
  | some cc =>
    rw [ec] at q
    cases cc with
    | emp => exact q.elim
    | own d => exact q.elim
    | shr d =>
      obtain ⟨v, e1, r⟩ := S.shr i d ec
      exact ⟨v, e1, q H (.refl S) v r⟩
theorem j_rdB (i : Nat) {x : Str} (h : PE X (.Name x pos) (tVar i)) : J X G true .bor (.Name x pos) (rdB i) := pe_mono h fun σ H Q ⟨env, S, q⟩ => by
  unfold rdB at q
  cases ec : env[i]? with
  | none => rw [ec] at q; exact q.elim
  | some cc =>
    rw [ec] at q
    cases cc with
    | emp => exact q.elim
    | own d =>
      obtain ⟨a, e1, r, _⟩ := S.own i d ec
      exact ⟨_, e1, q H (.refl S) _ r.rpC⟩
    | shr d =>
      obtain ⟨v, e1, r⟩ := S.shr i d ec
      exact ⟨v, e1, q H (.refl S) v (.of r)⟩
theorem rts_set_shr {σ : L2.St} {env : EnvD} {i : Nat} {d : D} {a : Addr} (h : rts σ (env.set i (.shr d)) a) : rts σ env a := by
  obtain ⟨j, e, h1, h2⟩ := h
  by_cases hj : i = j
  · subst hj
    by_cases hl : i < env.length
    · rw [List.getElem?_set_self hl] at h1; cases h1
    · rw [List.getElem?_eq_none (by rw [List.length_set]; omega)] at h1; cases h1
  · rw [List.getElem?_set_ne hj] at h1
    exact ⟨j, e, h1, h2⟩
/-- an own thing is made a shared one -/
theorem StR.freeze {K : PySem.W.Frag} {σ : L2.St} {H : Hp} {env : EnvD} (S : StR K G σ H env) {i : Nat} {d : D} (hi : i ∉ G.fx) (h : env[i]? = some (PV.Cell.own d)) : StR K G σ H (env.set i (.shr d)) ∧ ∀ a, rts σ (env.set i (.shr d)) a → rts σ env a := by
  have sub : ∀ a, G.R σ (env.set i (.shr d)) a → G.R σ env a := fun a z => z.imp id rts_set_shr
  have hl : i < env.length := by
    rcases Nat.lt_or_ge i env.length with z | z
    · exact z
    · rw [List.getElem?_eq_none z] at h; cases h
  refine ⟨⟨by rw [List.length_set]; exact S.len, S.keep, fun j d' e => ?_, fun j d' e => ?_, fun j k d1 d2 a e1 e2 => ?_, S.zd, fun j hj => ?_⟩, fun a z => rts_set_shr z⟩
  · by_cases hj : i = j
    · subst hj
      rw [List.getElem?_set_self hl] at e
      cases e
      obtain ⟨a, e1, r, ho, hz⟩ := S.own i d h
      refine ⟨_, e1, (r.same (Same.refl H) sub).rp fun w => ?_⟩
      rcases w with (w | w) | ⟨k, d2, h1, h2⟩
      · rcases ho with ho | ⟨j, hj, ho⟩
        · obtain ⟨o, z⟩ := G.nd a w
          rw [ho] at z; cases z
        · obtain ⟨z1, d3, z2⟩ := S.fix j hj
          rw [ho] at z1
          exact hi (S.dis i j _ _ a h z2 e1 z1 ▸ hj)
      · exact hz w
      · have hk : i ≠ k := fun q => by
          subst q
          rw [List.getElem?_set_self hl] at h1; cases h1
        rw [List.getElem?_set_ne hk] at h1
        exact hk (S.dis i k _ _ a h h1 e1 h2)
    · rw [List.getElem?_set_ne hj] at e
      obtain ⟨v, e1, r⟩ := S.shr j d' e
      exact ⟨v, e1, r.fwd (.sub_same (Same.refl H) sub)⟩
  · have hj : i ≠ j := fun q => by
      subst q
      rw [List.getElem?_set_self hl] at e; cases e
    rw [List.getElem?_set_ne hj] at e
    obtain ⟨a, e1, r, o⟩ := S.own j d' e
    exact ⟨a, e1, r.same (Same.refl H) sub, o⟩
  · have hj : i ≠ j := fun q => by
      subst q
      rw [List.getElem?_set_self hl] at e1; cases e1
    have hk : i ≠ k := fun q => by
      subst q
      rw [List.getElem?_set_self hl] at e2; cases e2
    rw [List.getElem?_set_ne hj] at e1
    rw [List.getElem?_set_ne hk] at e2
    exact S.dis j k d1 d2 a e1 e2
  · have hj2 : i ≠ j := fun q => hi (q ▸ hj)
    rw [List.getElem?_set_ne hj2]
    exact S.fix j hj
end
end PV
namespace PV
open PySem PySem.Spec PyProof.Rows L2

section
variable {X : Cx} {G : Amb} {p pa pb pc : Bool} {l la lb : Lvl} {e a b c : Expr} {es rest : List Expr} {f fa fb fc : M D} {pos : Pos} {ta tb : M Bool}

theorem j_rdF (i : Nat) {x : Str} (h : PE X (.Name x pos) (tVar i)) (hi : G.fx.contains i = false := by rfl) : J X G false .saf (.Name x pos) (rdF i) := pe_mono h fun σ H Q ⟨env, S, q⟩ => by
  have hi' : i ∉ G.fx := fun z => by
    rw [List.contains_iff_mem.mpr z] at hi; cases hi
  unfold rdF at q
  cases ec : env[i]? with
  | none => rw [ec] at q; exact q.elim
  | some cc =>
    rw [ec] at q
    cases cc with
    | emp => exact q.elim
    | own d =>
      obtain ⟨a, e1, r, _⟩ := S.own i d ec
      obtain ⟨S2, sub⟩ := S.freeze hi' ec
      have hl : i < env.length := by
        rcases Nat.lt_or_ge i env.length with z | z
        · exact z
        · rw [List.getElem?_eq_none z] at ec; cases ec
      obtain ⟨v, e2, r2⟩ := S2.shr i d (List.getElem?_set_self hl)
      exact ⟨v, e2, q H ⟨S2, nofun, .refl _ _, sub⟩ v r2⟩
    | shr d =>
      obtain ⟨v, e1, r⟩ := S.shr i d ec
      exact ⟨v, e1, q H ⟨S, nofun, .refl _ _, fun _ z => z⟩ v r⟩
theorem j_cst {v : V} {d : D} (h : PE X e (tC v)) (r : ∀ (H : Hp) (N : Addr → Prop), RpX .fre X.K H H N v d) : J X G true .fre e (ret d) := pe_mono h fun σ H Q ⟨env, S, q⟩ => q H (.refl S) v (r H _)
theorem j_int {i : Int} {j : Nat} : J X G true .fre (.Constant (.int i) j pos) (ret (.int i)) := j_cst pe_int fun _ _ => .int i
theorem j_str {x : Str} {j : Nat} (h : PyData.strOk x = true := by decide) : J X G true .fre (.Constant (.str x) j pos) (ret (.str x)) := j_cst pe_str fun _ _ => .str x h
theorem j_bl {x : Bool} {j : Nat} : J X G true .fre (.Constant (.bool x) j pos) (ret (.bool x)) := j_cst pe_bl fun _ _ => .bl x
theorem j_non {j : Nat} : J X G true .fre (.Constant .none j pos) (ret .none) := j_cst pe_non fun _ _ => .non

/-! ### operations -/
theorem tM_op1 {σ : L2.St} {H : Hp} {Q : VK} {g : D → Option D} (h : tM X.K G p l (op1 g fa) σ H Q) : tM X.K G p la fa σ H fun x H1 => r1 X.K l g x H1 Q := by
  obtain ⟨env, S, q⟩ := h
  refine ⟨env, S, (Ok.bind3 (p' := true) (by simp) q).mono fun da env1 H1 ⟨f1, q1⟩ v rv => ?_⟩
  have dom : ∀ a, G.R σ env1 a → ∃ o, H1 a = some o := f1.st.dom
  obtain ⟨d, e, q2⟩ := q1.lft f1.st
  refine ⟨G.R σ env1, da, d, dom, ?_, e, fun v' H' s r => q2 H' s v' ?_⟩
  · exact RpX.rpC (fun a z => S.dom a (f1.sub a z)) rv
  · exact f1.back r
theorem tM_op2 {σ : L2.St} {H : Hp} {Q : VK} {g : D → D → Option D} (hs : (la.safe || pb) = true) (h : tM X.K G (pa && pb) l (op2 g fa fb) σ H Q) :
    tM X.K G pa la fa σ H fun x H1 => tM X.K G pb lb fb σ H1 fun y H2 => r2 X.K l g x y H2 Q := by
  obtain ⟨env, S, q⟩ := h
  refine ⟨env, S, (Ok.bind3 (p' := pb) rfl q).mono fun da env1 H1 ⟨f1, q1⟩ v rv => ?_⟩
  refine ⟨env1, f1.st, (Ok.bind3 (p' := true) (by simp) q1).mono fun db env2 H2 ⟨f2, q2⟩ u ru => ?_⟩
  obtain ⟨d, e, q3⟩ := q2.lft f2.st
  refine ⟨G.R σ env2, da, db, d, f2.st.dom, ?_, ?_, e, fun v' H' s r => q3 H' s v' ?_⟩
  · exact (f2.carry f1.st rv (fun a z => S.dom a (f1.sub a z)) hs).1
  · exact RpX.rpC (fun a z => f1.st.dom a (f2.sub a z)) ru
  · exact f1.back (f2.back r)
theorem j_op {op : Operator} {g : D → D → Option D} (ho : OpR X (binaryOp op) (r2 X.K l g)) (ha : J X G pa la a fa) (hb : J X G pb lb b fb) (hs : (la.safe || pb) = true := by rfl) :
    J X G (pa && pb) l (.BinOp a op b pos) (op2 g fa fb) := pe_mono (pe_op ho ha hb) fun σ H Q h => tM_op2 hs h
theorem j_un {op : UnaryOp} {g : D → Option D} (ho : UnR X (unaryOp op) (r1 X.K l g)) (ha : J X G p la a fa) : J X G p l (.UnaryOp op a pos) (op1 g fa) := pe_mono (pe_un ho ha) fun σ H Q h => tM_op1 h
theorem j_cmp {op : CmpOp} {g : D → D → Option D} (ho : OpR X (compareOp op) (r2 X.K l g)) (ha : J X G pa la a fa) (hb : J X G pb lb b fb) (hm : behindInMarks op b = false := by first | exact nomark _ | rfl) (hs : (la.safe || pb) = true := by rfl) :
    J X G (pa && pb) l (.Compare a [op] [b] pos) (op2 g fa fb) := pe_mono (pe_cmpR ho ha hb hm) fun σ H Q h => tM_op2 hs h
theorem j_ix {g : D → D → Option D} (ho : IxR X (r2 X.K l g)) (ha : J X G pa la a fa) (hb : J X G pb lb b fb) (hp : PlainIx b := by exact fun _ _ => rfl) (hs : (la.safe || pb) = true := by rfl) :
    J X G (pa && pb) l (.Subscript a b pos) (op2 g fa fb) := pe_mono (pe_ix ho ha hb hp) fun σ H Q h => tM_op2 hs h

/-! ### truth -/
theorem truD_V {K : PySem.W.Frag} {H : Hp} {N : Addr → Prop} {v : V} {d : D} {k : Bool} (r : RpC K H N v d) (h : truD d = some k) : TruV K v H k := by
  cases d with
  | none =>
    rw [r.none]
    cases h; rfl
  | bool b =>
    rw [r.bool]
    cases h; rfl
  | int i =>
    rw [r.int]
    cases h; rfl
  | str y =>
    rw [r.str]
    simp only [truD] at h
    by_cases q : y.length ≤ sizeLine
    · rw [if_pos q] at h
      cases h
      exact ⟨q, rfl⟩
    · rw [if_neg q] at h; cases h
  | tuple ds =>
    obtain ⟨a, xs, rfl, h1, h2⟩ := r.tuple
    cases h
    exact .inr (.inl ⟨xs, h1, by cases h2 <;> rfl⟩)
  | list ds =>
    obtain ⟨a, xs, rfl, h1, h2⟩ := r.list
    cases h
    exact .inl ⟨xs, .inl h1, by cases h2 <;> rfl⟩
  | dict ds =>
    obtain ⟨a, xs, rfl, h1, h2⟩ := r.dict
    cases h
    exact .inr (.inr ⟨xs, h1, by cases h2 <;> rfl⟩)
theorem jt_tru (ha : J X G p la a fa) (he : ∀ whole, isTrue a X.env whole = (do let v ← whole; standAt a.pos; holding [v] (truthy v)) := by intro _; rfl) : JT X G p a (tru fa) := pt_mono (pt_truth ha he) fun σ H Q ⟨env, S, q⟩ => by
  refine ⟨env, S, (Ok.bind3 (p' := true) (by simp) q).mono fun da env1 H1 ⟨f1, q1⟩ v rv => ?_⟩
  obtain ⟨k, e, q2⟩ := q1.lft f1.st
  exact ⟨k, truD_V (RpX.rpC (fun a z => S.dom a (f1.sub a z)) rv) e, q2 H1 (Same.refl _)⟩
theorem jt_cmp {op : CmpOp} {g : D → D → Option D} (ho : OpR X (compareOp op) (r2 X.K l g)) (ha : J X G pa la a fa) (hb : J X G pb lb b fb) (hm : behindInMarks op b = false := by first | exact nomark _ | rfl) (hs : (la.safe || pb) = true := by rfl) :
    JT X G (pa && pb) (.Compare a [op] [b] pos) (bnd (op2 g fa fb) fun d => lft (bolD d)) := pt_mono (pt_cmpR ho ha hb hm) fun σ H Q ⟨env, S, q⟩ => by
  have h2 : tM X.K G (pa && pb) l (op2 g fa fb) σ H fun x H' => ∃ k, x = .bl k ∧ Q k H' := by
    refine ⟨env, S, (Ok.bind3 (p' := true) (by simp) q).mono fun d env1 H1 ⟨f1, q1⟩ v rv => ?_⟩
    obtain ⟨k, e, q2⟩ := q1.lft f1.st
    cases d with
    | bool bb =>
      cases e
      exact ⟨_, (RpX.rpC (fun a z => S.dom a (f1.sub a z)) rv).bool, q2 H1 (Same.refl _)⟩
    | _ => cases e
  exact tM_op2 hs h2

theorem Ok.ret {α : Type} {K : PySem.W.Frag} {σ : L2.St} {H : Hp} {env : EnvD} {x : α} {P : α → EnvD → Hp → Prop} (S : StR K G σ H env) (h : Ok K G p σ H env (ret x env) P) : P x env H := h H (.refl S)
theorem Ok.fix {α : Type} {K : PySem.W.Frag} {σ : L2.St} {H H1 : Hp} {env env1 : EnvD} {P : α → EnvD → Hp → Prop} {r : Res α} (f : Eff K G p σ H env H1 env1) (h : Ok K G pa σ H1 env1 r P) : Ok K G pa σ H1 env1 r P := h

theorem jw_and1 (ha : JT X G p a ta) : JW X G p (.BoolOp .And [a] pos) ta := pw_and1 ha
theorem jw_or1 (ha : JT X G p a ta) : JW X G p (.BoolOp .Or [a] pos) ta := pw_or1 ha
theorem jw_and (ha : JT X G pa a ta) (hb : JW X G pb (.BoolOp .And (b :: rest) pos) tb) : JW X G (pa && pb) (.BoolOp .And (a :: b :: rest) pos) (andT ta tb) := pw_mono (pw_and ha hb) fun σ H Q ⟨env, S, q⟩ => by
  refine ⟨env, S, (Ok.bind3 (p' := pb) rfl q).mono fun x env1 H1 ⟨f1, q1⟩ => ?_⟩
  cases x with
  | true =>
    simp only [if_true] at q1 ⊢
    exact ⟨env1, f1.st, q1⟩
  | false =>
    simp only [Bool.false_eq_true, if_false] at q1 ⊢
    exact q1.ret f1.st
theorem jw_or (ha : JT X G pa a ta) (hb : JW X G pb (.BoolOp .Or (b :: rest) pos) tb) : JW X G (pa && pb) (.BoolOp .Or (a :: b :: rest) pos) (orT ta tb) := pw_mono (pw_or ha hb) fun σ H Q ⟨env, S, q⟩ => by
  refine ⟨env, S, (Ok.bind3 (p' := pb) rfl q).mono fun x env1 H1 ⟨f1, q1⟩ => ?_⟩
  cases x with
  | true =>
    simp only [if_true] at q1 ⊢
    exact q1.ret f1.st
  | false =>
    simp only [Bool.false_eq_true, if_false] at q1 ⊢
    exact ⟨env1, f1.st, q1⟩
theorem JW.jt (h : JW X G p e ta) : JT X G p e ta := PW.pt h
theorem jt_not (ha : JT X G p a ta) : JT X G p (.UnaryOp .Not a pos) (notT ta) := pt_mono (pt_not ha) fun σ H Q ⟨env, S, q⟩ => by
  refine ⟨env, S, (Ok.bind3 (p' := true) (by simp) q).mono fun x env1 H1 ⟨f1, q1⟩ => q1.ret f1.st⟩
/-- .. as values -/
theorem j_one {op : BoolOp} (h : J X G p l a fa) : J X G p l (.BoolOp op [a] pos) fa := pe_one h
theorem bol_of {K : PySem.W.Frag} {H H' : Hp} {N : Addr → Prop} {v : V} {d : D} {k : Bool} (dom : ∀ a, N a → ∃ o, H a = some o) (r : RpX la K H H' N v d) (e : bolD d = some k) : d = .bool k ∧ v = .bl k := by
  cases d with
  | bool bb =>
    cases e
    exact ⟨rfl, (RpX.rpC dom r).bool⟩
  | _ => cases e
theorem j_and (ha : J X G pa la a fa) (hb : J X G pb .fre (.BoolOp .And (b :: rest) pos) fb) : J X G (pa && pb) .fre (.BoolOp .And (a :: b :: rest) pos) (andV fa fb) := pe_mono (pe_and ha hb) fun σ H Q ⟨env, S, q⟩ => by
  refine ⟨env, S, (Ok.bind3 (p' := pb) rfl q).mono fun x env1 H1 ⟨f1, q1⟩ v rv => ?_⟩
  obtain ⟨k, e, q2⟩ : ∃ k, bolD x = some k ∧ Ok X.K G pb σ H1 env1 ((if k = true then fb else ret (PyData.bool false)) env1) _ := by
    cases e : bolD x with
    | none => rw [e] at q1; exact q1.elim
    | some k => rw [e] at q1; exact ⟨k, rfl, q1⟩
  obtain ⟨rfl, rfl⟩ := bol_of (fun a z => S.dom a (f1.sub a z)) rv e
  refine ⟨k, rfl, ?_⟩
  cases k with
  | true =>
    simp only [if_true] at q2 ⊢
    exact ⟨env1, f1.st, q2.mono fun d e2 H2 q3 v rv => q3 v (f1.back rv)⟩
  | false =>
    simp only [Bool.false_eq_true, if_false] at q2 ⊢
    exact q2.ret f1.st _ (.bl false)
theorem j_or (ha : J X G pa la a fa) (hb : J X G pb .fre (.BoolOp .Or (b :: rest) pos) fb) : J X G (pa && pb) .fre (.BoolOp .Or (a :: b :: rest) pos) (orV fa fb) := pe_mono (pe_or ha hb) fun σ H Q ⟨env, S, q⟩ => by
  refine ⟨env, S, (Ok.bind3 (p' := pb) rfl q).mono fun x env1 H1 ⟨f1, q1⟩ v rv => ?_⟩
  obtain ⟨k, e, q2⟩ : ∃ k, bolD x = some k ∧ Ok X.K G pb σ H1 env1 ((if k = true then ret (PyData.bool true) else fb) env1) _ := by
    cases e : bolD x with
    | none => rw [e] at q1; exact q1.elim
    | some k => rw [e] at q1; exact ⟨k, rfl, q1⟩
  obtain ⟨rfl, rfl⟩ := bol_of (fun a z => S.dom a (f1.sub a z)) rv e
  refine ⟨k, rfl, ?_⟩
  cases k with
  | true =>
    simp only [if_true] at q2 ⊢
    exact q2.ret f1.st _ (.bl true)
  | false =>
    simp only [Bool.false_eq_true, if_false] at q2 ⊢
    exact ⟨env1, f1.st, q2.mono fun d e2 H2 q3 v rv => q3 v (f1.back rv)⟩
def notV (a : M D) : M D := bnd a fun x => bnd (lft (bolD x)) fun c => ret (PyData.bool (!c))
theorem j_not (ha : J X G p la a fa) : J X G p .fre (.UnaryOp .Not a pos) (notV fa) := pe_mono (pe_not ha) fun σ H Q ⟨env, S, q⟩ => by
  refine ⟨env, S, (Ok.bind3 (p' := true) (by simp) q).mono fun x env1 H1 ⟨f1, q1⟩ v rv => ?_⟩
  obtain ⟨k, e, q2⟩ : ∃ k, bolD x = some k ∧ Ok X.K G true σ H1 env1 (ret (PyData.bool (!k)) env1) _ := by
    cases e : bolD x with
    | none => rw [e] at q1; exact q1.elim
    | some k => rw [e] at q1; exact ⟨k, rfl, q1⟩
  obtain ⟨rfl, rfl⟩ := bol_of (fun a z => S.dom a (f1.sub a z)) rv e
  exact ⟨k, rfl, q2.ret f1.st _ (.bl (!k))⟩
theorem j_if {c : Expr} (hc : JT X G pc c ta) (ha : J X G pa l a fa) (hb : J X G pa l b fb) : J X G (pc && pa) l (.IfExp c a b pos) (ifE ta fa fb) := pe_mono (pe_ifExp hc ha hb) fun σ H Q ⟨env, S, q⟩ => by
  refine ⟨env, S, (Ok.bind3 (p' := pa) rfl q).mono fun x env1 H1 ⟨f1, q1⟩ => ?_⟩
  cases x with
  | true =>
    simp only [if_true] at q1 ⊢
    exact ⟨env1, f1.st, q1.mono fun d e2 H2 q3 v rv => q3 v (f1.back rv)⟩
  | false =>
    simp only [Bool.false_eq_true, if_false] at q1 ⊢
    exact ⟨env1, f1.st, q1.mono fun d e2 H2 q3 v rv => q3 v (f1.back rv)⟩

/-! ### argument lists, displays -/
theorem ja_nil (sf : Bool) : JA X G true sf [] nilA := pa_mono pa_nil fun σ H Q ⟨env, S, q⟩ => q.ret S _ (by unfold RpA; split; exact .nil; exact .nil)
theorem RpAll.all {K : PySem.W.Frag} {H : Hp} {N : Addr → Prop} : ∀ {vs : List V} {ds : List D}, RpAll K H N vs ds → RpCAll K H N vs ds
  | _, _, .nil => .nil
  | _, _, .cons h r => .cons (.of h) (RpAll.all r)
theorem ja_cons {sf : Bool} {fr : M (List D)} (ha : J X G pa la e fa) (hr : JA X G pb sf es fr) (hl : (la.safe || (!sf && pb)) = true := by rfl) (hs : starEach (e :: es) X.env = (false, eval e X.env) :: starEach es X.env := by rfl) :
    JA X G (pa && pb) sf (e :: es) (consA fa fr) := pa_mono (pa_cons ha hr hs) fun σ H Q ⟨env, S, q⟩ => by
  refine ⟨env, S, (Ok.bind3 (p' := pb) rfl q).mono fun d env1 H1 ⟨f1, q1⟩ v rv => ?_⟩
  refine ⟨env1, f1.st, (Ok.bind3 (p' := true) (by simp) q1).mono fun ds env2 H2 ⟨f2, q2⟩ vs rvs => q2.ret f2.st (v :: vs) ?_⟩
  have hc := f2.carry f1.st rv (fun a z => S.dom a (f1.sub a z)) (by cases la <;> cases sf <;> cases pb <;> simp_all [Lvl.safe])
  unfold RpA at rvs ⊢
  cases sf with
  | true =>
    simp only [if_true] at rvs ⊢
    exact .cons (hc.2 (by simpa using hl)) rvs
  | false =>
    simp only [Bool.false_eq_true, if_false] at rvs ⊢
    exact .cons hc.1 rvs
theorem RpAll.new {K : PySem.W.Frag} {H : Hp} {N : Addr → Prop} {a : Addr} {o : HO} {vs : List V} {ds : List D} (h : RpAll K H N vs ds) (hn : H a = none) : RpAll K (upd H a o) (fun b => N b ∨ b = a) vs ds := by
  have s : Same H (upd H a o) := fun b x e => by rw [upd_ne (ne_of_none e hn)]; exact e
  refine h.fwd ⟨fun b x e _ => s b x e, fun b x e _ => s b x e, fun b z n => ?_⟩
  rcases z with z | rfl
  · exact absurd z n
  · exact hn
end
end PV
namespace PV
open PySem PySem.Spec PyProof.Rows L2

theorem same_new {H : Hp} {a : Addr} {o : HO} (hn : H a = none) : Same H (upd H a o) := fun b x e => by rw [upd_ne (ne_of_none e hn)]; exact e

def callD (g : List D → Option D) (r : M (List D)) : M D := bnd r fun ds => lft (g ds)
def rC (K : PySem.W.Frag) (l : Lvl) (g : List D → Option D) : List V → Hp → VK → Prop := fun xs H Q => ∃ (N : Addr → Prop) (ds : List D) (d : D), (∀ a, N a → ∃ o, H a = some o) ∧ RpCAll K H N xs ds ∧ g ds = some d ∧
  ∀ v H', Same H H' → RpX l K H H' N v d → Q v H'
def methD (ty : D → Bool) (g : D → List D → Option D) (o : M D) (r : M (List D)) : M D := bnd o fun x => bnd (lft (if ty x = true then some () else none)) fun _ => bnd r fun ds => lft (g x ds)
def rMt (K : PySem.W.Frag) (l : Lvl) (g : D → List D → Option D) : V → List V → Hp → VK → Prop := fun x xs H Q => ∃ (N : Addr → Prop) (da : D) (ds : List D) (d : D), (∀ a, N a → ∃ o, H a = some o) ∧ RpC K H N x da ∧ RpCAll K H N xs ds ∧ g da ds = some d ∧
  ∀ v H', Same H H' → RpX l K H H' N v d → Q v H'
/-- the data is an object of the built-in type -/
def TyOk (K : PySem.W.Frag) (T : String) (ty : D → Bool) : Prop := ∀ (H : Hp) (N : Addr → Prop) (v : V) (d : D), RpC K H N v d → ty d = true → tyV K T v H
def prt (o : Option (M D)) : M (Option Int) := match o with
  | none => ret none
  | some m => bnd m fun d => match d with
    | .int i => ret (some i)
    | _ => fun _ => .no
def slE (g : D → Option Int → Option Int → Option D) (m : M D) (lo hi : Option (M D)) : M D := bnd m fun d => bnd (prt lo) fun i => bnd (prt hi) fun j => lft (g d i j)
def rSl3 (K : PySem.W.Frag) (l : Lvl) (g : D → Option Int → Option Int → Option D) : V → Option Int → Option Int → Hp → VK → Prop := fun x lo hi H Q => ∃ (N : Addr → Prop) (da d : D), (∀ a, N a → ∃ o, H a = some o) ∧ RpC K H N x da ∧ g da lo hi = some d ∧
  ∀ v H', Same H H' → RpX l K H H' N v d → Q v H'
def tMO (K : PySem.W.Frag) (G : Amb) (p : Bool) (f : M (Option Int)) : TO := fun σ H Q => ∃ env, StR K G σ H env ∧ Ok K G p σ H env (f env) fun d env' H' => Q d H'
def JO (X : Cx) (G : Amb) (p : Bool) (e : Option Expr) (f : Option (M D)) : Prop := PO X e (tMO X.K G p (prt f))

section
variable {X : Cx} {G : Amb} {p pa pb pc : Bool} {l la lb : Lvl} {e a b c : Expr} {es rest : List Expr} {f fa fb fc : M D} {pos apos : Pos} {ta tb : M Bool} {fr : M (List D)} {sf : Bool}

theorem RpA.len {K : PySem.W.Frag} {H : Hp} {N : Addr → Prop} : ∀ {vs : List V} {ds : List D}, RpAll K H N vs ds → ds.length ≤ sizeLine → vs.length ≤ sizeLine := fun r h => by rw [r.length]; exact h
theorem j_tup {k : Nat} (h : JA X G p true es fr) : J X G p .fre (.Tuple es k pos) (tupE fr) := pe_mono (pe_tup h) fun σ H Q ⟨env, S, q⟩ => by
  refine ⟨env, S, (Ok.bind3 (p' := true) (by simp) q).mono fun ds env1 H1 ⟨f1, q1⟩ vs rvs => ?_⟩
  have r : RpAll X.K H1 (G.R σ env1) vs ds := rvs
  obtain ⟨d, e, q2⟩ := q1.lft f1.st
  by_cases z : ds.length ≤ sizeLine
  · rw [if_pos z] at e
    cases e
    exact ⟨RpA.len r z, fun a hn => q2 _ (same_new hn) _ (.tup (SqT.of upd_same) (r.fwd (.of_same (same_new hn))))⟩
  · rw [if_neg z] at e; cases e
theorem j_lst (h : JA X G p true es fr) : J X G p .fre (.List es pos) (lstE fr) := pe_mono (pe_lst h) fun σ H Q ⟨env, S, q⟩ => by
  refine ⟨env, S, (Ok.bind3 (p' := true) (by simp) q).mono fun ds env1 H1 ⟨f1, q1⟩ vs rvs => ?_⟩
  have r : RpAll X.K H1 (G.R σ env1) vs ds := rvs
  obtain ⟨d, e, q2⟩ := q1.lft f1.st
  by_cases z : ds.length ≤ sizeLine
  · rw [if_pos z] at e
    cases e
    refine ⟨RpA.len r z, fun a hn => q2 _ (same_new hn) _ (f1.back (l := .fre) ?_)⟩
    exact ⟨a, vs, rfl, hn, upd_same, r.new hn⟩
  · rw [if_neg z] at e; cases e

theorem tMA_call {σ : L2.St} {H : Hp} {Q : VK} {g : List D → Option D} (h : tM X.K G p l (callD g fr) σ H Q) : tMA X.K G p false fr σ H fun xs H1 => rC X.K l g xs H1 Q := by
  obtain ⟨env, S, q⟩ := h
  refine ⟨env, S, (Ok.bind3 (p' := true) (by simp) q).mono fun ds env1 H1 ⟨f1, q1⟩ vs rvs => ?_⟩
  obtain ⟨d, e, q2⟩ := q1.lft f1.st
  exact ⟨G.R σ env1, ds, d, f1.st.dom, rvs, e, fun v' H' s r => q2 H' s v' (f1.back r)⟩
theorem j_callB {id : String} {x : Str} {p' : Pos} {g : List D → Option D} (hc : CallR X (.builtin id) (rC X.K l g)) (hg : Gl X x) (hm : X.mg x = none) (hv : bootBuiltins x = some (.builtin id)) (ha : JA X G p false (e :: es) fr)
    (hn : x ≠ "__name__" := by decide) (hdb : (x == ("__debug__" : Str)) = false := by decide)
    (he : starEach (e :: es) X.env = (false, eval e X.env) :: starEach es X.env := by rfl) (hpl : (backTo pos (starEach es X.env)).any (·.1) = false := by rfl) :
    J X G p l (.Call (.Name x p') (e :: es) [] pos) (callD g fr) := pe_mono (pe_callB hc hg hm hv ha hn hdb he hpl) fun σ H Q h => tMA_call h
theorem j_callT {T : String} {x : Str} {p' : Pos} {g : List D → Option D} (hc : CallR X (.type T) (rC X.K l g)) (hg : Gl X x) (hm : X.mg x = none) (hv : bootBuiltins x = some (.type T)) (ha : JA X G p false (e :: es) fr)
    (hn : x ≠ "__name__" := by decide) (hdb : (x == ("__debug__" : Str)) = false := by decide)
    (he : starEach (e :: es) X.env = (false, eval e X.env) :: starEach es X.env := by rfl) (hpl : (backTo pos (starEach es X.env)).any (·.1) = false := by rfl) :
    J X G p l (.Call (.Name x p') (e :: es) [] pos) (callD g fr) := pe_mono (pe_callTy hc hg hm hv ha hn hdb he hpl) fun σ H Q h => tMA_call h

theorem jo_none : JO X G true none none := ⟨fun pins s σ H Q I h => po_none.run pins s σ H Q I (by
  obtain ⟨env, S, q⟩ := h
  exact q.ret S)⟩
theorem jo_some (h : J X G p l e fa) : JO X G p (some e) (some fa) := ⟨fun pins s σ H Q I h2 => (po_some h).run pins s σ H Q I (by
  obtain ⟨env, S, q⟩ := h2
  refine ⟨env, S, (Ok.bind3 (p' := true) (by simp) q).mono fun d env1 H1 ⟨f1, q1⟩ v rv => ?_⟩
  cases d with
  | int i => exact ⟨i, (RpX.rpC (fun a z => S.dom a (f1.sub a z)) rv).int, q1.ret f1.st⟩
  | _ => exact q1.elim)⟩
theorem j_slice {g : D → Option Int → Option Int → Option D} {lo hi : Option Expr} {ml mh : Option (M D)} {pl ph : Bool} {p2 : Pos} (hr : SlR X (rSl3 X.K l g)) (he : J X G pa la e fa) (hl : JO X G pl lo ml) (hh : JO X G ph hi mh) (hs : (la.safe || (pl && ph)) = true := by rfl) :
    J X G (pa && (pl && ph)) l (.Subscript e (.Slice lo hi none p2) pos) (slE g fa ml mh) := pe_mono (pe_slice hr he hl hh) fun σ H Q ⟨env, S, q⟩ => by
  refine ⟨env, S, (Ok.bind3 (p' := pl && ph) rfl q).mono fun da env1 H1 ⟨f1, q1⟩ v rv => ?_⟩
  refine ⟨env1, f1.st, (Ok.bind3 (p' := ph) rfl q1).mono fun i env2 H2 ⟨f2, q2⟩ => ?_⟩
  refine ⟨env2, f2.st, (Ok.bind3 (p' := true) (by simp) q2).mono fun j env3 H3 ⟨f3, q3⟩ => ?_⟩
  obtain ⟨d, e, q4⟩ := q3.lft f3.st
  have f23 := f2.trans f3
  refine ⟨G.R σ env3, da, d, f3.st.dom, (f23.carry f1.st rv (fun a z => S.dom a (f1.sub a z)) hs).1, e, fun v' H' s r => q4 H' s v' (f1.back (f2.back (f3.back r)))⟩

/-! a method of a built-in type that changes nothing -/
theorem j_meth {T id : String} {name : Str} {ty : D → Bool} {g : D → List D → Option D} (pa' : PlainAttrs T) (slot : Slot T name id) (hty : typeOf (.builtin id) = pure (.type "method_descriptor")) (hm : MtR X id (rMt X.K l g)) (ht : TyOk X.K T ty)
    (ho : J X G pa la a fa) (ha : JA X G pb false (e :: es) fr) (hs : (la.safe || pb) = true := by rfl)
    (hbase : attributeBase a name X.env (eval a X.env) = eval a X.env := by rfl)
    (hfew : ((backTo pos (starEach (e :: es) X.env)).all (fun x => !x.1) && (backToKw pos (keywordEach [] X.env)).all (fun x => x.1.isSome)
      && decide ((e :: es).length + ([] : List Keyword).length + (if ([] : List Keyword).isEmpty then 0 else 1) < 30)) = true := by rfl)
    (hline : (apos.endLine == pos.line) = true := by rfl) (hst : starEach (e :: es) X.env = (false, eval e X.env) :: starEach es X.env := by rfl) (hplain : (backTo pos (starEach es X.env)).any (·.1) = false := by rfl) :
    J X G (pa && pb) l (.Call (.Attribute a name apos) (e :: es) [] pos) (methD ty g fa fr) := pe_mono (pe_bm pa' slot hty hm ho ha hbase hfew hline hst hplain) fun σ H Q ⟨env, S, q⟩ => by
  refine ⟨env, S, (Ok.bind3 (p' := pb) rfl q).mono fun da env1 H1 ⟨f1, q1⟩ v rv => ?_⟩
  have rc := RpX.rpC (fun a z => S.dom a (f1.sub a z)) rv
  by_cases z : ty da = true
  · rw [if_pos z] at q1
    refine ⟨ht _ _ _ _ rc z, env1, f1.st, (Ok.bind3 (m := fr) (p' := true) (by simp) q1).mono fun ds env2 H2 ⟨f2, q2⟩ vs rvs => ?_⟩
    obtain ⟨d, e, q3⟩ := q2.lft f2.st
    exact ⟨G.R σ env2, da, ds, d, f2.st.dom, (f2.carry f1.st rv (fun a z => S.dom a (f1.sub a z)) hs).1, rvs, e, fun v' H' s r => q3 H' s v' (f1.back (f2.back r))⟩
  · rw [if_neg z] at q1
    exact q1.elim
theorem j_meth0 {T id : String} {name : Str} {ty : D → Bool} {g : D → List D → Option D} (pa' : PlainAttrs T) (slot : Slot T name id) (hty : typeOf (.builtin id) = pure (.type "method_descriptor")) (hm : MtR X id (rMt X.K l g)) (ht : TyOk X.K T ty)
    (ho : J X G pa la a fa) (hbase : attributeBase a name X.env (eval a X.env) = eval a X.env := by rfl) (hline : (apos.endLine == pos.line) = true := by rfl) :
    J X G pa l (.Call (.Attribute a name apos) [] [] pos) (methD ty g fa nilA) := pe_mono (pe_bm0 pa' slot hty hm ho hbase hline) fun σ H Q ⟨env, S, q⟩ => by
  refine ⟨env, S, (Ok.bind3 (p' := true) (by simp) q).mono fun da env1 H1 ⟨f1, q1⟩ v rv => ?_⟩
  have rc := RpX.rpC (fun a z => S.dom a (f1.sub a z)) rv
  by_cases z : ty da = true
  · rw [if_pos z] at q1
    have q2 : Ok X.K G true σ H1 env1 (lft (g da []) env1) _ := q1
    obtain ⟨d, e, q3⟩ := q2.lft f1.st
    exact ⟨ht _ _ _ _ rc z, G.R σ env1, da, [], d, f1.st.dom, rc |> fun r => r.same (Same.refl _) (fun _ z => z), .nil, e, fun v' H' s r => q3 H' s v' (f1.back r)⟩
  · rw [if_neg z] at q1
    exact q1.elim
end
end PV
namespace PV
open PySem PySem.Spec PyProof.Rows L2

/-! what a def promises -/
inductive FR where
  | ok (d : D) (io : List D) | exc (x : Ex) | no
abbrev Fn := List D → FR
def ioR : List Bool → List V → List Addr
  | true :: io, .ref a :: vs => a :: ioR io vs
  | _ :: io, _ :: vs => ioR io vs
  | _, _ => []
inductive RpIO (K : PySem.W.Frag) (H : Hp) (N : Addr → Prop) : List Bool → List V → List D → Prop
  | nil : RpIO K H N [] [] []
  | val {io : List Bool} {v : V} {vs : List V} {d : D} {ds : List D} : Rp K H N v d → RpIO K H N io vs ds → RpIO K H N (false :: io) (v :: vs) (d :: ds)
  | ref {io : List Bool} {a : Addr} {vs : List V} {d : D} {ds : List D} : Root K H N a d → RpIO K H N io vs ds → RpIO K H N (true :: io) (.ref a :: vs) (d :: ds)
inductive Rts (K : PySem.W.Frag) (H : Hp) (N : Addr → Prop) : List Addr → List D → Prop
  | nil : Rts K H N [] []
  | cons {a : Addr} {r : List Addr} {d : D} {ds : List D} : Root K H N a d → Rts K H N r ds → Rts K H N (a :: r) (d :: ds)
theorem Rts.get {K : PySem.W.Frag} {H : Hp} {N : Addr → Prop} : ∀ {r : List Addr} {ds : List D} {i : Nat} {a : Addr}, Rts K H N r ds → r[i]? = some a → ∃ d, ds[i]? = some d ∧ Root K H N a d
  | _, _, _, _, .nil, e => by simp at e
  | _, _, 0, _, .cons h _, e => by simp at e; subst e; exact ⟨_, rfl, h⟩
  | _, _, i + 1, _, .cons _ r, e => by
    obtain ⟨v, e1, h⟩ := Rts.get (i := i) r (by simpa using e)
    exact ⟨v, by simpa using e1, h⟩
theorem Rts.length {K : PySem.W.Frag} {H : Hp} {N : Addr → Prop} : ∀ {r : List Addr} {ds : List D}, Rts K H N r ds → r.length = ds.length
  | _, _, .nil => rfl
  | _, _, .cons _ r => congrArg (· + 1) (Rts.length r)
abbrev XRT := Ex → Value → Option Addr → Hp → Prop
def spF (K : PySem.W.Frag) (XR : XRT) (fl : Lvl) (io : List Bool) (g : Fn) : Sp := fun vs H Q E => ∃ (N : Addr → Prop) (ds : List D), (∀ a, N a → ∃ o, H a = some o) ∧ RpIO K H N io vs ds ∧ (ioR io vs).Nodup ∧ (∀ a ∈ ioR io vs, N a) ∧
  match g ds with
  | .ok d ios => ∀ v H', Keep (fun a => a ∈ ioR io vs) H H' → RpX fl K H H' N v d → Rts K H' N (ioR io vs) ios → Q v H'
  | .exc x => ∀ c dd H', Keep (fun a => a ∈ ioR io vs) H H' → XR x c dd H' → E c dd H'
  | .no => False
theorem RpIO.length {K : PySem.W.Frag} {H : Hp} {N : Addr → Prop} : ∀ {io : List Bool} {vs : List V} {ds : List D}, RpIO K H N io vs ds → vs.length = io.length
  | _, _, _, .nil => rfl
  | _, _, _, .val _ r => congrArg (· + 1) (RpIO.length r)
  | _, _, _, .ref _ r => congrArg (· + 1) (RpIO.length r)
/-- a def of the module, with its promise -/
structure FnI (P : Program) (w : World) (K : PySem.W.Frag) (mg : Str → Option Value) (base : Heap) (CX : CXT) (XR : XRT) (x : Str) (k : Nat) (fl : Lvl) (io : List Bool) (g : Fn) : Prop where
  ex : ∃ (f : Addr) (fd : FuncData) (ps : List Str), FnOk P w K mg base CX k f fd ps (spF K XR fl io g) ∧ mg x = some (.ref f) ∧ PySem.W.keepIn K (.ref f) = true ∧ Binds K fd ps []
  ar : ∀ ds, ds.length ≠ io.length → g ds = .no
theorem FnI.up {P : Program} {w : World} {K : PySem.W.Frag} {mg : Str → Option Value} {base : Heap} {CX : CXT} {XR : XRT} {x : Str} {k k' : Nat} {fl : Lvl} {io : List Bool} {g : Fn} (F : FnI P w K mg base CX XR x k fl io g) (h : k ≤ k') : FnI P w K mg base CX XR x k' fl io g := by
  obtain ⟨f, fd, ps, F1, r⟩ := F.ex
  exact ⟨⟨f, fd, ps, F1.mono h, r⟩, F.ar⟩

/-! calls -/
def frM (r : FR) : M D := fun e => match r with
  | .ok d _ => .ok d e
  | .exc x => .exc x e
  | .no => .no
def cal (g : Fn) (r : M (List D)) : M D := bnd r fun ds => frM (g ds)
theorem ioR_no : ∀ (vs : List V), ioR (List.replicate vs.length false) vs = []
  | [] => rfl
  | v :: vs => by
    show ioR (false :: List.replicate vs.length false) (v :: vs) = []
    unfold ioR
    exact ioR_no vs
theorem RpIO.no {K : PySem.W.Frag} {H : Hp} {N : Addr → Prop} : ∀ {vs : List V} {ds : List D}, RpAll K H N vs ds → RpIO K H N (List.replicate vs.length false) vs ds
  | _, _, .nil => .nil
  | _, _, .cons h r => .val h (RpIO.no r)
theorem Keep.empty {H H' : Hp} (k : Keep (fun a => a ∈ ([] : List Addr)) H H') : Same H H' := fun a o e => (k a o e).resolve_right fun z => by simp at z

/-- places of names handed on as they stand -/
inductive RpH (K : PySem.W.Frag) (H : Hp) (N : Addr → Prop) (σ : L2.St) : List (Option Nat) → List V → List D → Prop
  | nil : RpH K H N σ [] [] []
  | val {js : List (Option Nat)} {v : V} {vs : List V} {d : D} {ds : List D} : Rp K H N v d → RpH K H N σ js vs ds → RpH K H N σ (none :: js) (v :: vs) (d :: ds)
  | hole {js : List (Option Nat)} {i : Nat} {v : V} {vs : List V} {ds : List D} : σ[i]? = some (some v) → RpH K H N σ js vs ds → RpH K H N σ (some i :: js) (v :: vs) (.none :: ds)
def tMH (K : PySem.W.Frag) (G : Amb) (p : Bool) (js : List (Option Nat)) (f : M (List D)) : TA := fun σ H Q => ∃ env, StR K G σ H env ∧
  Ok K G p σ H env (f env) fun ds env' H' => ∀ vs, RpH K H' (G.R σ env') σ js vs ds → Q vs H'
def JH (X : Cx) (G : Amb) (p : Bool) (js : List (Option Nat)) (es : List Expr) (f : M (List D)) : Prop := PA X es (tMH X.K G p js f)
def holeA (i : Nat) (r : M (List D)) : M (List D) := fun e => match e[i]? with
  | some (.own _) => bnd r (fun ds => ret (.none :: ds)) e
  | _ => .no
def fillH : List (Option Nat) → List D → EnvD → Option (List D)
  | [], [], _ => some []
  | none :: js, d :: ds, e => (fillH js ds e).map (d :: ·)
  | some i :: js, _ :: ds, e => match e[i]? with
    | some (.own d) => (fillH js ds e).map (d :: ·)
    | _ => none
  | _, _, _ => none
def putH : List (Option Nat) → List D → EnvD → Option EnvD
  | [], [], e => some e
  | none :: js, ds, e => putH js ds e
  | some i :: js, d :: ds, e => putH js ds (e.set i (.own d))
  | _, _, _ => none
def calH (g : Fn) (js : List (Option Nat)) (r : M (List D)) : M D := bnd r fun ds => fun e => match fillH js ds e with
  | none => .no
  | some ds' => match g ds' with
    | .ok d ios => match putH js ios e with
      | some e' => .ok d e'
      | none => .no
    | _ => .no

section
variable {X : Cx} {G : Amb} {p pa pb pc : Bool} {l la lb fl : Lvl} {e a b c : Expr} {es rest : List Expr} {f fa fb fc : M D} {pos apos : Pos} {ta tb : M Bool} {fr : M (List D)} {sf : Bool} {js : List (Option Nat)} {CX : CXT} {k : Nat} {g : Fn} {io : List Bool}
theorem jh_nil : JH X G true [] [] nilA := pa_mono pa_nil fun σ H Q ⟨env, S, q⟩ => q.ret S _ .nil
theorem jh_val (ha : J X G pa la e fa) (hr : JH X G pb js es fr) (hl : la.safe = true := by rfl) (hs : starEach (e :: es) X.env = (false, eval e X.env) :: starEach es X.env := by rfl) :
    JH X G (pa && pb) (none :: js) (e :: es) (consA fa fr) := pa_mono (pa_cons ha hr hs) fun σ H Q ⟨env, S, q⟩ => by
  refine ⟨env, S, (Ok.bind3 (p' := pb) rfl q).mono fun d env1 H1 ⟨f1, q1⟩ v rv => ?_⟩
  refine ⟨env1, f1.st, (Ok.bind3 (p' := true) (by simp) q1).mono fun ds env2 H2 ⟨f2, q2⟩ vs rvs => q2.ret f2.st (v :: vs) ?_⟩
  exact .val ((f2.carry f1.st rv (fun a z => S.dom a (f1.sub a z)) (by rw [hl]; rfl)).2 hl) rvs
theorem jh_hole (i : Nat) {x : Str} (h : PE X (.Name x pos) (tVar i)) (hr : JH X G pb js es fr) (hs : starEach (.Name x pos :: es) X.env = (false, eval (.Name x pos) X.env) :: starEach es X.env := by rfl) :
    JH X G pb (some i :: js) (.Name x pos :: es) (holeA i fr) := pa_mono (pa_cons h hr hs) fun σ H Q ⟨env, S, q⟩ => by
  unfold holeA at q
  cases ec : env[i]? with
  | none => rw [ec] at q; exact q.elim
  | some cc =>
    rw [ec] at q
    cases cc with
    | emp => exact q.elim
    | shr d => exact q.elim
    | own d =>
      obtain ⟨a, e1, _, _⟩ := S.own i d ec
      refine ⟨.ref a, e1, env, S, (Ok.bind3 (p' := true) (by simp) q).mono fun ds env2 H2 ⟨f2, q2⟩ vs rvs => q2.ret f2.st _ (.hole e1 rvs)⟩

theorem putH_spec : ∀ {js : List (Option Nat)} {ds : List D} {e e' : EnvD}, putH js ds e = some e' → e'.length = e.length ∧ (∀ j, some j ∉ js → e'[j]? = e[j]?) ∧ (∀ j, j < e.length → some j ∈ js → ∃ d, e'[j]? = some (PV.Cell.own d))
  | [], [], e, e', h => by
    cases h
    exact ⟨rfl, fun _ _ => rfl, fun _ _ z => by simp at z⟩
  | [], _ :: _, e, e', h => by cases h
  | none :: js, ds, e, e', h => by
    have h' : putH js ds e = some e' := by cases ds <;> exact h
    obtain ⟨h1, h2, h3⟩ := putH_spec h'
    exact ⟨h1, fun j z => h2 j fun w => z (List.mem_cons_of_mem _ w), fun j hl z => h3 j hl (by simpa using z)⟩
  | some i :: js, [], e, e', h => by cases h
  | some i :: js, d :: ds, e, e', h => by
    have h' : putH js ds (e.set i (.own d)) = some e' := h
    obtain ⟨h1, h2, h3⟩ := putH_spec h'
    rw [List.length_set] at h1 h3
    refine ⟨h1, fun j z => ?_, fun j hl z => ?_⟩
    · have zi : i ≠ j := fun q => z (by rw [q]; exact List.mem_cons_self)
      rw [h2 j fun w => z (List.mem_cons_of_mem _ w), List.getElem?_set_ne zi]
    · by_cases hm : some j ∈ js
      · exact h3 j hl hm
      · have e1 : j = i := by
          rcases List.mem_cons.mp z with w | w
          · exact Option.some.inj w
          · exact absurd w hm
        subst e1
        rw [h2 j hm, List.getElem?_set_self hl]
        exact ⟨d, rfl⟩
/-- the roots handed back stand at the holes -/
theorem putH_root {K : PySem.W.Frag} {H : Hp} {N : Addr → Prop} {σ : L2.St} : ∀ {js : List (Option Nat)} {vs : List V} {as : List D} {ds : List D} {e e' : EnvD} {H0 : Hp} {N0 : Addr → Prop}, RpH K H0 N0 σ js vs as → (js.filterMap id).Nodup → putH js ds e = some e' →
    Rts K H N (ioR (js.map Option.isSome) vs) ds → (∀ j, some j ∈ js → ∃ a, σ[j]? = some (some (V.ref a))) → ∀ j d, j < e.length → some j ∈ js → e'[j]? = some (PV.Cell.own d) → ∃ a, σ[j]? = some (some (V.ref a)) ∧ Root K H N a d
  | [], _, _, _, e, e', _, _, .nil, _, _, _, _, j, d, _, hm, _ => by simp at hm
  | none :: js, v :: vs, _, ds, e, e', H0, N0, .val _ r, nd, h, rt, hr, j, d, hl, hm, he => by
    have h' : putH js ds e = some e' := by cases ds <;> exact h
    have rt' : Rts K H N (ioR (js.map Option.isSome) vs) ds := by
      have z : ioR (false :: js.map Option.isSome) (v :: vs) = ioR (js.map Option.isSome) vs := by cases v <;> rfl
      exact z ▸ rt
    exact putH_root r (by simpa using nd) h' rt' (fun j z => hr j (List.mem_cons_of_mem _ z)) j d hl (by simpa using hm) he
  | some i :: js, v :: vs, _, ds, e, e', H0, N0, .hole hv r, nd, h, rt, hr, j, d, hl, hm, he => by
    obtain ⟨a, ha⟩ := hr i List.mem_cons_self
    have hva : v = V.ref a := by rw [hv] at ha; cases ha; rfl
    subst hva
    have nd' : i ∉ js.filterMap id ∧ (js.filterMap id).Nodup := by
      have : (i :: js.filterMap id).Nodup := by simpa using nd
      exact List.nodup_cons.mp this
    cases rt with
    | cons r1 r2 =>
      rename_i d1 ds1
      have h' : putH js ds1 (e.set i (.own d1)) = some e' := h
      by_cases hj : some j ∈ js
      · exact putH_root r nd'.2 h' r2 (fun j z => hr j (List.mem_cons_of_mem _ z)) j d (by rw [List.length_set]; exact hl) hj he
      · have e1 : j = i := by
          rcases List.mem_cons.mp hm with w | w
          · exact Option.some.inj w
          · exact absurd w hj
        subst e1
        rw [(putH_spec h').2.1 j hj, List.getElem?_set_self hl] at he
        cases he
        exact ⟨a, ha, r1⟩
end
end PV
namespace PV
open PySem PySem.Spec PyProof.Rows L2
section
variable {K : PySem.W.Frag} {G : Amb} {σ : L2.St} {H H' : Hp} {env e' : EnvD} {N : Addr → Prop}
theorem mem_ioR : ∀ {js : List (Option Nat)} {vs : List V} {ds : List D} {a : Addr}, RpH K H N σ js vs ds → a ∈ ioR (js.map Option.isSome) vs → ∃ i, some i ∈ js ∧ σ[i]? = some (some (V.ref a))
  | [], _, _, a, .nil, h => by simp [ioR] at h
  | none :: js, v :: vs, _, a, .val _ r, h => by
    have z : ioR (false :: js.map Option.isSome) (v :: vs) = ioR (js.map Option.isSome) vs := by cases v <;> rfl
    obtain ⟨i, h1, h2⟩ := mem_ioR r (z ▸ h)
    exact ⟨i, List.mem_cons_of_mem _ h1, h2⟩
  | some i :: js, v :: vs, _, a, .hole hv r, h => by
    cases v with
    | ref b =>
      have h' : a ∈ b :: ioR (js.map Option.isSome) vs := h
      rcases List.mem_cons.mp h' with rfl | h'
      · exact ⟨i, List.mem_cons_self, hv⟩
      · obtain ⟨j, h1, h2⟩ := mem_ioR r h'
        exact ⟨j, List.mem_cons_of_mem _ h1, h2⟩
    | non => exact let ⟨j, h1, h2⟩ := mem_ioR r (show a ∈ ioR (js.map Option.isSome) vs from h); ⟨j, List.mem_cons_of_mem _ h1, h2⟩
    | bl _ => exact let ⟨j, h1, h2⟩ := mem_ioR r (show a ∈ ioR (js.map Option.isSome) vs from h); ⟨j, List.mem_cons_of_mem _ h1, h2⟩
    | int _ => exact let ⟨j, h1, h2⟩ := mem_ioR r (show a ∈ ioR (js.map Option.isSome) vs from h); ⟨j, List.mem_cons_of_mem _ h1, h2⟩
    | str _ => exact let ⟨j, h1, h2⟩ := mem_ioR r (show a ∈ ioR (js.map Option.isSome) vs from h); ⟨j, List.mem_cons_of_mem _ h1, h2⟩
    | byt _ => exact let ⟨j, h1, h2⟩ := mem_ioR r (show a ∈ ioR (js.map Option.isSome) vs from h); ⟨j, List.mem_cons_of_mem _ h1, h2⟩
    | flt _ => exact let ⟨j, h1, h2⟩ := mem_ioR r (show a ∈ ioR (js.map Option.isSome) vs from h); ⟨j, List.mem_cons_of_mem _ h1, h2⟩
    | ty _ => exact let ⟨j, h1, h2⟩ := mem_ioR r (show a ∈ ioR (js.map Option.isSome) vs from h); ⟨j, List.mem_cons_of_mem _ h1, h2⟩
theorem fill_own : ∀ {js : List (Option Nat)} {ds ds' : List D}, fillH js ds env = some ds' → ∀ i, some i ∈ js → ∃ d, env[i]? = some (PV.Cell.own d)
  | [], _, _, _, i, hm => by simp at hm
  | none :: js, [], _, h, i, hm => by cases h
  | none :: js, d :: ds, ds', h, i, hm => by
    have h' : (fillH js ds env).map (d :: ·) = some ds' := h
    cases e : fillH js ds env with
    | none => rw [e] at h'; cases h'
    | some z => exact fill_own e i (by simpa using hm)
  | some j :: js, [], _, h, i, hm => by cases h
  | some j :: js, d :: ds, ds', h, i, hm => by
    unfold fillH at h
    cases ec : env[j]? with
    | none => rw [ec] at h; cases h
    | some c =>
      rw [ec] at h
      cases c with
      | emp => cases h
      | shr _ => cases h
      | own d2 =>
        simp only at h
        cases e : fillH js ds env with
        | none => rw [e] at h; cases h
        | some z =>
          rcases List.mem_cons.mp hm with w | w
          · cases w; exact ⟨d2, ec⟩
          · exact fill_own e i w
theorem rpIO_of (S : StR K G σ H env) : ∀ {js : List (Option Nat)} {vs : List V} {ds ds' : List D}, RpH K H (G.R σ env) σ js vs ds → fillH js ds env = some ds' → RpIO K H (G.R σ env) (js.map Option.isSome) vs ds'
  | [], _, _, _, .nil, h => by cases h; exact .nil
  | none :: js, v :: vs, d :: ds, ds', .val h1 r, h => by
    have h' : (fillH js ds env).map (d :: ·) = some ds' := h
    cases e : fillH js ds env with
    | none => rw [e] at h'; cases h'
    | some z =>
      rw [e] at h'; cases h'
      exact .val h1 (rpIO_of S r e)
  | some j :: js, v :: vs, _ :: ds, ds', .hole hv r, h => by
    unfold fillH at h
    cases ec : env[j]? with
    | none => rw [ec] at h; cases h
    | some c =>
      rw [ec] at h
      cases c with
      | emp => cases h
      | shr _ => cases h
      | own d2 =>
        simp only at h
        cases e : fillH js ds env with
        | none => rw [e] at h; cases h
        | some z =>
          rw [e] at h; cases h
          obtain ⟨a, e1, r1, _⟩ := S.own j d2 ec
          rw [hv] at e1; cases e1
          exact .ref r1 (rpIO_of S r e)
theorem ioR_nodup (S : StR K G σ H env) : ∀ {js : List (Option Nat)} {vs : List V} {ds : List D}, RpH K H N σ js vs ds → (js.filterMap id).Nodup → (∀ i, some i ∈ js → ∃ d, env[i]? = some (PV.Cell.own d)) → (ioR (js.map Option.isSome) vs).Nodup
  | [], _, _, .nil, _, _ => by simp [ioR]
  | none :: js, v :: vs, _, .val _ r, nd, ho => by
    have z : ioR (false :: js.map Option.isSome) (v :: vs) = ioR (js.map Option.isSome) vs := by cases v <;> rfl
    show (ioR (false :: js.map Option.isSome) (v :: vs)).Nodup
    rw [z]
    exact ioR_nodup S r (by simpa using nd) fun i z => ho i (List.mem_cons_of_mem _ z)
  | some i :: js, v :: vs, _, .hole hv r, nd, ho => by
    have nd' : i ∉ js.filterMap id ∧ (js.filterMap id).Nodup := by
      have : (i :: js.filterMap id).Nodup := by simpa using nd
      exact List.nodup_cons.mp this
    obtain ⟨d, hd⟩ := ho i List.mem_cons_self
    obtain ⟨a, e1, _⟩ := S.own i d hd
    rw [hv] at e1; cases e1
    show (a :: ioR (js.map Option.isSome) vs).Nodup
    refine List.nodup_cons.mpr ⟨fun hm => ?_, ioR_nodup S r nd'.2 fun i z => ho i (List.mem_cons_of_mem _ z)⟩
    obtain ⟨j, hj, hs⟩ := mem_ioR r hm
    obtain ⟨d2, hd2⟩ := ho j (List.mem_cons_of_mem _ hj)
    have e := S.dis i j d d2 a hd hd2 hv hs
    subst e
    exact nd'.1 (List.mem_filterMap.mpr ⟨some i, hj, rfl⟩)
/-- the state behind a call that has changed what stands at the holes -/
theorem StR.called (S : StR K G σ H env) {js : List (Option Nat)} {vs : List V} {as : List D} {ios : List D} (r : RpH K H (G.R σ env) σ js vs as) (nd : (js.filterMap id).Nodup) (ho : ∀ i, some i ∈ js → ∃ d, env[i]? = some (PV.Cell.own d))
    (kp : Keep (fun a => a ∈ ioR (js.map Option.isSome) vs) H H') (rt : Rts K H' (G.R σ env) (ioR (js.map Option.isSome) vs) ios) (hp : putH js ios env = some e') :
    StR K G σ H' e' ∧ (∀ a, rts σ e' a ↔ rts σ env a) ∧ Keep (rts σ env) H H' := by
  obtain ⟨p1, p2, p3⟩ := putH_spec hp
  have lt : ∀ {i : Nat} {c : PV.Cell}, env[i]? = some c → i < env.length := fun {i c} h => by
    rcases Nat.lt_or_ge i env.length with z | z
    · exact z
    · rw [List.getElem?_eq_none z] at h; cases h
  have lt2 : ∀ {i : Nat} {c : PV.Cell}, e'[i]? = some c → i < env.length := fun {i c} h => by
    rcases Nat.lt_or_ge i env.length with z | z
    · exact z
    · rw [List.getElem?_eq_none (by omega)] at h; cases h
  have ow : ∀ j, (∃ d, e'[j]? = some (PV.Cell.own d)) ↔ ∃ d, env[j]? = some (PV.Cell.own d) := fun j => by
    by_cases hj : some j ∈ js
    · obtain ⟨d, hd⟩ := ho j hj
      exact ⟨fun _ => ⟨d, hd⟩, fun _ => p3 j (lt hd) hj⟩
    · rw [p2 j hj]
  have rr : ∀ a, rts σ e' a ↔ rts σ env a := fun a => by
    constructor
    · rintro ⟨j, d, h1, h2⟩
      obtain ⟨d2, h3⟩ := (ow j).mp ⟨d, h1⟩
      exact ⟨j, d2, h3, h2⟩
    · rintro ⟨j, d, h1, h2⟩
      obtain ⟨d2, h3⟩ := (ow j).mpr ⟨d, h1⟩
      exact ⟨j, d2, h3, h2⟩
  have RR : ∀ a, G.R σ e' a ↔ G.R σ env a := fun a => or_congr Iff.rfl (rr a)
  have sub : ∀ a, a ∈ ioR (js.map Option.isSome) vs → rts σ env a := fun a h => by
    obtain ⟨i, h1, h2⟩ := mem_ioR r h
    obtain ⟨d, hd⟩ := ho i h1
    exact ⟨i, d, hd, h2⟩
  have kO : Keep (rts σ env) H H' := kp.mono sub
  have kR : Keep (G.R σ env) H H' := kO.mono fun _ z => .inr z
  have fw : Fwd K (G.R σ env) (G.R σ e') H H' := .of_keep kR fun b h => (RR b).mp h
  refine ⟨⟨by rw [p1]; exact S.len, ?_, fun i d h => ?_, fun i d h => ?_, fun i j d e a h1 h2 h3 h4 => ?_, fun a z => ⟨kR.there (S.zd a z).1, (S.zd a z).2⟩, fun i hi => ?_⟩, rr, kO⟩
  · refine S.keep.trans kp fun a hx hm => ?_
    obtain ⟨i, h1, h2⟩ := mem_ioR r hm
    obtain ⟨d, hd⟩ := ho i h1
    obtain ⟨b, h3, _, h4, _⟩ := S.own i d hd
    rw [h2] at h3; cases h3
    rcases h4 with h4 | h4
    · obtain ⟨o, z⟩ := hx
      rw [h4] at z; cases z
    · exact h4
  · have hj : some i ∉ js := fun z => by
      obtain ⟨d2, h2⟩ := p3 i (lt2 h) z
      rw [h] at h2; cases h2
    rw [p2 i hj] at h
    obtain ⟨v, h1, h2⟩ := S.shr i d h
    exact ⟨v, h1, h2.fwd fw⟩
  · by_cases hj : some i ∈ js
    · obtain ⟨d0, h0⟩ := ho i hj
      obtain ⟨a0, e0, _, o0⟩ := S.own i d0 h0
      obtain ⟨a, h1, h2⟩ := putH_root r nd hp rt (fun j z => by
        obtain ⟨d, hd⟩ := ho j z
        obtain ⟨a, e1, _⟩ := S.own j d hd
        exact ⟨a, e1⟩) i d (lt2 h) hj h
      rw [h1] at e0; cases e0
      exact ⟨_, h1, h2.same (Same.refl _) fun a z => (RR a).mp z, o0⟩
    · rw [p2 i hj] at h
      obtain ⟨a, h1, h2, h3⟩ := S.own i d h
      refine ⟨a, h1, h2.at fw ?_, h3⟩
      obtain ⟨o, ho1, _⟩ := h2.there
      have nm : a ∉ ioR (js.map Option.isSome) vs := fun hm => by
        obtain ⟨k, k1, k2⟩ := mem_ioR r hm
        obtain ⟨dk, hk⟩ := ho k k1
        have := S.dis i k d dk a h hk h1 k2
        subst this
        exact hj k1
      rw [ho1, kp.at ho1 nm]
  · obtain ⟨d2, g1⟩ := (ow i).mp ⟨d, h1⟩
    obtain ⟨d3, g2⟩ := (ow j).mp ⟨e, h2⟩
    exact S.dis i j d2 d3 a g1 g2 h3 h4
  · obtain ⟨h1, h2⟩ := S.fix i hi
    exact ⟨h1, (ow i).mpr h2⟩
end

section
variable {X : Cx} {G : Amb} {p pa pb pc : Bool} {l la lb fl : Lvl} {e a b c : Expr} {es rest : List Expr} {f fa fb fc : M D} {pos apos p' : Pos} {ta tb : M Bool} {fr : M (List D)} {sf : Bool} {js : List (Option Nat)} {k : Nat} {g : Fn} {x : Str}
/-- what a callee lets out is wished for here -/
def PassW (X : Cx) (G : Amb) (CX : CXT) : Prop := ∀ σ, PassesAt CX X σ (fun c d H' => G.W c d σ H')
theorem passW0 : PassW X G CX0 := fun σ pins H s e s' I h => False.elim h
/-- f(e, ..), nothing handed on to be changed -/
theorem j_call {CX : CXT} {n : Nat} (F : FnI X.prog X.w X.K X.mg X.base CX G.XR x k fl (List.replicate n false) g) (hr : Room k X.A) (hx : PassW X G CX) (hg : Gl X x) (ha : JA X G p true (e :: es) fr) (hdb : (x == ("__debug__" : Str)) = false := by decide)
    (he : starEach (e :: es) X.env = (false, eval e X.env) :: starEach es X.env := by rfl) (hpl : (backTo pos (starEach es X.env)).any (·.1) = false := by rfl) :
    J X G p fl (.Call (.Name x p') (e :: es) [] pos) (cal g fr) := by
  obtain ⟨fa, fd, ps, F1, hm, hk, hb⟩ := F.ex
  refine pe_mono (pe_callSD F1 hr hg hm hk hb .nil hx ha hdb he hpl) fun σ H Q ⟨env, S, q⟩ => ?_
  refine ⟨env, S, (Ok.bind3 (p' := true) (by simp) q).mono fun ds env1 H1 ⟨f1, q1⟩ vs rvs => ?_⟩
  have r : RpAll X.K H1 (G.R σ env1) vs ds := rvs
  by_cases hl : ds.length = n
  · have hv : n = vs.length := hl.symm.trans r.length.symm
    subst hv
    refine ⟨G.R σ env1, ds, f1.st.dom, ?_, ?_, ?_, ?_⟩
    · rw [List.append_nil]; exact RpIO.no r
    · rw [List.append_nil, ioR_no]; exact List.nodup_nil
    · rw [List.append_nil, ioR_no]; exact fun _ z => absurd z (by simp)
    · rw [List.append_nil, ioR_no]
      unfold frM at q1
      cases eg : g ds with
      | no => rw [eg] at q1; exact q1.elim
      | exc x =>
        rw [eg] at q1
        exact fun c dd H' kp hxr => q1 c dd H' (.of_same f1.st kp.empty) hxr
      | ok d ios =>
        rw [eg] at q1
        exact fun v H' kp rv _ => q1 H' (.of_same f1.st kp.empty) v (f1.back rv)
  · have z := F.ar ds (by rw [List.length_replicate]; exact hl)
    unfold frM at q1
    rw [z] at q1
    exact q1.elim
/-- f(w, e, ..): the things at the names are changed -/
theorem j_callH {CX : CXT} (F : FnI X.prog X.w X.K X.mg X.base CX G.XR x k fl (js.map Option.isSome) g) (hr : Room k X.A) (hx : PassW X G CX) (nd : (js.filterMap id).Nodup) (hg : Gl X x) (ha : JH X G p js (e :: es) fr) (hdb : (x == ("__debug__" : Str)) = false := by decide)
    (he : starEach (e :: es) X.env = (false, eval e X.env) :: starEach es X.env := by rfl) (hpl : (backTo pos (starEach es X.env)).any (·.1) = false := by rfl) :
    J X G false fl (.Call (.Name x p') (e :: es) [] pos) (calH g js fr) := by
  obtain ⟨fa, fd, ps, F1, hm, hk, hb⟩ := F.ex
  refine pe_mono (pe_callSD F1 hr hg hm hk hb .nil hx ha hdb he hpl) fun σ H Q ⟨env, S, q⟩ => ?_
  refine ⟨env, S, (Ok.bind3 (p' := false) (by simp) q).mono fun ds env1 H1 ⟨f1, q1⟩ vs r => ?_⟩
  cases ef : fillH js ds env1 with
  | none => rw [ef] at q1; exact q1.elim
  | some ds' =>
    rw [ef] at q1
    simp only at q1
    have ho := fill_own ef
    have S1 := f1.st
    refine ⟨G.R σ env1, ds', S1.dom, ?_, ?_, ?_, ?_⟩
    · rw [List.append_nil]; exact rpIO_of S1 r ef
    · rw [List.append_nil]; exact ioR_nodup S1 r nd ho
    · rw [List.append_nil]
      intro a hm
      obtain ⟨i, h1, h2⟩ := mem_ioR r hm
      obtain ⟨d, hd⟩ := ho i h1
      exact .inr ⟨i, d, hd, h2⟩
    · rw [List.append_nil]
      cases eg : g ds' with
      | no => rw [eg] at q1; exact q1.elim
      | exc x => rw [eg] at q1; exact q1.elim
      | ok d ios =>
        rw [eg] at q1
        simp only at q1 ⊢
        cases ep : putH js ios env1 with
        | none => rw [ep] at q1; exact q1.elim
        | some env2 =>
          rw [ep] at q1
          intro v H' kp rv rt
          obtain ⟨S2, RR, kR⟩ := S1.called r nd ho kp rt ep
          refine q1 H' ⟨S2, nofun, kR, fun a z => (RR a).mp z⟩ v (f1.back ?_)
          have eq : G.R σ env2 = G.R σ env1 := funext fun a => propext (or_congr Iff.rfl (RR a))
          rw [eq]; exact rv
end
end PV
namespace PV
open PySem PySem.Spec PyProof.Rows L2

inductive Out where
  | nx (e : EnvD) | rt (d : D) (e : EnvD) | bk (e : EnvD) | ct (e : EnvD) | exc (x : Ex) (e : EnvD) | no
abbrev Sm := EnvD → Out
def sq (f g : Sm) : Sm := fun e => match f e with
  | .nx e1 => g e1
  | o => o
def nxt : Sm := fun e => .nx e
/-- an expression, then what is done with its value -/
def thenS {α : Type} (m : M α) (k : α → Sm) : Sm := fun e => match m e with
  | .ok d e1 => k d e1
  | .exc x e1 => .exc x e1
  | .no => .no
def drp (m : M D) : Sm := thenS m fun _ e => .nx e
def rtn (m : M D) : Sm := thenS m fun d e => .rt d e
def rtO (i : Nat) : Sm := fun e => match e[i]? with
  | some (.own d) => .rt d e
  | some (.shr d) => .no
  | _ => .no
def ifS (t : M Bool) (f g : Sm) : Sm := thenS t fun b => if b = true then f else g
def setS (i : Nat) (m : M D) : Sm := thenS m fun d e => .nx (e.set i (.shr d))
def ownC : D → PV.Cell
  | .list ds => .own (.list ds)
  | .dict ds => .own (.dict ds)
  | d => .shr d
def setO (i : Nat) (m : M D) : Sm := thenS m fun d e => .nx (e.set i (ownC d))
def wip : List Nat → EnvD → EnvD
  | [], e => e
  | i :: is, e => wip is (e.set i .emp)

structure Stp (K : PySem.W.Frag) (G : Amb) (σ : L2.St) (H : Hp) (env : EnvD) (σ' : L2.St) (H' : Hp) (env' : EnvD) : Prop where
  st : StR K G σ' H' env'
  keepo : Keep (rts σ env) H H'
  subo : ∀ a, rts σ' env' a → rts σ env a ∨ H a = none
theorem Stp.keep {K : PySem.W.Frag} {G : Amb} {σ σ' : L2.St} {H H' : Hp} {env env' : EnvD} (s : Stp K G σ H env σ' H' env') : Keep (G.R σ env) H H' := s.keepo.mono fun _ z => .inr z
theorem Stp.sub {K : PySem.W.Frag} {G : Amb} {σ σ' : L2.St} {H H' : Hp} {env env' : EnvD} (s : Stp K G σ H env σ' H' env') : ∀ a, G.R σ' env' a → G.R σ env a ∨ H a = none := fun a z => by
  rcases z with z | z
  · exact .inl (.inl z)
  · exact (s.subo a z).imp .inr id
def OkS (K : PySem.W.Frag) (G : Amb) (fl : Lvl) (σ : L2.St) (H : Hp) (env : EnvD) (o : Out) (Dn : Ends) : Prop := match o with
  | .nx e => ∀ σ' H', Stp K G σ H env σ' H' e → Dn.nx σ' H'
  | .bk e => ∀ σ' H', Stp K G σ H env σ' H' e → Dn.bk σ' H'
  | .ct e => ∀ σ' H', Stp K G σ H env σ' H' e → Dn.ct σ' H'
  | .rt d e => ∀ σ' H' v, Stp K G σ H env σ' H' e → RpX fl K G.H0 H' G.N v d → Dn.rt v H'
  | .exc x e => ∀ σ' H' c dd, Stp K G σ H env σ' H' e → G.XR x c dd H' → G.W c dd σ' H'
  | .no => False
def tSt (K : PySem.W.Frag) (G : Amb) (fl : Lvl) (f : Sm) : TS := fun Dn σ H => ∃ env, StR K G σ H env ∧ OkS K G fl σ H env (f env) Dn
def JS (X : Cx) (G : Amb) (fl : Lvl) (st : Stmt) (f : Sm) : Prop := PS X st (tSt X.K G fl f)
def JB (X : Cx) (G : Amb) (fl : Lvl) (st : List Stmt) (f : Sm) : Prop := PSs X st (tSt X.K G fl f)

section
variable {K : PySem.W.Frag} {G : Amb} {σ σ' σ1 σ2 : L2.St} {H H' H1 H2 : Hp} {env env' env1 env2 : EnvD} {fl : Lvl}
theorem Stp.refl (S : StR K G σ H env) : Stp K G σ H env σ H env := ⟨S, .refl _ _, fun _ h => .inl h⟩
theorem Stp.trans (a : Stp K G σ H env σ1 H1 env1) (b : Stp K G σ1 H1 env1 σ2 H2 env2) : Stp K G σ H env σ2 H2 env2 where
  st := b.st
  keepo := a.keepo.trans b.keepo fun c h z => (a.subo c z).resolve_right fun w => by obtain ⟨o, h⟩ := h; rw [w] at h; cases h
  subo := fun c h => by
    rcases b.subo c h with z | z
    · exact a.subo c z
    · refine .inr ?_
      cases q : H c with
      | none => rfl
      | some o =>
        obtain ⟨o', w⟩ := a.keep.there ⟨o, q⟩
        rw [z] at w; cases w
theorem Stp.eff {p : Bool} (f : Eff K G p σ H env H1 env1) : Stp K G σ H env σ H1 env1 := ⟨f.st, f.keepo, fun a h => .inl (f.subo a h)⟩
theorem OkS.back {o : Out} {Dn : Ends} (s : Stp K G σ H env σ1 H1 env1) (h : OkS K G fl σ H env o Dn) : OkS K G fl σ1 H1 env1 o Dn := by
  cases o with
  | nx e => exact fun σ' H' t => h σ' H' (s.trans t)
  | bk e => exact fun σ' H' t => h σ' H' (s.trans t)
  | ct e => exact fun σ' H' t => h σ' H' (s.trans t)
  | rt d e => exact fun σ' H' v t => h σ' H' v (s.trans t)
  | exc x e => exact fun σ' H' c dd t => h σ' H' c dd (s.trans t)
  | no => exact h
theorem OkS.thenS {α : Type} {m : M α} {k : α → Sm} {Dn : Ends} (p : Bool) (h : OkS K G fl σ H env (thenS m k env) Dn) :
    Ok K G p σ H env (m env) fun a env1 H1 => Eff K G p σ H env H1 env1 ∧ OkS K G fl σ H1 env1 (k a env1) Dn := by
  unfold PV.thenS at h
  unfold Ok
  cases e : m env with
  | no => rw [e] at h; exact h
  | exc x env1 =>
    rw [e] at h
    exact fun c d H1 f hx => h σ H1 c d (.eff f) hx
  | ok a env1 =>
    rw [e] at h
    exact fun H1 f => ⟨f, OkS.back (.eff f) h⟩

theorem OkS.thenS0 {α : Type} {m : M α} {k : α → Sm} {Dn : Ends} (p : Bool) (h : OkS K G fl σ H env (PV.thenS m k env) Dn) :
    Ok K G p σ H env (m env) fun a env1 H1 => Eff K G p σ H env H1 env1 ∧ OkS K G fl σ H env (k a env1) Dn := by
  unfold PV.thenS at h
  unfold Ok
  cases e : m env with
  | no => rw [e] at h; exact h
  | exc x env1 =>
    rw [e] at h
    exact fun c d H1 f hx => h σ H1 c d (.eff f) hx
  | ok a env1 =>
    rw [e] at h
    exact fun H1 f => ⟨f, h⟩

/-- a slot is stored -/
theorem rts_set {i : Nat} {c : PV.Cell} {v : Option V} {a : Addr} (hl : env.length = σ.length) (h : rts (σ.set i v) (env.set i c) a) : rts σ env a ∨ (v = some (.ref a) ∧ ∃ d, c = .own d) := by
  obtain ⟨j, d, h1, h2⟩ := h
  by_cases hj : i = j
  · subst hj
    by_cases hi : i < env.length
    · rw [List.getElem?_set_self hi] at h1
      rw [List.getElem?_set_self (by omega)] at h2
      cases h1; cases h2
      exact .inr ⟨rfl, d, rfl⟩
    · rw [List.getElem?_eq_none (by rw [List.length_set]; omega)] at h1; cases h1
  · rw [List.getElem?_set_ne hj] at h1 h2
    exact .inl ⟨j, d, h1, h2⟩
theorem lt_of_some {α : Type} {l : List α} {i : Nat} {x : α} (h : l[i]? = some x) : i < l.length := by
  rcases Nat.lt_or_ge i l.length with z | z
  · exact z
  · rw [List.getElem?_eq_none z] at h; cases h
/-- the state with a slot stored anew; f: how what stood is carried over -/
theorem StR.put (S : StR K G σ H env) {i : Nat} {v : Option V} {c : PV.Cell} (hi : i ∉ G.fx) (s : Same H H') (fw : Fwd K (G.R σ env) (G.R (σ.set i v) (env.set i c)) H H')
    (hs : ∀ d, c = .shr d → ∃ u, v = some u ∧ Rp K H' (G.R (σ.set i v) (env.set i c)) u d)
    (ho : ∀ d, c = .own d → ∃ a, v = some (.ref a) ∧ Root K H' (G.R (σ.set i v) (env.set i c)) a d ∧ ¬ G.R σ env a ∧ G.H0 a = none) : StR K G (σ.set i v) H' (env.set i c) := by
  have ne : ∀ {j : Nat} {c' : PV.Cell}, (env.set i c)[j]? = some c' → (i ≠ j ∧ env[j]? = some c' ∧ (σ.set i v)[j]? = σ[j]?) ∨ (i = j ∧ c' = c ∧ (σ.set i v)[j]? = some v) := fun {j c'} h => by
    by_cases hj : i = j
    · subst hj
      have hl := lt_of_some h
      rw [List.length_set] at hl
      rw [List.getElem?_set_self hl] at h
      cases h
      exact .inr ⟨rfl, rfl, List.getElem?_set_self (by rw [← S.len]; exact hl)⟩
    · rw [List.getElem?_set_ne hj] at h
      exact .inl ⟨hj, h, List.getElem?_set_ne hj⟩
  refine ⟨by rw [List.length_set, List.length_set]; exact S.len, S.keep.trans (Keep.of_same (N := G.IO) s) fun _ _ h => h, fun j d h => ?_, fun j d h => ?_, fun j k d e a h1 h2 h3 h4 => ?_, fun a z => let ⟨⟨o, e⟩, n⟩ := S.zd a z; ⟨⟨o, s _ _ e⟩, n⟩, fun j hj => ?_⟩
  · rcases ne h with ⟨hj, h1, h2⟩ | ⟨hj, h1, h2⟩
    · obtain ⟨u, e1, r⟩ := S.shr j d h1
      exact ⟨u, h2.trans e1, r.fwd fw⟩
    · obtain ⟨u, e1, r⟩ := hs d h1.symm
      exact ⟨u, by rw [h2, e1], r⟩
  · rcases ne h with ⟨hj, h1, h2⟩ | ⟨hj, h1, h2⟩
    · obtain ⟨a, e1, r, o⟩ := S.own j d h1
      refine ⟨a, h2.trans e1, r.at fw ?_, o⟩
      obtain ⟨ob, z, _⟩ := r.there
      rw [z, s _ _ z]
    · obtain ⟨a, e1, r, nr, o⟩ := ho d h1.symm
      exact ⟨a, by rw [h2, e1], r, .inl o, fun z => nr (.inl (.inr z))⟩
  · rcases ne h1 with ⟨hj, g1, g2⟩ | ⟨hj, g1, g2⟩
    · rcases ne h2 with ⟨hk, k1, k2⟩ | ⟨hk, k1, k2⟩
      · rw [g2] at h3
        rw [k2] at h4
        exact S.dis j k d e a g1 k1 h3 h4
      · obtain ⟨b, e1, _, nr, _⟩ := ho e k1.symm
        rw [k2, e1] at h4
        cases h4
        rw [g2] at h3
        exact absurd (.inr ⟨j, d, g1, h3⟩) nr
    · rcases ne h2 with ⟨hk, k1, k2⟩ | ⟨hk, k1, k2⟩
      · obtain ⟨b, e1, _, nr, _⟩ := ho d g1.symm
        rw [g2, e1] at h3
        cases h3
        rw [k2] at h4
        exact absurd (.inr ⟨k, e, k1, h4⟩) nr
      · exact hj.symm.trans hk
  · have hj2 : i ≠ j := fun q => hi (q ▸ hj)
    rw [List.getElem?_set_ne hj2, List.getElem?_set_ne hj2]
    exact S.fix j hj
theorem StR.putS (S : StR K G σ H env) {i : Nat} {v : V} {d : D} (hi : i ∉ G.fx) (r : Rp K H (G.R σ env) v d) : StR K G (σ.set i (some v)) H (env.set i (.shr d)) ∧ ∀ a, rts (σ.set i (some v)) (env.set i (.shr d)) a → rts σ env a := by
  have subo : ∀ a, rts (σ.set i (some v)) (env.set i (.shr d)) a → rts σ env a := fun a z => (rts_set S.len z).resolve_right fun w => by obtain ⟨_, _, w⟩ := w; cases w
  have sub := R_of (G := G) subo
  have fw : Fwd K (G.R σ env) (G.R (σ.set i (some v)) (env.set i (.shr d))) H H := .sub_same (Same.refl H) sub
  exact ⟨S.put hi (Same.refl H) fw (fun d' e => by cases e; exact ⟨v, rfl, r.fwd fw⟩) (fun d' e => by cases e), subo⟩
theorem StR.putE (S : StR K G σ H env) {i : Nat} {v : Option V} (hi : i ∉ G.fx) : StR K G (σ.set i v) H (env.set i .emp) ∧ ∀ a, rts (σ.set i v) (env.set i .emp) a → rts σ env a := by
  have subo : ∀ a, rts (σ.set i v) (env.set i .emp) a → rts σ env a := fun a z => (rts_set S.len z).resolve_right fun w => by obtain ⟨_, _, w⟩ := w; cases w
  have sub := R_of (G := G) subo
  have fw : Fwd K (G.R σ env) (G.R (σ.set i v) (env.set i .emp)) H H := .sub_same (Same.refl H) sub
  exact ⟨S.put hi (Same.refl H) fw (fun d' e => by cases e) (fun d' e => by cases e), subo⟩
/-- a slot is forgotten, its value stays -/
theorem StR.drop (S : StR K G σ H env) {i : Nat} (hi : i ∉ G.fx) : StR K G σ H (env.set i .emp) ∧ ∀ a, rts σ (env.set i .emp) a → rts σ env a := by
  by_cases hl : i < σ.length
  · have e : σ.set i σ[i] = σ := by
      apply List.ext_getElem?
      intro j
      by_cases hj : i = j
      · subst hj
        rw [List.getElem?_set_self hl, List.getElem?_eq_getElem hl]
      · rw [List.getElem?_set_ne hj]
    have := S.putE (v := σ[i]) hi
    rw [e] at this
    exact this
  · have e : env.set i .emp = env := List.set_eq_of_length_le (by rw [S.len]; omega)
    rw [e]
    exact ⟨S, fun _ h => h⟩
theorem StR.wips (S : StR K G σ H env) : ∀ {is : List Nat}, (∀ i ∈ is, i ∉ G.fx) → StR K G σ H (wip is env) ∧ ∀ a, rts σ (wip is env) a → rts σ env a := fun {is} => by
  induction is generalizing env with
  | nil => exact fun _ => ⟨S, fun _ h => h⟩
  | cons i is ih =>
    intro h
    obtain ⟨S1, r1⟩ := S.drop (h i List.mem_cons_self)
    obtain ⟨S2, r2⟩ := ih S1 fun j z => h j (List.mem_cons_of_mem _ z)
    exact ⟨S2, fun a z => r1 a (r2 a z)⟩
theorem Stp.wips (S : StR K G σ H env) {is : List Nat} (h : ∀ i ∈ is, i ∉ G.fx) : Stp K G σ H env σ H (wip is env) := ⟨(S.wips h).1, .refl _ _, fun a z => .inl ((S.wips h).2 a z)⟩
/-- a new thing is stored -/
theorem StR.putO (S : StR K G σ H env) {i : Nat} {a : Addr} {d : D} (hi : i ∉ G.fx) (s : Same H H') (hn : H a = none) (r : Root K H' (fun b => G.R σ env b ∨ b = a) a d) :
    StR K G (σ.set i (some (.ref a))) H' (env.set i (.own d)) ∧ ∀ b, rts (σ.set i (some (.ref a))) (env.set i (.own d)) b → rts σ env b ∨ b = a := by
  have subo : ∀ b, rts (σ.set i (some (.ref a))) (env.set i (.own d)) b → rts σ env b ∨ b = a := fun b z => by
    rcases rts_set S.len z with z | ⟨z, _⟩
    · exact .inl z
    · cases z; exact .inr rfl
  have sub : ∀ b, G.R (σ.set i (some (.ref a))) (env.set i (.own d)) b → G.R σ env b ∨ b = a := fun b z => by
    rcases z with z | z
    · exact .inl (.inl z)
    · rcases rts_set S.len z with z | ⟨z, _⟩
      · exact .inl (.inr z)
      · cases z; exact .inr rfl
  have fw : Fwd K (G.R σ env) (G.R (σ.set i (some (.ref a))) (env.set i (.own d))) H H' := ⟨fun b o e _ => s b o e, fun b o e _ => s b o e, fun b z n => by
    rcases sub b z with w | w
    · exact absurd w n
    · rw [w]; exact hn⟩
  refine ⟨S.put hi s fw (fun d' e => by cases e) (fun d' e => ?_), subo⟩
  cases e
  refine ⟨a, rfl, r.same (Same.refl _) sub, fun z => ?_, ?_⟩
  · obtain ⟨o, w⟩ := S.dom a z
    rw [hn] at w; cases w
  · cases q : G.H0 a with
    | none => rfl
    | some o =>
      obtain ⟨o', w⟩ := S.keep.there ⟨o, q⟩
      rw [hn] at w; cases w
end

section
variable {X : Cx} {G : Amb} {p pa pb pc : Bool} {l la lb fl : Lvl} {e a b c : Expr} {es : List Expr} {f fa fb fc : M D} {pos apos p' : Pos} {ta tb : M Bool} {fr : M (List D)} {sf : Bool} {k : Nat} {x : Str} {st : Stmt} {rest : List Stmt} {s1 s2 : Sm}
theorem not_fx {i : Nat} (h : G.fx.contains i = false) : i ∉ G.fx := fun z => by rw [List.contains_iff_mem.mpr z] at h; cases h
theorem jb_nil : JB X G fl [] nxt := pss_mono pss_nil fun Dn σ H ⟨env, S, q⟩ => q σ H (.refl S)
theorem jb_one (h : JS X G fl st s1) : JB X G fl [st] s1 := pss_one h
theorem jb_cons (h : JS X G fl st s1) (h2 : JB X G fl rest s2) : JB X G fl (st :: rest) (sq s1 s2) := pss_mono (pss_cons h h2) fun Dn σ H ⟨env, S, q⟩ => by
  refine ⟨env, S, ?_⟩
  unfold sq at q
  cases e : s1 env with
  | nx e1 =>
    rw [e] at q
    exact fun σ' H' t => ⟨e1, t.st, OkS.back t q⟩
  | rt d e1 => rw [e] at q; exact q
  | bk e1 => rw [e] at q; exact q
  | ct e1 => rw [e] at q; exact q
  | exc x e1 => rw [e] at q; exact q
  | no => rw [e] at q; exact q
theorem js_pass : JS X G fl (.Pass pos) nxt := ps_mono ps_pass fun Dn σ H ⟨env, S, q⟩ => q σ H (.refl S)
theorem js_break : JS X G fl (.Break pos) (fun e => .bk e) := ps_mono ps_break fun Dn σ H ⟨env, S, q⟩ => q σ H (.refl S)
theorem js_continue : JS X G fl (.Continue pos) (fun e => .ct e) := ps_mono ps_continue fun Dn σ H ⟨env, S, q⟩ => q σ H (.refl S)
theorem js_doc {y : Str} {j : Nat} {pos' : Pos} : JS X G fl (.Expr (.Constant (.str y) j pos) pos') nxt := ps_mono ps_doc fun Dn σ H ⟨env, S, q⟩ => q σ H (.refl S)
theorem js_expr (h : J X G p l e fa) (hs : swapsWith e none pos.line X.env = pure false := by rfl) : JS X G fl (.Expr e pos) (drp fa) := ps_mono (ps_expr h hs) fun Dn σ H ⟨env, S, q⟩ => by
  exact ⟨env, S, (OkS.thenS p q).mono fun d env1 H1 ⟨f1, q1⟩ v rv => q1 σ H1 (.refl f1.st)⟩
theorem js_if (hc : JT X G p e ta) {aa bb : List Stmt} (h1 : JB X G fl aa s1) (h2 : JB X G fl bb s2) : JS X G fl (.If e aa bb pos) (ifS ta s1 s2) := ps_mono (ps_if hc h1 h2) fun Dn σ H ⟨env, S, q⟩ => by
  refine ⟨env, S, (OkS.thenS p q).mono fun d env1 H1 ⟨f1, q1⟩ => ?_⟩
  cases d with
  | true =>
    simp only [if_true] at q1 ⊢
    exact ⟨env1, f1.st, q1⟩
  | false =>
    simp only [Bool.false_eq_true, if_false] at q1 ⊢
    exact ⟨env1, f1.st, q1⟩
/-- return e -/
theorem js_ret (h : J X G p l e fa) (hl : (match fl with | .fre => (match l with | .fre => true | _ => false) | .saf => l.safe | .bor => true) = true := by rfl) : JS X G fl (.Return (some e) pos) (rtn fa) := ps_mono (ps_ret h) fun Dn σ H ⟨env, S, q⟩ => by
  refine ⟨env, S, (OkS.thenS p q).mono fun d env1 H1 ⟨f1, q1⟩ v rv => q1 σ H1 v (.refl f1.st) ?_⟩
  have sub : ∀ a, G.N a → G.R σ env1 a := fun a z => .inl (.inl z)
  have dom : ∀ a, G.R σ env1 a → ∃ o, H a = some o := fun a z => S.dom a (f1.sub a z)
  cases fl with
  | bor => exact (RpX.rpC dom rv).same (Same.refl _) sub
  | saf => exact (RpX.rp dom hl rv).fwd (.sub_same (Same.refl _) sub)
  | fre =>
    cases l with
    | bor => cases hl
    | saf => cases hl
    | fre =>
      have n : ∀ a, H a = none → G.H0 a = none := fun a e => by
        cases q : G.H0 a with
        | none => rfl
        | some o =>
          obtain ⟨o', z⟩ := S.keep.there ⟨o, q⟩
          rw [e] at z; cases z
      have rv' : RpF X.K H H1 (G.R σ env1) v d := rv
      have sub2 : ∀ x a, (G.N a ∨ a = x) → (G.R σ env1 a ∨ a = x) := fun x a z => z.imp (sub a) id
      show RpF X.K G.H0 H1 G.N v d
      cases d with
      | list ds =>
        obtain ⟨a, xs, e, h1, h2, r⟩ := rv'
        exact ⟨a, xs, e, n a h1, h2, r.fwd (.sub_same (Same.refl _) (sub2 a))⟩
      | dict ds =>
        obtain ⟨a, xs, e, h1, h2, r⟩ := rv'
        exact ⟨a, xs, e, n a h1, h2, r.fwd (.sub_same (Same.refl _) (sub2 a))⟩
      | none => exact Rp.fwd (.sub_same (Same.refl _) sub) rv'
      | bool _ => exact Rp.fwd (.sub_same (Same.refl _) sub) rv'
      | int _ => exact Rp.fwd (.sub_same (Same.refl _) sub) rv'
      | str _ => exact Rp.fwd (.sub_same (Same.refl _) sub) rv'
      | tuple _ => exact Rp.fwd (.sub_same (Same.refl _) sub) rv'
theorem js_retN : JS X G fl (.Return none pos) (rtn (ret .none)) := ps_mono ps_retN fun Dn σ H ⟨env, S, q⟩ => q σ H .non (.refl S) (by
  cases fl with
  | bor => exact .of .non
  | saf => exact .non
  | fre => exact .non)
/-- return x, a thing of one's own -/
theorem js_retO (i : Nat) {y : Str} (h : PE X (.Name y p') (tVar i)) (hi : G.fx.contains i = false := by rfl) : JS X G fl (.Return (some (.Name y p')) pos) (rtO i) := ps_mono (ps_ret h) fun Dn σ H ⟨env, S, q⟩ => by
  unfold rtO at q
  cases ec : env[i]? with
  | none => rw [ec] at q; exact q.elim
  | some cc =>
    rw [ec] at q
    cases cc with
    | emp => exact q.elim
    | shr d => exact q.elim
    | own d =>
      obtain ⟨a, e1, r, o, _⟩ := S.own i d ec
      refine ⟨.ref a, e1, q σ H _ (.refl S) ?_⟩
      have hr : G.R σ env a := .inr ⟨i, d, ec, e1⟩
      have na : G.H0 a = none := o.resolve_right fun ⟨j, hj, z⟩ => by
        obtain ⟨z1, d3, z2⟩ := S.fix j hj
        rw [z] at z1
        exact not_fx hi (S.dis i j _ _ a ec z2 e1 z1 ▸ hj)
      have nN : ¬ G.N a := fun z => by
        obtain ⟨o, w⟩ := G.nd a z
        rw [na] at w; cases w
      have f : Fwd X.K (G.R σ env) (fun b => G.N b ∨ b = a) H H := .sub_same (Same.refl _) fun b z => by
        rcases z with z | rfl
        · exact .inl (.inl z)
        · exact hr
      have rF : RpF X.K G.H0 H G.N (.ref a) d := by
        cases r with
        | lst h1 h2 => exact ⟨a, _, rfl, na, h1, h2.fwd f⟩
        | dct h1 h2 => exact ⟨a, _, rfl, na, h1, h2.fwd f⟩
      cases fl with
      | fre => exact rF
      | saf => exact rF.rp G.nd
      | bor => exact .of (rF.rp G.nd)
/-- x = e -/
theorem js_set (i : Nat) (hN : X.N.Nodup) (hi : X.N[i]? = some x) (hx : Loc X.env.scope x) (he : J X G p l e fa) (hl : l.safe = true := by rfl) (hf : G.fx.contains i = false := by rfl)
    (hs : swapsWith e (some (.Name x p')) pos.line X.env = pure false := by rfl) (hfn : X.fn x = true ∨ X.env.scope.names.lookup x = some .local := by first | exact .inl rfl | exact .inr rfl | assumption) :
    JS X G fl (.Assign [.Name x p'] e pos) (setS i fa) := ps_mono (ps_set hN hi hx he hs hfn) fun Dn σ H ⟨env, S, q⟩ => by
  refine ⟨env, S, (OkS.thenS p q).mono fun d env1 H1 ⟨f1, q1⟩ v rv => ?_⟩
  obtain ⟨S2, sub⟩ := f1.st.putS (i := i) (v := v) (d := d) (not_fx hf) (RpX.rp (fun a z => S.dom a (f1.sub a z)) hl rv)
  exact q1 _ H1 ⟨S2, .refl _ _, fun a z => .inl (sub a z)⟩
theorem putO_step {σ : L2.St} {H H1 : Hp} {env : EnvD} {i : Nat} {v : V} {d : D} (S : StR X.K G σ H env) (hi : i ∉ G.fx) (s : Same H H1) (r : RpF X.K H H1 (G.R σ env) v d) : Stp X.K G σ H env (σ.set i (some v)) H1 (env.set i (ownC d)) := by
  have plain : ∀ {d : D}, Rp X.K H1 (G.R σ env) v d → Stp X.K G σ H env (σ.set i (some v)) H1 (env.set i (.shr d)) := fun {d} r => by
    obtain ⟨S2, sub⟩ := (S.same s).putS (i := i) hi r
    exact ⟨S2, .of_same s, fun a z => .inl (sub a z)⟩
  cases d with
  | list ds =>
    obtain ⟨a, xs, rfl, h1, h2, r⟩ := r
    obtain ⟨S2, sub⟩ := S.putO (i := i) (d := .list ds) hi s h1 (.lst h2 r)
    exact ⟨S2, .of_same s, fun b z => (sub b z).imp id fun z => by rw [z]; exact h1⟩
  | dict ds =>
    obtain ⟨a, xs, rfl, h1, h2, r⟩ := r
    obtain ⟨S2, sub⟩ := S.putO (i := i) (d := .dict ds) hi s h1 (.dct h2 r)
    exact ⟨S2, .of_same s, fun b z => (sub b z).imp id fun z => by rw [z]; exact h1⟩
  | none => exact plain r
  | bool _ => exact plain r
  | int _ => exact plain r
  | str _ => exact plain r
  | tuple _ => exact plain r
/-- x = a new thing, to be changed in place -/
theorem js_setO (i : Nat) (hN : X.N.Nodup) (hi : X.N[i]? = some x) (hx : Loc X.env.scope x) (he : J X G true .fre e fa) (hf : G.fx.contains i = false := by rfl)
    (hs : swapsWith e (some (.Name x p')) pos.line X.env = pure false := by rfl) (hfn : X.fn x = true ∨ X.env.scope.names.lookup x = some .local := by first | exact .inl rfl | exact .inr rfl | assumption) :
    JS X G fl (.Assign [.Name x p'] e pos) (setO i fa) := ps_mono (ps_set hN hi hx he hs hfn) fun Dn σ H ⟨env, S, q⟩ => by
  refine ⟨env, S, (OkS.thenS0 true q).mono fun d env1 H1 ⟨f1, q1⟩ v rv => ?_⟩
  obtain ⟨e1, s⟩ := f1.pure rfl
  subst e1
  exact q1 _ H1 (putO_step S (not_fx hf) s rv)
end
end PV
namespace PV
open PySem PySem.Spec PyProof.Rows L2

/-! targets -/
inductive Tg where
  | nm (i : Nat) | tp (ts : List Tg)
mutual
def bindT : Tg → D → EnvD → Option EnvD
  | .nm i, d, e => some (e.set i (.shr d))
  | .tp ts, .tuple ds, e => bindTs ts ds e
  | .tp _, _, _ => none
def bindTs : List Tg → List D → EnvD → Option EnvD
  | [], [], e => some e
  | t :: ts, d :: ds, e => match bindT t d e with
    | some e1 => bindTs ts ds e1
    | none => none
  | _, _, _ => none
end
mutual
def slT : Tg → List Nat
  | .nm i => [i]
  | .tp ts => slTs ts
def slTs : List Tg → List Nat
  | [] => []
  | t :: ts => slT t ++ slTs ts
end
def tTg (K : PySem.W.Frag) (G : Amb) (t : Tg) : TG := fun v σ H Q => ∃ env d env', StR K G σ H env ∧ Rp K H (G.R σ env) v d ∧ bindT t d env = some env' ∧
  ∀ σ', StR K G σ' H env' → (∀ a, rts σ' env' a → rts σ env a) → (∀ j, j ∉ slT t → σ'[j]? = σ[j]?) → σ'.length = σ.length → Q σ' H
def tTgs (K : PySem.W.Frag) (G : Amb) (ts : List Tg) : TGs := fun vs σ H Q => ∃ env ds env', StR K G σ H env ∧ RpAll K H (G.R σ env) vs ds ∧ bindTs ts ds env = some env' ∧
  ∀ σ', StR K G σ' H env' → (∀ a, rts σ' env' a → rts σ env a) → (∀ j, j ∉ slTs ts → σ'[j]? = σ[j]?) → σ'.length = σ.length → Q σ' H
def JG (X : Cx) (G : Amb) (tg : Expr) (t : Tg) : Prop := PG X tg (tTg X.K G t)
def JGs (X : Cx) (G : Amb) (es : List Expr) (ts : List Tg) : Prop := PGs X es (tTgs X.K G ts)
theorem pg_mono {X : Cx} {e : Expr} {t t' : TG} (h : PG X e t) (m : ∀ v σ H Q, t' v σ H Q → t v σ H Q) : PG X e t' := ⟨fun pins s σ H v u Q I r q => h.run pins s σ H v u Q I r (m _ _ _ _ q)⟩
theorem pgs_mono {X : Cx} {e : List Expr} {t t' : TGs} (h : PGs X e t) (m : ∀ v σ H Q, t' v σ H Q → t v σ H Q) : PGs X e t' := ⟨fun pins s σ H v u Q I r q => h.run pins s σ H v u Q I r (m _ _ _ _ q)⟩

section
variable {X : Cx} {G : Amb} {p pa pb pc : Bool} {l la lb fl : Lvl} {e a b c tg : Expr} {es : List Expr} {f fa fb fc : M D} {pos apos p' : Pos} {ta tb : M Bool} {fr : M (List D)} {sf : Bool} {k : Nat} {x : Str} {st : Stmt} {rest : List Stmt} {s1 s2 : Sm} {t : Tg} {ts : List Tg}
theorem jg_nm (i : Nat) (hN : X.N.Nodup) (hi : X.N[i]? = some x) (hx : Loc X.env.scope x) (hf : G.fx.contains i = false := by rfl) (hfn : X.fn x = true ∨ X.env.scope.names.lookup x = some .local := by first | exact .inl rfl | exact .inr rfl | assumption) :
    JG X G (.Name x pos) (.nm i) := pg_mono (pg_name hN hi hx hfn) fun v σ H Q ⟨env, d, env', S, r, eb, q⟩ => by
  have e2 : env.set i (.shr d) = env' := Option.some.inj (show some (env.set i (.shr d)) = some env' from eb)
  subst e2
  obtain ⟨S2, sub⟩ := S.putS (i := i) (not_fx hf) r
  refine q _ S2 sub (fun j hj => ?_) (List.length_set ..)
  have hij : i ≠ j := fun z => hj (by rw [z]; exact List.mem_cons_self)
  exact List.getElem?_set_ne hij
theorem jgs_nil : JGs X G [] [] := pgs_mono pgs_nil fun vs σ H Q ⟨env, ds, env', S, r, eb, q⟩ => by
  cases ds with
  | nil =>
    cases r
    have e2 : env = env' := Option.some.inj (show some env = some env' from eb)
    subst e2
    exact ⟨rfl, q σ S (fun _ z => z) (fun _ _ => rfl) rfl⟩
  | cons d ds => exact nomatch (show none = some env' from eb)
theorem jgs_cons (h1 : JG X G e t) (h2 : JGs X G es ts) (hs : (assignEach (e :: es) X.env).map (·.2) = assign e X.env :: (assignEach es X.env).map (·.2) := by rfl) : JGs X G (e :: es) (t :: ts) :=
    pgs_mono (pgs_cons h1 h2 hs) fun vs σ H Q ⟨env, ds, env', S, r, eb, q⟩ => by
  cases ds with
  | nil => exact nomatch (show none = some env' from eb)
  | cons d ds =>
    cases r with
    | cons r1 r2 =>
      rename_i v vr
      have eb' : (match bindT t d env with | some e1 => bindTs ts ds e1 | none => none) = some env' := eb
      cases e1 : bindT t d env with
      | none => rw [e1] at eb'; cases eb'
      | some env1 =>
        rw [e1] at eb'
        refine ⟨_, _, rfl, env, d, env1, S, r1, e1, fun σ1 S1 sub1 k1 l1 => ?_⟩
        refine ⟨env1, ds, env', S1, r2.fwd (.sub_same (Same.refl H) (R_of sub1)), eb', fun σ2 S2 sub2 k2 l2 => ?_⟩
        refine q σ2 S2 (fun a z => sub1 a (sub2 a z)) (fun j hj => ?_) (l2.trans l1)
        have hj' : j ∉ slT t ∧ j ∉ slTs ts := by
          have : j ∉ slT t ++ slTs ts := hj
          exact ⟨fun z => this (List.mem_append_left _ z), fun z => this (List.mem_append_right _ z)⟩
        exact (k2 j hj'.2).trans (k1 j hj'.1)
theorem bindTs_len : ∀ {ts : List Tg} {ds : List D} {e e' : EnvD}, bindTs ts ds e = some e' → ds.length = ts.length
  | [], [], _, _, _ => rfl
  | [], _ :: _, _, _, h => by cases h
  | _ :: _, [], _, _, h => by cases h
  | t :: ts, d :: ds, e, e', h => by
    have h' : (match bindT t d e with | some e1 => bindTs ts ds e1 | none => none) = some e' := h
    cases e1 : bindT t d e with
    | none => rw [e1] at h'; cases h'
    | some env1 => rw [e1] at h'; exact congrArg (· + 1) (bindTs_len h')
theorem jg_tp {n : Nat} {k : Nat} (hc : X.calm = true) (h : JGs X G es ts) (hl : ts.length = n := by rfl) (hn : (assignEach es X.env).length = n := by rfl) (hst : (assignEach es X.env).findIdx? (·.1) = none := by rfl) :
    JG X G (.Tuple es k pos) (.tp ts) := pg_mono (pg_tup hc h hn hst) fun v σ H Q ⟨env, d, env', S, r, eb, q⟩ => by
  cases d with
  | tuple ds =>
    obtain ⟨a, xs, rfl, h1, h2⟩ := (RpC.of r).tuple
    have eb' : bindTs ts ds env = some env' := eb
    refine ⟨a, xs, rfl, h1, ?_, env, ds, env', S, h2, eb', q⟩
    rw [h2.length, bindTs_len eb', hl]
  | _ => exact nomatch (show none = some env' from eb)
/-- target = e -/
def asgS (t : Tg) (m : M D) : Sm := thenS m fun d e => match bindT t d e with
  | some e1 => .nx e1
  | none => .no
theorem js_asg (he : J X G p l e fa) (hg : JG X G tg t) (hl : l.safe = true := by rfl) (hs : swapsWithSole [tg] e pos.line X.env = pure false := by rfl) (hw : swappedStores [tg] e X.env = pure none := by rfl)
    (h1 : (assignEach [tg] X.env).map (·.2) = [assign tg X.env] := by rfl) : JS X G fl (.Assign [tg] e pos) (asgS t fa) := ps_mono (ps_asg he hg hs hw h1) fun Dn σ H ⟨env, S, q⟩ => by
  refine ⟨env, S, (OkS.thenS p q).mono fun d env1 H1 ⟨f1, q1⟩ v rv => ?_⟩
  cases eb : bindT t d env1 with
  | none => rw [eb] at q1; exact q1.elim
  | some env2 =>
    rw [eb] at q1
    exact ⟨env1, d, env2, f1.st, RpX.rp (fun a z => S.dom a (f1.sub a z)) hl rv, eb, fun σ' S' sub _ _ => q1 σ' H1 ⟨S', .refl _ _, fun a z => .inl (sub a z)⟩⟩
end
end PV
namespace PV
open PySem PySem.Spec PyProof.Rows L2

/-! what is walked -/
/-- the heaps that the walk allows -/
def Al (sf : Bool) (R1 : Addr → Prop) (H1 H : Hp) : Prop := if sf = true then Keep R1 H1 H else Same H1 H
structure ItOk (K : PySem.W.Frag) (sf : Bool) (R1 : Addr → Prop) (H1 : Hp) (J : It) (ds : List D) : Prop where
  len : ds.length ≤ sizeLine
  go : ∀ (H : Hp) (i : Nat) (d : D), Al sf R1 H1 H → ds[i]? = some d → J.go i H ∧ ∀ x H', J.yld i H x H' → Same H H' ∧ Rp K H' (fun a => R1 a ∨ H1 a = none) x d
  stop : ∀ H, Al sf R1 H1 H → J.stop ds.length H
def tIt (K : PySem.W.Frag) (G : Amb) (p sf : Bool) (m : M (List D)) : TI := fun σ H R => ∃ env, StR K G σ H env ∧
  Ok K G p σ H env (m env) fun ds env1 H1 => ∀ J, ItOk K sf (G.R σ env1) H1 J ds → R J H1
def JI (X : Cx) (G : Amb) (p sf : Bool) (tg iter : Expr) (m : M (List D)) : Prop := PI X tg iter (tIt X.K G p sf m)
def seqD : D → Option (List D)
  | .list ds => some ds
  | .tuple ds => some ds
  | _ => none
def seqI (m : M D) : M (List D) := bnd m fun d => lft (seqD d)

section
variable {K : PySem.W.Frag} {R1 : Addr → Prop} {H1 H : Hp} {sf : Bool}
theorem Al.fwd (h : Al sf R1 H1 H) : Fwd K R1 (fun a => R1 a ∨ H1 a = none) H1 H := by
  unfold Al at h
  cases sf with
  | true =>
    simp only [if_true] at h
    exact ⟨fun a o e n => h.at e n, fun a o e m => h.tup e m, fun a z n => z.resolve_left n⟩
  | false =>
    simp only [Bool.false_eq_true, if_false] at h
    exact ⟨fun a o e n => h a o e, fun a o e m => h a o e, fun a z n => z.resolve_left n⟩
theorem itOk_tup' {a : Addr} {xs : List V} {ds : List D} (h : SqT K H1 a xs) (r : RpAll K H1 R1 xs ds) (hl : ds.length ≤ sizeLine) : ItOk K sf R1 H1 (Itt K a) ds := by
  have st : ∀ {H}, Al sf R1 H1 H → SqT K H a xs := fun {H} al => sqT_fwd (K := K) (N' := fun a => R1 a ∨ H1 a = none) al.fwd h
  refine ⟨hl, fun H i d al e => ?_, fun H al => ⟨xs, st al, by rw [r.length]; exact Nat.le_refl _⟩⟩
  obtain ⟨v, e1, rv⟩ := r.get e
  refine ⟨⟨xs, v, st al, e1⟩, fun x H' y => ?_⟩
  obtain ⟨rfl, hy⟩ := y
  have e2 : x = v := Option.some.inj ((hy _ (st al)).symm.trans e1)
  subst e2
  exact ⟨Same.refl _, rv.fwd al.fwd⟩
theorem itOk_lst {a : Addr} {xs : List V} {ds : List D} (h : SqL K H1 a xs) (hk : ∀ H, Al sf R1 H1 H → SqL K H a xs) (r : RpAll K H1 R1 xs ds) (hl : ds.length ≤ sizeLine) : ItOk K sf R1 H1 (Itl K a) ds := by
  refine ⟨hl, fun H i d al e => ?_, fun H al => ⟨xs, hk H al, by rw [r.length]; exact Nat.le_refl _⟩⟩
  obtain ⟨v, e1, rv⟩ := r.get e
  refine ⟨⟨xs, v, hk H al, e1⟩, fun x H' y => ?_⟩
  obtain ⟨rfl, hy⟩ := y
  have e2 : x = v := Option.some.inj ((hy _ (hk _ al)).symm.trans e1)
  subst e2
  exact ⟨Same.refl _, rv.fwd al.fwd⟩
theorem list_at {H0 : Hp} {l : Lvl} {v : V} {ds : List D} (dom : ∀ a, R1 a → ∃ o, H0 a = some o) (hl : (l.safe || !sf) = true) (rv : RpX l K H0 H1 R1 v (.list ds)) :
    ∃ a xs, v = .ref a ∧ SqL K H1 a xs ∧ RpAll K H1 R1 xs ds ∧ ∀ H, Al sf R1 H1 H → SqL K H a xs := by
  cases sf with
  | false =>
    obtain ⟨a, xs, e, h1, h2⟩ := (RpX.rpC dom rv).list
    exact ⟨a, xs, e, .inl h1, h2, fun H al => Same.seq (show Same H1 H from al) (.inl h1)⟩
  | true =>
    cases RpX.rp dom (by simpa using hl) rv with
    | lst g1 g2 g3 =>
      exact ⟨_, _, rfl, .inl g1, g3, fun H al => .inl (sqL_fwd (K := K) (N' := R1) (.of_keep (show Keep R1 H1 H from al) fun _ z => z) g1 g2).1⟩
theorem itOk_rng {lo : Int} {n : Nat} (hl : n ≤ sizeLine) : ItOk K sf R1 H1 (Itr lo n) ((List.range n).map fun i => PyData.int (lo + (i : Nat))) := by
  refine ⟨by simpa using hl, fun H i d al e => ?_, fun H al => by simp [Itr]⟩
  have hi : i < n := by
    have := lt_of_some e
    simpa using this
  have e2 : d = PyData.int (lo + (i : Nat)) := by
    rw [List.getElem?_map, List.getElem?_range hi] at e
    exact (Option.some.inj e).symm
  subst e2
  refine ⟨hi, fun x H' y => ?_⟩
  obtain ⟨rfl, rfl⟩ := y
  exact ⟨Same.refl _, .int _⟩
end

section
variable {X : Cx} {G : Amb} {p pa pb pc : Bool} {l la lb fl : Lvl} {e a b c tg iter : Expr} {es : List Expr} {f fa fb fc : M D} {pos apos p' : Pos} {ta tb : M Bool} {fr m : M (List D)} {sf : Bool} {k : Nat} {x : Str} {st : Stmt} {rest : List Stmt} {s1 s2 : Sm} {t : Tg} {ts : List Tg}
theorem iter_list {pn : List (Addr × Obj)} {s : Shared} {σ : L2.St} {H : Hp} {a : Addr} {xs : List V} {R : It → Hp → Prop} (I : Inv X pn σ H s) (h : SqL X.K H a xs) (q : xs.length ≤ sizeLine → R (Itl X.K a) H) :
    wpAny (model X.prog X.w) X.A (pyIter (.ref a)) (PIE X pn σ tg R) X.xe s := by
  obtain ⟨us, rv, pl, hz⟩ := I.list h
  refine wpAny_pyIter_list pl.isList ⟨s.heap.objs.size, [s.heap.objs.size], _, _, H, rfl, ?_, turn_list a _, ?_, fun b hb => ?_, q hz⟩
  · exact I.kept (t' := s.toks) fun b o z => Heap.get?_push_of_some _ z
  · exact ⟨_, Heap.get?_push_size _ rfl, rfl, rfl⟩
  · obtain rfl : b = s.heap.objs.size := by simpa using hb
    exact I.fpOk (Nat.le_refl _) (I.hok.fresh (Nat.le_refl _))
theorem iter_tup {pn : List (Addr × Obj)} {s : Shared} {σ : L2.St} {H : Hp} {a : Addr} {xs : List V} {R : It → Hp → Prop} (I : Inv X pn σ H s) (h : SqT X.K H a xs) (q : xs.length ≤ sizeLine → R (Itt X.K a) H) :
    wpAny (model X.prog X.w) X.A (pyIter (.ref a)) (PIE X pn σ tg R) X.xe s := by
  obtain ⟨us, rv, pl, hz⟩ := I.tuple h
  refine wpAny_pyIter_tuple (show s.heap.IsTuple a us.toArray from pl) ⟨s.heap.objs.size, [s.heap.objs.size], _, _, H, rfl, ?_, turn_tuple a _, ?_, fun b hb => ?_, q hz⟩
  · exact I.kept (t' := s.toks) fun b o z => Heap.get?_push_of_some _ z
  · exact ⟨_, Heap.get?_push_size _ rfl, rfl, rfl⟩
  · obtain rfl : b = s.heap.objs.size := by simpa using hb
    exact I.fpOk (Nat.le_refl _) (I.hok.fresh (Nat.le_refl _))
/-- a list or a tuple -/
theorem ji_seq (h : J X G p l iter fa) (hl : (l.safe || !sf) = true := by rfl) : JI X G p sf tg iter (seqI fa) := ⟨fun pn s σ H R I ⟨env, S, q⟩ => by
  have h2 : tM X.K G p l fa σ H fun x H1 => ∃ a, x = V.ref a ∧ ((∃ xs, SqL X.K H1 a xs ∧ (xs.length ≤ sizeLine → R (Itl X.K a) H1)) ∨ ∃ xs, SqT X.K H1 a xs ∧ (xs.length ≤ sizeLine → R (Itt X.K a) H1)) := by
    refine ⟨env, S, (Ok.bind3 (p' := true) (by simp) q).mono fun d env1 H1 ⟨f1, q1⟩ v rv => ?_⟩
    have dom : ∀ a, G.R σ env1 a → ∃ o, H a = some o := fun a z => S.dom a (f1.sub a z)
    cases d with
    | list ds =>
      obtain ⟨a, xs, rfl, h1, h3, h4⟩ := list_at (sf := sf) dom hl rv
      have q2 := q1 H1 (.refl f1.st)
      exact ⟨a, rfl, .inl ⟨xs, h1, fun hz => q2 _ (itOk_lst h1 h4 h3 (by rw [← h3.length]; exact hz))⟩⟩
    | tuple ds =>
      obtain ⟨a, xs, rfl, h1, h3⟩ := (RpX.rpC dom rv).tuple
      have q2 := q1 H1 (.refl f1.st)
      exact ⟨a, rfl, .inr ⟨xs, h1, fun hz => q2 _ (itOk_tup' h1 h3 (by rw [← h3.length]; exact hz))⟩⟩
    | _ => exact q1.elim
  refine thn (h.run pn s σ H _ I h2) fun v s1 ⟨x, H1, I1, r1, a, e, q1⟩ => ?_
  subst e
  cases r1
  rcases q1 with ⟨xs, hx, q1⟩ | ⟨xs, hx, q1⟩
  · exact iter_list I1 hx q1
  · exact iter_tup I1 hx q1⟩
def rngD (lo hi : Int) : List D := (List.range (hi - lo).toNat).map fun i => PyData.int (lo + (i : Nat))
def rngOk (lo hi : Int) : Bool := decide (-(2 ^ 62) ≤ lo) && decide (lo < 2 ^ 62) && decide (-(2 ^ 62) ≤ hi) && decide (hi < 2 ^ 62) && decide ((hi - lo).toNat ≤ sizeLine)
theorem rngOk_iff {lo hi : Int} (h : rngOk lo hi = true) : -(2 ^ 62) ≤ lo ∧ lo < 2 ^ 62 ∧ -(2 ^ 62) ≤ hi ∧ hi < 2 ^ 62 ∧ (hi - lo).toNat ≤ sizeLine := by
  unfold rngOk at h
  simp only [Bool.and_eq_true, decide_eq_true_eq] at h
  exact ⟨h.1.1.1.1, h.1.1.1.2, h.1.1.2, h.1.2, h.2⟩
def rngA1 : List D → Option (List D)
  | [.int j] => if rngOk 0 j = true then some (rngD 0 j) else none
  | _ => none
def rngA2 : List D → Option (List D)
  | [.int i, .int j] => if rngOk i j = true then some (rngD i j) else none
  | _ => none
def rngI1 (m : M (List D)) : M (List D) := bnd m fun ds => lft (rngA1 ds)
def rngI2 (m : M (List D)) : M (List D) := bnd m fun ds => lft (rngA2 ds)
theorem ji_range1 (hg : Gl X "range") (hm : X.mg "range" = none) (ha : JA X G p true [a] fr) (hs : starEach [a] X.env = [(false, eval a X.env)] := by rfl) : JI X G p sf tg (.Call (.Name "range" p') [a] [] pos) (rngI1 fr) :=
  ⟨fun pn s σ H R I ⟨env, S, q⟩ => (pi_range1 hg hm ha hs).run pn s σ H R I (by
    refine ⟨env, S, (Ok.bind3 (p' := true) (by simp) q).mono fun ds env1 H1 ⟨f1, q1⟩ vs rvs => ?_⟩
    have r : RpAll X.K H1 (G.R σ env1) vs ds := rvs
    obtain ⟨is, e, q2⟩ := q1.lft f1.st
    match ds, e with
    | [.int j], e =>
      have e' : (if rngOk 0 j = true then some (rngD 0 j) else none) = some is := e
      by_cases z : rngOk 0 j = true
      · rw [if_pos z] at e'
        cases e'
        obtain ⟨z1, z2, z3, z4, z5⟩ := rngOk_iff z
        cases r with
        | cons r1 r2 =>
          cases r2
          rw [(RpC.of r1).int]
          refine ⟨j, rfl, z3, z4, q2 H1 (Same.refl _) _ ?_⟩
          have e0 : j - 0 = j := by omega
          unfold rngD
          rw [e0] at z5 ⊢
          exact itOk_rng z5
      · rw [if_neg z] at e'; cases e')⟩
theorem ji_range2 (hg : Gl X "range") (hm : X.mg "range" = none) (ha : JA X G p true [a, b] fr) (hs : starEach [a, b] X.env = [(false, eval a X.env), (false, eval b X.env)] := by rfl) (hs2 : starEach [b] X.env = [(false, eval b X.env)] := by rfl) :
    JI X G p sf tg (.Call (.Name "range" p') [a, b] [] pos) (rngI2 fr) :=
  ⟨fun pn s σ H R I ⟨env, S, q⟩ => (pi_range2 hg hm ha hs hs2).run pn s σ H R I (by
    refine ⟨env, S, (Ok.bind3 (p' := true) (by simp) q).mono fun ds env1 H1 ⟨f1, q1⟩ vs rvs => ?_⟩
    have r : RpAll X.K H1 (G.R σ env1) vs ds := rvs
    obtain ⟨is, e, q2⟩ := q1.lft f1.st
    match ds, e with
    | [.int i, .int j], e =>
      have e' : (if rngOk i j = true then some (rngD i j) else none) = some is := e
      by_cases z : rngOk i j = true
      · rw [if_pos z] at e'
        cases e'
        obtain ⟨z1, z2, z3, z4, z5⟩ := rngOk_iff z
        cases r with
        | cons r1 r2 =>
          cases r2 with
          | cons r2 r3 =>
            cases r3
            rw [(RpC.of r1).int, (RpC.of r2).int]
            exact ⟨i, j, rfl, ⟨z1, z2, z3, z4⟩, q2 H1 (Same.refl _) _ (itOk_rng z5)⟩
      · rw [if_neg z] at e'; cases e')⟩

/-! for, while -/
def frL (t : Tg) (dead : List Nat) (body : Sm) : List D → Sm
  | [], e => .nx (wip dead e)
  | d :: ds, e => match bindT t d (wip dead e) with
    | none => .no
    | some e1 => match body e1 with
      | .nx e2 => frL t dead body ds e2
      | .ct e2 => frL t dead body ds e2
      | .bk e2 => .nx (wip dead e2)
      | .rt d e2 => .rt d e2
      | .exc x e2 => .exc x e2
      | .no => .no
def frS (t : Tg) (dead : List Nat) (m : M (List D)) (body : Sm) : Sm := thenS m fun ds => frL t dead body ds
def okFx (G : Amb) (is : List Nat) : Bool := is.all fun i => !G.fx.contains i
theorem okFx_iff {is : List Nat} (h : okFx G is = true) : ∀ i ∈ is, i ∉ G.fx := fun i hi => not_fx (by
  have := List.all_eq_true.mp h i hi
  simpa using this)
theorem Stp.of_same {K : PySem.W.Frag} {σ : L2.St} {H H' : Hp} {env : EnvD} (S : StR K G σ H env) (s : Same H H') : Stp K G σ H env σ H' env := ⟨S.same s, .of_same s, fun _ z => .inl z⟩
theorem js_for {tb : Sm} {body : List Stmt} {dead : List Nat} (hp : PassesOwn (model X.prog X.w) X.A X.env X.xe) (hc : X.calm = true) (hi : JI X G p true tg iter m) (hg : JG X G tg t) (hb : JB X G fl body tb) (hd : okFx G dead = true := by rfl)
    (hs : ∀ x, foldedSetIterable iter X.env x = pure x := by intro _; rfl) : JS X G fl (.For tg iter body [] pos) (frS t dead m tb) := ps_mono (ps_for hp hc hi hg hb hs) fun Dn σ H ⟨env, S, q⟩ => by
  have hdx := okFx_iff hd
  refine ⟨env, S, (OkS.thenS p q).mono fun ds env1 H1 ⟨f1, q1⟩ J it => ?_⟩
  refine ⟨fun i m σ' H' => i + m = ds.length ∧ ∃ e', Stp X.K G σ H1 env1 σ' H' e' ∧ OkS X.K G fl σ H1 env1 (frL t dead tb (ds.drop i) e') Dn, ⟨ds.length, by omega, env1, .refl f1.st, by simpa using q1⟩, fun i m σ' H' hW => ?_⟩
  obtain ⟨em, e', st, qn⟩ := hW
  have al : Al true (G.R σ env1) H1 H' := st.keep
  have sw := Stp.wips st.st (is := dead) hdx
  by_cases hlt : i < ds.length
  · right
    have ed : ds[i]? = some ds[i] := List.getElem?_eq_getElem hlt
    obtain ⟨g1, g2⟩ := it.go H' i _ al ed
    rw [List.drop_eq_getElem_cons hlt] at qn
    unfold frL at qn
    cases eb : bindT t ds[i] (wip dead e') with
    | none => rw [eb] at qn; exact qn.elim
    | some e1 =>
      rw [eb] at qn
      simp only at qn
      refine ⟨g1, fun σ2 H2 => ∃ e2, Stp X.K G σ H1 env1 σ2 H2 e2 ∧ OkS X.K G fl σ H1 env1 (frL t dead tb (ds.drop (i + 1)) e2) Dn, fun σ2 H2 ⟨e2, h1, h2⟩ => ⟨m - 1, by omega, by omega, e2, h1, h2⟩, fun x H2 hy => ?_⟩
      obtain ⟨s2, r2⟩ := g2 x H2 hy
      have S2 : StR X.K G σ' H2 (wip dead e') := sw.st.same s2
      have t2 : Stp X.K G σ H1 env1 σ' H2 (wip dead e') := (st.trans sw).trans (.of_same sw.st s2)
      refine ⟨wip dead e', ds[i], e1, S2, r2.fwd (.sub_same (Same.refl _) t2.sub), eb, fun σ3 S3 sub3 _ _ => ⟨e1, S3, ?_⟩⟩
      have t3 : Stp X.K G σ H1 env1 σ3 H2 e1 := t2.trans ⟨S3, .refl _ _, fun a z => .inl (sub3 a z)⟩
      cases eo : tb e1 with
      | nx e2 =>
        rw [eo] at qn
        exact fun σ4 H4 t4 => ⟨e2, t3.trans t4, qn⟩
      | ct e2 =>
        rw [eo] at qn
        exact fun σ4 H4 t4 => ⟨e2, t3.trans t4, qn⟩
      | bk e2 =>
        rw [eo] at qn
        exact fun σ4 H4 t4 => qn σ4 H4 ((t3.trans t4).trans (.wips t4.st hdx))
      | rt d e2 =>
        rw [eo] at qn
        exact fun σ4 H4 v t4 r4 => qn σ4 H4 v (t3.trans t4) r4
      | exc y e2 =>
        rw [eo] at qn
        exact fun σ4 H4 c dd t4 r4 => qn σ4 H4 c dd (t3.trans t4) r4
      | no => rw [eo] at qn; exact qn.elim
  · left
    have ei : i = ds.length := by omega
    subst ei
    refine ⟨it.stop H' al, ?_⟩
    rw [List.drop_length] at qn
    exact qn σ' H' (st.trans sw)

def whL (t : M Bool) (dead : List Nat) (body : Sm) : Nat → Sm
  | 0, _ => .no
  | n + 1, e => match t (wip dead e) with
    | .no => .no
    | .exc x e1 => .exc x e1
    | .ok b e1 => if b = true then (match body e1 with
      | .nx e2 => whL t dead body n e2
      | .ct e2 => whL t dead body n e2
      | .bk e2 => .nx (wip dead e2)
      | .rt d e2 => .rt d e2
      | .exc x e2 => .exc x e2
      | .no => .no) else .nx e1
theorem js_while {tb : Sm} {body : List Stmt} {dead : List Nat} (n : Nat) (hp : PassesOwn (model X.prog X.w) X.A X.env X.xe) (hc : JT X G p e ta) (hb : JB X G fl body tb) (hd : okFx G dead = true := by rfl) :
    JS X G fl (.While e body [] pos) (whL ta dead tb n) := ps_mono (ps_while hp hc hb) fun Dn σ H ⟨env, S, q⟩ => by
  have hdx := okFx_iff hd
  refine ⟨fun m σ' H' => ∃ e', Stp X.K G σ H env σ' H' e' ∧ OkS X.K G fl σ H env (whL ta dead tb m e') Dn, ⟨n, env, .refl S, q⟩, fun m σ' H' ⟨e', st, qn⟩ => ?_⟩
  have sw := Stp.wips st.st (is := dead) hdx
  cases m with
  | zero => exact qn.elim
  | succ m =>
    unfold whL at qn
    refine ⟨wip dead e', sw.st, ?_⟩
    cases et : ta (wip dead e') with
    | no => rw [et] at qn; exact qn.elim
    | exc x e1 =>
      rw [et] at qn
      exact fun c d H2 f2 hx => qn σ' H2 c d ((st.trans sw).trans (.eff f2)) hx
    | ok b e1 =>
      rw [et] at qn
      simp only at qn
      intro H2 f2
      have t2 := (st.trans sw).trans (.eff f2)
      cases b with
      | false =>
        simp only [Bool.false_eq_true, if_false] at qn ⊢
        exact qn σ' H2 t2
      | true =>
        simp only [if_true] at qn ⊢
        refine ⟨fun σ3 H3 => ∃ e3, Stp X.K G σ H env σ3 H3 e3 ∧ OkS X.K G fl σ H env (whL ta dead tb m e3) Dn, fun σ3 H3 h => ⟨m, Nat.lt_succ_self m, h⟩, e1, f2.st, ?_⟩
        cases eo : tb e1 with
        | nx e2 =>
          rw [eo] at qn
          exact fun σ4 H4 t4 => ⟨e2, t2.trans t4, qn⟩
        | ct e2 =>
          rw [eo] at qn
          exact fun σ4 H4 t4 => ⟨e2, t2.trans t4, qn⟩
        | bk e2 =>
          rw [eo] at qn
          exact fun σ4 H4 t4 => qn σ4 H4 ((t2.trans t4).trans (.wips t4.st hdx))
        | rt d e2 =>
          rw [eo] at qn
          exact fun σ4 H4 v t4 r4 => qn σ4 H4 v (t2.trans t4) r4
        | exc y e2 =>
          rw [eo] at qn
          exact fun σ4 H4 c dd t4 r4 => qn σ4 H4 c dd (t2.trans t4) r4
        | no => rw [eo] at qn; exact qn.elim
end
end PV
namespace PV
open PySem PySem.Spec PyProof.Rows L2

/-! comprehensions -/
def lcL (t : Tg) (vs : List Nat) (tt : M Bool) (te : M D) : List D → List D → EnvD → Res (List D)
  | [], acc, e => .ok acc e
  | d :: ds, acc, e => match bindT t d e with
    | none => .no
    | some e1 => match tt e1 with
      | .ok b e2 => if b = true then (match te e2 with
          | .ok y e3 => lcL t vs tt te ds (acc ++ [y]) (wip vs e3)
          | _ => .no) else lcL t vs tt te ds acc (wip vs e2)
      | _ => .no
def noOwn (vs : List Nat) (e : EnvD) : Bool := vs.all fun i => match e[i]? with
  | some (.own _) => false
  | _ => true
def rst : List Nat → EnvD → EnvD → EnvD
  | [], _, e' => e'
  | i :: is, e, e' => rst is e (match e[i]? with
    | some c => e'.set i c
    | none => e')
def lcE (t : Tg) (vs : List Nat) (tt : M Bool) (te : M D) (m : M (List D)) : M D := bnd m fun ds => fun e => if noOwn vs e = true then (match lcL t vs tt te ds [] (wip vs e) with
  | .ok acc e' => .ok (.list acc) (rst vs e e')
  | _ => .no) else .no
def yesT : M Bool := ret true
/-- the context within, where D is the list that grows -/
def Amb.blk (G : Amb) (a : Addr) : Amb := { G with Z := fun b => G.Z b ∨ b = a, W := fun _ _ _ _ => False }

section
variable {K : PySem.W.Frag} {G : Amb} {σ σ' σ1 σ2 : L2.St} {H H' H1 H2 : Hp} {env env' env1 env2 : EnvD} {fl : Lvl} {a : Addr}
theorem R_blk (b : Addr) : (G.blk a).R σ env b ↔ (G.R σ env b ∨ b = a) := by
  unfold Amb.R Amb.blk
  constructor
  · rintro ((h | h | h) | h)
    · exact .inl (.inl (.inl h))
    · exact .inl (.inl (.inr h))
    · exact .inr h
    · exact .inl (.inr h)
  · rintro (((h | h) | h) | h)
    · exact .inl (.inl h)
    · exact .inl (.inr (.inl h))
    · exact .inr h
    · exact .inl (.inr (.inr h))
theorem wipe_mono {is : List Nat} {i : Nat} {v : V} (h : (wipe σ is)[i]? = some (some v)) : σ[i]? = some (some v) := (wipe_some h).1
theorem wipe_get {i : Nat} : ∀ {is : List Nat}, i ∉ is → (wipe σ is)[i]? = σ[i]?
  | [], _ => rfl
  | j :: is, h => by
    have hj : j ≠ i := fun z => h (by rw [z]; exact List.mem_cons_self)
    show ((wipe σ is).set j none)[i]? = σ[i]?
    rw [List.getElem?_set_ne hj]
    exact wipe_get fun z => h (List.mem_cons_of_mem _ z)
theorem wip_get {i : Nat} {c : PV.Cell} : ∀ {is : List Nat} {e : EnvD}, (wip is e)[i]? = some c → (i ∉ is ∧ e[i]? = some c) ∨ c = .emp
  | [], e, h => .inl ⟨by simp, h⟩
  | j :: is, e, h => by
    have h' : (wip is (e.set j .emp))[i]? = some c := h
    rcases wip_get h' with ⟨h1, h2⟩ | h1
    · by_cases hj : j = i
      · subst hj
        have hl := lt_of_some h2
        rw [List.length_set] at hl
        rw [List.getElem?_set_self hl] at h2
        cases h2
        exact .inr rfl
      · rw [List.getElem?_set_ne hj] at h2
        refine .inl ⟨fun z => ?_, h2⟩
        rcases List.mem_cons.mp z with w | w
        · exact hj w.symm
        · exact h1 w
    · exact .inr h1
theorem wip_length : ∀ {is : List Nat} {e : EnvD}, (wip is e).length = e.length
  | [], _ => rfl
  | j :: is, e => by
    show (wip is (e.set j .emp)).length = e.length
    rw [wip_length, List.length_set]
/-- into the block -/
theorem StR.toBlk (S : StR K G σ H env) {is : List Nat} (hi : ∀ i ∈ is, i ∉ G.fx) (hn : H a = none) : StR K (G.blk a) (wipe σ is) (upd H a (.lst [])) (wip is env) := by
  have s : Same H (upd H a (.lst [])) := same_new hn
  obtain ⟨S1, sub⟩ := S.wips hi
  have rr : ∀ {b}, rts (wipe σ is) (wip is env) b → rts σ (wip is env) b := fun {b} ⟨j, d, h1, h2⟩ => ⟨j, d, h1, wipe_mono h2⟩
  have sub2 : ∀ b, (G.blk a).R (wipe σ is) (wip is env) b → G.R σ (wip is env) b ∨ b = a := fun b z => by
    rcases (R_blk b).mp z with (z | z) | z
    · exact .inl (.inl z)
    · exact .inl (.inr (rr z))
    · exact .inr z
  have fw : Fwd K (G.R σ (wip is env)) ((G.blk a).R (wipe σ is) (wip is env)) H (upd H a (.lst [])) := ⟨fun b o e _ => s b o e, fun b o e _ => s b o e, fun b z n => by
    rcases sub2 b z with w | w
    · exact absurd w n
    · rw [w]; exact hn⟩
  have at_ : ∀ {j : Nat} {c : PV.Cell}, (wip is env)[j]? = some c → c ≠ .emp → (wipe σ is)[j]? = σ[j]? := fun {j c} h hc => by
    rcases wip_get h with ⟨h1, _⟩ | h1
    · exact wipe_get h1
    · exact absurd h1 hc
  refine ⟨by rw [wipe_length]; exact S1.len, S1.keep.trans (Keep.of_same (N := G.IO) s) fun _ _ h => h, fun j d h => ?_, fun j d h => ?_, fun j k d e b h1 h2 h3 h4 => S1.dis j k d e b h1 h2 (wipe_mono h3) (wipe_mono h4), fun b z => ?_, fun j hj => ?_⟩
  · obtain ⟨v, e1, r⟩ := S1.shr j d h
    exact ⟨v, (at_ h (by intro z; cases z)).trans e1, r.fwd fw⟩
  · obtain ⟨b, e1, r, o, nz⟩ := S1.own j d h
    obtain ⟨ob, hob, _⟩ := r.there
    have nb : b ≠ a := ne_of_none hob hn
    refine ⟨b, (at_ h (by intro z; cases z)).trans e1, r.at fw (upd_ne nb), o, fun z => ?_⟩
    rcases z with z | z
    · exact nz z
    · exact nb z
  · rcases z with z | z
    · obtain ⟨⟨o, e⟩, n⟩ := S1.zd b z
      exact ⟨⟨o, s _ _ e⟩, n⟩
    · rw [z]
      refine ⟨⟨_, upd_same⟩, ?_⟩
      show G.H0 a = none
      cases q : G.H0 a with
      | none => rfl
      | some o =>
        obtain ⟨o', w⟩ := S.keep.there ⟨o, q⟩
        rw [hn] at w; cases w
  · obtain ⟨h1, d, h2⟩ := S1.fix j hj
    exact ⟨(at_ h2 (by intro z; cases z)).trans h1, d, h2⟩
/-- out of the block -/
theorem StR.ofBlk {is : List Nat} (S : StR K (G.blk a) (wipe σ is) H env) (hl : env.length = σ.length) : StR K G σ H env ∧ ∀ b, rts σ env b ↔ rts (wipe σ is) env b := by
  have rr : ∀ {b}, rts σ env b → rts (wipe σ is) env b := fun {b} ⟨j, d, h1, h2⟩ => by
    obtain ⟨c, e1, _⟩ := S.own j d h1
    have e2 := wipe_mono e1
    rw [h2] at e2
    cases e2
    exact ⟨j, d, h1, e1⟩
  have rr2 : ∀ {b}, rts (wipe σ is) env b → rts σ env b := fun {b} ⟨j, d, h1, h2⟩ => ⟨j, d, h1, wipe_mono h2⟩
  have fw : Fwd K ((G.blk a).R (wipe σ is) env) (G.R σ env) H H := .sub_same (Same.refl H) fun b z => (R_blk b).mpr (.inl (z.imp id rr))
  refine ⟨⟨hl, S.keep, fun j d h => ?_, fun j d h => ?_, fun j k d e b h1 h2 h3 h4 => ?_, fun b z => S.zd b (.inl z), fun j hj => ?_⟩, fun b => ⟨rr, rr2⟩⟩
  · obtain ⟨v, e1, r⟩ := S.shr j d h
    exact ⟨v, wipe_mono e1, r.fwd fw⟩
  · obtain ⟨b, e1, r, o, nz⟩ := S.own j d h
    exact ⟨b, wipe_mono e1, r.at fw rfl, o, fun z => nz (.inl z)⟩
  · obtain ⟨b1, e1, _⟩ := S.own j d h1
    obtain ⟨b2, e2, _⟩ := S.own k e h2
    have q1 := wipe_mono e1
    have q2 := wipe_mono e2
    rw [h3] at q1; cases q1
    rw [h4] at q2; cases q2
    exact S.dis j k d e _ h1 h2 e1 e2
  · obtain ⟨h1, h2⟩ := S.fix j hj
    exact ⟨wipe_mono h1, h2⟩
end
theorem wipe_eq {σ σ2 : L2.St} {is : List Nat} (hl : σ2.length = σ.length) (h : ∀ j, j ∉ is → σ2[j]? = σ[j]?) : wipe σ2 is = wipe σ is := by
  apply List.ext_getElem?
  intro j
  by_cases hj : j ∈ is
  · have key : ∀ (τ : L2.St) (is : List Nat), j ∈ is → (wipe τ is)[j]? = if j < τ.length then some none else none := by
      intro τ is
      induction is with
      | nil => intro z; simp at z
      | cons i is ih =>
        intro z
        show ((wipe τ is).set i none)[j]? = _
        by_cases hij : i = j
        · subst hij
          by_cases hlt : i < τ.length
          · rw [List.getElem?_set_self (by rw [wipe_length]; exact hlt), if_pos hlt]
          · rw [List.getElem?_eq_none (by rw [List.length_set, wipe_length]; omega), if_neg hlt]
        · rw [List.getElem?_set_ne hij]
          exact ih ((List.mem_cons.mp z).resolve_left fun w => hij w.symm)
    rw [key σ2 is hj, key σ is hj, hl]
  · rw [wipe_get hj, wipe_get hj, h j hj]
section
variable {K : PySem.W.Frag} {G : Amb} {σ σ' σ1 σ2 : L2.St} {H H' H1 H2 : Hp} {env env' env1 env2 : EnvD} {fl : Lvl} {a : Addr}
theorem rst_length : ∀ {is : List Nat} {e e' : EnvD}, (rst is e e').length = e'.length
  | [], _, _ => rfl
  | i :: is, e, e' => by
    unfold rst
    rw [rst_length]
    cases e[i]? with
    | none => rfl
    | some c => exact List.length_set ..
theorem rst_get {j : Nat} : ∀ {is : List Nat} {e e' : EnvD}, e'.length = e.length → (rst is e e')[j]? = if j ∈ is then e[j]? else e'[j]?
  | [], e, e', _ => by simp [rst]
  | i :: is, e, e', hl => by
    unfold rst
    have hl2 : (match e[i]? with | some c => e'.set i c | none => e').length = e.length := by
      cases e[i]? with
      | none => exact hl
      | some c => rw [List.length_set]; exact hl
    rw [rst_get hl2]
    by_cases hm : j ∈ is
    · rw [if_pos hm, if_pos (List.mem_cons_of_mem _ hm)]
    · rw [if_neg hm]
      by_cases hj : j = i
      · subst hj
        rw [if_pos List.mem_cons_self]
        cases ec : e[j]? with
        | none =>
          simp only
          rw [List.getElem?_eq_none_iff] at ec ⊢
          omega
        | some c =>
          simp only
          have := lt_of_some ec
          rw [List.getElem?_set_self (by omega)]
      · rw [if_neg (by simp [hj, hm])]
        cases ec : e[i]? with
        | none => rfl
        | some c => simp only; rw [List.getElem?_set_ne (Ne.symm hj)]
theorem rst_wip {is : List Nat} {e : EnvD} : rst is e (wip is e) = e := by
  apply List.ext_getElem?
  intro j
  rw [rst_get wip_length]
  by_cases hj : j ∈ is
  · rw [if_pos hj]
  · rw [if_neg hj]
    have key : ∀ (is : List Nat) (e : EnvD), j ∉ is → (wip is e)[j]? = e[j]? := by
      intro is
      induction is with
      | nil => intro e _; rfl
      | cons i is ih =>
        intro e h
        show (wip is (e.set i .emp))[j]? = e[j]?
        rw [ih _ fun z => h (List.mem_cons_of_mem _ z), List.getElem?_set_ne fun z => h (by rw [z]; exact List.mem_cons_self)]
    exact key is e hj
theorem StR.rst (S : StR K G σ H env') {is : List Nat} {e : EnvD} (hl : env'.length = e.length) (hn : noOwn is e = true) (hi : ∀ i ∈ is, i ∉ G.fx)
    (h : ∀ j ∈ is, ∀ d, e[j]? = some (PV.Cell.shr d) → ∃ v, σ[j]? = some (some v) ∧ Rp K H (G.R σ env') v d) : StR K G σ H (PV.rst is e env') ∧ ∀ b, rts σ (PV.rst is e env') b → rts σ env' b := by
  have no : ∀ j ∈ is, ∀ d, e[j]? ≠ some (PV.Cell.own d) := fun j hj d z => by
    have := List.all_eq_true.mp hn j hj
    rw [z] at this
    cases this
  have ow : ∀ {j : Nat} {d : D}, (PV.rst is e env')[j]? = some (PV.Cell.own d) → env'[j]? = some (PV.Cell.own d) := fun {j d} z => by
    rw [rst_get hl] at z
    by_cases hj : j ∈ is
    · rw [if_pos hj] at z; exact absurd z (no j hj d)
    · rw [if_neg hj] at z; exact z
  have sub : ∀ b, rts σ (PV.rst is e env') b → rts σ env' b := fun b ⟨j, d, h1, h2⟩ => ⟨j, d, ow h1, h2⟩
  have fw : Fwd K (G.R σ env') (G.R σ (PV.rst is e env')) H H := .sub_same (Same.refl H) (R_of sub)
  refine ⟨⟨by rw [rst_length]; exact S.len, S.keep, fun j d z => ?_, fun j d z => ?_, fun j k d d2 b h1 h2 h3 h4 => S.dis j k d d2 b (ow h1) (ow h2) h3 h4, S.zd, fun j hj => ?_⟩, sub⟩
  · rw [rst_get hl] at z
    by_cases hj : j ∈ is
    · rw [if_pos hj] at z
      obtain ⟨v, e1, r⟩ := h j hj d z
      exact ⟨v, e1, r.fwd fw⟩
    · rw [if_neg hj] at z
      obtain ⟨v, e1, r⟩ := S.shr j d z
      exact ⟨v, e1, r.fwd fw⟩
  · obtain ⟨b, e1, r, o⟩ := S.own j d (ow z)
    exact ⟨b, e1, r.at fw rfl, o⟩
  · obtain ⟨h1, d, h2⟩ := S.fix j hj
    refine ⟨h1, d, ?_⟩
    rw [rst_get hl, if_neg fun z => hi j z hj]
    exact h2
theorem StR.zNot (S : StR K G σ H env) (z : G.Z a) : ¬ rts σ env a := fun ⟨j, d, h1, h2⟩ => by
  obtain ⟨b, e1, _, _, n⟩ := S.own j d h1
  rw [h2] at e1; cases e1
  exact n z
/-- the slots that are not forgotten stand alike -/
theorem StR.swap {is : List Nat} (S : StR K G σ1 H (wip is env)) (hl : σ1.length = σ2.length) (h : ∀ j, j ∉ is → σ1[j]? = σ2[j]?) : StR K G σ2 H (wip is env) ∧ ∀ b, rts σ2 (wip is env) b ↔ rts σ1 (wip is env) b := by
  have at_ : ∀ {j : Nat} {c : PV.Cell}, (wip is env)[j]? = some c → c ≠ .emp → σ1[j]? = σ2[j]? := fun {j c} z hc => by
    rcases wip_get z with ⟨h1, _⟩ | h1
    · exact h j h1
    · exact absurd h1 hc
  have rr : ∀ b, rts σ2 (wip is env) b ↔ rts σ1 (wip is env) b := fun b => by
    constructor
    · rintro ⟨j, d, h1, h2⟩
      exact ⟨j, d, h1, (at_ h1 (by intro z; cases z)).trans h2⟩
    · rintro ⟨j, d, h1, h2⟩
      exact ⟨j, d, h1, (at_ h1 (by intro z; cases z)).symm.trans h2⟩
  have fw : Fwd K (G.R σ1 (wip is env)) (G.R σ2 (wip is env)) H H := .sub_same (Same.refl H) fun b z => z.imp id (rr b).mp
  refine ⟨⟨S.len.trans hl, S.keep, fun j d z => ?_, fun j d z => ?_, fun j k d d2 b h1 h2 h3 h4 => ?_, S.zd, fun j hj => ?_⟩, rr⟩
  · obtain ⟨v, e1, r⟩ := S.shr j d z
    exact ⟨v, (at_ z (by intro z; cases z)).symm.trans e1, r.fwd fw⟩
  · obtain ⟨b, e1, r, o⟩ := S.own j d z
    exact ⟨b, (at_ z (by intro z; cases z)).symm.trans e1, r.at fw rfl, o⟩
  · exact S.dis j k d d2 b h1 h2 ((at_ h1 (by intro z; cases z)).trans h3) ((at_ h2 (by intro z; cases z)).trans h4)
  · obtain ⟨h1, d, h2⟩ := S.fix j hj
    exact ⟨(at_ h2 (by intro z; cases z)).symm.trans h1, d, h2⟩
/-- the growing list grows -/
theorem fwd_upd {N : Addr → Prop} {xs ys : List V} (hN : N a) (h : H a = some (.lst xs)) : Fwd K N N H (upd H a (.lst ys)) := by
  refine ⟨fun b o e n => ?_, fun b o e n => ?_, fun b z n => absurd z n⟩
  · rw [upd_ne fun z => n (by rw [z]; exact hN)]; exact e
  · rw [upd_ne fun z => ?_]; exact e
    subst z
    rw [h] at e; cases e
    exact n trivial
theorem StR.updZ (S : StR K G σ H env) (z : G.Z a) {xs ys : List V} (h : H a = some (.lst xs)) : StR K G σ (upd H a (.lst ys)) env := by
  have fw : Fwd K (G.R σ env) (G.R σ env) H (upd H a (.lst ys)) := fwd_upd (.inl (.inr z)) h
  refine ⟨S.len, fun b o e => ?_, fun j d w => ?_, fun j d w => ?_, S.dis, fun b w => ?_, S.fix⟩
  · have nb : b ≠ a := fun w => by
      subst w
      rw [(S.zd b z).2] at e; cases e
    rw [upd_ne nb]
    exact S.keep b o e
  · obtain ⟨v, e1, r⟩ := S.shr j d w
    exact ⟨v, e1, r.fwd fw⟩
  · obtain ⟨b, e1, r, o, nz⟩ := S.own j d w
    exact ⟨b, e1, r.at fw (upd_ne fun q => nz (by rw [q]; exact z)), o, nz⟩
  · refine ⟨?_, (S.zd b w).2⟩
    by_cases q : b = a
    · rw [q]; exact ⟨_, upd_same⟩
    · rw [upd_ne q]; exact (S.zd b w).1
end
end PV
namespace PV
open PySem PySem.Spec PyProof.Rows L2

theorem wip_at {j : Nat} : ∀ {is : List Nat} {e : EnvD}, (wip is e)[j]? = if j ∈ is then (if j < e.length then some PV.Cell.emp else none) else e[j]?
  | [], e => by simp [wip]
  | i :: is, e => by
    show (wip is (e.set i .emp))[j]? = _
    rw [wip_at, List.length_set]
    by_cases hm : j ∈ is
    · rw [if_pos hm, if_pos (List.mem_cons_of_mem _ hm)]
    · rw [if_neg hm]
      by_cases hj : j = i
      · subst hj
        rw [if_pos List.mem_cons_self]
        by_cases hl : j < e.length
        · rw [List.getElem?_set_self hl, if_pos hl]
        · rw [List.getElem?_eq_none (by rw [List.length_set]; omega), if_neg hl]
      · rw [if_neg (by simp [hj, hm]), List.getElem?_set_ne (Ne.symm hj)]
theorem wip_eq {is : List Nat} {e e' : EnvD} (hl : e'.length = e.length) (h : ∀ j, j ∉ is → e'[j]? = e[j]?) : wip is e' = wip is e := by
  apply List.ext_getElem?
  intro j
  rw [wip_at, wip_at, hl]
  by_cases hj : j ∈ is
  · rw [if_pos hj, if_pos hj]
  · rw [if_neg hj, if_neg hj, h j hj]
mutual
theorem bindT_keep : ∀ {t : Tg} {d : D} {e e' : EnvD}, bindT t d e = some e' → e'.length = e.length ∧ ∀ j, j ∉ slT t → e'[j]? = e[j]?
  | .nm i, d, e, e', h => by
    have e2 : e.set i (.shr d) = e' := Option.some.inj h
    subst e2
    refine ⟨List.length_set .., fun j hj => List.getElem?_set_ne fun z => hj (by rw [z]; exact List.mem_cons_self)⟩
  | .tp ts, .tuple ds, e, e', h => bindTs_keep (ts := ts) (ds := ds) h
  | .tp _, .none, _, _, h => by cases h
  | .tp _, .bool _, _, _, h => by cases h
  | .tp _, .int _, _, _, h => by cases h
  | .tp _, .str _, _, _, h => by cases h
  | .tp _, .list _, _, _, h => by cases h
  | .tp _, .dict _, _, _, h => by cases h
theorem bindTs_keep : ∀ {ts : List Tg} {ds : List D} {e e' : EnvD}, bindTs ts ds e = some e' → e'.length = e.length ∧ ∀ j, j ∉ slTs ts → e'[j]? = e[j]?
  | [], [], e, e', h => by
    have e2 : e = e' := Option.some.inj h
    subst e2
    exact ⟨rfl, fun _ _ => rfl⟩
  | [], _ :: _, _, _, h => by cases h
  | _ :: _, [], _, _, h => by cases h
  | t :: ts, d :: ds, e, e', h => by
    have h' : (match bindT t d e with | some e1 => bindTs ts ds e1 | none => none) = some e' := h
    cases e1 : bindT t d e with
    | none => rw [e1] at h'; cases h'
    | some e2 =>
      rw [e1] at h'
      obtain ⟨a1, a2⟩ := bindT_keep e1
      obtain ⟨b1, b2⟩ := bindTs_keep h'
      refine ⟨b1.trans a1, fun j hj => ?_⟩
      have hj' : j ∉ slT t ++ slTs ts := hj
      rw [b2 j fun z => hj' (List.mem_append_right _ z), a2 j fun z => hj' (List.mem_append_left _ z)]
end

section
variable {X : Cx} {G : Amb} {p pt pe : Bool} {l le : Lvl} {elt tg iter c : Expr} {fe : M D} {tt : M Bool} {m : M (List D)} {sf : Bool} {t : Tg} {pos : Pos} {ifs : List Expr}
def JPT (X : Cx) (G : Amb) (p : Bool) (ifs : List Expr) (f : M Bool) : Prop := PTs X ifs (tMT X.K G p f)
theorem jpt_nil : JPT X G true [] yesT := ⟨fun pn s σ H Q I h => (pts_nil (X := X)).run pn s σ H Q I (by
  obtain ⟨env, S, q⟩ := h
  exact q.ret S)⟩
theorem jpt_one (h : JT X G p c tt) : JPT X G p [c] tt := pts_one h

/-- what the block's parts are asked, whatever the list's place -/
def gB (K : PySem.W.Frag) (G : Amb) (t : Tg) : TG := fun v σ H Q => ∃ a, tTg K (G.blk a) t v σ H Q
def tB' (K : PySem.W.Frag) (G : Amb) (p : Bool) (tt : M Bool) : TT := fun σ H Q => ∃ a, tMT K (G.blk a) p tt σ H Q
def eB (K : PySem.W.Frag) (G : Amb) (p : Bool) (l : Lvl) (fe : M D) : TE := fun σ H Q => ∃ a, tM K (G.blk a) p l fe σ H Q
theorem lc_red {K : PySem.W.Frag} {vs : List Nat} (hle : le.safe = true) (hsf : (sf || (pt && pe)) = true) (hsl : (slT t).all (fun i => vs.contains i) = true) (hfx : okFx G vs = true) {σ : L2.St} {H : Hp} {Q : VK}
    (h : tM K G (p && (pt && pe)) .fre (lcE t vs tt fe m) σ H Q) : tLc (tIt K G p sf m) (gB K G t) (tB' K G pt tt) (eB K G pe le fe) vs σ H Q := by
  obtain ⟨env, S, q⟩ := h
  have hfx' := okFx_iff hfx
  refine ⟨env, S, (Ok.bind3 (p' := pt && pe) rfl q).mono fun ds env1 H1 ⟨f1, q1⟩ Jt it D0 hD => ?_⟩
  have S1 := f1.st
  by_cases hno : noOwn vs env1 = true
  · rw [if_pos hno] at q1
    cases hL : lcL t vs tt fe ds [] (wip vs env1) with
    | no => rw [hL] at q1; exact q1.elim
    | exc x e => rw [hL] at q1; exact q1.elim
    | ok accF eF =>
      rw [hL] at q1
      simp only at q1
      have S0 := S1.toBlk (a := D0) hfx' hD
      have l1 : env1.length = σ.length := S1.len
      have sub0 : ∀ b, rts (wipe σ vs) (wip vs env1) b → rts σ env1 b := fun b ⟨j, d, h1, h2⟩ => (S1.wips hfx').2 b ⟨j, d, h1, wipe_mono h2⟩
      have ND : ∀ {σ' : L2.St} {H' : Hp} {e' : EnvD}, StR K (G.blk D0) σ' H' e' → ¬ rts σ' e' D0 := fun S' => S'.zNot (.inr rfl)
      refine ⟨fun i mm H' => i + mm = ds.length ∧ ∃ acc accV ei, StR K (G.blk D0) (wipe σ vs) H' ei ∧ Keep (rts σ env1) H1 H' ∧ H' D0 = some (.lst accV) ∧ RpAll K H' ((G.blk D0).R (wipe σ vs) ei) accV acc ∧ acc.length ≤ i ∧
        (∀ b, rts (wipe σ vs) ei b → rts σ env1 b) ∧ ((pt && pe) = true → ei = wip vs env1 ∧ Same H1 H') ∧ lcL t vs tt fe (ds.drop i) acc ei = .ok accF eF,
        ⟨ds.length, by omega, [], [], wip vs env1, S0, .of_same (same_new hD), upd_same, .nil, Nat.zero_le _, sub0, fun _ => ⟨rfl, same_new hD⟩, by simpa using hL⟩, fun i mm H' hW => ?_⟩
      obtain ⟨em, acc, accV, ei, Si, ki, di, ri, li, si, pi, qi⟩ := hW
      have al : Al sf (G.R σ env1) H1 H' := by
        unfold Al
        cases sf with
        | true => simp only [if_true]; exact ki.mono fun _ z => .inr z
        | false =>
          simp only [Bool.false_eq_true, if_false]
          exact (pi (by simpa using hsf)).2
      by_cases hlt : i < ds.length
      · right
        have ed : ds[i]? = some ds[i] := List.getElem?_eq_getElem hlt
        obtain ⟨g1, g2⟩ := it.go H' i _ al ed
        rw [List.drop_eq_getElem_cons hlt] at qi
        unfold lcL at qi
        cases eb : bindT t ds[i] ei with
        | none => rw [eb] at qi; cases qi
        | some e1 =>
          rw [eb] at qi
          simp only at qi
          cases et : tt e1 with
          | no => rw [et] at qi; cases qi
          | exc x e => rw [et] at qi; cases qi
          | ok b e2 =>
            rw [et] at qi
            simp only at qi
            refine ⟨g1, fun H5 => ∃ acc accV ei, StR K (G.blk D0) (wipe σ vs) H5 ei ∧ Keep (rts σ env1) H1 H5 ∧ H5 D0 = some (.lst accV) ∧ RpAll K H5 ((G.blk D0).R (wipe σ vs) ei) accV acc ∧ acc.length ≤ i + 1 ∧
              (∀ b, rts (wipe σ vs) ei b → rts σ env1 b) ∧ ((pt && pe) = true → ei = wip vs env1 ∧ Same H1 H5) ∧ lcL t vs tt fe (ds.drop (i + 1)) acc ei = .ok accF eF,
              fun H5 h5 => ⟨mm - 1, by omega, by omega, h5⟩, fun x H2 hy => ?_⟩
            obtain ⟨s2, r2⟩ := g2 x H2 hy
            have S2 := Si.same s2
            have rx : Rp K H2 ((G.blk D0).R (wipe σ vs) ei) x ds[i] := r2.fwd (.sub_same (Same.refl _) fun b z => by
              rcases R_blk b |>.mp z with z | z
              · exact .inl (z.imp id (si b))
              · rw [z]; exact .inr hD)
            refine ⟨D0, ei, ds[i], e1, S2, rx, eb, fun σ2 S3 sub3 k3 l3 => ?_⟩
            have hin : ∀ j, j ∉ vs → σ2[j]? = (wipe σ vs)[j]? := fun j hj => k3 j fun z => hj (by
              have := List.all_eq_true.mp hsl j z
              exact List.contains_iff_mem.mp this)
            have lw : σ2.length = (wipe σ vs).length := l3
            have lw0 : (wipe σ vs).length = σ.length := wipe_length σ vs
            refine ⟨wipe_eq (by omega) fun j hj => (hin j hj).trans (wipe_get hj), D0, e1, S3, ?_⟩
            have k2 : Keep (rts σ env1) H1 H2 := ki.trans (Keep.of_same (N := rts σ env1) s2) fun _ _ h => h
            have kk : ∀ {e' : EnvD} {H3 : Hp}, Keep (rts σ2 e') H2 H3 → (∀ b, rts σ2 e' b → rts σ env1 b) → Keep (rts σ env1) H1 H3 := fun {e' H3} k h => k2.trans k fun b _ z => h b z
            have sub1 : ∀ b, rts σ2 e1 b → rts σ env1 b := fun b z => si b (sub3 b z)
            rw [et]
            intro H3 f3
            have k3' : Keep (rts σ env1) H1 H3 := kk f3.keepo sub1
            have d3 : H3 D0 = some (.lst accV) := f3.keepo.at (s2 _ _ di) (ND S3)
            have sub2 : ∀ b, rts σ2 e2 b → rts σ env1 b := fun b z => sub1 b (f3.subo b z)
            have fw3 : Fwd K ((G.blk D0).R (wipe σ vs) ei) ((G.blk D0).R σ2 e2) H' H3 := ⟨fun b o e n => f3.keep.at (s2 _ _ e) fun z => n (z.imp id (sub3 b)), fun b o e n => f3.keep.tup (s2 _ _ e) n, fun b z n => absurd (z.imp id fun z => sub3 b (f3.subo b z)) n⟩
            -- the next turn's state
            have nextS : ∀ {e3 : EnvD} {H4 : Hp}, StR K (G.blk D0) σ2 H4 e3 → StR K (G.blk D0) (wipe σ vs) H4 (wip vs e3) ∧ ∀ b, rts (wipe σ vs) (wip vs e3) b → rts σ2 e3 b := fun {e3 H4} S4 => by
              obtain ⟨A, B⟩ := S4.wips (is := vs) hfx'
              obtain ⟨A2, B2⟩ := A.swap lw hin
              exact ⟨A2, fun b z => B b ((B2 b).mp z)⟩
            have pure1 : (pt && pe) = true → wip vs e1 = wip vs env1 := fun hp => by
              have e0 := (pi hp).1
              subst e0
              obtain ⟨b1, b2⟩ := bindT_keep eb
              have h2 : wip vs e1 = wip vs (wip vs env1) := wip_eq b1 fun j hj => b2 j fun z => hj (by
                have := List.all_eq_true.mp hsl j z
                exact List.contains_iff_mem.mp this)
              rw [h2]
              exact wip_eq wip_length fun j hj => by rw [wip_at, if_neg hj]
            cases b with
            | false =>
              simp only [Bool.false_eq_true, if_false] at qi ⊢
              obtain ⟨A, B⟩ := nextS f3.st
              refine ⟨acc, accV, wip vs e2, A, k3', d3, ?_, by omega, fun b z => sub2 b (B b z), fun hp => ?_, qi⟩
              · exact ri.fwd ⟨fun b o e n => fw3.keep b o e n, fun b o e n => fw3.tup b o e n, fun b z n => fw3.sub b (z.imp id (B b)) n⟩
              · obtain ⟨e4, s4⟩ := f3.pure (by revert hp; cases pt <;> simp)
                exact ⟨by rw [e4]; exact pure1 hp, ((pi hp).2.trans s2).trans s4⟩
            | true =>
              simp only [if_true] at qi ⊢
              cases ee : fe e2 with
              | no => rw [ee] at qi; cases qi
              | exc x e => rw [ee] at qi; cases qi
              | ok y e3 =>
                rw [ee] at qi
                simp only at qi
                refine ⟨D0, e2, f3.st, ?_⟩
                rw [ee]
                intro H4 f4 yv ry
                have d4 : H4 D0 = some (.lst accV) := f4.keepo.at d3 (ND f3.st)
                have sub4 : ∀ b, rts σ2 e3 b → rts σ env1 b := fun b z => sub2 b (f4.subo b z)
                have k4 : Keep (rts σ env1) H1 H4 := k3'.trans f4.keepo fun b _ z => sub2 b z
                refine ⟨accV, d4, ?_, ?_⟩
                · have := it.len
                  rw [ri.length]
                  omega
                · obtain ⟨A, B⟩ := nextS f4.st
                  have zz : ∀ (σ' : L2.St) (e' : EnvD), (G.blk D0).R σ' e' D0 := fun σ' e' => .inl (.inr (.inr rfl))
                  have fu : Fwd K ((G.blk D0).R (wipe σ vs) (wip vs e3)) ((G.blk D0).R (wipe σ vs) (wip vs e3)) H4 (upd H4 D0 (.lst (accV ++ [yv]))) := fwd_upd (zz _ _) d4
                  refine ⟨acc ++ [y], accV ++ [yv], wip vs e3, A.updZ (.inr rfl) d4, ?_, upd_same, ?_, by rw [List.length_append]; simp; omega, fun b z => sub4 b (B b z), fun hp => ?_, qi⟩
                  · intro b o e
                    have nb : b ≠ D0 := fun z => by rw [z, hD] at e; cases e
                    rw [upd_ne nb]
                    exact k4 b o e
                  · refine RpAll.append ?_ (.cons ?_ .nil)
                    · have r4 : RpAll K H4 ((G.blk D0).R (wipe σ vs) (wip vs e3)) accV acc :=
                        (ri.fwd fw3).fwd ⟨fun b o e n => f4.keep.at e n, fun b o e n => f4.keep.tup e n, fun b z n => absurd (z.imp id fun z => f4.subo b (B b z)) n⟩
                      exact r4.fwd fu
                    · have ry1 : Rp K H4 ((G.blk D0).R σ2 e3) yv y := RpX.rp (fun b z => f3.st.dom b (f4.sub b z)) hle ry
                      exact (ry1.fwd (.sub_same (Same.refl _) fun b z => z.imp id (B b))).fwd fu
                  · obtain ⟨e4, s4⟩ := f3.pure (by revert hp; cases pt <;> simp)
                    obtain ⟨e5, s5⟩ := f4.pure (by revert hp; cases pe <;> simp)
                    refine ⟨by rw [e5, e4]; exact pure1 hp, fun b o e => ?_⟩
                    have nb : b ≠ D0 := fun z => by rw [z, hD] at e; cases e
                    rw [upd_ne nb]
                    exact s5 _ _ (s4 _ _ (s2 _ _ ((pi hp).2 _ _ e)))
      · left
        have ei' : i = ds.length := by omega
        subst ei'
        refine ⟨it.stop H' al, ?_⟩
        rw [List.drop_length] at qi
        have qi' : (Res.ok acc ei : Res (List D)) = .ok accF eF := qi
        cases qi'
        have hlen : eF.length = env1.length := by rw [Si.len, wipe_length]; exact l1.symm
        obtain ⟨So, rr⟩ := Si.ofBlk (by rw [hlen]; exact l1)
        have kR : Keep (G.R σ env1) H1 H' := ki.mono fun _ z => .inr z
        have subR : ∀ b, G.R σ eF b → G.R σ env1 b := fun b z => z.imp id fun z => si b ((rr b).mp z)
        obtain ⟨Sr, subr⟩ := So.rst (is := vs) (e := env1) hlen hno hfx' fun j _ d z => by
          obtain ⟨v, e1, r⟩ := S1.shr j d z
          exact ⟨v, e1, r.fwd (.of_keep kR subR)⟩
        refine q1 H' ⟨Sr, fun hp => ?_, ki, fun b z => si b ((rr b).mp (subr b z))⟩ (.ref D0) (f1.back (l := .fre) ?_)
        · obtain ⟨e4, s4⟩ := pi hp
          exact ⟨by rw [e4]; exact rst_wip, s4⟩
        · exact ⟨D0, accV, rfl, hD, di, ri.fwd (.sub_same (Same.refl _) fun b z => by
            refine (R_blk b).mpr (z.imp (fun z => z.imp id fun z => (rr b).mp (subr b z)) id))⟩
  · rw [if_neg hno] at q1
    exact q1.elim

theorem j_lc {scope : Scope} {own : List (Str × Nat)} (hc : X.calm = true) (hN : X.N.Nodup) (hi : JI X G p sf tg iter m) (ok : BlkOk X.N X.env.scope scope own)
    (hg : ∀ (s : Shared) (H : Hp) (C : Addr) (cl : List (Str × Addr)) (fp : List Addr) (a : Addr), JG (X.blk s H scope (compEnvC scope cl C X.env) fp) (G.blk a) tg t)
    (ht : ∀ (s : Shared) (H : Hp) (C : Addr) (cl : List (Str × Addr)) (fp : List Addr) (a : Addr), JPT (X.blk s H scope (compEnvC scope cl C X.env) fp) (G.blk a) pt ifs tt)
    (he : ∀ (s : Shared) (H : Hp) (C : Addr) (cl : List (Str × Addr)) (fp : List Addr) (a : Addr), J (X.blk s H scope (compEnvC scope cl C X.env) fp) (G.blk a) pe le elt fe)
    (hle : le.safe = true := by rfl) (hsf : (sf || (pt && pe)) = true := by rfl) (hsl : (slT t).all (fun i => (own.map (·.2)).contains i) = true := by rfl) (hfx : okFx G (own.map (·.2)) = true := by rfl)
    (hs : ∀ x, foldedSetIterable iter X.env x = pure x := by intro _; rfl) :
    J X G (p && (pt && pe)) .fre (.ListComp elt [⟨tg, iter, ifs, 0⟩] scope pos) (lcE t (own.map (·.2)) tt fe m) :=
  pe_mono (pe_lc hc hN hi ok (g := gB X.K G t) (tt := tB' X.K G pt tt) (te := eB X.K G pe le fe) (fun s H C cl fp => ⟨fun pn s1 σ1 H1 v u Q I r ⟨a, q⟩ => (hg s H C cl fp a).run pn s1 σ1 H1 v u Q I r q⟩)
    (fun s H C cl fp => ⟨fun pn s1 σ1 H1 Q I ⟨a, q⟩ => (ht s H C cl fp a).run pn s1 σ1 H1 Q I q⟩) (fun s H C cl fp => ⟨fun pn s1 σ1 H1 Q I ⟨a, q⟩ => (he s H C cl fp a).run pn s1 σ1 H1 Q I q⟩) hs)
    fun σ H Q h => lc_red hle hsf hsl hfx h
/-- y = [..] on one line, y a local: a shared thing -/
theorem js_setLc (i : Nat) {fl : Lvl} {y : Str} {py spos : Pos} {scope : Scope} {own : List (Str × Nat)} (hc : X.calm = true) (hN : X.N.Nodup) (hy : X.N[i]? = some y) (hyl : X.env.scope.names.lookup y = some .local)
    (hsw : swapsWith (.ListComp elt [⟨tg, iter, ifs, 0⟩] scope pos) (some (.Name y py)) spos.line X.env = pure true) (hi : JI X G p sf tg iter m) (ok : BlkOk X.N X.env.scope scope own)
    (hg : ∀ (s : Shared) (H : Hp) (C : Addr) (cl : List (Str × Addr)) (fp : List Addr) (a : Addr), JG (X.blk s H scope (compEnvC scope cl C X.env) fp) (G.blk a) tg t)
    (ht : ∀ (s : Shared) (H : Hp) (C : Addr) (cl : List (Str × Addr)) (fp : List Addr) (a : Addr), JPT (X.blk s H scope (compEnvC scope cl C X.env) fp) (G.blk a) pt ifs tt)
    (he : ∀ (s : Shared) (H : Hp) (C : Addr) (cl : List (Str × Addr)) (fp : List Addr) (a : Addr), J (X.blk s H scope (compEnvC scope cl C X.env) fp) (G.blk a) pe le elt fe)
    (hle : le.safe = true := by rfl) (hsf : (sf || (pt && pe)) = true := by rfl) (hsl : (slT t).all (fun i => (own.map (·.2)).contains i) = true := by rfl) (hfx : okFx G (own.map (·.2)) = true := by rfl)
    (hs : ∀ x, foldedSetIterable iter X.env x = pure x := by intro _; rfl) (hf : G.fx.contains i = false := by rfl) :
    JS X G fl (.Assign [.Name y py] (.ListComp elt [⟨tg, iter, ifs, 0⟩] scope pos) spos) (setS i (lcE t (own.map (·.2)) tt fe m)) :=
  ps_mono (ps_setLc hc hN hy hyl hsw hi ok (g := gB X.K G t) (tt := tB' X.K G pt tt) (te := eB X.K G pe le fe) (fun s H C cl fp => ⟨fun pn s1 σ1 H1 v u Q I r ⟨a, q⟩ => (hg s H C cl fp a).run pn s1 σ1 H1 v u Q I r q⟩)
    (fun s H C cl fp => ⟨fun pn s1 σ1 H1 Q I ⟨a, q⟩ => (ht s H C cl fp a).run pn s1 σ1 H1 Q I q⟩) (fun s H C cl fp => ⟨fun pn s1 σ1 H1 Q I ⟨a, q⟩ => (he s H C cl fp a).run pn s1 σ1 H1 Q I q⟩) hs)
    fun Dn σ H ⟨env, S, q⟩ => lc_red (p := p) hle hsf hsl hfx ⟨env, S, (OkS.thenS (p && (pt && pe)) q).mono fun d env1 H1 ⟨f1, q1⟩ v rv => by
      obtain ⟨S2, sub⟩ := f1.st.putS (i := i) (v := v) (d := d) (not_fx hf) (RpX.rp (fun a z => S.dom a (f1.sub a z)) (l := .fre) rfl rv)
      exact q1 _ H1 ⟨S2, .refl _ _, fun a z => .inl (sub a z)⟩⟩
/-- y = [..], to be changed in place -/
theorem js_setLcO (i : Nat) {fl : Lvl} {y : Str} {py spos : Pos} {scope : Scope} {own : List (Str × Nat)} (hc : X.calm = true) (hN : X.N.Nodup) (hy : X.N[i]? = some y) (hyl : X.env.scope.names.lookup y = some .local)
    (hsw : swapsWith (.ListComp elt [⟨tg, iter, ifs, 0⟩] scope pos) (some (.Name y py)) spos.line X.env = pure true) (hi : JI X G true sf tg iter m) (ok : BlkOk X.N X.env.scope scope own)
    (hg : ∀ (s : Shared) (H : Hp) (C : Addr) (cl : List (Str × Addr)) (fp : List Addr) (a : Addr), JG (X.blk s H scope (compEnvC scope cl C X.env) fp) (G.blk a) tg t)
    (ht : ∀ (s : Shared) (H : Hp) (C : Addr) (cl : List (Str × Addr)) (fp : List Addr) (a : Addr), JPT (X.blk s H scope (compEnvC scope cl C X.env) fp) (G.blk a) true ifs tt)
    (he : ∀ (s : Shared) (H : Hp) (C : Addr) (cl : List (Str × Addr)) (fp : List Addr) (a : Addr), J (X.blk s H scope (compEnvC scope cl C X.env) fp) (G.blk a) true le elt fe)
    (hle : le.safe = true := by rfl) (hsl : (slT t).all (fun i => (own.map (·.2)).contains i) = true := by rfl) (hfx : okFx G (own.map (·.2)) = true := by rfl)
    (hs : ∀ x, foldedSetIterable iter X.env x = pure x := by intro _; rfl) (hf : G.fx.contains i = false := by rfl) :
    JS X G fl (.Assign [.Name y py] (.ListComp elt [⟨tg, iter, ifs, 0⟩] scope pos) spos) (setO i (lcE t (own.map (·.2)) tt fe m)) :=
  ps_mono (ps_setLc hc hN hy hyl hsw hi ok (g := gB X.K G t) (tt := tB' X.K G true tt) (te := eB X.K G true le fe) (fun s H C cl fp => ⟨fun pn s1 σ1 H1 v u Q I r ⟨a, q⟩ => (hg s H C cl fp a).run pn s1 σ1 H1 v u Q I r q⟩)
    (fun s H C cl fp => ⟨fun pn s1 σ1 H1 Q I ⟨a, q⟩ => (ht s H C cl fp a).run pn s1 σ1 H1 Q I q⟩) (fun s H C cl fp => ⟨fun pn s1 σ1 H1 Q I ⟨a, q⟩ => (he s H C cl fp a).run pn s1 σ1 H1 Q I q⟩) hs)
    fun Dn σ H ⟨env, S, q⟩ => lc_red (p := true) (pt := true) (pe := true) hle (by cases sf <;> rfl) hsl hfx ⟨env, S, (OkS.thenS0 true q).mono fun d env1 H1 ⟨f1, q1⟩ v rv => by
      obtain ⟨e1, s⟩ := f1.pure rfl
      subst e1
      exact q1 _ H1 (putO_step (X := X) S (not_fx hf) s rv)⟩
end
end PV
namespace PV
open PySem PySem.Spec PyProof.Rows L2

/-! a def as a function of data -/
def startE : List Bool → List D → EnvD
  | io :: r, d :: ds => (if io = true then PV.Cell.own d else .shr d) :: startE r ds
  | _, _ => []
def fxOf : Nat → List Bool → List Nat
  | _, [] => []
  | k, true :: io => k :: fxOf (k + 1) io
  | k, false :: io => fxOf (k + 1) io
def iosOf : List Nat → EnvD → Option (List D)
  | [], _ => some []
  | i :: is, e => match e[i]? with
    | some (.own d) => (iosOf is e).map (d :: ·)
    | _ => none
def outF (ex : Bool) (fx : List Nat) : Out → FR
  | .rt d e => match iosOf fx e with
    | some ios => .ok d ios
    | none => .no
  | .nx e => match iosOf fx e with
    | some ios => .ok .none ios
    | none => .no
  | .exc x _ => if ex = true then .exc x else .no
  | _ => .no
def fnD (io : List Bool) (n : Nat) (b : Sm) : Fn := fun ds => if ds.length = io.length then outF false (fxOf 0 io) (b (startE io ds ++ List.replicate (n - ds.length) .emp)) else .no
structure AmbQ (fx : List Nat) (XR : XRT) where
  H0 : Hp
  N : Addr → Prop
  fa : Nat → Addr
  Z : Addr → Prop
  W : Value → Option Addr → L2.St → Hp → Prop
  nd : ∀ a, N a → ∃ o, H0 a = some o
  ion : ∀ i ∈ fx, N (fa i)
def AmbQ.G {fx : List Nat} {XR : XRT} (q : AmbQ fx XR) : Amb := { H0 := q.H0, N := q.N, fx := fx, fa := q.fa, Z := q.Z, W := q.W, XR := XR, nd := q.nd, ion := q.ion }

section
variable {K : PySem.W.Frag} {H H' : Hp} {N : Addr → Prop}
def vAd (v : Option V) : Addr := match v with
  | some (.ref a) => a
  | _ => 0
theorem startE_len : ∀ {io : List Bool} {vs : List V} {ds : List D}, RpIO K H N io vs ds → (startE io ds).length = vs.length
  | _, _, _, .nil => rfl
  | _, _, _, .val _ r => congrArg (· + 1) (startE_len r)
  | _, _, _, .ref _ r => congrArg (· + 1) (startE_len r)
theorem RpIO.lenD : ∀ {io : List Bool} {vs : List V} {ds : List D}, RpIO K H N io vs ds → ds.length = io.length
  | _, _, _, .nil => rfl
  | _, _, _, .val _ r => congrArg (· + 1) (RpIO.lenD r)
  | _, _, _, .ref _ r => congrArg (· + 1) (RpIO.lenD r)
theorem startE_shr : ∀ {io : List Bool} {vs : List V} {ds : List D} {i : Nat} {d : D}, RpIO K H N io vs ds → (startE io ds)[i]? = some (PV.Cell.shr d) → ∃ v, vs[i]? = some v ∧ Rp K H N v d
  | _, _, _, i, _, .nil, e => by simp [startE] at e
  | _, _, _, 0, _, .val h _, e => by
    have e' : PV.Cell.shr _ = PV.Cell.shr _ := Option.some.inj e
    cases e'
    exact ⟨_, rfl, h⟩
  | _, _, _, 0, _, .ref _ _, e => by
    have e' : PV.Cell.own _ = PV.Cell.shr _ := Option.some.inj e
    cases e'
  | _, _, _, i + 1, _, .val _ r, e => startE_shr (i := i) r e
  | _, _, _, i + 1, _, .ref _ r, e => startE_shr (i := i) r e
theorem startE_own : ∀ {io : List Bool} {vs : List V} {ds : List D} {i : Nat} {d : D}, RpIO K H N io vs ds → (startE io ds)[i]? = some (PV.Cell.own d) → ∃ a, vs[i]? = some (.ref a) ∧ Root K H N a d ∧ a ∈ ioR io vs
  | _, _, _, i, _, .nil, e => by simp [startE] at e
  | _, _, _, 0, _, .val h _, e => by
    have e' : PV.Cell.shr _ = PV.Cell.own _ := Option.some.inj e
    cases e'
  | _, _, _, 0, _, .ref h _, e => by
    have e' : PV.Cell.own _ = PV.Cell.own _ := Option.some.inj e
    cases e'
    exact ⟨_, rfl, h, List.mem_cons_self⟩
  | _, _, _, i + 1, _, .val (v := v) (io := io) (vs := vs) _ r, e => by
    obtain ⟨a, h1, h2, h3⟩ := startE_own (i := i) r e
    have z : ioR (false :: io) (v :: vs) = ioR io vs := by cases v <;> rfl
    exact ⟨a, h1, h2, by rw [z]; exact h3⟩
  | _, _, _, i + 1, _, .ref _ r, e => by
    obtain ⟨a, h1, h2, h3⟩ := startE_own (i := i) r e
    exact ⟨a, h1, h2, List.mem_cons_of_mem _ h3⟩
theorem startE_dis : ∀ {io : List Bool} {vs : List V} {ds : List D} {i j : Nat} {d d2 : D} {a : Addr}, RpIO K H N io vs ds → (ioR io vs).Nodup → (startE io ds)[i]? = some (PV.Cell.own d) → (startE io ds)[j]? = some (PV.Cell.own d2) → vs[i]? = some (.ref a) → vs[j]? = some (.ref a) → i = j
  | _, _, _, i, j, _, _, _, .nil, _, e, _, _, _ => by simp [startE] at e
  | _, _, _, 0, 0, _, _, _, _, _, _, _, _, _ => rfl
  | _, _, _, 0, j + 1, _, _, _, .val h _, _, e, _, _, _ => by
    have e' : PV.Cell.shr _ = PV.Cell.own _ := Option.some.inj e
    cases e'
  | _, _, _, i + 1, 0, _, _, _, .val h _, _, _, e, _, _ => by
    have e' : PV.Cell.shr _ = PV.Cell.own _ := Option.some.inj e
    cases e'
  | _, _, _, i + 1, j + 1, _, _, _, .val (v := v) (io := io) (vs := vs) _ r, nd, e1, e2, h1, h2 => by
    have z : ioR (false :: io) (v :: vs) = ioR io vs := by cases v <;> rfl
    exact congrArg (· + 1) (startE_dis (i := i) (j := j) r (z ▸ nd) e1 e2 h1 h2)
  | _, _, _, 0, j + 1, _, _, b, .ref (a := a) h r, nd, e1, e2, h1, h2 => by
    have e : V.ref a = V.ref b := Option.some.inj h1
    cases e
    obtain ⟨c, g1, _, g3⟩ := startE_own (i := j) r e2
    have h2' := (show _ = some (V.ref c) from g1).symm.trans h2
    cases h2'
    exact absurd g3 (List.nodup_cons.mp nd).1
  | _, _, _, i + 1, 0, _, _, b, .ref (a := a) h r, nd, e1, e2, h1, h2 => by
    have e : V.ref a = V.ref b := Option.some.inj h2
    cases e
    obtain ⟨c, g1, _, g3⟩ := startE_own (i := i) r e1
    have h2' := (show _ = some (V.ref c) from g1).symm.trans h1
    cases h2'
    exact absurd g3 (List.nodup_cons.mp nd).1
  | _, _, _, i + 1, j + 1, _, _, _, .ref _ r, nd, e1, e2, h1, h2 => congrArg (· + 1) (startE_dis (i := i) (j := j) r (List.nodup_cons.mp nd).2 e1 e2 h1 h2)
theorem fx_spec : ∀ {io : List Bool} {vs : List V} {ds : List D} {k i : Nat}, RpIO K H N io vs ds → i ∈ fxOf k io → ∃ j a d, i = k + j ∧ vs[j]? = some (.ref a) ∧ (startE io ds)[j]? = some (PV.Cell.own d) ∧ a ∈ ioR io vs
  | _, _, _, k, i, .nil, h => by simp [fxOf] at h
  | _, _, _, k, i, .val (v := v) (io := io) (vs := vs) _ r, h => by
    obtain ⟨j, a, d, h1, h2, h3, h4⟩ := fx_spec (k := k + 1) r h
    have z : ioR (false :: io) (v :: vs) = ioR io vs := by cases v <;> rfl
    exact ⟨j + 1, a, d, by omega, h2, h3, by rw [z]; exact h4⟩
  | _, _, _, k, i, .ref (a := a) (d := d) _ r, h => by
    rcases List.mem_cons.mp h with rfl | h
    · exact ⟨0, a, d, rfl, rfl, rfl, List.mem_cons_self⟩
    · obtain ⟨j, a, d, h1, h2, h3, h4⟩ := fx_spec (k := k + 1) r h
      exact ⟨j + 1, a, d, by omega, h2, h3, List.mem_cons_of_mem _ h4⟩
theorem fx_ioR : ∀ {io : List Bool} {vs : List V} {ds : List D} {k : Nat}, RpIO K H N io vs ds → ioR io vs = (fxOf k io).map fun i => vAd vs[i - k]?
  | _, _, _, k, .nil => rfl
  | _, _, _, k, .val (v := v) (io := io) (vs := vs) _ r => by
    have z : ioR (false :: io) (v :: vs) = ioR io vs := by cases v <;> rfl
    rw [z, fx_ioR (k := k + 1) r]
    apply List.map_congr_left
    intro i hi
    obtain ⟨j, _, _, h1, _⟩ := fx_spec (k := k + 1) r hi
    have e : i - k = (i - (k + 1)) + 1 := by omega
    show vAd vs[i - (k + 1)]? = vAd (v :: vs)[i - k]?
    rw [e]
    rfl
  | _, _, _, k, .ref (a := a) (io := io) (vs := vs) _ r => by
    show a :: ioR io vs = (k :: fxOf (k + 1) io).map fun i => vAd (V.ref a :: vs)[i - k]?
    rw [fx_ioR (k := k + 1) r, List.map_cons]
    congr 1
    · rw [Nat.sub_self]; rfl
    · apply List.map_congr_left
      intro i hi
      obtain ⟨j, _, _, h1, _⟩ := fx_spec (k := k + 1) r hi
      have e : i - k = (i - (k + 1)) + 1 := by omega
      show vAd vs[i - (k + 1)]? = vAd (V.ref a :: vs)[i - k]?
      rw [e]
      rfl
/-- the state at the entry -/
theorem start_ok {XR : XRT} {io : List Bool} {vs : List V} {ds : List D} {n : Nat} {W : Value → Option Addr → L2.St → Hp → Prop} (q : AmbQ (fxOf 0 io) XR) (h0 : q.H0 = H) (hN : q.N = N) (ha : q.fa = fun i => vAd vs[i]?) (hz : q.Z = fun _ => False)
    (r : RpIO K H N io vs ds) (nd : (ioR io vs).Nodup) (dom : ∀ a, N a → ∃ o, H a = some o) (inN : ∀ a ∈ ioR io vs, N a) :
    StR K q.G (vs.map some ++ List.replicate (n - vs.length) none) H (startE io ds ++ List.replicate (n - ds.length) .emp) := by
  have hl := startE_len r
  have hld : ds.length = vs.length := r.lenD.trans r.length.symm
  have lo : ∀ {i : Nat} {c : PV.Cell}, (startE io ds ++ List.replicate (n - ds.length) PV.Cell.emp)[i]? = some c → c ≠ .emp → (startE io ds)[i]? = some c ∧ ∀ v, vs[i]? = some v → (vs.map some ++ List.replicate (n - vs.length) (none : Option V))[i]? = some (some v) := fun {i c} h hc => by
    by_cases hi : i < (startE io ds).length
    · rw [List.getElem?_append_left hi] at h
      refine ⟨h, fun v hv => ?_⟩
      rw [List.getElem?_append_left (by rw [List.length_map, ← hl]; exact hi), List.getElem?_map, hv]
      rfl
    · rw [List.getElem?_append_right (by omega)] at h
      exact absurd (List.eq_of_mem_replicate (List.mem_of_getElem? h)) hc
  have upv : ∀ {i : Nat} {a : Addr}, (vs.map some ++ List.replicate (n - vs.length) (none : Option V))[i]? = some (some (V.ref a)) → vs[i]? = some (.ref a) := fun {i a} h => by
    by_cases hi : i < vs.length
    · rw [List.getElem?_append_left (by rw [List.length_map]; exact hi), List.getElem?_map] at h
      cases e : vs[i]? with
      | none => rw [e] at h; cases h
      | some v => rw [e] at h; cases h; rfl
    · rw [List.getElem?_append_right (by rw [List.length_map]; omega)] at h
      exact absurd (List.eq_of_mem_replicate (List.mem_of_getElem? h)) nofun
  have rsub : ∀ a, q.G.R (vs.map some ++ List.replicate (n - vs.length) none) (startE io ds ++ List.replicate (n - ds.length) .emp) a → N a := fun a h => by
    rcases h with (h | h) | ⟨i, d, h1, h2⟩
    · exact hN ▸ h
    · have : q.Z a := h
      rw [hz] at this
      exact this.elim
    · obtain ⟨g1, _⟩ := lo h1 (by intro z; cases z)
      obtain ⟨b, e1, _, e3⟩ := startE_own r g1
      rw [upv h2] at e1
      cases e1
      exact inN _ e3
  have fw : Fwd K N (q.G.R (vs.map some ++ List.replicate (n - vs.length) none) (startE io ds ++ List.replicate (n - ds.length) .emp)) H H := .sub_same (Same.refl H) rsub
  refine ⟨?_, ?_, fun i d h => ?_, fun i d h => ?_, fun i j d e a h1 h2 h3 h4 => ?_, fun a z => ?_, fun i hi => ?_⟩
  · rw [List.length_append, List.length_append, List.length_map, List.length_replicate, List.length_replicate, hl, hld]
  · have : q.G.H0 = H := h0
    rw [this]
    exact .refl _ _
  · obtain ⟨g1, g2⟩ := lo h (by intro z; cases z)
    obtain ⟨v, e1, e2⟩ := startE_shr r g1
    exact ⟨v, g2 v e1, e2.fwd fw⟩
  · obtain ⟨g1, g2⟩ := lo h (by intro z; cases z)
    obtain ⟨a, e1, e2, e3⟩ := startE_own r g1
    refine ⟨a, g2 _ e1, e2.at fw rfl, .inr ?_, fun z => ?_⟩
    · rw [fx_ioR (k := 0) r] at e3
      obtain ⟨j, h1, h2⟩ := List.mem_map.mp e3
      refine ⟨j, h1, ?_⟩
      show q.fa j = a
      rw [ha, ← h2]
      rfl
    · have : q.Z a := z
      rw [hz] at this
      exact this.elim
  · obtain ⟨g1, _⟩ := lo h1 (by intro z; cases z)
    obtain ⟨g2, _⟩ := lo h2 (by intro z; cases z)
    exact startE_dis r nd g1 g2 (upv h3) (upv h4)
  · have : q.Z a := z
    rw [hz] at this
    exact this.elim
  · obtain ⟨j, a, d, e1, e2, e3, _⟩ := fx_spec (k := 0) r (show i ∈ fxOf 0 io from hi)
    have ej : i = j := by omega
    subst ej
    have hil := lt_of_some e3
    refine ⟨?_, d, ?_⟩
    · rw [List.getElem?_append_left (by rw [List.length_map, ← hl]; exact hil), List.getElem?_map, e2]
      show some (some (V.ref a)) = some (some (V.ref (q.fa i)))
      rw [ha]
      show _ = some (some (V.ref (vAd vs[i]?)))
      rw [e2]
      rfl
    · rw [List.getElem?_append_left hil]
      exact e3
theorem ios_roots {XR : XRT} {G : Amb} {σ : L2.St} {e : EnvD} {N' : Addr → Prop} (sub : ∀ a, N' a → G.R σ e a) (S : StR K G σ H e) : ∀ {fx : List Nat} {ios : List D}, (∀ i ∈ fx, i ∈ G.fx) → iosOf fx e = some ios → Rts K H N' (fx.map G.fa) ios
  | [], ios, _, h => by cases h; exact .nil
  | i :: fx, ios, hi, h => by
    unfold iosOf at h
    obtain ⟨h1, d, h2⟩ := S.fix i (hi i List.mem_cons_self)
    rw [h2] at h
    simp only at h
    cases e1 : iosOf fx e with
    | none => rw [e1] at h; cases h
    | some r =>
      rw [e1] at h
      cases h
      obtain ⟨a, g1, g2, _⟩ := S.own i d h2
      rw [h1] at g1
      cases g1
      exact .cons (g2.same (Same.refl _) sub) (ios_roots (XR := XR) sub S (fun j hj => hi j (List.mem_cons_of_mem _ hj)) e1)
end

section
variable {P : Program} {w : World} {K : PySem.W.Frag} {mg : Str → Option Value} {base : Heap}
/-- a def that lets no exception out -/
theorem fn_ok0 {XR : XRT} {x : Str} {st : Stmt} {f : Addr} {fd : FuncData} {N ps : List Str} {k : Nat} {io : List Bool} {fl : Lvl} {b : Sm} (F : L2.Fun K x x st f fd) (S : FnScope N ps (defScope st)) (hn : ps.length = io.length)
    (hb : ∀ (cdv : Value) (A : Around) (outer : List Env) (s : Shared) (H : Hp) (E : XK) (q : AmbQ (fxOf 0 io) XR), Room k (A.deeper (envOfC x (defScope st) s.heap.objs.size f cdv)) →
      JB (cxOf CX0 P w K mg base N x (defScope st) f cdv A outer s H E).nox q.G fl (defBody st) b) :
    FnOk P w K mg base CX0 (k + 1) f fd ps (spF K XR fl io (fnD io N.length b)) := by
  refine F.ok S (fun vs H Q E h => ?_) fun cdv A outer s H vs Q E hr h => ?_
  · obtain ⟨N1, ds, _, r, _⟩ := h
    rw [r.length, hn]
  · obtain ⟨N1, ds, dom, r, nd, inN, h⟩ := h
    have hld := r.lenD
    have ion : ∀ i ∈ fxOf 0 io, N1 (vAd vs[i]?) := fun i hi => inN _ (by
      rw [fx_ioR (k := 0) r]
      exact List.mem_map.mpr ⟨i, hi, rfl⟩)
    let q : AmbQ (fxOf 0 io) XR := ⟨H, N1, fun i => vAd vs[i]?, fun _ => False, fun _ _ _ _ => False, dom, ion⟩
    refine ⟨_, hb cdv A outer s H E q hr, ?_⟩
    have hq : fnD io N.length b ds = outF false (fxOf 0 io) (b (startE io ds ++ List.replicate (N.length - ds.length) .emp)) := by unfold fnD; rw [if_pos hld]
    rw [hq] at h
    have S0 : StR K q.G (start N vs) H (startE io ds ++ List.replicate (N.length - ds.length) .emp) := start_ok (W := fun _ _ _ _ => False) q rfl rfl rfl rfl r nd dom inN
    refine ⟨_, S0, ?_⟩
    have hio : ioR io vs = (fxOf 0 io).map q.G.fa := fx_ioR (k := 0) r
    have IOeq : ∀ a, q.G.IO a → a ∈ ioR io vs := fun a ⟨i, h1, h2⟩ => by
      rw [hio]
      exact List.mem_map.mpr ⟨i, h1, h2⟩
    have subN : ∀ {σ' : L2.St} {e : EnvD} (a : Addr), N1 a → q.G.R σ' e a := fun {σ' e} a z => .inl (.inl z)
    cases eo : b (startE io ds ++ List.replicate (N.length - ds.length) .emp) with
    | rt d e =>
      rw [eo] at h
      intro σ' H' v t rv
      unfold outF at h
      simp only at h
      cases ei : iosOf (fxOf 0 io) e with
      | none => rw [ei] at h; exact h.elim
      | some ios =>
        rw [ei] at h
        refine h v H' (t.st.keep.mono IOeq) rv ?_
        rw [hio]
        exact ios_roots (XR := XR) subN t.st (fun _ z => z) ei
    | nx e =>
      rw [eo] at h
      intro σ' H' t
      unfold outF at h
      simp only at h
      cases ei : iosOf (fxOf 0 io) e with
      | none => rw [ei] at h; exact h.elim
      | some ios =>
        rw [ei] at h
        refine h .non H' (t.st.keep.mono IOeq) ?_ ?_
        · cases fl with
          | bor => exact .of .non
          | saf => exact .non
          | fre => exact .non
        · rw [hio]
          exact ios_roots (XR := XR) subN t.st (fun _ z => z) ei
    | bk e => rw [eo] at h; exact h.elim
    | ct e => rw [eo] at h; exact h.elim
    | exc x e => rw [eo] at h; exact h.elim
    | no => rw [eo] at h; exact h.elim
theorem fn_ok {XR : XRT} {x : Str} {st : Stmt} {f : Addr} {fd : FuncData} {N ps : List Str} {k : Nat} {io : List Bool} {fl : Lvl} {b : Sm} (F : L2.Fun K x x st f fd) (hm : mg x = some (.ref f)) (hbd : Binds K fd ps []) (S : FnScope N ps (defScope st)) (hn : ps.length = io.length)
    (hb : ∀ (cdv : Value) (A : Around) (outer : List Env) (s : Shared) (H : Hp) (E : XK) (q : AmbQ (fxOf 0 io) XR), Room k (A.deeper (envOfC x (defScope st) s.heap.objs.size f cdv)) →
      JB (cxOf CX0 P w K mg base N x (defScope st) f cdv A outer s H E).nox q.G fl (defBody st) b) :
    FnI P w K mg base CX0 XR x (k + 1) fl io (fnD io N.length b) := ⟨⟨f, fd, ps, fn_ok0 F S hn hb, hm, F.kp, hbd⟩, fun ds h => by unfold fnD; rw [if_neg h]⟩
end
end PV
namespace PV
open PySem PySem.Spec PyProof.Rows L2

/-! ints and more: what the operators give -/
def addD : D → D → Option D
  | .int i, .int j => some (.int (i + j))
  | .str a, .str b => if a.length + b.length ≤ sizeLine then some (.str (a ++ b)) else none
  | .tuple a, .tuple b => if a.length + b.length ≤ sizeLine then some (.tuple (a ++ b)) else none
  | .list a, .list b => if a.length + b.length ≤ sizeLine then some (.list (a ++ b)) else none
  | _, _ => none
def subD : D → D → Option D
  | .int i, .int j => some (.int (i - j))
  | _, _ => none
def cMulB (i j : Int) : Bool := (decide (-(2 ^ 64) < i) && decide (i < 2 ^ 64)) || (decide (-(2 ^ 64) < j) && decide (j < 2 ^ 64))
def mulD : D → D → Option D
  | .int i, .int j => if cMulB i j = true then some (.int (i * j)) else none
  | _, _ => none
def fdivD : D → D → Option D
  | .int i, .int j => if decide (0 < j) && decide (j < 1073741824) then some (.int (i / j)) else none
  | _, _ => none
def modD : D → D → Option D
  | .int i, .int j => if decide (0 < j) then some (.int (i % j)) else none
  | _, _ => none
def cPowB (i j : Int) : Bool := decide (0 ≤ j) && decide (j ≤ 1000000) && decide (i.natAbs < 2 ^ 64)
def powD : D → D → Option D
  | .int i, .int j => if cPowB i j = true then some (.int (i ^ j.toNat)) else none
  | _, _ => none
def shlD : D → D → Option D
  | .int i, .int j => if cPowB i j = true then some (.int (i * 2 ^ j.toNat)) else none
  | _, _ => none
def shrD : D → D → Option D
  | .int i, .int j => if decide (0 ≤ j) then some (.int (i / 2 ^ j.toNat)) else none
  | _, _ => none
def andD : D → D → Option D
  | .int i, .int j => some (.int (Builtin.bitAnd i j))
  | _, _ => none
def orD : D → D → Option D
  | .int i, .int j => some (.int (Builtin.bitOr i j))
  | _, _ => none
def xorD : D → D → Option D
  | .int i, .int j => some (.int (Builtin.bitXor i j))
  | _, _ => none
def negD : D → Option D
  | .int i => some (.int (-i))
  | _ => none
def invD : D → Option D
  | .int i => some (.int (Builtin.bitNot i))
  | _ => none

section
variable {X : Cx}
theorem opr_mono {f : Value → Value → Sem Value} {r r' : R2} (h : OpR X f r) (m : ∀ x y H Q, r' x y H Q → r x y H Q) : OpR X f r' := fun pn s σ H x y v u Q I rx ry q => h pn s σ H x y v u Q I rx ry (m _ _ _ _ q)
theorem unr_mono {f : Value → Sem Value} {r r' : V → Hp → VK → Prop} (h : UnR X f r) (m : ∀ x H Q, r' x H Q → r x H Q) : UnR X f r' := fun pn s σ H x v Q I rx q => h pn s σ H x v Q I rx (m _ _ _ q)
theorem ixr_mono {r r' : R2} (h : IxR X r) (m : ∀ x y H Q, r' x y H Q → r x y H Q) : IxR X r' := fun vl sl pn s σ H x y v u Q I rx ry q hs => h vl sl pn s σ H x y v u Q I rx ry (m _ _ _ _ q) hs
theorem slr_mono {r r' : V → Option Int → Option Int → Hp → VK → Prop} (h : SlR X r) (m : ∀ x lo hi H Q, r' x lo hi H Q → r x lo hi H Q) : SlR X r' := fun pn s σ H x v vl vu lo hi sl Q I rx hs pl pu q => h pn s σ H x v vl vu lo hi sl Q I rx hs pl pu (m _ _ _ _ _ q)
theorem callr_mono {f : Value} {r r' : List V → Hp → VK → Prop} (h : CallR X f r) (m : ∀ x H Q, r' x H Q → r x H Q) : CallR X f r' := fun pn s σ H x v Q I rx q => h pn s σ H x v Q I rx (m _ _ _ q)
theorem mtr_mono {id : String} {r r' : V → List V → Hp → VK → Prop} (h : MtR X id r) (m : ∀ x xs H Q, r' x xs H Q → r x xs H Q) : MtR X id r' := fun pn s σ H x xs v us Q I rx rs q => h pn s σ H x xs v us Q I rx rs (m _ _ _ _ q)

/-- an operation on two ints -/
theorem o_int {f : Value → Value → Sem Value} {C : Int → Int → Prop} {g : Int → Int → V} {dg : D → D → Option D} (h : OpR X f (rI C g))
    (hd : ∀ a b d, dg a b = some d → ∃ i j, a = .int i ∧ b = .int j ∧ C i j ∧ ((∃ n, d = .int n ∧ g i j = .int n) ∨ ∃ k, d = .bool k ∧ g i j = .bl k)) : OpR X f (r2 X.K .fre dg) :=
  opr_mono h fun x y H Q ⟨N, da, db, d, dom, rx, ry, e, q⟩ => by
    obtain ⟨i, j, rfl, rfl, hc, hr⟩ := hd _ _ _ e
    refine ⟨i, j, rx.int, ry.int, hc, q _ H (Same.refl H) ?_⟩
    rcases hr with ⟨n, rfl, hg⟩ | ⟨k, rfl, hg⟩
    · rw [hg]; exact .int n
    · rw [hg]; exact .bl k
theorem o_int0 {f : Value → Value → Sem Value} {g : Int → Int → V} {dg : D → D → Option D} (h : OpR X f (rI0 g))
    (hd : ∀ a b d, dg a b = some d → ∃ i j, a = .int i ∧ b = .int j ∧ ((∃ n, d = .int n ∧ g i j = .int n) ∨ ∃ k, d = .bool k ∧ g i j = .bl k)) : OpR X f (r2 X.K .fre dg) :=
  o_int (C := fun _ _ => True) (opr_mono h fun x y H Q ⟨i, j, h1, h2, _, h3⟩ => ⟨i, j, h1, h2, h3⟩) (fun a b d e => let ⟨i, j, h1, h2, h3⟩ := hd a b d e; ⟨i, j, h1, h2, trivial, h3⟩)
theorem oo_sub : OpR X (binaryOp .Sub) (r2 X.K .fre subD) := o_int0 op_sub fun a b d e => by
  cases a <;> cases b <;> first | (cases e; exact ⟨_, _, rfl, rfl, .inl ⟨_, rfl, rfl⟩⟩) | cases e
theorem oo_and : OpR X (binaryOp .BitAnd) (r2 X.K .fre andD) := o_int0 op_and fun a b d e => by
  cases a <;> cases b <;> first | (cases e; exact ⟨_, _, rfl, rfl, .inl ⟨_, rfl, rfl⟩⟩) | cases e
theorem oo_or : OpR X (binaryOp .BitOr) (r2 X.K .fre orD) := o_int0 op_or fun a b d e => by
  cases a <;> cases b <;> first | (cases e; exact ⟨_, _, rfl, rfl, .inl ⟨_, rfl, rfl⟩⟩) | cases e
theorem oo_xor : OpR X (binaryOp .BitXor) (r2 X.K .fre xorD) := o_int0 op_xor fun a b d e => by
  cases a <;> cases b <;> first | (cases e; exact ⟨_, _, rfl, rfl, .inl ⟨_, rfl, rfl⟩⟩) | cases e
theorem if_some {α : Type} {c : Prop} [Decidable c] {x y : α} (h : (if c then some x else none) = some y) : c ∧ x = y := by
  by_cases z : c
  · rw [if_pos z] at h; exact ⟨z, Option.some.inj h⟩
  · rw [if_neg z] at h; cases h
theorem oo_fdiv : OpR X (binaryOp .FloorDiv) (r2 X.K .fre fdivD) := o_int op_fdiv fun a b d e => by
  cases a <;> cases b <;> first | (obtain ⟨c, rfl⟩ := if_some (show (if _ then some _ else none) = some d from e); simp only [Bool.and_eq_true, decide_eq_true_eq] at c; exact ⟨_, _, rfl, rfl, c, .inl ⟨_, rfl, rfl⟩⟩) | cases e
theorem oo_mod : OpR X (binaryOp .Mod) (r2 X.K .fre modD) := o_int op_mod fun a b d e => by
  cases a <;> cases b <;> first | (obtain ⟨c, rfl⟩ := if_some (show (if _ then some _ else none) = some d from e); simp only [Bool.and_eq_true, decide_eq_true_eq] at c; exact ⟨_, _, rfl, rfl, c, .inl ⟨_, rfl, rfl⟩⟩) | cases e
theorem cPow_of {i j : Int} (h : cPowB i j = true) : CPow i j := by
  unfold cPowB at h
  simp only [Bool.and_eq_true, decide_eq_true_eq] at h
  exact ⟨h.1.1, h.1.2, h.2⟩
theorem oo_pow : OpR X (binaryOp .Pow) (r2 X.K .fre powD) := o_int op_pow fun a b d e => by
  cases a <;> cases b <;> first | (obtain ⟨c, rfl⟩ := if_some (show (if _ then some _ else none) = some d from e); exact ⟨_, _, rfl, rfl, cPow_of c, .inl ⟨_, rfl, rfl⟩⟩) | cases e
theorem oo_shl : OpR X (binaryOp .LShift) (r2 X.K .fre shlD) := o_int op_shl fun a b d e => by
  cases a <;> cases b <;> first | (obtain ⟨c, rfl⟩ := if_some (show (if _ then some _ else none) = some d from e); exact ⟨_, _, rfl, rfl, cPow_of c, .inl ⟨_, rfl, rfl⟩⟩) | cases e
theorem oo_shr : OpR X (binaryOp .RShift) (r2 X.K .fre shrD) := o_int op_shr fun a b d e => by
  cases a <;> cases b <;> first | (obtain ⟨c, rfl⟩ := if_some (show (if _ then some _ else none) = some d from e); simp only [Bool.and_eq_true, decide_eq_true_eq] at c; exact ⟨_, _, rfl, rfl, c, .inl ⟨_, rfl, rfl⟩⟩) | cases e
theorem ou_neg : UnR X (unaryOp .USub) (r1 X.K .fre negD) := unr_mono un_neg fun x H Q ⟨N, da, d, dom, rx, e, q⟩ => by
  cases da <;> first | (cases e; exact ⟨_, rx.int, q _ H (Same.refl H) (.int _)⟩) | cases e
theorem ou_inv : UnR X (unaryOp .Invert) (r1 X.K .fre invD) := unr_mono un_inv fun x H Q ⟨N, da, d, dom, rx, e, q⟩ => by
  cases da <;> first | (cases e; exact ⟨_, rx.int, q _ H (Same.refl H) (.int _)⟩) | cases e

/-! + of texts, tuples, lists -/
theorem strOk_iff {x : Str} : PyData.strOk x = true ↔ ∀ c ∈ x.cps.toList, c < 0x110000 := by
  unfold PyData.strOk
  rw [Array.all_eq_true']
  simp
theorem strOk_append {x y : Str} (hx : PyData.strOk x = true) (hy : PyData.strOk y = true) : PyData.strOk (x ++ y) = true := by
  rw [strOk_iff] at *
  intro c hc
  have e : (x ++ y).cps.toList = x.cps.toList ++ y.cps.toList := TL.tl_append x y
  rw [e] at hc
  exact (List.mem_append.mp hc).elim (hx c) (hy c)
theorem lst_at {pn : List (Addr × Obj)} {σ : L2.St} {H : Hp} {s : Shared} {a : Addr} {xs : List V} (I : Inv X pn σ H s) (h : Rd H a (.lst xs)) :
    xs.length ≤ sizeLine ∧ ∃ (its : List Value) (n : Nat), Vals xs its ∧ xs.length = its.length ∧ s.heap.get? a = some { cls := .type "list", data := .seq its.toArray n } := by
  obtain ⟨z, its, n, r, e⟩ := h.ok I.hok
  exact ⟨z, its, n, r, r.length, e⟩
def rCatL : R2 := fun x y H Q => ∃ l b xs zs, x = .ref l ∧ y = .ref b ∧ Rd H l (.lst xs) ∧ Rd H b (.lst zs) ∧ xs.length + zs.length ≤ sizeLine ∧ ∀ p, H p = none → Q (.ref p) (upd H p (.lst (xs ++ zs)))
theorem op_catL : OpR X (binaryOp .Add) rCatL := by
  intro pn s σ H x y v u Q I rx ry h
  obtain ⟨l, b, xs, zs, rfl, rfl, h1, h2, hz, q⟩ := h
  cases rx
  cases ry
  obtain ⟨_, i1, n1, r1, l1, e1⟩ := lst_at I h1
  obtain ⟨_, i2, n2, r2, l2, e2⟩ := lst_at I h2
  refine PySem.P.add_list e1 e2 ?_ (by simp only [List.size_toArray]; omega)
  rw [show i1.toArray ++ i2.toArray = (i1 ++ i2).toArray by simp]
  refine ⟨.ref _, _, I.lnew (t' := s.toks) (r1.append r2) (by rw [List.length_append]; omega), rfl, q _ I.fresh⟩
theorem oo_add : OpR X (binaryOp .Add) (r2 X.K .fre addD) :=
  opr_mono (op_add.or (op_add_str.or (op_catA.or op_catL))) fun x y H Q ⟨N, da, db, d, dom, rx, ry, e, q⟩ => by
    cases da <;> cases db <;> first | (exact nomatch (show none = some d from e)) | skip
    · cases e
      exact .inl ⟨_, _, rx.int, ry.int, q _ H (Same.refl H) (.int _)⟩
    · obtain ⟨c, rfl⟩ := if_some (show (if _ then some _ else none) = some d from e)
      exact .inr (.inl ⟨_, _, rx.str, ry.str, c, q _ H (Same.refl H) (.str _ (strOk_append rx.strOk ry.strOk))⟩)
    · obtain ⟨c, rfl⟩ := if_some (show (if _ then some _ else none) = some d from e)
      obtain ⟨a, xs, rfl, h1, h2⟩ := rx.list
      obtain ⟨b, ys, rfl, h3, h4⟩ := ry.list
      refine .inr (.inr (.inr ⟨a, b, xs, ys, rfl, rfl, h1, h3, by rw [h2.length, h4.length]; exact c, fun p hn => q _ _ (same_new hn) ?_⟩))
      exact ⟨p, _, rfl, hn, upd_same, (h2.append h4).new hn⟩
    · obtain ⟨c, rfl⟩ := if_some (show (if _ then some _ else none) = some d from e)
      obtain ⟨a, xs, rfl, h1, h2⟩ := rx.tuple
      obtain ⟨b, ys, rfl, h3, h4⟩ := ry.tuple
      refine .inr (.inr (.inl ⟨a, b, xs, ys, rfl, rfl, h1, h3, by rw [h2.length, h4.length]; exact c, fun z => q _ H (Same.refl H) ?_, fun _ z => q _ H (Same.refl H) ?_, fun _ _ p hn => q _ _ (same_new hn) (.tup (SqT.of upd_same) ((h2.append h4).fwd (.of_same (same_new hn))))⟩))
      · subst z
        cases h2
        exact .tup h3 h4
      · subst z
        cases h4
        rw [List.append_nil]
        exact .tup h1 h2
theorem oo_mul : OpR X (binaryOp .Mult) (r2 X.K .fre mulD) := o_int op_mul fun a b d e => by
  cases a <;> cases b <;> first | (obtain ⟨c, rfl⟩ := if_some (show (if _ then some _ else none) = some d from e); refine ⟨_, _, rfl, rfl, ?_, .inl ⟨_, rfl, rfl⟩⟩; unfold cMulB at c; simp only [Bool.or_eq_true, Bool.and_eq_true, decide_eq_true_eq] at c; exact c) | cases e

/-! comparisons -/
mutual
/-- data without dicts -/
def noDict : D → Bool
  | .dict _ => false
  | .list ds => noDicts ds
  | .tuple ds => noDicts ds
  | _ => true
def noDicts : List D → Bool
  | [] => true
  | d :: ds => noDict d && noDicts ds
end
mutual
theorem Rp.dp {K : PySem.W.Frag} {H : Hp} {N : Addr → Prop} : ∀ {v : V} {d : D}, Rp K H N v d → noDict d = true → Dp K H v d
  | _, _, .non, _ => .non
  | _, _, .bl b, _ => .bl b
  | _, _, .int i, _ => .int i
  | _, _, .str x _, _ => .str x
  | _, _, .tup h r, n => .tup h (RpAll.dp r (by simpa [noDict] using n))
  | _, _, .lst h _ r, n => .lst (.inl h) (RpAll.dp r (by simpa [noDict] using n))
  | _, _, .dct _ _ _, n => by simp [noDict] at n
theorem RpAll.dp {K : PySem.W.Frag} {H : Hp} {N : Addr → Prop} : ∀ {v : List V} {d : List D}, RpAll K H N v d → noDicts d = true → DpAll K H v d
  | _, _, .nil, _ => .nil
  | _, _, .cons h r, n => by
    have n' := Bool.and_eq_true_iff.mp (show (noDict _ && noDicts _) = true from n)
    exact .cons (Rp.dp h n'.1) (RpAll.dp r n'.2)
end
mutual
theorem Rp.lay {K : PySem.W.Frag} {H : Hp} {N : Addr → Prop} : ∀ {v : V} {d : D}, Rp K H N v d → noDict d = true → d.canLay0 = true
  | _, _, .non, _ => by simp [PyData.canLay0]
  | _, _, .bl b, _ => by simp [PyData.canLay0]
  | _, _, .int i, _ => by simp [PyData.canLay0]
  | _, _, .str x h, _ => by simpa [PyData.canLay0] using h
  | _, _, .tup h r, n => by
    have := RpAll.lay r (by simpa [noDict] using n)
    simpa [PyData.canLay0] using this
  | _, _, .lst h _ r, n => by
    have := RpAll.lay r (by simpa [noDict] using n)
    simpa [PyData.canLay0] using this
  | _, _, .dct _ _ _, n => by simp [noDict] at n
theorem RpAll.lay {K : PySem.W.Frag} {H : Hp} {N : Addr → Prop} : ∀ {v : List V} {d : List D}, RpAll K H N v d → noDicts d = true → PyData.canLayAll0 d = true
  | _, _, .nil, _ => by simp [PyData.canLayAll0]
  | _, _, .cons h r, n => by
    have n' := Bool.and_eq_true_iff.mp (show (noDict _ && noDicts _) = true from n)
    rw [PyData.canLayAll0, Bool.and_eq_true]
    exact ⟨Rp.lay h n'.1, RpAll.lay r n'.2⟩
end
theorem RpC.lay {K : PySem.W.Frag} {H : Hp} {N : Addr → Prop} {v : V} {d : D} (r : RpC K H N v d) (n : noDict d = true) : d.canLay0 = true := by
  cases r with
  | of h => exact h.lay n
  | lst h r =>
    have := r.lay (by simpa [noDict] using n)
    simpa [PyData.canLay0] using this
  | dct _ _ => simp [noDict] at n
theorem RpC.dp {K : PySem.W.Frag} {H : Hp} {N : Addr → Prop} {v : V} {d : D} (r : RpC K H N v d) (n : noDict d = true) : Dp K H v d := by
  cases r with
  | of h => exact h.dp n
  | lst h r => exact .lst (.inl h) (r.dp (by simpa [noDict] using n))
  | dct _ _ => simp [noDict] at n
end
end PV
namespace PV
open PySem PySem.Spec PyProof.Rows L2

/-! == and in, of data at any depth -/
def eqOk (a b : D) : Bool := noDict a && noDict b && decide (min a.depth b.depth ≤ 64)
def eqD (a b : D) : Option D := if eqOk a b = true then some (.bool (PyData.eqv a b)) else none
def neD (a b : D) : Option D := if eqOk a b = true then some (.bool (!PyData.eqv a b)) else none
def lookD (es : List (D × D)) (k : D) : Option D := (es.find? fun e => PyData.eqv e.1 k).map (·.2)
def isKey : D → Bool
  | .int _ => true
  | .str _ => true
  | _ => false
def subS (y z : Str) : Bool := !(Builtin.Str.occurrences z y 0 z.length 1).isEmpty
def inB (x c : D) : Option Bool := match c with
  | .list ds => if (noDict x && noDicts ds && decide (min (PyData.depthAll ds) x.depth ≤ 60)) = true then some (ds.any fun z => PyData.eqv z x) else none
  | .tuple ds => if (noDict x && noDicts ds && decide (min (PyData.depthAll ds) x.depth ≤ 60)) = true then some (ds.any fun z => PyData.eqv z x) else none
  | .str z => match x with
    | .str y => some (subS y z)
    | _ => none
  | .dict es => if isKey x = true then some (lookD es x).isSome else none
  | _ => none
def inD (x c : D) : Option D := (inB x c).map fun k => .bool k
def ninD (x c : D) : Option D := (inB x c).map fun k => .bool (!k)

section
variable {X : Cx}
theorem oo_eq (hu : X.A.units + 64 < cLine) : OpR X (compareOp .Eq) (r2 X.K .fre eqD) := by
  intro pn s σ H x y v u Q I rx ry h
  obtain ⟨N, da, db, d, dom, cx, cy, e, q⟩ := h
  obtain ⟨c, rfl⟩ := if_some (show (if _ then some _ else none) = some d from e)
  unfold eqOk at c
  simp only [Bool.and_eq_true, decide_eq_true_eq] at c
  obtain ⟨as, g1⟩ := Dp.reads I da x v (cx.dp c.1.1) rx
  obtain ⟨bs, g2⟩ := Dp.reads I db y u (cy.dp c.1.2) ry
  exact SeqAt.compareEq_reads g1 g2 (cx.lay c.1.1) (cy.lay c.1.2) (by omega) ⟨.bl _, H, I, rfl, q _ H (Same.refl H) (.bl _)⟩
theorem oo_ne (hu : X.A.units + 64 < cLine) : OpR X (compareOp .NotEq) (r2 X.K .fre neD) := by
  intro pn s σ H x y v u Q I rx ry h
  obtain ⟨N, da, db, d, dom, cx, cy, e, q⟩ := h
  obtain ⟨c, rfl⟩ := if_some (show (if _ then some _ else none) = some d from e)
  unfold eqOk at c
  simp only [Bool.and_eq_true, decide_eq_true_eq] at c
  obtain ⟨as, g1⟩ := Dp.reads I da x v (cx.dp c.1.1) rx
  obtain ⟨bs, g2⟩ := Dp.reads I db y u (cy.dp c.1.2) ry
  exact SeqAt.compareNe_reads g1 g2 (cx.lay c.1.1) (cy.lay c.1.2) (by omega) ⟨.bl _, H, I, rfl, q _ H (Same.refl H) (.bl _)⟩
/-- what a dict with these entries holds -/
theorem eqv_key (a b : Key) : PyData.eqv (keyD a) (keyD b) = decide (a = b) := by
  cases a with
  | inl i =>
    cases b with
    | inl j =>
      show (i == j) = _
      by_cases h : i = j
      · subst h; simp
      · rw [decide_eq_false fun z => h (Sum.inl.inj z)]; simpa using h
    | inr y =>
      show PyData.eqv (.int i) (.str y) = _
      rw [decide_eq_false (by intro z; cases z)]; simp [PyData.eqv]
  | inr x =>
    cases b with
    | inl j =>
      show PyData.eqv (.str x) (.int j) = _
      rw [decide_eq_false (by intro z; cases z)]; simp [PyData.eqv]
    | inr y =>
      show PyData.eqv (.str x) (.str y) = _
      rw [PyData.eqv]
      by_cases h : x = y
      · subst h; simp
      · rw [decide_eq_false fun z => h (Sum.inr.inj z)]; simpa using h
theorem look_rel {K : PySem.W.Frag} {H : Hp} {N : Addr → Prop} (k : Key) : ∀ {kvs : List (Key × V)} {es : List (D × D)}, RpKV K H N kvs es → (valV kvs k = none ∧ lookD es (keyD k) = none) ∨ ∃ v d, valV kvs k = some v ∧ lookD es (keyD k) = some d ∧ Rp K H N v d
  | _, _, .nil => .inl ⟨rfl, rfl⟩
  | _, _, .cons (k := k1) (v := v) (kvs := kvs) (d := d) (es := es) h r => by
    by_cases e : k1 = k
    · subst e
      refine .inr ⟨v, d, valV_pos (p := (k1, v)) rfl, ?_, h⟩
      unfold lookD
      rw [List.find?_cons_of_pos (by rw [eqv_key]; simp)]
      rfl
    · have e2 : lookD ((keyD k1, d) :: es) (keyD k) = lookD es (keyD k) := by
        unfold lookD
        rw [List.find?_cons_of_neg (by rw [eqv_key]; simpa using e)]
      rw [valV_neg (p := (k1, v)) e, e2]
      exact look_rel k r
theorem key_of_D {K : PySem.W.Frag} {H : Hp} {N : Addr → Prop} {x : V} {d : D} (r : RpC K H N x d) (h : isKey d = true) : ∃ k : Key, d = keyD k ∧ x = kV k := by
  cases d with
  | int i => exact ⟨.inl i, rfl, r.int⟩
  | str s => exact ⟨.inr s, rfl, r.str⟩
  | _ => cases h
theorem in_any (hu : X.A.units + 64 < cLine) (hu1 : X.A.units + 1 < cLine) {pn : List (Addr × Obj)} {s : Shared} {σ : L2.St} {H : Hp} {x y : V} {v u : Value} {Q : Value → Shared → Prop} {N : Addr → Prop} {da db : D} {k : Bool} (I : Inv X pn σ H s) (rx : RelV x v) (ry : RelV y u)
    (cx : RpC X.K H N x da) (cy : RpC X.K H N y db) (e : inB da db = some k) (q : ∀ s', Inv X pn σ H s' → Q (.bool k) s') : wpAny (model X.prog X.w) X.A (compareOp .In v u) Q X.xe s := by
  cases db with
  | list ds =>
    obtain ⟨c, rfl⟩ := if_some (show (if _ then some _ else none) = some k from e)
    simp only [Bool.and_eq_true, decide_eq_true_eq] at c
    have nd : noDict (.list ds) = true := c.1.2
    obtain ⟨as, g1⟩ := Dp.reads I da x v (cx.dp c.1.1) rx
    obtain ⟨bs, g2⟩ := Dp.reads I (.list ds) y u (cy.dp nd) ry
    exact SeqAt.in_list_reads g2 g1 (by simpa [PyData.canLay0] using cy.lay nd) (cx.lay c.1.1) (by omega) (q _ I)
  | tuple ds =>
    obtain ⟨c, rfl⟩ := if_some (show (if _ then some _ else none) = some k from e)
    simp only [Bool.and_eq_true, decide_eq_true_eq] at c
    have nd : noDict (.tuple ds) = true := c.1.2
    obtain ⟨as, g1⟩ := Dp.reads I da x v (cx.dp c.1.1) rx
    obtain ⟨bs, g2⟩ := Dp.reads I (.tuple ds) y u (cy.dp nd) ry
    exact SeqAt.in_tuple_reads g2 g1 (by simpa [PyData.canLay0] using cy.lay nd) (cx.lay c.1.1) (by omega) (q _ I)
  | str z =>
    cases da with
    | str w =>
      cases e
      have e1 := cx.str
      have e2 := cy.str
      subst e1 e2
      obtain ⟨t, rfl⟩ := rx
      obtain ⟨t', rfl⟩ := ry
      exact PyProof.Rows.in_str (q _ I)
    | _ => exact nomatch (show none = some k from e)
  | dict es =>
    obtain ⟨c, rfl⟩ := if_some (show (if _ then some _ else none) = some k from e)
    obtain ⟨k1, rfl, rfl⟩ := key_of_D cx c
    obtain ⟨a, kvs, rfl, h1, h2⟩ := cy.dict
    cases ry
    have eo : (lookD es (keyD k1)).isSome = (valV kvs k1).isSome := by
      rcases look_rel k1 h2 with ⟨g1, g2⟩ | ⟨_, _, g1, g2, _⟩ <;> rw [g1, g2] <;> rfl
    rw [eo] at q
    exact d_in hu1 I (.k h1) rx q
  | _ => exact nomatch (show none = some k from e)
theorem notIn_any (hu : X.A.units + 64 < cLine) (hu1 : X.A.units + 1 < cLine) {pn : List (Addr × Obj)} {s : Shared} {σ : L2.St} {H : Hp} {x y : V} {v u : Value} {Q : Value → Shared → Prop} {N : Addr → Prop} {da db : D} {k : Bool} (I : Inv X pn σ H s) (rx : RelV x v) (ry : RelV y u)
    (cx : RpC X.K H N x da) (cy : RpC X.K H N y db) (e : inB da db = some k) (q : ∀ s', Inv X pn σ H s' → Q (.bool (!k)) s') : wpAny (model X.prog X.w) X.A (compareOp .NotIn v u) Q X.xe s := by
  cases db with
  | list ds =>
    obtain ⟨c, rfl⟩ := if_some (show (if _ then some _ else none) = some k from e)
    simp only [Bool.and_eq_true, decide_eq_true_eq] at c
    have nd : noDict (.list ds) = true := c.1.2
    obtain ⟨as, g1⟩ := Dp.reads I da x v (cx.dp c.1.1) rx
    obtain ⟨bs, g2⟩ := Dp.reads I (.list ds) y u (cy.dp nd) ry
    exact SeqAt.notIn_list_reads g2 g1 (by simpa [PyData.canLay0] using cy.lay nd) (cx.lay c.1.1) (by omega) (q _ I)
  | tuple ds =>
    obtain ⟨c, rfl⟩ := if_some (show (if _ then some _ else none) = some k from e)
    simp only [Bool.and_eq_true, decide_eq_true_eq] at c
    have nd : noDict (.tuple ds) = true := c.1.2
    obtain ⟨as, g1⟩ := Dp.reads I da x v (cx.dp c.1.1) rx
    obtain ⟨bs, g2⟩ := Dp.reads I (.tuple ds) y u (cy.dp nd) ry
    exact SeqAt.notIn_tuple_reads g2 g1 (by simpa [PyData.canLay0] using cy.lay nd) (cx.lay c.1.1) (by omega) (q _ I)
  | str z =>
    cases da with
    | str w =>
      cases e
      have e1 := cx.str
      have e2 := cy.str
      subst e1 e2
      obtain ⟨t, rfl⟩ := rx
      obtain ⟨t', rfl⟩ := ry
      exact PyProof.Rows.notIn_str (q _ I)
    | _ => exact nomatch (show none = some k from e)
  | dict es =>
    obtain ⟨c, rfl⟩ := if_some (show (if _ then some _ else none) = some k from e)
    obtain ⟨k1, rfl, rfl⟩ := key_of_D cx c
    obtain ⟨a, kvs, rfl, h1, h2⟩ := cy.dict
    cases ry
    have eo : (lookD es (keyD k1)).isSome = (valV kvs k1).isSome := by
      rcases look_rel k1 h2 with ⟨g1, g2⟩ | ⟨_, _, g1, g2, _⟩ <;> rw [g1, g2] <;> rfl
    rw [eo] at q
    exact d_notIn hu1 I (.k h1) rx q
  | _ => exact nomatch (show none = some k from e)
theorem oo_in (hu : X.A.units + 64 < cLine) : OpR X (compareOp .In) (r2 X.K .fre inD) := by
  intro pn s σ H x y v u Q I rx ry ⟨N, da, db, d, dom, cx, cy, e, q⟩
  unfold inD at e
  cases ek : inB da db with
  | none => rw [ek] at e; cases e
  | some k =>
    rw [ek] at e
    cases e
    exact in_any hu (by omega) I rx ry cx cy ek fun s' I' => ⟨.bl k, H, I', rfl, q _ H (Same.refl H) (.bl _)⟩
theorem oo_nin (hu : X.A.units + 64 < cLine) : OpR X (compareOp .NotIn) (r2 X.K .fre ninD) := by
  intro pn s σ H x y v u Q I rx ry ⟨N, da, db, d, dom, cx, cy, e, q⟩
  unfold ninD at e
  cases ek : inB da db with
  | none => rw [ek] at e; cases e
  | some k =>
    rw [ek] at e
    cases e
    exact notIn_any hu (by omega) I rx ry cx cy ek fun s' I' => ⟨.bl (!k), H, I', rfl, q _ H (Same.refl H) (.bl _)⟩

/-! is -/
def isNone : D → Bool
  | .none => true
  | _ => false
def isD (a b : D) : Option D := match b with
  | .none => some (.bool (isNone a))
  | .bool y => match a with
    | .bool x => some (.bool (decide (x = y)))
    | _ => none
  | _ => none
def notD (a b : D) : Option D := match b with
  | .none => some (.bool (!isNone a))
  | .bool y => match a with
    | .bool x => some (.bool (!decide (x = y)))
    | _ => none
  | _ => none
theorem non_iff {K : PySem.W.Frag} {H : Hp} {N : Addr → Prop} {v : V} {d : D} (r : RpC K H N v d) : decide (v = .non) = isNone d := by
  cases d with
  | none => rw [r.none]; rfl
  | bool _ => rw [r.bool]; rfl
  | int _ => rw [r.int]; rfl
  | str _ => rw [r.str]; rfl
  | list _ => obtain ⟨a, _, rfl, _⟩ := r.list; rfl
  | tuple _ => obtain ⟨a, _, rfl, _⟩ := r.tuple; rfl
  | dict _ => obtain ⟨a, _, rfl, _⟩ := r.dict; rfl
theorem oo_is : OpR X (compareOp .Is) (r2 X.K .fre isD) := opr_mono (op_isN.or op_isBl) fun x y H Q ⟨N, da, db, d, dom, cx, cy, e, q⟩ => by
  cases db with
  | none =>
    cases e
    refine .inl ⟨cy.none, ?_⟩
    rw [non_iff cx]
    exact q _ H (Same.refl H) (.bl _)
  | bool k =>
    cases da with
    | bool j =>
      cases e
      exact .inr ⟨j, k, cx.bool, cy.bool, q _ H (Same.refl H) (.bl _)⟩
    | _ => exact nomatch (show none = some d from e)
  | _ => exact nomatch (show none = some d from e)
theorem oo_isnot : OpR X (compareOp .IsNot) (r2 X.K .fre notD) := opr_mono (op_notN.or op_notBl) fun x y H Q ⟨N, da, db, d, dom, cx, cy, e, q⟩ => by
  cases db with
  | none =>
    cases e
    refine .inl ⟨cy.none, ?_⟩
    rw [non_iff cx]
    exact q _ H (Same.refl H) (.bl _)
  | bool k =>
    cases da with
    | bool j =>
      cases e
      exact .inr ⟨j, k, cx.bool, cy.bool, q _ H (Same.refl H) (.bl _)⟩
    | _ => exact nomatch (show none = some d from e)
  | _ => exact nomatch (show none = some d from e)

/-! order -/
def ltD : D → D → Option D
  | .int i, .int j => some (.bool (decide (i < j)))
  | .str a, .str b => some (.bool (decide (a.cps.toList < b.cps.toList)))
  | .tuple a, .tuple b => if (noDicts a && noDicts b && PySem.W.alikeAll a b && decide (min (PyData.depthAll a) (PyData.depthAll b) ≤ 60)) = true then some (.bool (PySem.W.dataLt (.tuple a) (.tuple b))) else none
  | _, _ => none
def leD : D → D → Option D
  | .int i, .int j => some (.bool (decide (i ≤ j)))
  | .str a, .str b => some (.bool (!decide (b.cps.toList < a.cps.toList)))
  | _, _ => none
def gtD : D → D → Option D
  | .int i, .int j => some (.bool (decide (j < i)))
  | .str a, .str b => some (.bool (decide (b.cps.toList < a.cps.toList)))
  | _, _ => none
def geD : D → D → Option D
  | .int i, .int j => some (.bool (decide (j ≤ i)))
  | .str a, .str b => some (.bool (!decide (a.cps.toList < b.cps.toList)))
  | _, _ => none
theorem oo_ltT (hu : X.A.units + 64 < cLine) : OpR X (compareOp .Lt) (fun x y H Q => ∃ N a b, RpC X.K H N x (.tuple a) ∧ RpC X.K H N y (.tuple b) ∧ (noDicts a && noDicts b && PySem.W.alikeAll a b && decide (min (PyData.depthAll a) (PyData.depthAll b) ≤ 60)) = true ∧ Q (.bl (PySem.W.dataLt (.tuple a) (.tuple b))) H) := by
  intro pn s σ H x y v u Q I rx ry ⟨N, a, b, cx, cy, c, q⟩
  simp only [Bool.and_eq_true, decide_eq_true_eq] at c
  obtain ⟨as, g1⟩ := Dp.reads I (.tuple a) x v (cx.dp c.1.1.1) rx
  obtain ⟨bs, g2⟩ := Dp.reads I (.tuple b) y u (cy.dp c.1.1.2) ry
  exact (PySem.W.rcLt_alike (.tuple a) (.tuple b) X.A s v u as bs g1 g2 (by simpa [PySem.W.alike] using c.1.2) (by intro z; cases z) (by simp only [PyData.depth]; omega)) _ _ _ _ ⟨.bl _, H, I, rfl, q⟩
theorem oo_lt (hu : X.A.units + 64 < cLine) : OpR X (compareOp .Lt) (r2 X.K .fre ltD) := opr_mono (op_lt.or (op_lt_str.or (oo_ltT hu))) fun x y H Q ⟨N, da, db, d, dom, cx, cy, e, q⟩ => by
  cases da <;> cases db <;> first | (exact nomatch (show none = some d from e)) | skip
  · cases e
    exact .inl ⟨_, _, cx.int, cy.int, q _ H (Same.refl H) (.bl _)⟩
  · cases e
    exact .inr (.inl ⟨_, _, cx.str, cy.str, q _ H (Same.refl H) (.bl _)⟩)
  · obtain ⟨c, rfl⟩ := if_some (show (if _ then some _ else none) = some d from e)
    exact .inr (.inr ⟨N, _, _, cx, cy, c, q _ H (Same.refl H) (.bl _)⟩)
theorem oo_le : OpR X (compareOp .LtE) (r2 X.K .fre leD) := opr_mono (op_le.or op_le_str) fun x y H Q ⟨N, da, db, d, dom, cx, cy, e, q⟩ => by
  cases da <;> cases db <;> first | (exact nomatch (show none = some d from e)) | skip
  · cases e
    exact .inl ⟨_, _, cx.int, cy.int, q _ H (Same.refl H) (.bl _)⟩
  · cases e
    exact .inr ⟨_, _, cx.str, cy.str, q _ H (Same.refl H) (.bl _)⟩
theorem oo_gt : OpR X (compareOp .Gt) (r2 X.K .fre gtD) := opr_mono (op_gt.or op_gt_str) fun x y H Q ⟨N, da, db, d, dom, cx, cy, e, q⟩ => by
  cases da <;> cases db <;> first | (exact nomatch (show none = some d from e)) | skip
  · cases e
    exact .inl ⟨_, _, cx.int, cy.int, q _ H (Same.refl H) (.bl _)⟩
  · cases e
    exact .inr ⟨_, _, cx.str, cy.str, q _ H (Same.refl H) (.bl _)⟩
theorem oo_ge : OpR X (compareOp .GtE) (r2 X.K .fre geD) := opr_mono (op_ge.or op_ge_str) fun x y H Q ⟨N, da, db, d, dom, cx, cy, e, q⟩ => by
  cases da <;> cases db <;> first | (exact nomatch (show none = some d from e)) | skip
  · cases e
    exact .inl ⟨_, _, cx.int, cy.int, q _ H (Same.refl H) (.bl _)⟩
  · cases e
    exact .inr ⟨_, _, cx.str, cy.str, q _ H (Same.refl H) (.bl _)⟩
end
end PV
namespace PV
open PySem PySem.Spec PyProof.Rows L2

/-! subscripts -/
def sgn (c : Nat) : Str := ⟨#[c]⟩
def ixD (d i : D) : Option D := match d with
  | .list ds => match i with
    | .int k => atI ds k
    | _ => none
  | .tuple ds => match i with
    | .int k => atI ds k
    | _ => none
  | .str z => match i with
    | .int k => if z.length ≤ sizeLine then (atI z.cps.toList k).map fun c => .str (sgn c) else none
    | _ => none
  | .dict es => if isKey i = true then lookD es i else none
  | _ => none
theorem ixN_lt {n : Nat} {i : Int} {j : Nat} (h : ixN n i = some j) : j < n := (ixN_seq h).2.1
theorem atI_rp {K : PySem.W.Frag} {H : Hp} {N : Addr → Prop} {xs : List V} {ds : List D} {i : Int} {d : D} (r : RpAll K H N xs ds) (h : atI ds i = some d) : ∃ v, atI xs i = some v ∧ Rp K H N v d := by
  unfold atI at h ⊢
  rw [r.length]
  cases e : ixN ds.length i with
  | none => rw [e] at h; cases h
  | some j =>
    rw [e] at h
    exact r.get h
section
variable {X : Cx}
theorem ix_dict (hu : X.A.units + 1 < cLine) : IxR X (fun x y H Q => ∃ a v, x = .ref a ∧ DGet H a y (some v) ∧ Q v H) := by
  intro value slice pn s σ H x y v u Q I rx ry ⟨a, r, e, g, q⟩ hs
  subst e
  obtain rfl : v = Value.ref a := rx
  exact tail_any (dict_typeIs I g) PySem.F.slot_dict_getitem.lookup (d_getItem hu I g ry fun w' s3 I3 rw' => ⟨r, H, I3, rw', q⟩) hs
theorem oi_ix (hu : X.A.units + 1 < cLine) : IxR X (r2 X.K .saf ixD) := ixr_mono (ix_list.or (ix_tup.or (ix_str.or (ix_dict hu)))) fun x y H Q ⟨N, da, db, d, dom, cx, cy, e, q⟩ => by
  cases da with
  | list ds =>
    cases db with
    | int i =>
      obtain ⟨a, xs, rfl, h1, h2⟩ := cx.list
      obtain ⟨v, e1, e2⟩ := atI_rp h2 (show atI ds i = some d from e)
      exact .inl ⟨a, xs, i, v, rfl, cy.int, .inl h1, e1, q v H (Same.refl H) e2⟩
    | _ => exact nomatch (show none = some d from e)
  | tuple ds =>
    cases db with
    | int i =>
      obtain ⟨a, xs, rfl, h1, h2⟩ := cx.tuple
      obtain ⟨v, e1, e2⟩ := atI_rp h2 (show atI ds i = some d from e)
      exact .inr (.inl ⟨a, xs, i, v, rfl, cy.int, h1, e1, q v H (Same.refl H) e2⟩)
    | _ => exact nomatch (show none = some d from e)
  | str z =>
    cases db with
    | int i =>
      have e' : (if z.length ≤ sizeLine then (atI z.cps.toList i).map fun c => PyData.str (sgn c) else none) = some d := e
      by_cases hz : z.length ≤ sizeLine
      · rw [if_pos hz] at e'
        cases ec : atI z.cps.toList i with
        | none => rw [ec] at e'; cases e'
        | some c =>
          rw [ec] at e'
          cases e'
          have hc : PyData.strOk (sgn c) = true := by
            rw [strOk_iff]
            intro c' hm
            have e1 : c' = c := by simpa [sgn] using hm
            subst e1
            obtain ⟨j, _, h2, _⟩ := atI_get ec
            exact strOk_iff.mp cx.strOk c' (List.mem_of_getElem? h2)
          exact .inr (.inr (.inl ⟨z, i, c, cx.str, cy.int, hz, ec, q _ H (Same.refl H) (.str _ hc)⟩))
      · rw [if_neg hz] at e'; cases e'
    | _ => exact nomatch (show none = some d from e)
  | dict es =>
    have e' : (if isKey db = true then lookD es db else none) = some d := e
    by_cases hk : isKey db = true
    · rw [if_pos hk] at e'
      obtain ⟨k, rfl, rfl⟩ := key_of_D cy hk
      obtain ⟨a, kvs, rfl, h1, h2⟩ := cx.dict
      rcases look_rel k h2 with ⟨_, g2⟩ | ⟨v, d', g1, g2, g3⟩
      · rw [g2] at e'; cases e'
      · rw [g2] at e'
        cases e'
        exact .inr (.inr (.inr ⟨a, v, rfl, by rw [← g1]; exact .k h1, q v H (Same.refl H) g3⟩))
    · rw [if_neg hk] at e'; cases e'
  | _ => exact nomatch (show none = some d from e)

/-! slices -/
def cutD (ds : List D) (lo hi : Option Int) : List D := (ds.drop (HT.sIx ds.length 0 lo)).take (HT.sIx ds.length ds.length hi - HT.sIx ds.length 0 lo)
def slD : D → Option Int → Option Int → Option D
  | .list ds, lo, hi => some (.list (cutD ds lo hi))
  | .tuple ds, lo, hi => some (.tuple (cutD ds lo hi))
  | .str z, lo, hi => if z.length ≤ sizeLine then some (.str (cutS z lo hi)) else none
  | _, _, _ => none
theorem cut_rp {K : PySem.W.Frag} {H : Hp} {N : Addr → Prop} {xs : List V} {ds : List D} {lo hi : Option Int} (r : RpAll K H N xs ds) : RpAll K H N (cutV xs lo hi) (cutD ds lo hi) := by
  unfold cutV cutD
  rw [r.length]
  exact (r.drop _).take _
theorem cutS_mem {z : Str} {lo hi : Option Int} {c : Nat} (h : c ∈ (cutS z lo hi).cps.toList) : c ∈ z.cps.toList := by
  unfold cutS at h
  have h' : c ∈ (z.cps.toList.drop (HT.sIx z.length 0 lo)).take (HT.sIx z.length z.length hi - HT.sIx z.length 0 lo) := by simpa using h
  exact List.mem_of_mem_drop (List.mem_of_mem_take h')
theorem os_sl : SlR X (rSl3 X.K .fre slD) := slr_mono (sl_list.or (sl_tupA.or sl_str)) fun x lo hi H Q ⟨N, da, d, dom, cx, e, q⟩ => by
  cases da with
  | list ds =>
    obtain ⟨a, xs, rfl, h1, h2⟩ := cx.list
    cases e
    exact .inl ⟨a, xs, rfl, .inl h1, fun p hn => q _ _ (same_new hn) ⟨p, _, rfl, hn, upd_same, (cut_rp h2).new hn⟩⟩
  | tuple ds =>
    obtain ⟨a, xs, rfl, h1, h2⟩ := cx.tuple
    cases e
    refine .inr (.inl ⟨a, xs, rfl, h1, fun hw => q _ _ (Same.refl H) ?_, fun _ p hn => q _ _ (same_new hn) (.tup (SqT.of upd_same) ((cut_rp h2).fwd (.of_same (same_new hn))))⟩)
    have ec : cutD ds lo hi = ds := by
      unfold cutD
      rw [← h2.length, hw.1, hw.2]
      simp [h2.length]
    rw [ec]
    exact .tup h1 h2
  | str z =>
    obtain ⟨c, rfl⟩ := if_some (show (if _ then some _ else none) = some d from e)
    exact .inr (.inr ⟨z, cx.str, c, q _ H (Same.refl H) (.str _ (strOk_iff.mpr fun c hc => strOk_iff.mp cx.strOk c (cutS_mem hc)))⟩)
  | _ => exact nomatch (show none = some d from e)
end
end PV
namespace PV
open PySem PySem.Spec PyProof.Rows L2

section
variable {K : PySem.W.Frag} {G : Amb} {σ : L2.St} {H : Hp} {env : EnvD}
/-- a thing of one's own is changed in place -/
theorem StR.mut (S : StR K G σ H env) {k : Nat} {a : Addr} {d d' : D} {o o' : HO} (hk : env[k]? = some (PV.Cell.own d)) (hs : σ[k]? = some (some (V.ref a))) (ho : H a = some o) (mo : Mu o) (mo' : Mu o')
    (r : Root K (upd H a o') (G.R σ env) a d') : Stp K G σ H env σ (upd H a o') (env.set k (.own d')) := by
  have hl := lt_of_some hk
  have ra : rts σ env a := ⟨k, d, hk, hs⟩
  have own_ : ∀ {j : Nat} {c : D}, (env.set k (.own d'))[j]? = some (PV.Cell.own c) → ∃ c', env[j]? = some (PV.Cell.own c') := fun {j c} h => by
    by_cases hj : k = j
    · subst hj; exact ⟨d, hk⟩
    · rw [List.getElem?_set_ne hj] at h; exact ⟨c, h⟩
  have rr : ∀ b, rts σ (env.set k (.own d')) b ↔ rts σ env b := fun b => by
    constructor
    · rintro ⟨j, c, h1, h2⟩
      obtain ⟨c', h3⟩ := own_ h1
      exact ⟨j, c', h3, h2⟩
    · rintro ⟨j, c, h1, h2⟩
      by_cases hj : k = j
      · subst hj
        exact ⟨k, d', List.getElem?_set_self hl, h2⟩
      · exact ⟨j, c, by rw [List.getElem?_set_ne hj]; exact h1, h2⟩
  have keep : Keep (rts σ env) H (upd H a o') := fun b u e => by
    by_cases hb : b = a
    · subst hb
      rw [ho] at e
      cases e
      exact .inr ⟨ra, mo, o', upd_same, mo'⟩
    · exact .inl (by rw [upd_ne hb]; exact e)
  have fw : Fwd K (G.R σ env) (G.R σ (env.set k (.own d'))) H (upd H a o') := .of_keep (keep.mono fun _ z => .inr z) fun b z => z.imp id (rr b).mp
  obtain ⟨a0, e0, _, oo, nz⟩ := S.own k d hk
  rw [hs] at e0
  cases e0
  refine ⟨⟨by rw [List.length_set]; exact S.len, ?_, fun j c h => ?_, fun j c h => ?_, fun i j c c2 b h1 h2 h3 h4 => ?_, fun b z => ⟨keep.there (S.zd b z).1, (S.zd b z).2⟩, fun j hj => ?_⟩, keep, fun b z => .inl ((rr b).mp z)⟩
  · refine S.keep.trans (N' := fun b => b = a) (fun b u e => ?_) fun b hx hb => ?_
    · by_cases hb : b = a
      · subst hb
        rw [ho] at e
        cases e
        exact .inr ⟨rfl, mo, o', upd_same, mo'⟩
      · exact .inl (by rw [upd_ne hb]; exact e)
    · subst hb
      rcases oo with z | z
      · obtain ⟨u, w⟩ := hx
        rw [z] at w; cases w
      · exact z
  · have hj : k ≠ j := fun z => by
      subst z
      rw [List.getElem?_set_self hl] at h; cases h
    rw [List.getElem?_set_ne hj] at h
    obtain ⟨v, e1, e2⟩ := S.shr j c h
    exact ⟨v, e1, e2.fwd fw⟩
  · by_cases hj : k = j
    · subst hj
      rw [List.getElem?_set_self hl] at h
      cases h
      exact ⟨a, hs, r.same (Same.refl _) fun b z => z.imp id (rr b).mp, oo, nz⟩
    · rw [List.getElem?_set_ne hj] at h
      obtain ⟨b, e1, e2, e3⟩ := S.own j c h
      refine ⟨b, e1, e2.at fw (upd_ne fun z => ?_), e3⟩
      subst z
      exact hj (S.dis k j d c b hk h hs e1)
  · obtain ⟨c', g1⟩ := own_ h1
    obtain ⟨c'', g2⟩ := own_ h2
    exact S.dis i j c' c'' b g1 g2 h3 h4
  · obtain ⟨h1, c, h2⟩ := S.fix j hj
    refine ⟨h1, ?_⟩
    by_cases hjk : k = j
    · subst hjk
      exact ⟨d', List.getElem?_set_self hl⟩
    · exact ⟨c, by rw [List.getElem?_set_ne hjk]; exact h2⟩
theorem fwdM {a : Addr} {o o' : HO} {N : Addr → Prop} (hN : N a) (h : H a = some o) (m : Mu o) : Fwd K N N H (upd H a o') := by
  refine ⟨fun b u e n => ?_, fun b u e n => ?_, fun b z n => absurd z n⟩
  · rw [upd_ne fun z => n (by rw [z]; exact hN)]; exact e
  · rw [upd_ne fun z => ?_]; exact e
    subst z
    rw [h] at e
    cases e
    exact n m
end

/-! entries stored -/
def putE (es : List (D × D)) (k v : D) : List (D × D) := if (es.any fun e => PyData.eqv e.1 k) = true then es.map (fun e => if PyData.eqv e.1 k = true then (e.1, v) else e) else es ++ [(k, v)]
theorem RpKV.length {K : PySem.W.Frag} {H : Hp} {N : Addr → Prop} : ∀ {kvs : List (Key × V)} {es : List (D × D)}, RpKV K H N kvs es → kvs.length = es.length
  | _, _, .nil => rfl
  | _, _, .cons _ r => congrArg (· + 1) (RpKV.length r)
theorem RpKV.any {K : PySem.W.Frag} {H : Hp} {N : Addr → Prop} (k : Key) : ∀ {kvs : List (Key × V)} {es : List (D × D)}, RpKV K H N kvs es → (kvs.any fun kv => decide (kv.1 = k)) = es.any fun e => PyData.eqv e.1 (keyD k)
  | _, _, .nil => rfl
  | _, _, .cons _ r => by
    rw [List.any_cons, List.any_cons, RpKV.any k r, eqv_key]
theorem RpKV.snoc {K : PySem.W.Frag} {H : Hp} {N : Addr → Prop} {k : Key} {v : V} {d : D} (h : Rp K H N v d) : ∀ {kvs : List (Key × V)} {es : List (D × D)}, RpKV K H N kvs es → RpKV K H N (kvs ++ [(k, v)]) (es ++ [(keyD k, d)])
  | _, _, .nil => .cons h .nil
  | _, _, .cons q r => .cons q (RpKV.snoc h r)
theorem RpKV.repl {K : PySem.W.Frag} {H : Hp} {N : Addr → Prop} {k : Key} {v : V} {d : D} (h : Rp K H N v d) : ∀ {kvs : List (Key × V)} {es : List (D × D)}, RpKV K H N kvs es →
    RpKV K H N (kvs.map fun kv => if kv.1 = k then (kv.1, v) else kv) (es.map fun e => if PyData.eqv e.1 (keyD k) = true then (e.1, d) else e)
  | _, _, .nil => .nil
  | _, _, .cons (k := k1) (v := v1) (d := d1) q r => by
    rw [List.map_cons, List.map_cons]
    simp only [eqv_key, decide_eq_true_eq]
    by_cases e : k1 = k
    · rw [if_pos e, if_pos e]
      exact .cons h (RpKV.repl (k := k) h r)
    · rw [if_neg e, if_neg e]
      exact .cons q (RpKV.repl (k := k) h r)
theorem RpKV.put {K : PySem.W.Frag} {H : Hp} {N : Addr → Prop} {k : Key} {v : V} {d : D} {kvs : List (Key × V)} {es : List (D × D)} (r : RpKV K H N kvs es) (h : Rp K H N v d) : RpKV K H N (putK kvs k v) (putE es (keyD k) d) := by
  unfold putK putE
  rw [r.any k]
  by_cases c : (es.any fun e => PyData.eqv e.1 (keyD k)) = true
  · rw [if_pos c, if_pos c]
    exact r.repl h
  · rw [if_neg c, if_neg c]
    exact r.snoc h

/-- o[i] = v -/
def putD (o i v : D) : Option D := match o with
  | .list ds => match i with
    | .int k => (ixN ds.length k).map fun j => .list (ds.set j v)
    | _ => none
  | .dict es => if (isKey i && decide (es.length < sizeLine)) = true then some (.dict (putE es i v)) else none
  | _ => none
theorem PSet_or {X : Cx} {t t' : TSet} (h : PSet X t) (h' : PSet X t') : PSet X (fun o i v H Q => t o i v H Q ∨ t' o i v H Q) := fun pn s σ H o i v ov iv u Q I r1 r2 r3 q => by
  rcases q with q | q
  · exact h pn s σ H o i v ov iv u Q I r1 r2 r3 q
  · exact h' pn s σ H o i v ov iv u Q I r1 r2 r3 q
/-- the store, by data: the root a -/
theorem put_at {K : PySem.W.Frag} {H : Hp} {N : Addr → Prop} {a : Addr} {o i v d' : D} {iv vv : V} (hN : N a) (r : Root K H N a o) (hi : RpC K H N iv i) (hv : Rp K H N vv v) (e : putD o i v = some d') :
    ∃ ob ob', H a = some ob ∧ Mu ob ∧ Mu ob' ∧ Root K (upd H a ob') N a d' ∧ ∀ Q : Hp → Prop, Q (upd H a ob') → (rSetL (.ref a) iv vv H Q ∨ rSetD (.ref a) iv vv H Q) := by
  cases r with
  | lst h1 h2 =>
    rename_i xs ds
    cases i with
    | int k =>
      have e' : ((ixN ds.length k).map fun j => PyData.list (ds.set j v)) = some d' := e
      cases ej : ixN ds.length k with
      | none => rw [ej] at e'; cases e'
      | some j =>
        rw [ej] at e'
        cases e'
        refine ⟨.lst xs, .lst (xs.set j vv), h1, trivial, trivial, .lst upd_same ((RpAll.set hv j h2).fwd (fwdM hN h1 trivial)), fun Q q => .inl ⟨a, xs, k, j, rfl, hi.int, h1, by rw [h2.length]; exact ej, q⟩⟩
    | _ => exact nomatch (show none = some d' from e)
  | dct h1 h2 =>
    rename_i kvs es
    obtain ⟨c, rfl⟩ := if_some (show (if _ then some _ else none) = some d' from e)
    simp only [Bool.and_eq_true, decide_eq_true_eq] at c
    obtain ⟨k, rfl, rfl⟩ := key_of_D hi c.1
    exact ⟨.dK kvs, .dK (putK kvs k vv), h1, trivial, trivial, .dct upd_same ((h2.put hv).fwd (fwdM hN h1 trivial)), fun Q q => .inr ⟨a, _, rfl, DPut.k (k := k) h1 (by rw [h2.length]; exact c.2), q⟩⟩
def putS (k : Nat) (mi mv : M D) : Sm := thenS mv fun v => fun e0 => match e0[k]? with
  | some (.own _) => thenS mi (fun i => fun e => match e[k]? with
    | some (.own o) => match putD o i v with
      | some o' => .nx (e.set k (.own o'))
      | none => .no
    | _ => .no) e0
  | _ => .no
/-- o[i] op= v -/
def augS (g : D → D → Option D) (k : Nat) (mi mv : M D) : Sm := fun e0 => match e0[k]? with
  | some (.own _) => thenS mi (fun i => fun e => match e[k]? with
    | some (.own o) => match ixD o i with
      | some x => thenS mv (fun y => fun e2 => match e2[k]? with
        | some (.own o2) => match g x y with
          | some z => match putD o2 i z with
            | some o3 => .nx (e2.set k (.own o3))
            | none => .no
          | none => .no
        | _ => .no) e
      | none => .no
    | _ => .no) e0
  | _ => .no
/-- x.append(v) -/
def appS (k : Nat) (mv : M D) : Sm := fun e0 => match e0[k]? with
  | some (.own (.list _)) => thenS mv (fun v => fun e => match e[k]? with
    | some (.own (.list ds)) => if ds.length < sizeLine then .nx (e.set k (.own (.list (ds ++ [v])))) else .no
    | _ => .no) e0
  | _ => .no
/-- x.extend(v), v a list -/
def extS (k : Nat) (mv : M D) : Sm := fun e0 => match e0[k]? with
  | some (.own (.list _)) => thenS mv (fun v => fun e => match e[k]? with
    | some (.own (.list ds)) => match v with
      | .list zs => if ds.length + zs.length ≤ sizeLine then .nx (e.set k (.own (.list (ds ++ zs)))) else .no
      | _ => .no
    | _ => .no) e0
  | _ => .no

section
variable {X : Cx} {G : Amb} {p pa pb pc : Bool} {l la lb fl : Lvl} {e a b c : Expr} {es : List Expr} {f fa fb fc : M D} {pos apos p' p2 : Pos} {x : Str}
theorem own_case {α : Type} {o : Option PV.Cell} {f : D → Out} {K : PySem.W.Frag} {σ : L2.St} {H : Hp} {env : EnvD} {Dn : Ends} (h : OkS K G fl σ H env (match o with | some (.own d) => f d | _ => .no) Dn) : ∃ d, o = some (.own d) ∧ OkS K G fl σ H env (f d) Dn := by
  cases o with
  | none => exact h.elim
  | some c =>
    cases c with
    | emp => exact h.elim
    | shr d => exact h.elim
    | own d => exact ⟨d, rfl, h⟩
theorem js_put (k : Nat) (hu : X.A.units + 1 < cLine) (ho : PE X (.Name x p') (tVar k)) (hi : J X G pa la a fa) (hv : J X G pb lb b fb) (hl : lb.safe = true := by rfl) (hs : swapsWithSole [.Subscript (.Name x p') a p2] b pos.line X.env = pure false := by rfl)
    (hw : swappedStores [.Subscript (.Name x p') a p2] b X.env = pure none := by rfl) (h1 : (assignEach [.Subscript (.Name x p') a p2] X.env).map (·.2) = [assign (.Subscript (.Name x p') a p2) X.env] := by rfl)
    (hg : PG X (.Subscript (.Name x p') a p2) (gSub (tVar k) (tM X.K G pa la fa) fun o i v H Q => rSetL o i v H Q ∨ rSetD o i v H Q)) : JS X G fl (.Assign [.Subscript (.Name x p') a p2] b pos) (putS k fa fb) :=
    ps_mono (ps_asg hv hg hs hw h1) fun Dn σ H ⟨env, S, q⟩ => by
  refine ⟨env, S, (OkS.thenS pb q).mono fun v env1 H1 ⟨f1, q1⟩ vv rv => ?_⟩
  have rv1 : Rp X.K H1 (G.R σ env1) vv v := RpX.rp (fun a z => S.dom a (f1.sub a z)) hl rv
  obtain ⟨d0, e0, q2⟩ := own_case (α := D) q1
  obtain ⟨a0, s0, _⟩ := f1.st.own k d0 e0
  refine ⟨.ref a0, s0, env1, f1.st, (OkS.thenS pa q2).mono fun i env2 H2 ⟨f2, q3⟩ iv ri => ?_⟩
  obtain ⟨d1, e1, q4⟩ := own_case (α := D) q3
  cases e2 : putD d1 i v with
  | none => rw [e2] at q4; exact q4.elim
  | some d2 =>
  rw [e2] at q4
  obtain ⟨a1, s1, r1, _⟩ := f2.st.own k d1 e1
  rw [s0] at s1
  cases s1
  have ra : G.R σ env2 a0 := .inr ⟨k, d1, e1, s0⟩
  obtain ⟨ob, ob', g1, g2, g3, g4, g5⟩ := put_at ra r1 (RpX.rpC (fun a z => f1.st.dom a (f2.sub a z)) ri) (rv1.fwd (.of_keep f2.keep f2.sub)) e2
  exact g5 _ (q4 σ _ (f2.st.mut e1 s0 g1 g2 g3 g4))
theorem j_app (k : Nat) (ho : PE X (.Name x p') (tVar k)) (hv : J X G pa la a fa) (hl : la.safe = true := by rfl) (hbase : attributeBase (.Name x p') "append" X.env (eval (.Name x p') X.env) = eval (.Name x p') X.env := by rfl)
    (hfew : ((backTo p2 (starEach [a] X.env)).all (fun x => !x.1) && (backToKw p2 (keywordEach [] X.env)).all (fun x => x.1.isSome)
      && decide (([a] : List Expr).length + ([] : List Keyword).length + (if ([] : List Keyword).isEmpty then 0 else 1) < 30)) = true := by rfl)
    (hline : (apos.endLine == p2.line) = true := by rfl) (hst : starEach [a] X.env = (false, eval a X.env) :: starEach [] X.env := by rfl) (hplain : (backTo p2 (starEach [] X.env)).any (·.1) = false := by rfl)
    (hs : swapsWith (.Call (.Attribute (.Name x p') "append" apos) [a] [] p2) none pos.line X.env = pure false := by rfl) :
    JS X G fl (.Expr (.Call (.Attribute (.Name x p') "append" apos) [a] [] p2) pos) (appS k fa) :=
    ps_mono (ps_expr (pe_bm PySem.F.plainAttrs_list PySem.F.slot_list_append PySem.F.type_list_append mt_append ho (pa_cons hv pa_nil hst) hbase hfew hline hst hplain) hs) fun Dn σ H ⟨env, S, q⟩ => by
  unfold appS at q
  cases ec : env[k]? with
  | none => rw [ec] at q; exact q.elim
  | some cc =>
    rw [ec] at q
    cases cc with
    | emp => exact q.elim
    | shr d => exact q.elim
    | own d =>
      cases d with
      | list ds0 =>
        simp only at q
        obtain ⟨a0, s0, r0, _⟩ := S.own k _ ec
        have hty : tyV X.K "list" (.ref a0) H := by
          cases r0 with
          | lst h _ => exact .inl ⟨rfl, _, .inl (.inl h)⟩
        refine ⟨.ref a0, s0, hty, env, S, (OkS.thenS pa q).mono fun v env1 H1 ⟨f1, q1⟩ vv rv => ?_⟩
        have rv1 : Rp X.K H1 (G.R σ env1) vv v := RpX.rp (fun a z => S.dom a (f1.sub a z)) hl rv
        cases e1 : env1[k]? with
        | none => rw [e1] at q1; exact q1.elim
        | some c1 =>
          rw [e1] at q1
          cases c1 with
          | emp => exact q1.elim
          | shr d => exact q1.elim
          | own d1 =>
            cases d1 with
            | list ds =>
              simp only at q1
              by_cases hlen : ds.length < sizeLine
              · rw [if_pos hlen] at q1
                obtain ⟨a1, s1, r1, _⟩ := f1.st.own k _ e1
                rw [s0] at s1
                cases s1
                cases r1 with
                | lst h1 h2 =>
                  have ra : G.R σ env1 a0 := .inr ⟨k, _, e1, s0⟩
                  refine ⟨a0, _, vv, rfl, rfl, h1, by rw [h2.length]; exact hlen, q1 σ _ (f1.st.mut e1 s0 h1 trivial trivial (.lst upd_same ?_))⟩
                  exact (h2.append (.cons rv1 .nil)).fwd (fwdM ra h1 trivial)
              · rw [if_neg hlen] at q1; exact q1.elim
            | _ => exact q1.elim
      | _ => exact q.elim
def rExtR : V → List V → Hp → VK → Prop := fun x vs H Q => ∃ l b xs zs, x = .ref l ∧ vs = [.ref b] ∧ H l = some (.lst xs) ∧ Rd H b (.lst zs) ∧ xs.length + zs.length ≤ sizeLine ∧ Q .non (upd H l (.lst (xs ++ zs)))
theorem mt_extR : MtM X "list.extend" rExtR := by
  intro pn s σ H x vs v us Q I rx rv h
  obtain ⟨l, b, xs, zs, rfl, rfl, hH, hB, hz, q⟩ := h
  cases rx
  obtain ⟨u, rfl, ru⟩ := rv.one
  cases ru
  obtain ⟨_, i1, n1, r1, l1, e1⟩ := lst_at I (.inl hH)
  obtain ⟨_, i2, n2, r2, l2, e2⟩ := lst_at I hB
  have hz2 : i1.toArray.size + i2.toArray.size ≤ sizeLine := by simp only [List.size_toArray]; omega
  have hno : ¬ (!i1.toArray.isEmpty && Builtin.List.listTooLong (i1.toArray.size + i2.toArray.size)) = true := by
    rw [notLongL hz2, Bool.and_false]
    simp
  refine call_meets PySem.F.slot_list_extend ⟨_, e1, rfl⟩ PySem.F.entry_list_extend (PySem.F.args_list_extend_2 _ _)
    (PySem.AutoSeq1.list_extend_list_list_0 l i1.toArray n1 b i2.toArray n2 hno (by simp only [List.size_toArray] at *; omega) (by omega)) ⟨e1, e2, .non, _, ?_, rfl, q⟩
  exact I.lset (its' := i1 ++ i2) hH e1 (by simp) (r1.append r2) (by rw [List.length_append]; omega)
theorem j_ext (k : Nat) (ho : PE X (.Name x p') (tVar k)) (hv : J X G pa la a fa) (hl : la.safe = true := by rfl) (hbase : attributeBase (.Name x p') "extend" X.env (eval (.Name x p') X.env) = eval (.Name x p') X.env := by rfl)
    (hfew : ((backTo p2 (starEach [a] X.env)).all (fun x => !x.1) && (backToKw p2 (keywordEach [] X.env)).all (fun x => x.1.isSome)
      && decide (([a] : List Expr).length + ([] : List Keyword).length + (if ([] : List Keyword).isEmpty then 0 else 1) < 30)) = true := by rfl)
    (hline : (apos.endLine == p2.line) = true := by rfl) (hst : starEach [a] X.env = (false, eval a X.env) :: starEach [] X.env := by rfl) (hplain : (backTo p2 (starEach [] X.env)).any (·.1) = false := by rfl)
    (hs : swapsWith (.Call (.Attribute (.Name x p') "extend" apos) [a] [] p2) none pos.line X.env = pure false := by rfl) :
    JS X G fl (.Expr (.Call (.Attribute (.Name x p') "extend" apos) [a] [] p2) pos) (extS k fa) :=
    ps_mono (ps_expr (pe_bm PySem.F.plainAttrs_list PySem.F.slot_list_extend PySem.F.type_list_extend mt_extR ho (pa_cons hv pa_nil hst) hbase hfew hline hst hplain) hs) fun Dn σ H ⟨env, S, q⟩ => by
  unfold extS at q
  cases ec : env[k]? with
  | none => rw [ec] at q; exact q.elim
  | some cc =>
    rw [ec] at q
    cases cc with
    | emp => exact q.elim
    | shr d => exact q.elim
    | own d =>
      cases d with
      | list ds0 =>
        simp only at q
        obtain ⟨a0, s0, r0, _⟩ := S.own k _ ec
        have hty : tyV X.K "list" (.ref a0) H := by
          cases r0 with
          | lst h _ => exact .inl ⟨rfl, _, .inl (.inl h)⟩
        refine ⟨.ref a0, s0, hty, env, S, (OkS.thenS pa q).mono fun v env1 H1 ⟨f1, q1⟩ vv rv => ?_⟩
        have rv1 : Rp X.K H1 (G.R σ env1) vv v := RpX.rp (fun a z => S.dom a (f1.sub a z)) hl rv
        cases e1 : env1[k]? with
        | none => rw [e1] at q1; exact q1.elim
        | some c1 =>
          rw [e1] at q1
          cases c1 with
          | emp => exact q1.elim
          | shr d => exact q1.elim
          | own d1 =>
            cases d1 with
            | list ds =>
              cases v with
              | list zs =>
                simp only at q1
                by_cases hlen : ds.length + zs.length ≤ sizeLine
                · rw [if_pos hlen] at q1
                  obtain ⟨a1, s1, r1, _⟩ := f1.st.own k _ e1
                  rw [s0] at s1
                  cases s1
                  obtain ⟨b, ys, rfl, h3, h4⟩ := (RpC.of rv1).list
                  cases r1 with
                  | lst h1 h2 =>
                    have ra : G.R σ env1 a0 := .inr ⟨k, _, e1, s0⟩
                    refine ⟨a0, b, _, ys, rfl, rfl, h1, h3, by rw [h2.length, h4.length]; exact hlen, q1 σ _ (f1.st.mut e1 s0 h1 trivial trivial (.lst upd_same ?_))⟩
                    exact (h2.append h4).fwd (fwdM ra h1 trivial)
                · rw [if_neg hlen] at q1; exact q1.elim
              | _ => exact q1.elim
            | _ => exact q1.elim
      | _ => exact q.elim
end
end PV
namespace PV
open PySem PySem.Spec PyProof.Rows L2

/-! op= -/
def iaddD : D → D → Option D
  | .int i, .int j => some (.int (i + j))
  | .str a, .str b => if a.length + b.length ≤ sizeLine then some (.str (a ++ b)) else none
  | _, _ => none
def augN (g : D → D → Option D) (i : Nat) (m : M D) : Sm := fun e0 => match e0[i]? with
  | some (.shr a) => thenS m (fun b => fun e => match g a b with
    | some d => .nx (e.set i (.shr d))
    | none => .no) e0
  | _ => .no
section
variable {X : Cx} {G : Amb} {p pa pb pc : Bool} {l la lb fl : Lvl} {e a b c : Expr} {es : List Expr} {f fa fb fc : M D} {pos apos p' p2 : Pos} {x : Str}
theorem oa_add : OpR X (inplaceOp .Add) (r2 X.K .fre iaddD) := opr_mono (iop_add.or iop_add_str) fun x y H Q ⟨N, da, db, d, dom, cx, cy, e, q⟩ => by
  cases da <;> cases db <;> first | (exact nomatch (show none = some d from e)) | skip
  · cases e
    exact .inl ⟨_, _, cx.int, cy.int, q _ H (Same.refl H) (.int _)⟩
  · obtain ⟨c, rfl⟩ := if_some (show (if _ then some _ else none) = some d from e)
    exact .inr ⟨_, _, cx.str, cy.str, c, q _ H (Same.refl H) (.str _ (strOk_append cx.strOk cy.strOk))⟩
theorem oa_sub : OpR X (inplaceOp .Sub) (r2 X.K .fre subD) := o_int0 iop_sub fun a b d e => by
  cases a <;> cases b <;> first | (cases e; exact ⟨_, _, rfl, rfl, .inl ⟨_, rfl, rfl⟩⟩) | cases e
theorem oa_and : OpR X (inplaceOp .BitAnd) (r2 X.K .fre andD) := o_int0 iop_and fun a b d e => by
  cases a <;> cases b <;> first | (cases e; exact ⟨_, _, rfl, rfl, .inl ⟨_, rfl, rfl⟩⟩) | cases e
theorem oa_or : OpR X (inplaceOp .BitOr) (r2 X.K .fre orD) := o_int0 iop_or fun a b d e => by
  cases a <;> cases b <;> first | (cases e; exact ⟨_, _, rfl, rfl, .inl ⟨_, rfl, rfl⟩⟩) | cases e
theorem oa_xor : OpR X (inplaceOp .BitXor) (r2 X.K .fre xorD) := o_int0 iop_xor fun a b d e => by
  cases a <;> cases b <;> first | (cases e; exact ⟨_, _, rfl, rfl, .inl ⟨_, rfl, rfl⟩⟩) | cases e
theorem oa_fdiv : OpR X (inplaceOp .FloorDiv) (r2 X.K .fre fdivD) := o_int iop_fdiv fun a b d e => by
  cases a <;> cases b <;> first | (obtain ⟨c, rfl⟩ := if_some (show (if _ then some _ else none) = some d from e); simp only [Bool.and_eq_true, decide_eq_true_eq] at c; exact ⟨_, _, rfl, rfl, c, .inl ⟨_, rfl, rfl⟩⟩) | cases e
theorem oa_mod : OpR X (inplaceOp .Mod) (r2 X.K .fre modD) := o_int iop_mod fun a b d e => by
  cases a <;> cases b <;> first | (obtain ⟨c, rfl⟩ := if_some (show (if _ then some _ else none) = some d from e); simp only [Bool.and_eq_true, decide_eq_true_eq] at c; exact ⟨_, _, rfl, rfl, c, .inl ⟨_, rfl, rfl⟩⟩) | cases e
theorem oa_mul : OpR X (inplaceOp .Mult) (r2 X.K .fre mulD) := o_int iop_mul fun a b d e => by
  cases a <;> cases b <;> first | (obtain ⟨c, rfl⟩ := if_some (show (if _ then some _ else none) = some d from e); refine ⟨_, _, rfl, rfl, ?_, .inl ⟨_, rfl, rfl⟩⟩; unfold cMulB at c; simp only [Bool.or_eq_true, Bool.and_eq_true, decide_eq_true_eq] at c; exact c) | cases e
theorem oa_shl : OpR X (inplaceOp .LShift) (r2 X.K .fre shlD) := o_int iop_shl fun a b d e => by
  cases a <;> cases b <;> first | (obtain ⟨c, rfl⟩ := if_some (show (if _ then some _ else none) = some d from e); exact ⟨_, _, rfl, rfl, cPow_of c, .inl ⟨_, rfl, rfl⟩⟩) | cases e
theorem oa_shr : OpR X (inplaceOp .RShift) (r2 X.K .fre shrD) := o_int iop_shr fun a b d e => by
  cases a <;> cases b <;> first | (obtain ⟨c, rfl⟩ := if_some (show (if _ then some _ else none) = some d from e); simp only [Bool.and_eq_true, decide_eq_true_eq] at c; exact ⟨_, _, rfl, rfl, c, .inl ⟨_, rfl, rfl⟩⟩) | cases e
theorem js_augN {op : Operator} {g : D → D → Option D} (i : Nat) (hN : X.N.Nodup) (hi : X.N[i]? = some x) (hx : Loc X.env.scope x) (he : J X G p l e fa) (ho : OpR X (inplaceOp op) (r2 X.K .fre g)) (hf : G.fx.contains i = false := by rfl)
    (hfn : X.fn x = true ∨ X.env.scope.names.lookup x = some .local := by first | exact .inl rfl | exact .inr rfl | assumption) : JS X G fl (.AugAssign (.Name x p') op e pos) (augN g i fa) :=
    ps_mono (ps_aug hN hi hx he ho hfn) fun Dn σ H ⟨env, S, q⟩ => by
  unfold augN at q
  cases ec : env[i]? with
  | none => rw [ec] at q; exact q.elim
  | some cc =>
    rw [ec] at q
    cases cc with
    | emp => exact q.elim
    | own d => exact q.elim
    | shr d0 =>
      simp only at q
      obtain ⟨v, s0, r0⟩ := S.shr i d0 ec
      refine ⟨v, s0, env, S, (OkS.thenS0 p q).mono fun db env1 H1 ⟨f1, q1⟩ w rw' => ?_⟩
      cases eg : g d0 db with
      | none => rw [eg] at q1; exact q1.elim
      | some d =>
        rw [eg] at q1
        have r1' : Rp X.K H1 (G.R σ env1) v d0 := r0.fwd (.of_keep f1.keep f1.sub)
        refine ⟨G.R σ env1, d0, db, d, f1.st.dom, .of r1', RpX.rpC (fun a z => S.dom a (f1.sub a z)) rw', eg, fun u H2 s2 ru => ?_⟩
        have S1 := f1.st.same s2
        obtain ⟨S2, sub⟩ := S1.putS (i := i) (v := u) (d := d) (not_fx hf) (RpX.rp f1.st.dom (l := .fre) rfl ru)
        exact q1 _ H2 (((Stp.eff f1).trans (.of_same f1.st s2)).trans ⟨S2, .refl _ _, fun a z => .inl (sub a z)⟩)
theorem get_any (hu : X.A.units + 1 < cLine) : PGet X (fun x y H Q => ∃ (N : Addr → Prop) (a : Addr) (o i d : D), (∀ a, N a → ∃ u, H a = some u) ∧ x = .ref a ∧ Root X.K H N a o ∧ RpC X.K H N y i ∧ ixD o i = some d ∧ ∀ v, Rp X.K H N v d → Q v H) := by
  intro pn s σ H x y ov iv Q I rx ry ⟨N, a, o, i, d, dom, ex, r, ci, e, q⟩
  subst ex
  obtain rfl : ov = Value.ref a := rx
  cases r with
  | lst h1 h2 =>
    rename_i xs ds
    cases i with
    | int k =>
      obtain ⟨t, rfl⟩ : ∃ t, iv = Value.int k t := by
        have := ci.int
        subst this
        exact ry
      obtain ⟨v, e1, e2⟩ := atI_rp h2 (show atI ds k = some d from e)
      obtain ⟨hz, its, n, rv, hl, eo⟩ := lst_at I (.inl h1)
      obtain ⟨j, g1, g2, g3, g4, g5⟩ := atI_get e1
      obtain ⟨w, ew, rw'⟩ := rv.get g2
      have hn := line63
      have pl : s.heap.IsList a its.toArray := ⟨_, eo, rfl, n, rfl⟩
      by_cases h0 : 0 ≤ k
      · have hj : k.toNat = j := by
          rw [seqIndex_of h0 g5] at g1
          exact Option.some.inj g1
        exact wpAny_getItem_list pl h0 (by omega) (by rw [hj]; simpa using ew) ⟨v, H, I, rw', q v e2⟩
      · have hj : (k + (its.toArray.size : Int)).toNat = j := by
          rw [seqIndex_neg (by omega) g4] at g1
          rw [List.size_toArray, ← hl]
          exact Option.some.inj g1
        exact wpAny_getItem_list_neg pl (by omega) (by rw [List.size_toArray] <;> omega) (by omega) (by rw [hj]; simpa using ew) ⟨v, H, I, rw', q v e2⟩
    | _ => exact nomatch (show none = some d from e)
  | dct h1 h2 =>
    rename_i kvs es
    have e' : (if isKey i = true then lookD es i else none) = some d := e
    by_cases hk : isKey i = true
    · rw [if_pos hk] at e'
      obtain ⟨k, rfl, rfl⟩ := key_of_D ci hk
      rcases look_rel k h2 with ⟨_, g2⟩ | ⟨v, d', g1, g2, g3⟩
      · rw [g2] at e'; cases e'
      · rw [g2] at e'
        cases e'
        exact d_getItem hu I (by rw [← g1]; exact .k h1) ry fun w' s' I' rw' => ⟨v, H, I', rw', q v g3⟩
    · rw [if_neg hk] at e'; cases e'
theorem js_augI {op : Operator} {g : D → D → Option D} (k : Nat) (hu : X.A.units + 1 < cLine) (ho : PE X (.Name x p') (tVar k)) (hi : J X G pa la a fa) (hv : J X G pb lb b fb) (hop : OpR X (inplaceOp op) (r2 X.K .fre g)) (hli : la.safe = true := by rfl)
    (hlb : (la.safe || pb) = true := by rfl) (ha : ∀ ov iv new, augStore a ov iv new = (do holding [new, ov, iv] (setItem ov iv new); release [new, ov, iv] []; pure .next) := by intros; rfl) :
    JS X G fl (.AugAssign (.Subscript (.Name x p') a p2) op b pos) (augS g k fa fb) :=
    ps_mono (ps_augS ho hi (get_any hu) hv hop (PSet_or set_list (set_dict hu)) ha) fun Dn σ H ⟨env, S, q⟩ => by
  unfold augS at q
  obtain ⟨d0, e0, q0⟩ := own_case (α := D) q
  obtain ⟨a0, s0, _⟩ := S.own k d0 e0
  refine ⟨.ref a0, s0, env, S, (OkS.thenS pa q0).mono fun i env1 H1 ⟨f1, q1⟩ iv ri => ?_⟩
  obtain ⟨o1, e1, q2⟩ := own_case (α := D) q1
  obtain ⟨a1, s1, r1, _⟩ := f1.st.own k o1 e1
  rw [s0] at s1
  cases s1
  cases ex : ixD o1 i with
  | none => rw [ex] at q2; exact q2.elim
  | some x1 =>
    rw [ex] at q2
    simp only at q2
    have dom1 : ∀ a, G.R σ env1 a → ∃ o, H a = some o := fun a z => S.dom a (f1.sub a z)
    have ri1 : Rp X.K H1 (G.R σ env1) iv i := RpX.rp dom1 hli ri
    refine ⟨G.R σ env1, a0, o1, i, x1, f1.st.dom, rfl, r1, .of ri1, ex, fun xv rx => ?_⟩
    refine ⟨env1, f1.st, (OkS.thenS pb q2).mono fun y env2 H2 ⟨f2, q3⟩ yv ry => ?_⟩
    obtain ⟨o2, e2, q4⟩ := own_case (α := D) q3
    cases eg : g x1 y with
    | none => rw [eg] at q4; exact q4.elim
    | some z =>
      rw [eg] at q4
      simp only at q4
      cases ep : putD o2 i z with
      | none => rw [ep] at q4; exact q4.elim
      | some o3 =>
        rw [ep] at q4
        simp only at q4
        refine ⟨G.R σ env2, x1, y, z, f2.st.dom, .of (rx.fwd (.of_keep f2.keep f2.sub)), RpX.rpC (fun a z => f1.st.dom a (f2.sub a z)) ry, eg, fun zv H3 s3 rz => ?_⟩
        have S3 := f2.st.same s3
        obtain ⟨a2, s2, r2', _⟩ := S3.own k o2 e2
        rw [s0] at s2
        cases s2
        have ra : G.R σ env2 a0 := .inr ⟨k, o2, e2, s0⟩
        obtain ⟨ob, ob', g1, g2, g3, g4, g5⟩ := put_at ra r2' (.of ((ri1.fwd (.of_keep f2.keep f2.sub)).fwd (.of_same s3))) (RpX.rp f2.st.dom (l := .fre) rfl rz) ep
        exact g5 _ (q4 σ _ ((Stp.of_same f2.st s3).trans (S3.mut e2 s0 g1 g2 g3 g4)))
end
end PV
namespace PV
open PySem PySem.Spec PyProof.Rows L2

/-! builtins -/
def lenD : List D → Option D
  | [.str y] => if y.length ≤ sizeLine then some (.int y.length) else none
  | [.list ds] => some (.int ds.length)
  | [.tuple ds] => some (.int ds.length)
  | [.dict es] => some (.int es.length)
  | _ => none
def absD : List D → Option D
  | [.int i] => some (.int (if i < 0 then -i else i))
  | _ => none
def intD : List D → Option D
  | [.int i] => some (.int i)
  | [.bool k] => some (.int (if k = true then 1 else 0))
  | _ => none
def tupD : List D → Option D
  | [.list ds] => some (.tuple ds)
  | [.tuple ds] => some (.tuple ds)
  | _ => none
def lisD : List D → Option D
  | [.list ds] => some (.list ds)
  | [.tuple ds] => some (.list ds)
  | _ => none
def intsD : List D → Option (List Int)
  | [] => some []
  | .int i :: r => (intsD r).map (i :: ·)
  | _ :: _ => none
def boolsD : List D → Option (List Bool)
  | [] => some []
  | .bool i :: r => (boolsD r).map (i :: ·)
  | _ :: _ => none
def sumD : List D → Option D
  | [.list ds] => (intsD ds).map fun ns => .int ns.sum
  | _ => none
def allD : List D → Option D
  | [.list ds] => (boolsD ds).map fun bs => .bool (bs.all id)
  | _ => none
def anyD : List D → Option D
  | [.list ds] => (boolsD ds).map fun bs => .bool (bs.any id)
  | _ => none
def maxI : Int → List Int → Int
  | a, [] => a
  | a, b :: r => maxI (if b > a then b else a) r
def minI : Int → List Int → Int
  | a, [] => a
  | a, b :: r => minI (if b < a then b else a) r
def maxD : List D → Option D
  | [.int i, .int j] => some (.int (if j > i then j else i))
  | [.list ds] => match intsD ds with
    | some (a :: r) => some (.int (maxI a r))
    | _ => none
  | _ => none
def minD : List D → Option D
  | [.int i, .int j] => some (.int (if j < i then j else i))
  | [.list ds] => match intsD ds with
    | some (a :: r) => some (.int (minI a r))
    | _ => none
  | _ => none
theorem ints_rp {K : PySem.W.Frag} {H : Hp} {N : Addr → Prop} : ∀ {vs : List V} {ds : List D} {ns : List Int}, RpAll K H N vs ds → intsD ds = some ns → vs = ns.map V.int
  | _, _, _, .nil, e => by cases e; rfl
  | _, d :: ds, ns, .cons h r, e => by
    cases d with
    | int i =>
      have e' : (intsD ds).map (i :: ·) = some ns := e
      cases e2 : intsD ds with
      | none => rw [e2] at e'; cases e'
      | some ms =>
        rw [e2] at e'
        cases e'
        rw [ints_rp r e2, (RpC.of h).int]
        rfl
    | _ => exact nomatch (show none = some ns from e)
theorem bools_rp {K : PySem.W.Frag} {H : Hp} {N : Addr → Prop} : ∀ {vs : List V} {ds : List D} {ns : List Bool}, RpAll K H N vs ds → boolsD ds = some ns → vs = ns.map V.bl
  | _, _, _, .nil, e => by cases e; rfl
  | _, d :: ds, ns, .cons h r, e => by
    cases d with
    | bool i =>
      have e' : (boolsD ds).map (i :: ·) = some ns := e
      cases e2 : boolsD ds with
      | none => rw [e2] at e'; cases e'
      | some ms =>
        rw [e2] at e'
        cases e'
        rw [bools_rp r e2, (RpC.of h).bool]
        rfl
    | _ => exact nomatch (show none = some ns from e)
theorem RpCAll.one {K : PySem.W.Frag} {H : Hp} {N : Addr → Prop} {xs : List V} {d : D} (r : RpCAll K H N xs [d]) : ∃ v, xs = [v] ∧ RpC K H N v d := by
  cases r with
  | cons h r => cases r; exact ⟨_, rfl, h⟩
theorem RpCAll.two {K : PySem.W.Frag} {H : Hp} {N : Addr → Prop} {xs : List V} {d e : D} (r : RpCAll K H N xs [d, e]) : ∃ v u, xs = [v, u] ∧ RpC K H N v d ∧ RpC K H N u e := by
  cases r with
  | cons h r =>
    cases r with
    | cons h2 r => cases r; exact ⟨_, _, rfl, h, h2⟩
section
variable {X : Cx}
theorem callr_or {f : Value} {r r' : List V → Hp → VK → Prop} (h : CallR X f r) (h' : CallR X f r') : CallR X f (fun xs H Q => r xs H Q ∨ r' xs H Q) := h.or h'
theorem call_lenDct : CallR X (.builtin "len") (fun xs H Q => ∃ a kvs, xs = [.ref a] ∧ H a = some (.dK kvs) ∧ Q (.int (kvs.length : Nat)) H) := by
  intro pn s σ H xs us Q I r ⟨a, kvs, e, h, q⟩
  subst e
  obtain ⟨u, rfl, rx⟩ := vals1 r
  cases rx
  exact d_len I (.inl h) fun t s' I' => ⟨.int (kvs.length : Nat), H, I', ⟨t, rfl⟩, q⟩
theorem oc_len : CallR X (.builtin "len") (rC X.K .fre lenD) := callr_mono (call_len.or call_lenDct) fun xs H Q ⟨N, ds, d, dom, r, e, q⟩ => by
  match ds, e with
  | [.str y], e =>
    obtain ⟨v, rfl, c⟩ := r.one
    obtain ⟨c1, rfl⟩ := if_some (show (if _ then some _ else none) = some d from e)
    refine .inl ⟨v, y.length, rfl, ?_, q _ H (Same.refl H) (.int _)⟩
    rw [c.str]
    exact ⟨c1, rfl⟩
  | [.list ds], e =>
    obtain ⟨v, rfl, c⟩ := r.one
    cases e
    obtain ⟨a, ys, rfl, h1, h2⟩ := c.list
    exact .inl ⟨_, ds.length, rfl, .inl ⟨ys, .inl h1, h2.length.symm⟩, q _ H (Same.refl H) (.int _)⟩
  | [.tuple ds], e =>
    obtain ⟨v, rfl, c⟩ := r.one
    cases e
    obtain ⟨a, ys, rfl, h1, h2⟩ := c.tuple
    exact .inl ⟨_, ds.length, rfl, .inr ⟨ys, h1, h2.length.symm⟩, q _ H (Same.refl H) (.int _)⟩
  | [.dict es], e =>
    obtain ⟨v, rfl, c⟩ := r.one
    cases e
    obtain ⟨a, kvs, rfl, h1, h2⟩ := c.dict
    refine .inr ⟨a, kvs, rfl, h1, ?_⟩
    rw [h2.length]
    exact q _ H (Same.refl H) (.int _)
theorem oc_abs : CallR X (.builtin "abs") (rC X.K .fre absD) := callr_mono call_abs fun xs H Q ⟨N, ds, d, dom, r, e, q⟩ => by
  match ds, e with
  | [.int i], e =>
    obtain ⟨v, rfl, c⟩ := r.one
    cases e
    exact ⟨i, by rw [c.int], q _ H (Same.refl H) (.int _)⟩
theorem oc_int : CallR X (.type "int") (rC X.K .fre intD) := callr_mono call_int1 fun xs H Q ⟨N, ds, d, dom, r, e, q⟩ => by
  match ds, e with
  | [.int i], e =>
    obtain ⟨v, rfl, c⟩ := r.one
    cases e
    exact .inl ⟨i, by rw [c.int], q _ H (Same.refl H) (.int _)⟩
  | [.bool i], e =>
    obtain ⟨v, rfl, c⟩ := r.one
    cases e
    exact .inr ⟨i, by rw [c.bool], q _ H (Same.refl H) (.int _)⟩
theorem oc_tuple : CallR X (.type "tuple") (rC X.K .fre tupD) := callr_mono call_tuple_of fun xs H Q ⟨N, ds, d, dom, r, e, q⟩ => by
  match ds, e with
  | [.list ds], e =>
    obtain ⟨v, rfl, c⟩ := r.one
    cases e
    obtain ⟨a, ys, rfl, h1, h2⟩ := c.list
    exact ⟨a, ys, rfl, .inl ⟨.inl h1, fun p hn => q _ _ (same_new hn) (.tup (SqT.of upd_same) (h2.fwd (.of_same (same_new hn))))⟩⟩
  | [.tuple ds], e =>
    obtain ⟨v, rfl, c⟩ := r.one
    cases e
    obtain ⟨a, ys, rfl, h1, h2⟩ := c.tuple
    exact ⟨a, ys, rfl, .inr ⟨h1, q _ _ (Same.refl H) (.tup h1 h2)⟩⟩
theorem oc_list : CallR X (.type "list") (rC X.K .fre lisD) := callr_mono call_list_of fun xs H Q ⟨N, ds, d, dom, r, e, q⟩ => by
  match ds, e with
  | [.list ds], e =>
    obtain ⟨v, rfl, c⟩ := r.one
    cases e
    obtain ⟨a, ys, rfl, h1, h2⟩ := c.list
    exact ⟨a, ys, rfl, .inl (.inl h1), fun p hn => q _ _ (same_new hn) ⟨p, _, rfl, hn, upd_same, h2.new hn⟩⟩
  | [.tuple ds], e =>
    obtain ⟨v, rfl, c⟩ := r.one
    cases e
    obtain ⟨a, ys, rfl, h1, h2⟩ := c.tuple
    exact ⟨a, ys, rfl, .inr h1, fun p hn => q _ _ (same_new hn) ⟨p, _, rfl, hn, upd_same, h2.new hn⟩⟩
theorem oc_sum (hc : X.calm = true) : CallR X (.builtin "sum") (rC X.K .fre sumD) := callr_mono (cr_sum hc) fun xs H Q ⟨N, ds, d, dom, r, e, q⟩ => by
  match ds, e with
  | [.list ds], e =>
    obtain ⟨v, rfl, c⟩ := r.one
    obtain ⟨a, ys, rfl, h1, h2⟩ := c.list
    have e' : (intsD ds).map (fun ns => PyData.int ns.sum) = some d := e
    cases e2 : intsD ds with
    | none => rw [e2] at e'; cases e'
    | some ns =>
      rw [e2] at e'
      cases e'
      exact ⟨a, ns, rfl, by rw [← ints_rp h2 e2]; exact .inl h1, q _ H (Same.refl H) (.int _)⟩
theorem oc_all (hc : X.calm = true) : CallR X (.builtin "all") (rC X.K .fre allD) := callr_mono (cr_all hc) fun xs H Q ⟨N, ds, d, dom, r, e, q⟩ => by
  match ds, e with
  | [.list ds], e =>
    obtain ⟨v, rfl, c⟩ := r.one
    obtain ⟨a, ys, rfl, h1, h2⟩ := c.list
    have e' : (boolsD ds).map (fun bs => PyData.bool (bs.all id)) = some d := e
    cases e2 : boolsD ds with
    | none => rw [e2] at e'; cases e'
    | some ns =>
      rw [e2] at e'
      cases e'
      exact ⟨a, ns, rfl, by rw [← bools_rp h2 e2]; exact .inl h1, q _ H (Same.refl H) (.bl _)⟩
theorem oc_any (hc : X.calm = true) : CallR X (.builtin "any") (rC X.K .fre anyD) := callr_mono (cr_any hc) fun xs H Q ⟨N, ds, d, dom, r, e, q⟩ => by
  match ds, e with
  | [.list ds], e =>
    obtain ⟨v, rfl, c⟩ := r.one
    obtain ⟨a, ys, rfl, h1, h2⟩ := c.list
    have e' : (boolsD ds).map (fun bs => PyData.bool (bs.any id)) = some d := e
    cases e2 : boolsD ds with
    | none => rw [e2] at e'; cases e'
    | some ns =>
      rw [e2] at e'
      cases e'
      exact ⟨a, ns, rfl, by rw [← bools_rp h2 e2]; exact .inl h1, q _ H (Same.refl H) (.bl _)⟩
theorem maxI_mem : ∀ (a : Int) (r : List Int), maxI a r ∈ a :: r ∧ ∀ y ∈ a :: r, y ≤ maxI a r
  | a, [] => by simp [maxI]
  | a, b :: r => by
    obtain ⟨h1, h2⟩ := maxI_mem (if b > a then b else a) r
    unfold maxI
    constructor
    · rcases List.mem_cons.mp h1 with e | e
      · rw [e]
        by_cases c : b > a
        · rw [if_pos c]; simp
        · rw [if_neg c]; simp
      · simp [e]
    · intro y hy
      have h3 := h2 (if b > a then b else a) List.mem_cons_self
      rcases List.mem_cons.mp hy with e | e
      · subst e
        by_cases c : b > y
        · rw [if_pos c] at h3 ⊢; omega
        · rw [if_neg c] at h3 ⊢; omega
      · rcases List.mem_cons.mp e with e | e
        · subst e
          by_cases c : y > a
          · rw [if_pos c] at h3 ⊢; omega
          · rw [if_neg c] at h3 ⊢; omega
        · exact h2 y (List.mem_cons_of_mem _ e)
theorem minI_mem : ∀ (a : Int) (r : List Int), minI a r ∈ a :: r ∧ ∀ y ∈ a :: r, minI a r ≤ y
  | a, [] => by simp [minI]
  | a, b :: r => by
    obtain ⟨h1, h2⟩ := minI_mem (if b < a then b else a) r
    unfold minI
    constructor
    · rcases List.mem_cons.mp h1 with e | e
      · rw [e]
        by_cases c : b < a
        · rw [if_pos c]; simp
        · rw [if_neg c]; simp
      · simp [e]
    · intro y hy
      have h3 := h2 (if b < a then b else a) List.mem_cons_self
      rcases List.mem_cons.mp hy with e | e
      · subst e
        by_cases c : b < y
        · rw [if_pos c] at h3 ⊢; omega
        · rw [if_neg c] at h3 ⊢; omega
      · rcases List.mem_cons.mp e with e | e
        · subst e
          by_cases c : y < a
          · rw [if_pos c] at h3 ⊢; omega
          · rw [if_neg c] at h3 ⊢; omega
        · exact h2 y (List.mem_cons_of_mem _ e)
theorem oc_max (hc : X.calm = true) : CallR X (.builtin "max") (rC X.K .fre maxD) := callr_mono ((call_max2 hc).or (cr_max hc)) fun xs H Q ⟨N, ds, d, dom, r, e, q⟩ => by
  match ds, e with
  | [.int i, .int j], e =>
    obtain ⟨v, u, rfl, c1, c2⟩ := r.two
    cases e
    exact .inl ⟨i, j, by rw [c1.int, c2.int], q _ H (Same.refl H) (.int _)⟩
  | [.list ds], e =>
    obtain ⟨v, rfl, c⟩ := r.one
    obtain ⟨a, ys, rfl, h1, h2⟩ := c.list
    have e' : (match intsD ds with | some (a :: r) => some (PyData.int (maxI a r)) | _ => none) = some d := e
    cases e2 : intsD ds with
    | none => rw [e2] at e'; cases e'
    | some ns =>
      rw [e2] at e'
      cases ns with
      | nil => cases e'
      | cons b r =>
        cases e'
        obtain ⟨m1, m2⟩ := maxI_mem b r
        refine .inr ⟨a, b :: r, rfl, by rw [← ints_rp h2 e2]; exact .inl h1, by simp, fun m hm hy => ?_⟩
        have : m = maxI b r := Int.le_antisymm (m2 m hm) (hy _ m1)
        rw [this]
        exact q _ H (Same.refl H) (.int _)
theorem oc_min (hc : X.calm = true) : CallR X (.builtin "min") (rC X.K .fre minD) := callr_mono ((call_min2 hc).or (cr_min hc)) fun xs H Q ⟨N, ds, d, dom, r, e, q⟩ => by
  match ds, e with
  | [.int i, .int j], e =>
    obtain ⟨v, u, rfl, c1, c2⟩ := r.two
    cases e
    exact .inl ⟨i, j, by rw [c1.int, c2.int], q _ H (Same.refl H) (.int _)⟩
  | [.list ds], e =>
    obtain ⟨v, rfl, c⟩ := r.one
    obtain ⟨a, ys, rfl, h1, h2⟩ := c.list
    have e' : (match intsD ds with | some (a :: r) => some (PyData.int (minI a r)) | _ => none) = some d := e
    cases e2 : intsD ds with
    | none => rw [e2] at e'; cases e'
    | some ns =>
      rw [e2] at e'
      cases ns with
      | nil => cases e'
      | cons b r =>
        cases e'
        obtain ⟨m1, m2⟩ := minI_mem b r
        refine .inr ⟨a, b :: r, rfl, by rw [← ints_rp h2 e2]; exact .inl h1, by simp, fun m hm hy => ?_⟩
        have : m = minI b r := Int.le_antisymm (hy _ m1) (m2 m hm)
        rw [this]
        exact q _ H (Same.refl H) (.int _)
end
end PV
namespace PV
open PySem PySem.Spec PyProof.Rows L2

/-! isinstance -/
def tyD : D → String
  | .none => "NoneType"
  | .bool _ => "bool"
  | .int _ => "int"
  | .str _ => "str"
  | .list _ => "list"
  | .tuple _ => "tuple"
  | .dict _ => "dict"
/-- whether things of the type are of T -/
def isT (T : String) (d : D) : Bool := match kitB (tyD d) T with
  | some b => b
  | none => false
def isiE (T : String) (m : M D) : M D := bnd m fun d => ret (.bool (isT T d))
/-- the classes that may be asked for -/
def askT (T : String) : Bool := (kitB "NoneType" T).isSome && (kitB "bool" T).isSome && (kitB "int" T).isSome && (kitB "str" T).isSome && (kitB "list" T).isSome && (kitB "tuple" T).isSome && (kitB "dict" T).isSome
theorem kit_at {T : String} (h : askT T = true) (d : D) : kitB (tyD d) T = some (isT T d) := by
  unfold askT at h
  simp only [Bool.and_eq_true] at h
  obtain ⟨⟨⟨⟨⟨⟨h1, h2⟩, h3⟩, h4⟩, h5⟩, h6⟩, h7⟩ := h
  have key : ∀ s, (kitB s T).isSome = true → kitB s T = some (match kitB s T with | some b => b | none => false) := fun s q => by
    cases e : kitB s T with
    | none => rw [e] at q; cases q
    | some b => rfl
  unfold isT
  cases d <;> exact key _ (by assumption)
theorem tyX_of {K : PySem.W.Frag} {H : Hp} {N : Addr → Prop} {v : V} {d : D} (r : RpC K H N v d) : TyX K H v (.type (tyD d)) := by
  cases d with
  | none => rw [r.none]; exact .base .non
  | bool b => rw [r.bool]; exact .base (.bl b)
  | int b => rw [r.int]; exact .base (.int b)
  | str b => rw [r.str]; exact .base (.str b)
  | list ds =>
    obtain ⟨a, xs, rfl, h, _⟩ := r.list
    rcases h with h | ⟨o, h⟩
    · exact .base (.lst h)
    · exact .base (.frz h)
  | tuple ds =>
    obtain ⟨a, xs, rfl, h, _⟩ := r.tuple
    rcases h with (h | ⟨o, h⟩) | ⟨o, its, n, h, hc, _⟩
    · exact .base (.tup h)
    · exact .fTuple h
    · exact .kTuple h hc
  | dict es =>
    obtain ⟨a, kvs, rfl, h, _⟩ := r.dict
    exact .base (.dK h)

def dispE : List (M D × M D) → M (List (D × D))
  | [] => ret []
  | (k, v) :: r => bnd k fun x => bnd v fun y => bnd (dispE r) fun ps => ret ((x, y) :: ps)
def mergeE (es more : List (D × D)) : List (D × D) := more.foldl (fun acc kv => putE acc kv.1 kv.2) es
def dicE (ps : List (M D × M D)) : M D := fun e => match dispE ps e with
  | .ok es e' => if (es.all (fun e => isKey e.1) && decide (es.length ≤ 15)) = true then .ok (.dict (mergeE [] es)) e' else .no
  | _ => .no
def revD : D → Option D
  | .list ds => some (.list ds.reverse)
  | _ => none
/-- a < b < c -/
def chE (g g' : D → D → Option D) (a b c : M D) : M D := bnd a fun x => bnd b fun y => bnd (lft (g x y)) fun z => bnd (lft (bolD z)) fun k => if k = true then (bnd c fun u => lft (g' y u)) else ret (.bool false)

section
variable {X : Cx} {G : Amb} {p pa pb pc : Bool} {l la lb lc fl : Lvl} {e a b c : Expr} {es : List Expr} {f fa fb fc : M D} {pos apos p' p2 p3 : Pos} {x y : Str} {fr : M (List D)}
theorem j_isi {T : String} {tn : Str} (ha : J X G p la a fa) (hT : askT T = true) (hg : Gl X "isinstance") (hm : X.mg "isinstance" = none) (hv : bootBuiltins "isinstance" = some (.builtin "isinstance")) (hgT : Gl X tn) (hmT : X.mg tn = none) (hvT : bootBuiltins tn = some (.type T))
    (hnT : tn ≠ "__name__" := by decide) (hdT : (tn == ("__debug__" : Str)) = false := by decide)
    (h1 : starEach [a, .Name tn p2] X.env = (false, eval a X.env) :: starEach [.Name tn p2] X.env := by rfl) (h2 : starEach [.Name tn p2] X.env = (false, eval (.Name tn p2) X.env) :: starEach [] X.env := by rfl) (hpl : (backTo pos (starEach [.Name tn p2] X.env)).any (·.1) = false := by rfl) :
    J X G p .fre (.Call (.Name "isinstance" p') [a, .Name tn p2] [] pos) (isiE T fa) :=
  pe_mono (pe_callB call_isi hg hm hv (pa_cons ha (pa_cons (pe_bltn (v := .ty T) hgT hmT hvT rfl hnT hdT) pa_nil h2) h1) (by decide) (by decide) h1 hpl) fun σ H Q ⟨env, S, q⟩ => by
    refine ⟨env, S, (Ok.bind3 (p' := true) (by simp) q).mono fun d env1 H1 ⟨f1, q1⟩ v rv => ?_⟩
    have rc := RpX.rpC (fun a z => S.dom a (f1.sub a z)) rv
    exact ⟨v, .ty T, .type (tyD d), .type T, isT T d, rfl, .ty T, tyX_of rc, kit_ty (kit_at hT d), q1.ret f1.st _ (.bl _)⟩
theorem j_rev {k : Nat} {p4 : Pos} (ha : J X G p la a fa) : J X G p .fre (.Subscript a (.Slice none none (some (.UnaryOp .USub (.Constant (.int 1) k p2) p3)) p4) pos) (op1 revD fa) := pe_mono (pe_revL ha) fun σ H Q ⟨env, S, q⟩ => by
  refine ⟨env, S, (Ok.bind3 (p' := true) (by simp) q).mono fun da env1 H1 ⟨f1, q1⟩ v rv => ?_⟩
  obtain ⟨d, e, q2⟩ := q1.lft f1.st
  have rc := RpX.rpC (fun a z => S.dom a (f1.sub a z)) rv
  cases da with
  | list ds =>
    cases e
    obtain ⟨a, xs, rfl, h1, h2⟩ := rc.list
    exact ⟨a, xs, rfl, .inl h1, fun p hn => q2 _ (same_new hn) _ (f1.back (l := .fre) ⟨p, _, rfl, hn, upd_same, h2.reverse.new hn⟩)⟩
  | _ => cases e
theorem j_chain {op op' : CmpOp} {g g' : D → D → Option D} (ho : OpR X (compareOp op) (r2 X.K .fre g)) (ho' : OpR X (compareOp op') (r2 X.K .fre g')) (ha : J X G pa la a fa) (hb : J X G pb lb b fb) (hc : J X G pc lc c fc)
    (hm : lastMarks [op, op'] [b, c] = false := by with_unfolding_all rfl) (hs : (la.safe || pb) = true := by rfl) (hs2 : (lb.safe || pc) = true := by rfl) : J X G (pa && (pb && pc)) .fre (.Compare a [op, op'] [b, c] pos) (chE g g' fa fb fc) :=
  pe_mono (pe_chain ho ho' ha hb hc hm) fun σ H Q ⟨env, S, q⟩ => by
    refine ⟨env, S, (Ok.bind3 (p' := pb && pc) rfl q).mono fun da env1 H1 ⟨f1, q1⟩ v rv => ?_⟩
    refine ⟨env1, f1.st, (Ok.bind3 (p' := pc) rfl q1).mono fun db env2 H2 ⟨f2, q2⟩ u ru => ?_⟩
    have ca := f2.carry f1.st rv (fun a z => S.dom a (f1.sub a z)) hs
    have cb := RpX.rpC (fun a z => f1.st.dom a (f2.sub a z)) ru
    cases eg : g da db with
    | none => rw [eg] at q2; exact q2.elim
    | some z =>
      rw [eg] at q2
      have q3 : Ok X.K G pc σ H2 env2 (bnd (lft (bolD z)) (fun k => if k = true then (bnd fc fun u => lft (g' db u)) else ret (.bool false)) env2) _ := q2
      cases ez : bolD z with
      | none => rw [ez] at q3; exact q3.elim
      | some k =>
        rw [ez] at q3
        have q4 : Ok X.K G pc σ H2 env2 ((if k = true then (bnd fc fun u => lft (g' db u)) else ret (.bool false)) env2) _ := q3
        refine ⟨G.R σ env2, da, db, z, f2.st.dom, ca.1, cb, eg, fun zv H3 s3 rz => ?_⟩
        cases z with
        | bool k' =>
          cases ez
          have ezv := (RpC.of (show Rp X.K H3 (G.R σ env2) zv (.bool k) from rz)).bool
          subst ezv
          refine ⟨k, rfl, ?_⟩
          have S3 := f2.st.same s3
          have e3 : Eff X.K G true σ H2 env2 H3 env2 := .of_same f2.st s3
          cases k with
          | true =>
            simp only [if_true] at q4 ⊢
            refine ⟨env2, S3, ?_⟩
            have q5 : Ok X.K G pc σ H3 env2 (bnd fc (fun u => lft (g' db u)) env2) fun d env' H' => ∀ v, RpX .fre X.K H H' (G.R σ env') v d → Q v H' := by
              revert q4
              unfold Ok
              cases bnd fc (fun u => lft (g' db u)) env2 with
              | no => exact id
              | exc x e => exact fun q c d H' f hx => q c d H' ((e3.trans f).weak (by simp)) hx
              | ok d e => exact fun q H' f => q H' ((e3.trans f).weak (by simp))
            refine (Ok.bind3 (p' := true) (by simp) q5).mono fun dc env4 H4 ⟨f4, q6⟩ w rw' => ?_
            obtain ⟨d, ed, q7⟩ := q6.lft f4.st
            have cb3 : RpC X.K H4 (G.R σ env4) u db := by
              have ru3 : RpX lb X.K H1 H3 (G.R σ env2) u db := by
                revert ru
                cases lb with
                | bor => exact fun ru => RpC.same s3 (fun _ z => z) ru
                | saf => exact fun ru => Rp.fwd (.of_same s3) ru
                | fre =>
                  intro ru
                  cases db with
                  | list ds =>
                    obtain ⟨a, xs, e, h1, h2, h3⟩ := ru
                    exact ⟨a, xs, e, h1, s3 _ _ h2, h3.fwd (.of_same s3)⟩
                  | dict ds =>
                    obtain ⟨a, xs, e, h1, h2, h3⟩ := ru
                    exact ⟨a, xs, e, h1, s3 _ _ h2, h3.fwd (.of_same s3)⟩
                  | none => exact Rp.fwd (.of_same s3) ru
                  | bool _ => exact Rp.fwd (.of_same s3) ru
                  | int _ => exact Rp.fwd (.of_same s3) ru
                  | str _ => exact Rp.fwd (.of_same s3) ru
                  | tuple _ => exact Rp.fwd (.of_same s3) ru
              exact (f4.carry S3 ru3 (fun a z => f1.st.dom a (f2.sub a z)) hs2).1
            refine ⟨G.R σ env4, db, dc, d, f4.st.dom, cb3, RpX.rpC (fun a z => S3.dom a (f4.sub a z)) rw', ed, fun v' H' s r => q7 H' s v' (f1.back (f2.back ?_))⟩
            have z4 := f4.back (l := .fre) r
            exact (Eff.back (K := X.K) (G := G) (p := true) e3 (l := .fre) z4)
          | false =>
            simp only [Bool.false_eq_true, if_false] at q4 ⊢
            have q5 : Ok X.K G pc σ H2 env2 (ret (PyData.bool false) env2) fun d env' H' => ∀ v, RpX .fre X.K H H' (G.R σ env') v d → Q v H' := q4
            exact q5 H3 (.of_same f2.st s3) _ (.bl false)
        | _ => cases ez

/-! dict displays -/
def JP (X : Cx) (G : Amb) (p : Bool) (pos : Pos) (keys : List (Option Expr)) (values : List Expr) (prs : List (M D × M D)) : Prop := ∃ trs, PPs X pos keys values trs ∧
  ∀ a σ H (Q : List (V × V) → Hp → Prop), (∃ env, StR X.K (G.blk a) σ H env ∧ Ok X.K (G.blk a) p σ H env (dispE prs env) fun es env' H' => ∀ ps, Eff X.K (G.blk a) p σ H env H' env' → Paired (fun (q : V × V) (e : D × D) => Rp X.K H' ((G.blk a).R σ env') q.1 e.1 ∧ Rp X.K H' ((G.blk a).R σ env') q.2 e.2) ps es → Q ps H') → tPairs trs σ H Q
theorem jp_nil : JP X G true pos [] [] [] := ⟨[], pps_nil, fun a σ H Q ⟨env, S, q⟩ => q.ret S [] (.refl S) .nil⟩
theorem jp_cons {k v : Expr} {ks : List (Option Expr)} {vs : List Expr} {prs : List (M D × M D)} (hk : ∀ a, J X (G.blk a) pa la k fa) (hv : ∀ a, J X (G.blk a) pb lb v fb) (hr : JP X G pc pos ks vs prs) (h1 : la.safe = true := by rfl) (h2 : lb.safe = true := by rfl) :
    JP X G (pa && (pb && pc)) pos (some k :: ks) (v :: vs) ((fa, fb) :: prs) := by
  obtain ⟨trs, h3, h4⟩ := hr
  have hk' : PE X k (eB X.K G pa la fa) := ⟨fun pn s σ H Q I ⟨a, q⟩ => (hk a).run pn s σ H Q I q⟩
  have hv' : PE X v (eB X.K G pb lb fb) := ⟨fun pn s σ H Q I ⟨a, q⟩ => (hv a).run pn s σ H Q I q⟩
  refine ⟨_, pps_cons hk' hv' h3, fun a0 σ H Q ⟨env, S, q⟩ => ?_⟩
  refine ⟨a0, env, S, (Ok.bind3 (p' := pb && pc) rfl q).mono fun da env1 H1 ⟨f1, q1⟩ v rv => ?_⟩
  refine ⟨a0, env1, f1.st, (Ok.bind3 (p' := pc) rfl q1).mono fun db env2 H2 ⟨f2, q2⟩ u ru => ?_⟩
  refine h4 a0 σ H2 _ ⟨env2, f2.st, (Ok.bind3 (p' := true) (by simp) q2).mono fun es env3 H3 ⟨f3, q3⟩ ps f3' rps => q3.ret f3.st _ (f1.trans (f2.trans f3')) (.cons ⟨?_, ?_⟩ rps)⟩
  · exact ((f2.trans f3).carry f1.st rv (fun a z => S.dom a (f1.sub a z)) (by rw [h1]; rfl)).2 h1
  · exact (f3.carry f2.st ru (fun a z => f1.st.dom a (f2.sub a z)) (by rw [h2]; rfl)).2 h2
theorem merge_rp {K : PySem.W.Frag} {H : Hp} {N : Addr → Prop} : ∀ {more : List (Key × V)} {es : List (D × D)} {kvs : List (Key × V)} {fs : List (D × D)}, RpKV K H N more es → RpKV K H N kvs fs → RpKV K H N (mergeK kvs more) (mergeE fs es)
  | _, _, _, _, .nil, r => r
  | _, _, kvs, fs, .cons (k := k) (v := v) (d := d) h r, r0 => by
    show RpKV K H N (mergeK (putK kvs k v) _) (mergeE (putE fs (keyD k) d) _)
    exact merge_rp r (r0.put (k := k) h)
theorem pairs_rp {K : PySem.W.Frag} {H : Hp} {N : Addr → Prop} : ∀ {ps : List (V × V)} {es : List (D × D)}, Paired (fun (q : V × V) (e : D × D) => Rp K H N q.1 e.1 ∧ Rp K H N q.2 e.2) ps es → es.all (fun e => isKey e.1) = true →
    ∃ kvs : List (Key × V), ps = kvs.map (fun kv => (kV kv.1, kv.2)) ∧ RpKV K H N kvs es
  | _, _, .nil, _ => ⟨[], rfl, .nil⟩
  | (k, v) :: ps, (x, y) :: es, .cons h r, a => by
    have a' := Bool.and_eq_true_iff.mp (show (isKey x && es.all (fun e => isKey e.1)) = true from a)
    obtain ⟨kvs, e1, e2⟩ := pairs_rp r a'.2
    obtain ⟨k1, rfl, e3⟩ := key_of_D (RpC.of h.1) a'.1
    exact ⟨(k1, v) :: kvs, by rw [e1, List.map_cons]; simp only at e3; rw [e3], .cons h.2 e2⟩
theorem j_dict0 : J X G true .fre (.Dict [] [] pos) (dicE []) := pe_mono pe_dnewK fun σ H Q ⟨env, S, q⟩ a hn => q _ (.of_same S (same_new hn)) _ ⟨a, [], rfl, hn, upd_same, .nil⟩
theorem StR.toZ {K : PySem.W.Frag} {σ : L2.St} {H : Hp} {env : EnvD} {a : Addr} {o : HO} (S : StR K G σ H env) (hn : H a = none) : StR K (G.blk a) σ (upd H a o) env := by
  have s : Same H (upd H a o) := same_new hn
  have fw : Fwd K (G.R σ env) ((G.blk a).R σ env) H (upd H a o) := ⟨fun b o e _ => s b o e, fun b o e _ => s b o e, fun b z n => by
    rcases (R_blk b).mp z with w | w
    · exact absurd w n
    · rw [w]; exact hn⟩
  refine ⟨S.len, S.keep.trans (Keep.of_same (N := G.IO) s) fun _ _ h => h, fun j d h => ?_, fun j d h => ?_, S.dis, fun b z => ?_, S.fix⟩
  · obtain ⟨v, e1, r⟩ := S.shr j d h
    exact ⟨v, e1, r.fwd fw⟩
  · obtain ⟨b, e1, r, oo, nz⟩ := S.own j d h
    obtain ⟨ob, hob, _⟩ := r.there
    have nb : b ≠ a := ne_of_none hob hn
    exact ⟨b, e1, r.at fw (upd_ne nb), oo, fun z => z.elim nz nb⟩
  · rcases z with z | z
    · obtain ⟨⟨u, e⟩, n⟩ := S.zd b z
      exact ⟨⟨u, s _ _ e⟩, n⟩
    · rw [z]
      refine ⟨⟨_, upd_same⟩, ?_⟩
      show G.H0 a = none
      cases q : G.H0 a with
      | none => rfl
      | some u =>
        obtain ⟨u', w⟩ := S.keep.there ⟨u, q⟩
        rw [hn] at w; cases w
theorem StR.ofZ {K : PySem.W.Frag} {σ : L2.St} {H : Hp} {env : EnvD} {a : Addr} (S : StR K (G.blk a) σ H env) : StR K G σ H env := by
  have fw : Fwd K ((G.blk a).R σ env) (G.R σ env) H H := .sub_same (Same.refl H) fun b z => (R_blk b).mpr (.inl z)
  refine ⟨S.len, S.keep, fun j d h => ?_, fun j d h => ?_, S.dis, fun b z => S.zd b (.inl z), S.fix⟩
  · obtain ⟨v, e1, r⟩ := S.shr j d h
    exact ⟨v, e1, r.fwd fw⟩
  · obtain ⟨b, e1, r, oo, nz⟩ := S.own j d h
    exact ⟨b, e1, r.at fw rfl, oo, fun z => nz (.inl z)⟩
theorem StR.updM {K : PySem.W.Frag} {σ : L2.St} {H : Hp} {env : EnvD} {a : Addr} {o o' : HO} (S : StR K G σ H env) (z : G.Z a) (h : H a = some o) (m : Mu o) : StR K G σ (upd H a o') env := by
  have fw : Fwd K (G.R σ env) (G.R σ env) H (upd H a o') := fwdM (.inl (.inr z)) h m
  refine ⟨S.len, fun b u e => ?_, fun j d w => ?_, fun j d w => ?_, S.dis, fun b w => ?_, S.fix⟩
  · have nb : b ≠ a := fun w => by
      subst w
      rw [(S.zd b z).2] at e; cases e
    rw [upd_ne nb]
    exact S.keep b u e
  · obtain ⟨v, e1, r⟩ := S.shr j d w
    exact ⟨v, e1, r.fwd fw⟩
  · obtain ⟨b, e1, r, oo, nz⟩ := S.own j d w
    exact ⟨b, e1, r.at fw (upd_ne fun q => nz (by rw [q]; exact z)), oo, nz⟩
  · refine ⟨?_, (S.zd b w).2⟩
    by_cases q : b = a
    · rw [q]; exact ⟨_, upd_same⟩
    · rw [upd_ne q]; exact (S.zd b w).1
theorem j_dict {keys : List (Option Expr)} {values : List Expr} {prs : List (M D × M D)} (h : JP X G p pos keys values prs) (hall : keys.all (·.isSome) = true := by rfl) (hl : keys.length = values.length := by rfl) (h0 : keys ≠ [] := by simp) (h15 : keys.length ≤ 15 := by decide) :
    J X G p .fre (.Dict keys values pos) (dicE prs) := by
  obtain ⟨trs, h1, h2⟩ := h
  refine pe_mono (pe_disp h1 hall hl h0 h15) fun σ H Q ⟨env, S, q⟩ a hn => h2 a σ _ _ ?_
  have S0 : StR X.K (G.blk a) σ (upd H a (.dK [])) env := S.toZ hn
  refine ⟨env, S0, ?_⟩
  have conv : ∀ {H' : Hp} {env' : EnvD}, Eff X.K (G.blk a) p σ (upd H a (.dK [])) env H' env' → ∀ {o' : HO}, Eff X.K G p σ H env (upd H' a o') env' ∧ Eff X.K G p σ H env H' env' ∧ H' a = some (.dK []) := fun {H' env'} f {o'} => by
    have ha : H' a = some (.dK []) := f.keepo.at upd_same (S0.zNot (.inr rfl))
    have k0 : Keep (rts σ env) H H' := (Keep.of_same (N := rts σ env) (same_new hn)).trans f.keepo fun _ _ z => z
    have e1 : Eff X.K G p σ H env H' env' := ⟨f.st.ofZ, fun hp => ⟨(f.pure hp).1, (same_new hn).trans (f.pure hp).2⟩, k0, f.subo⟩
    refine ⟨⟨(f.st.updM (.inr rfl) ha trivial).ofZ, fun hp => ⟨(f.pure hp).1, fun b u e => ?_⟩, fun b u e => ?_, f.subo⟩, e1, ha⟩
    · rw [upd_ne (ne_of_none e hn)]
      exact (e1.pure hp).2 b u e
    · have nb : b ≠ a := ne_of_none e hn
      rcases k0 b u e with z | ⟨z1, z2, u', z3, z4⟩
      · exact .inl (by rw [upd_ne nb]; exact z)
      · exact .inr ⟨z1, z2, u', by rw [upd_ne nb]; exact z3, z4⟩
  unfold dicE at q
  unfold Ok at q ⊢
  cases e : dispE prs env with
  | no => rw [e] at q; exact q
  | exc x env' =>
    rw [e] at q
    exact False.elim q
  | ok es env' =>
    rw [e] at q
    intro H' f ps f' rps
    obtain ⟨f2, f3, ha⟩ := conv f (o' := .dK [])
    simp only at q
    by_cases c : (es.all (fun e => isKey e.1) && decide (es.length ≤ 15)) = true
    · rw [if_pos c] at q
      simp only at q
      have c' := Bool.and_eq_true_iff.mp c
      obtain ⟨kvs, e1, e2⟩ := pairs_rp rps c'.1
      refine ⟨ha, kvs, e1, ?_, ?_⟩
      · rw [e2.length]; simpa using c'.2
      · refine q _ (conv f).1 (.ref a) ⟨a, mergeK [] kvs, rfl, hn, upd_same, ?_⟩
        have := merge_rp e2 .nil
        refine (this.fwd (fwdM (a := a) (o := .dK []) ?_ ha trivial)).fwd (.sub_same (Same.refl _) fun b z => (R_blk b).mpr z)
        exact (R_blk a).mpr (.inr rfl)
    · rw [if_neg c] at q
      exact False.elim q
end
end PV
namespace PV
open PySem PySem.Spec PyProof.Rows L2

def scaD : D → Bool
  | .none => true
  | .bool _ => true
  | .int _ => true
  | .str _ => true
  | _ => false
def flatF : D → Bool
  | .list ds => ds.all scaD
  | .dict es => es.all (fun e => scaD e.2)
  | .tuple _ => false
  | _ => true
/-- x, y = a, b -/
def parS (i j : Nat) (a b : M D) : Sm := thenS (consA a (consA b nilA)) fun ds => fun e => match ds with
  | [x, y] => .nx ((e.set i (.shr x)).set j (.shr y))
  | _ => .no
def parSO (i j : Nat) (a b : M D) : Sm := thenS a fun x => thenS b fun y => fun e => .nx ((e.set i (.shr x)).set j (ownC y))
def parOO (i j : Nat) (a b : M D) : Sm := thenS a fun x => thenS b fun y => fun e => if flatF y = true then .nx ((e.set i (ownC x)).set j (ownC y)) else .no
def par3S (i j k : Nat) (a b c : M D) : Sm := thenS (consA a (consA b (consA c nilA))) fun ds => fun e => match ds with
  | [x, y, z] => .nx (((e.set i (.shr x)).set j (.shr y)).set k (.shr z))
  | _ => .no
theorem sca_rp {K : PySem.W.Frag} {H H' : Hp} {N N' : Addr → Prop} {v : V} {d : D} (h : scaD d = true) (r : Rp K H N v d) : Rp K H' N' v d := by
  cases d with
  | none => cases r; exact .non
  | bool b => cases r; exact .bl _
  | int b => cases r; exact .int _
  | str b => cases r; exact .str _ ‹_›
  | list _ => cases h
  | tuple _ => cases h
  | dict _ => cases h
theorem sca_all {K : PySem.W.Frag} {H H' : Hp} {N N' : Addr → Prop} : ∀ {vs : List V} {ds : List D}, ds.all scaD = true → RpAll K H N vs ds → RpAll K H' N' vs ds
  | _, _, _, .nil => .nil
  | _, _, h, .cons r s => by
    have h' := Bool.and_eq_true_iff.mp (show (scaD _ && List.all _ scaD) = true from h)
    exact .cons (sca_rp h'.1 r) (sca_all h'.2 s)
theorem sca_kv {K : PySem.W.Frag} {H H' : Hp} {N N' : Addr → Prop} : ∀ {vs : List (Key × V)} {ds : List (D × D)}, ds.all (fun e => scaD e.2) = true → RpKV K H N vs ds → RpKV K H' N' vs ds
  | _, _, _, .nil => .nil
  | _, _, h, .cons r s => by
    simp only [List.all_cons, Bool.and_eq_true] at h
    have h' := h
    exact .cons (sca_rp h'.1 r) (sca_kv h'.2 s)
theorem RpF.subN {K : PySem.W.Frag} {H H' : Hp} {N N' : Addr → Prop} {v : V} {d : D} (sub : ∀ a, N' a → N a) (r : RpF K H H' N v d) : RpF K H H' N' v d := by
  have s2 : ∀ x a, (N' a ∨ a = x) → (N a ∨ a = x) := fun x a z => z.imp (sub a) id
  cases d with
  | list ds =>
    obtain ⟨a, xs, e, h1, h2, h3⟩ := r
    exact ⟨a, xs, e, h1, h2, h3.fwd (.sub_same (Same.refl _) (s2 a))⟩
  | dict ds =>
    obtain ⟨a, xs, e, h1, h2, h3⟩ := r
    exact ⟨a, xs, e, h1, h2, h3.fwd (.sub_same (Same.refl _) (s2 a))⟩
  | none => exact Rp.fwd (.sub_same (Same.refl _) sub) r
  | bool _ => exact Rp.fwd (.sub_same (Same.refl _) sub) r
  | int _ => exact Rp.fwd (.sub_same (Same.refl _) sub) r
  | str _ => exact Rp.fwd (.sub_same (Same.refl _) sub) r
  | tuple _ => exact Rp.fwd (.sub_same (Same.refl _) sub) r
theorem OkS.thenS1 {K : PySem.W.Frag} {G : Amb} {σ : L2.St} {H H1 : Hp} {env : EnvD} {fl : Lvl} {α : Type} {m : M α} {k : α → Sm} {Dn : Ends} (p : Bool) {p0 : Bool} (f0 : Eff K G p0 σ H env H1 env) (h : OkS K G fl σ H env (PV.thenS m k env) Dn) :
    Ok K G p σ H1 env (m env) fun a env1 H2 => Eff K G p σ H1 env H2 env1 ∧ OkS K G fl σ H env (k a env1) Dn := by
  unfold PV.thenS at h
  unfold Ok
  cases e : m env with
  | no => rw [e] at h; exact h
  | exc x env1 =>
    rw [e] at h
    exact fun c d H2 f hx => h σ H2 c d (.eff (f0.trans f)) hx
  | ok a env1 =>
    rw [e] at h
    exact fun H2 f => ⟨f, h⟩
theorem flat_rpF {K : PySem.W.Frag} {H H' : Hp} {N N' : Addr → Prop} {v : V} {d : D} (h : flatF d = true) (r : RpF K H H' N v d) : RpF K H H' N' v d := by
  cases d with
  | none => exact sca_rp (d := .none) rfl r
  | bool b => exact sca_rp (d := .bool b) rfl r
  | int b => exact sca_rp (d := .int b) rfl r
  | str b => exact sca_rp (d := .str b) rfl r
  | list ds =>
    obtain ⟨a, xs, e, h1, h2, h3⟩ := r
    exact ⟨a, xs, e, h1, h2, sca_all h h3⟩
  | tuple _ => cases h
  | dict ds =>
    obtain ⟨a, xs, e, h1, h2, h3⟩ := r
    exact ⟨a, xs, e, h1, h2, sca_kv h h3⟩
section
variable {X : Cx} {G : Amb} {p pa pb pc : Bool} {l la lb lc fl : Lvl} {e a b c : Expr} {es : List Expr} {f fa fb fc : M D} {pos px py pz pt pt2 : Pos} {x y z : Str} {kt k2 : _}
theorem js_par (i j : Nat) (hc : X.calm = true) (hN : X.N.Nodup) (hi : X.N[i]? = some x) (hj : X.N[j]? = some y) (hij : i ≠ j)
    (hx : X.env.scope.names.lookup x = some .local) (hy : X.env.scope.names.lookup y = some .local) (ha : JA X G p true [a, b] (consA fa (consA fb nilA)))
    (hw : swappedStores [.Tuple [.Name x px, .Name y py] kt pt] (.Tuple [a, b] k2 pt2) X.env = pure (some [x, y])) (hf : G.fx.contains i = false := by rfl) (hf2 : G.fx.contains j = false := by rfl)
    (hs : swapsWithSole [.Tuple [.Name x px, .Name y py] kt pt] (.Tuple [a, b] k2 pt2) pos.line X.env = pure false := by rfl) :
    JS X G fl (.Assign [.Tuple [.Name x px, .Name y py] kt pt] (.Tuple [a, b] k2 pt2) pos) (parS i j fa fb) := ps_mono (ps_par hc hN hi hj hij hx hy ha hw hs) fun Dn σ H ⟨env, S, q⟩ => by
  refine ⟨env, S, (OkS.thenS p q).mono fun ds env1 H1 ⟨f1, q1⟩ vs rv => ?_⟩
  cases rv with
  | nil => exact q1.elim
  | cons r1 rv =>
    cases rv with
    | nil => exact q1.elim
    | cons r2 rv =>
      cases rv with
      | cons _ _ => exact q1.elim
      | nil =>
        refine ⟨_, _, rfl, q1 _ H1 ?_⟩
        obtain ⟨S2, sub⟩ := f1.st.putS (i := i) (not_fx hf) r1
        obtain ⟨S3, sub3⟩ := S2.putS (i := j) (not_fx hf2) (r2.fwd (.sub_same (Same.refl _) (R_of sub)))
        exact ⟨S3, .refl _ _, fun a z => .inl (sub a (sub3 a z))⟩
theorem js_par3 (i j k : Nat) (hc : X.calm = true) (hN : X.N.Nodup) (hi : X.N[i]? = some x) (hj : X.N[j]? = some y) (hk : X.N[k]? = some z) (hij : i ≠ j) (hik : i ≠ k) (hjk : j ≠ k)
    (hx : X.env.scope.names.lookup x = some .local) (hy : X.env.scope.names.lookup y = some .local) (hz : X.env.scope.names.lookup z = some .local) (ha : JA X G p true [a, b, c] (consA fa (consA fb (consA fc nilA))))
    (hw : swappedStores [.Tuple [.Name x px, .Name y py, .Name z pz] kt pt] (.Tuple [a, b, c] k2 pt2) X.env = pure (some [x, y, z])) (hf : G.fx.contains i = false := by rfl) (hf2 : G.fx.contains j = false := by rfl) (hf3 : G.fx.contains k = false := by rfl)
    (hs : swapsWithSole [.Tuple [.Name x px, .Name y py, .Name z pz] kt pt] (.Tuple [a, b, c] k2 pt2) pos.line X.env = pure false := by rfl) :
    JS X G fl (.Assign [.Tuple [.Name x px, .Name y py, .Name z pz] kt pt] (.Tuple [a, b, c] k2 pt2) pos) (par3S i j k fa fb fc) := ps_mono (ps_par3 hc hN hi hj hk hij hik hjk hx hy hz ha hw hs) fun Dn σ H ⟨env, S, q⟩ => by
  refine ⟨env, S, (OkS.thenS p q).mono fun ds env1 H1 ⟨f1, q1⟩ vs rv => ?_⟩
  cases rv with
  | nil => exact q1.elim
  | cons r1 rv =>
    cases rv with
    | nil => exact q1.elim
    | cons r2 rv =>
      cases rv with
      | nil => exact q1.elim
      | cons r3 rv =>
        cases rv with
        | cons _ _ => exact q1.elim
        | nil =>
          refine ⟨_, _, _, rfl, q1 _ H1 ?_⟩
          obtain ⟨S2, sub⟩ := f1.st.putS (i := i) (not_fx hf) r1
          obtain ⟨S3, sub3⟩ := S2.putS (i := j) (not_fx hf2) (r2.fwd (.sub_same (Same.refl _) (R_of sub)))
          obtain ⟨S4, sub4⟩ := S3.putS (i := k) (not_fx hf3) (r3.fwd (.sub_same (Same.refl _) (R_of fun a z => sub a (sub3 a z))))
          exact ⟨S4, .refl _ _, fun a z => .inl (sub a (sub3 a (sub4 a z)))⟩
theorem js_parSO (i j : Nat) (hc : X.calm = true) (hN : X.N.Nodup) (hi : X.N[i]? = some x) (hj : X.N[j]? = some y) (hij : i ≠ j)
    (hx : X.env.scope.names.lookup x = some .local) (hy : X.env.scope.names.lookup y = some .local) (ha : J X G pa la a fa) (hb : J X G true .fre b fb)
    (h1 : starEach [a, b] X.env = (false, eval a X.env) :: starEach [b] X.env) (h2 : starEach [b] X.env = (false, eval b X.env) :: starEach [] X.env)
    (hw : swappedStores [.Tuple [.Name x px, .Name y py] kt pt] (.Tuple [a, b] k2 pt2) X.env = pure (some [x, y])) (hl : la.safe = true := by rfl) (hf : G.fx.contains i = false := by rfl) (hf2 : G.fx.contains j = false := by rfl)
    (hs : swapsWithSole [.Tuple [.Name x px, .Name y py] kt pt] (.Tuple [a, b] k2 pt2) pos.line X.env = pure false := by rfl) :
    JS X G fl (.Assign [.Tuple [.Name x px, .Name y py] kt pt] (.Tuple [a, b] k2 pt2) pos) (parSO i j fa fb) := ps_mono (ps_par hc hN hi hj hij hx hy (pa_cons ha (pa_cons hb pa_nil h2) h1) hw hs) fun Dn σ H ⟨env, S, q⟩ => by
  refine ⟨env, S, (OkS.thenS pa q).mono fun da env1 H1 ⟨f1, q1⟩ v rv => ?_⟩
  refine ⟨env1, f1.st, (OkS.thenS0 true q1).mono fun db env2 H2 ⟨f2, q2⟩ u ru => ⟨_, _, rfl, q2 _ H2 ?_⟩⟩
  obtain ⟨e1, s⟩ := f2.pure rfl
  subst e1
  obtain ⟨S2, sub⟩ := f1.st.putS (i := i) (not_fx hf) (RpX.rp (fun a z => S.dom a (f1.sub a z)) hl rv)
  have t := putO_step S2 (not_fx hf2) s (RpF.subN (R_of sub) ru)
  exact (Stp.trans ⟨S2, .refl _ _, fun a z => .inl (sub a z)⟩ t)
theorem js_parOO (i j : Nat) (hc : X.calm = true) (hN : X.N.Nodup) (hi : X.N[i]? = some x) (hj : X.N[j]? = some y) (hij : i ≠ j)
    (hx : X.env.scope.names.lookup x = some .local) (hy : X.env.scope.names.lookup y = some .local) (ha : J X G true .fre a fa) (hb : J X G true .fre b fb)
    (h1 : starEach [a, b] X.env = (false, eval a X.env) :: starEach [b] X.env) (h2 : starEach [b] X.env = (false, eval b X.env) :: starEach [] X.env)
    (hw : swappedStores [.Tuple [.Name x px, .Name y py] kt pt] (.Tuple [a, b] k2 pt2) X.env = pure (some [x, y])) (hf : G.fx.contains i = false := by rfl) (hf2 : G.fx.contains j = false := by rfl)
    (hs : swapsWithSole [.Tuple [.Name x px, .Name y py] kt pt] (.Tuple [a, b] k2 pt2) pos.line X.env = pure false := by rfl) :
    JS X G fl (.Assign [.Tuple [.Name x px, .Name y py] kt pt] (.Tuple [a, b] k2 pt2) pos) (parOO i j fa fb) := ps_mono (ps_par hc hN hi hj hij hx hy (pa_cons ha (pa_cons hb pa_nil h2) h1) hw hs) fun Dn σ H ⟨env, S, q⟩ => by
  refine ⟨env, S, (OkS.thenS0 true q).mono fun da env1 H1 ⟨f1, q1⟩ v rv => ?_⟩
  obtain ⟨e1, s1⟩ := f1.pure rfl
  subst e1
  refine ⟨env1, f1.st, (OkS.thenS1 true f1 q1).mono fun db env2 H2 ⟨f2, q2⟩ u ru => ⟨_, _, rfl, ?_⟩⟩
  obtain ⟨e2, s2⟩ := f2.pure rfl
  subst e2
  by_cases c : flatF db = true
  · rw [if_pos c] at q2
    refine q2 _ H2 ?_
    have t1 := putO_step S (not_fx hf) s1 rv
    have t2 := putO_step t1.st (not_fx hf2) s2 (flat_rpF c ru)
    exact t1.trans t2
  · rw [if_neg c] at q2
    exact q2.elim
end
end PV
namespace PV
open PySem PySem.Spec PyProof.Rows L2

/-! the head: no list stands in what the top has written -/
def isLst (o : Obj) : Bool := match o.cls with
  | .type c => decide (c = "list")
  | _ => false
def noLst (K : PySem.W.Frag) : Bool := K.all fun p => !isLst p.2
theorem noLst_at : ∀ {K : PySem.W.Frag} {a : Addr} {o : Obj}, noLst K = true → K.lookup a = some o → o.cls ≠ .type "list"
  | [], _, _, _, e => by cases e
  | (b, ob) :: r, a, o, h, e => by
    have h' := Bool.and_eq_true_iff.mp (show ((!isLst ob) && noLst r) = true from h)
    have e2 : (match a == b with | true => some ob | false => r.lookup a) = some o := e
    cases q : (a == b) with
    | true =>
      rw [q] at e2
      cases e2
      intro z
      have : isLst ob = true := by unfold isLst; rw [z]; rfl
      rw [this] at h'
      cases h'.1
    | false =>
      rw [q] at e2
      exact noLst_at h'.2 e2
abbrev AlP : Type := He.AlD × Bool
def obsP (n : Nat) (fa : List He.Fa) (fn : List He.DefD) (g : Addr → Option Obj) : AlP := (He.obsDG n fa fn g, noLst (He.frG g (He.asD g n)))
def valP (fn : List He.DefD) : AlP := (He.valD fn, true)
def SaysP (fa : List He.Fa) (fn : List He.DefD) (K : PySem.W.Frag) : Prop := He.SaysD fa fn K ∧ noLst K = true
def hookP (n : Nat) (fa : List He.Fa) (fn : List He.DefD) : PySem.W.Hook where
  α := AlP
  obs := fun s => obsP n fa fn s.heap.get?
  val := fun _ => valP fn
  says := fun _ h => ∃ K : PySem.W.Frag, K.In h ∧ SaysP fa fn K
  of := fun _ _ e => ⟨_, He.frG_in, congrArg Prod.fst e, congrArg Prod.snd e⟩
  keeps := fun _ _ _ ⟨K, hK, c⟩ k => ⟨K, PySem.W.Frag.In.keeps hK k, c⟩
theorem obsP_eq {n : Nat} {fa : List He.Fa} {fn : List He.DefD} {g : Addr → Option Obj} {s : Shared} (h : ∀ a, g a = s.heap.get? a) : obsP n fa fn g = (hookP n fa fn).obs s := by
  have e : g = s.heap.get? := funext h
  rw [e] <;> rfl
theorem fun_ofD {K : PySem.W.Frag} {x : Str} {st : Stmt} {f : Addr} {fd : FuncData} (F : FunD K x x (defArgs st) (defBody st) (defScope st) [] [] f fd) : L2.Fun K x x st f fd := by
  obtain ⟨oc, od, dV, kV, doc, pm, an, cdv, ct, osl, rfl, lk, hcd, hD, _⟩ := F.ex
  rcases hD with ⟨_, rfl⟩ | ⟨e, _⟩
  · exact ⟨⟨oc, od, kV, doc, pm, an, cdv, ct, osl, rfl, lk, hcd⟩, F.kp⟩
  · exact absurd rfl e
/-- a def of the top, as the head tells it -/
def dOf (x : Str) (st : Stmt) : He.DefD := ⟨(x, none), x, x, defArgs st, defBody st, defScope st, [], []⟩
theorem law_sp {K : PySem.W.Frag} {XR : XRT} {fl : Lvl} {g : Fn} (hg : ∀ ns : List Int, ns.length ≤ 63 → g [.list (ns.map .int)] = .ok (.bool true) []) (hK : noLst K = true) {H : Hp} {a : Addr} {ns : List Int} (hl : ns.length ≤ 63) (hS : SqL K H a (ns.map V.int)) :
    spF K XR fl [false] g [.ref a] H (fun v _ => v = .bl true) fun _ _ _ => False := by
  have hr : Rd H a (.lst (ns.map V.int)) := hS.resolve_right fun ⟨o, its, n, h1, h2, _⟩ => noLst_at hK h1 h2
  have all : ∀ l : List Int, RpAll K H (fun _ => False) (l.map V.int) (l.map PyData.int) := fun l => by
    induction l with
    | nil => exact .nil
    | cons x r ih => exact .cons (.int x) ih
  refine ⟨fun _ => False, [.list (ns.map .int)], fun _ z => z.elim, .val (.lst hr (fun z => z) (all ns)) .nil, List.nodup_nil, fun _ z => (by cases z), ?_⟩
  rw [hg ns hl]
  intro v H' _ r _
  cases fl with
  | bor => exact (show RpC K H' (fun _ => False) v (.bool true) from r).bool
  | saf => exact (RpC.of (show Rp K H' (fun _ => False) v (.bool true) from r)).bool
  | fre => exact (RpC.of (show Rp K H' (fun _ => False) v (.bool true) from r)).bool

/-! what the head tells, in one -/
structure Fx (fa : List He.Fa) (fn : List He.DefD) (K : PySem.W.Frag) (mg : Str → Option Value) : Prop where
  says : SaysP fa fn K
  there : ∃ h : Heap, K.In h ∧ h.Ns mainGlobals mg
section
variable {fa : List He.Fa} {fn : List He.DefD} {K : PySem.W.Frag} {mg : Str → Option Value}
theorem Fx.def_ (Z : Fx fa fn K mg) (i j : Nat) {x : Str} {st : Stmt} (h : fn[i]? = some (dOf x st)) (hg : fa[j]? = some (.glo x)) : ∃ f fd, L2.Fun K x x st f fd ∧ mg x = some (.ref f) := by
  obtain ⟨fd, F⟩ := Z.says.1.def_ i h
  obtain ⟨hp, X, N⟩ := Z.there
  exact ⟨_, fd, fun_ofD F, He.glo_ok X N (Z.says.1.fact j hg)⟩
theorem Fx.free (Z : Fx fa fn K mg) (j : Nat) {x : Str} (h : fa[j]? = some (.free x)) : mg x = none := by
  obtain ⟨hp, X, N⟩ := Z.there
  exact He.free_ok X N (Z.says.1.fact j h)
end
section
variable {P : Program} {w : World} {K : PySem.W.Frag} {mg : Str → Option Value} {base : Heap}
theorem fn_bot {XR : XRT} {x : Str} {st : Stmt} {f : Addr} {fd : FuncData} {N ps : List Str} {k : Nat} {io : List Bool} {fl : Lvl} (F : L2.Fun K x x st f fd) (hm : mg x = some (.ref f)) (hbd : Binds K fd ps []) (S : FnScope N ps (defScope st)) (hn : ps.length = io.length) :
    FnI P w K mg base CX0 XR x (k + 1) fl io (fun _ => .no) := by
  refine ⟨⟨f, fd, ps, F.ok S (fun vs H Q E h => ?_) fun cdv A outer s H vs Q E hr h => ?_, hm, F.kp, hbd⟩, fun _ _ => rfl⟩
  · obtain ⟨N1, ds, _, r, _⟩ := h
    rw [r.length, hn]
  · obtain ⟨N1, ds, _, _, _, _, h⟩ := h
    exact h.elim
end
def tcm (m : M D) : M Bool := bnd m fun d => lft (bolD d)
section
variable {X : Cx} {G : Amb} {pa pb : Bool} {la lb fl : Lvl} {a b : Expr} {fa fb : M D} {pos p' p2 : Pos} {x : Str}
theorem js_putG (k : Nat) (hu : X.A.units + 1 < cLine) (ho : PE X (.Name x p') (tVar k)) (hi : J X G pa la a fa) (hv : J X G pb lb b fb) (hl : lb.safe = true := by rfl) (hs : swapsWithSole [.Subscript (.Name x p') a p2] b pos.line X.env = pure false := by rfl)
    (hw : swappedStores [.Subscript (.Name x p') a p2] b X.env = pure none := by rfl) (h1 : (assignEach [.Subscript (.Name x p') a p2] X.env).map (·.2) = [assign (.Subscript (.Name x p') a p2) X.env] := by rfl)
    (ha : ∀ v, assign (.Subscript (.Name x p') a p2) X.env v = (do
      let ov ← holding [v] (eval (.Name x p') X.env)
      let iv ← holding [v, ov] (eval a X.env)
      standAt p2
      holding [v, ov, iv] (setItem ov iv v)
      release [v, ov, iv] []) := by intro _; rfl) : JS X G fl (.Assign [.Subscript (.Name x p') a p2] b pos) (putS k fa fb) :=
  js_put k hu ho hi hv hl hs hw h1 (pg_sub ho hi (PSet_or set_list (set_dict hu)) ha)
end
/-- the law's end -/
theorem law_walk {l : PySem.W.OpenLaw} {q : Program} {loose : List Str} {XP : (Str → Option Value) → Heap → Prop} {d : DefRec} {fa : List He.Fa} {fn : List He.DefD} {XR : XRT} {fl : Lvl} {g : Fn} {k i j : Nat} {st : Stmt}
    (hn : l.most = some 63) (hdf : d.params.defaults = []) (hname : d.name = ("law" : Str)) (hr : Room k callerA)
    (hfn : fn[i]? = some (dOf "law" st)) (hfa : fa[j]? = some (.glo "law"))
    (hbd : ∀ (kV doc pm : Value) (an : Option Addr) (cdv ct : Value) (us : List Value), us.length = 1 → bindArgs (PySem.W.fnOf "law" "law" (defArgs st) (defBody st) (defScope st) .none kV doc pm an cdv ct) ⟨us, []⟩ = pure ((["script"] : List Str).zip us))
    (F : ∀ (w : World) (K : PySem.W.Frag) (mg : Str → Option Value) (base : Heap), Fx fa fn K mg → ∀ (f : Addr) (fd : FuncData), L2.Fun K "law" "law" st f fd → FnOk l.prog w K mg base CX0 k f fd ["script"] (spF K XR fl [false] g))
    (hg : ∀ ns : List Int, ns.length ≤ 63 → g [.list (ns.map .int)] = .ok (.bool true) []) : PySem.W.WalkO q loose XP (hookP 4 fa fn).says l.row.toRowW d [] (fun f vs => PySem.call f vs) := by
  refine L2.walk_ofE (l := l) (n := 63) (k := k) (x := "script") (CX := L2.CX0) hn (by decide) hdf hr (fun w mg a h Y G hmg0 => ?_) (fun _ _ _ _ z => z)
  obtain ⟨K, KX, c⟩ := Y
  rw [hname] at hmg0
  have Z : Fx fa fn K mg := ⟨c, h, KX, G⟩
  obtain ⟨f, fd, F1, hm⟩ := Z.def_ i j hfn hfa
  have e : f = a := by
    rw [hm] at hmg0
    cases hmg0; rfl
  subst e
  obtain ⟨oc, od, kV, doc, pm, an, cdv, ct, osl, e2, lk, hcd⟩ := F1.ex
  refine ⟨K, fd, spF K XR fl [false] g, KX, fun s u => ?_, fun H b ns hl _ hS => law_sp hg c.2 hl hS, fun base _ _ => F w K mg base Z f fd F1⟩
  subst e2
  exact .of_eq (hbd kV doc pm an cdv ct [u] rfl)
end PV
namespace PV
open PySem PySem.Spec

/-! the machine of data, step by step -/
section
variable {α β : Type} {e e1 e2 : EnvD} {i j k : Nat} {m a b c : M D} {d x y z : D} {f g : Sm} {r r1 : M (List D)} {ds es : List D} {t ta tb : M Bool} {kb : Bool}
theorem sq_nx (h : f e = .nx e1) : sq f g e = g e1 := by unfold sq; rw [h]
theorem sq_rt (h : f e = .rt d e1) : sq f g e = .rt d e1 := by unfold sq; rw [h]
theorem thenS_ok {α : Type} {m : M α} {x : α} {k : α → Sm} (h : m e = .ok x e1) : thenS m k e = k x e1 := by unfold thenS; rw [h]
theorem bnd_ok {m : M α} {x : α} {k : α → M β} (h : m e = .ok x e1) : bnd m k e = k x e1 := by unfold bnd; rw [h]
theorem rdS_ok (h : e[i]? = some (.shr d)) : rdS i e = .ok d e := by unfold rdS; rw [h]
theorem rdB_ok (h : e[i]? = some (.own d)) : rdB i e = .ok d e := by unfold rdB; rw [h]
theorem rdF_ok (h : e[i]? = some (.own d)) : rdF i e = .ok d (e.set i (.shr d)) := by unfold rdF; rw [h]
theorem op1_ok {g : D → Option D} (h : m e = .ok x e1) (hg : g x = some z) : op1 g m e = .ok z e1 := by unfold op1; rw [bnd_ok h, hg]; rfl
theorem op2_ok {g : D → D → Option D} (h : a e = .ok x e1) (h2 : b e1 = .ok y e2) (hg : g x y = some z) : op2 g a b e = .ok z e2 := by unfold op2; rw [bnd_ok h, bnd_ok h2, hg]; rfl
theorem ifE_t {a b : M α} (h : t e = .ok true e1) : ifE t a b e = a e1 := by unfold ifE; rw [bnd_ok h]; rfl
theorem ifE_f {a b : M α} (h : t e = .ok false e1) : ifE t a b e = b e1 := by unfold ifE; rw [bnd_ok h]; rfl
theorem ifS_t (h : t e = .ok true e1) : ifS t f g e = f e1 := by unfold ifS; rw [thenS_ok h]; rfl
theorem ifS_f (h : t e = .ok false e1) : ifS t f g e = g e1 := by unfold ifS; rw [thenS_ok h]; rfl
theorem tcm_ok (h : m e = .ok (.bool kb) e1) : tcm m e = .ok kb e1 := by unfold tcm; rw [bnd_ok h]; rfl
theorem tru_ok (h : m e = .ok d e1) (hd : truD d = some kb) : tru m e = .ok kb e1 := by unfold tru; rw [bnd_ok h, hd]; rfl
theorem notT_ok (h : t e = .ok kb e1) : notT t e = .ok (!kb) e1 := by unfold notT; rw [bnd_ok h]; rfl
theorem andT_t (h : ta e = .ok true e1) : andT ta tb e = tb e1 := by unfold andT; rw [bnd_ok h]; rfl
theorem andT_f (h : ta e = .ok false e1) : andT ta tb e = .ok false e1 := by unfold andT; rw [bnd_ok h]; rfl
theorem orT_t (h : ta e = .ok true e1) : orT ta tb e = .ok true e1 := by unfold orT; rw [bnd_ok h]; rfl
theorem orT_f (h : ta e = .ok false e1) : orT ta tb e = tb e1 := by unfold orT; rw [bnd_ok h]; rfl
theorem andV_t (h : a e = .ok (.bool true) e1) : andV a b e = b e1 := by unfold andV; rw [bnd_ok h]; rfl
theorem andV_f (h : a e = .ok (.bool false) e1) : andV a b e = .ok (.bool false) e1 := by unfold andV; rw [bnd_ok h]; rfl
theorem orV_t (h : a e = .ok (.bool true) e1) : orV a b e = .ok (.bool true) e1 := by unfold orV; rw [bnd_ok h]; rfl
theorem orV_f (h : a e = .ok (.bool false) e1) : orV a b e = b e1 := by unfold orV; rw [bnd_ok h]; rfl
theorem consA_ok (h : a e = .ok x e1) (h2 : r e1 = .ok ds e2) : consA a r e = .ok (x :: ds) e2 := by unfold consA; rw [bnd_ok h, bnd_ok h2]; rfl
theorem nilA_ok : nilA e = .ok [] e := rfl
theorem tupE_ok (h : r e = .ok ds e1) (hl : ds.length ≤ sizeLine) : tupE r e = .ok (.tuple ds) e1 := by unfold tupE; rw [bnd_ok h, if_pos hl]; rfl
theorem lstE_ok (h : r e = .ok ds e1) (hl : ds.length ≤ sizeLine) : lstE r e = .ok (.list ds) e1 := by unfold lstE; rw [bnd_ok h, if_pos hl]; rfl
theorem callD_ok {g : List D → Option D} (h : r e = .ok ds e1) (hg : g ds = some z) : callD g r e = .ok z e1 := by unfold callD; rw [bnd_ok h, hg]; rfl
theorem cal_ok {g : Fn} {ios : List D} (h : r e = .ok ds e1) (hg : g ds = .ok z ios) : cal g r e = .ok z e1 := by unfold cal; rw [bnd_ok h]; unfold frM; rw [hg]
theorem setS_ok (h : m e = .ok d e1) : setS i m e = .nx (e1.set i (.shr d)) := by unfold setS; rw [thenS_ok h]
theorem setO_ok (h : m e = .ok d e1) : setO i m e = .nx (e1.set i (ownC d)) := by unfold setO; rw [thenS_ok h]
theorem rtn_ok (h : m e = .ok d e1) : rtn m e = .rt d e1 := by unfold rtn; rw [thenS_ok h]
/-- f(w, e): w handed on, the i-th slot -/
theorem calH1_ok {g : Fn} {w w' : D} (h : e[i]? = some (.own w)) (ha : r e = .ok ds e1) (h1 : e1[i]? = some (.own w)) (hj : ∀ e, fillH (ds.map fun _ => none) ds e = some ds) (hg : g (w :: ds) = .ok z [w']) (hp : ∀ e, putH (ds.map fun _ => none) [] e = some e) :
    calH g (some i :: ds.map fun _ => none) (holeA i r) e = .ok z (e1.set i (.own w')) := by
  unfold calH
  have h2 : holeA i r e = .ok (.none :: ds) e1 := by
    unfold holeA
    rw [h]
    show bnd r (fun ds => PV.ret (PyData.none :: ds)) e = _
    rw [bnd_ok ha]; rfl
  rw [bnd_ok h2]
  have h3 : fillH (some i :: ds.map fun _ => none) (.none :: ds) e1 = some (w :: ds) := by
    show (match e1[i]? with | some (.own d) => (fillH (ds.map fun _ => none) ds e1).map (d :: ·) | _ => none) = _
    rw [h1]
    show (fillH (ds.map fun _ => none) ds e1).map (w :: ·) = _
    rw [hj]; rfl
  simp only [h3, hg]
  have h4 : putH (some i :: ds.map fun _ => none) [w'] e1 = some (e1.set i (.own w')) := hp _
  rw [h4]
end

/-! loops -/
section
variable {t : Tg} {dead vs : List Nat} {body : Sm} {m : M (List D)} {e e1 : EnvD} {ds : List D} {tt : M Bool} {te : M D}
theorem frL_ind (Inv : Nat → EnvD → Prop) (Q : Out → Prop) (hs : ∀ (i : Nat) (d : D) (e : EnvD), ds[i]? = some d → Inv i e → ∃ e2, bindT t d (wip dead e) = some e2 ∧ (match body e2 with
      | .nx e3 => Inv (i + 1) e3
      | .ct e3 => Inv (i + 1) e3
      | .bk e3 => Q (.nx (wip dead e3))
      | .rt d e3 => Q (.rt d e3)
      | .exc x e3 => Q (.exc x e3)
      | .no => False)) (hz : ∀ e, Inv ds.length e → Q (.nx (wip dead e))) : ∀ (e : EnvD), Inv 0 e → Q (frL t dead body ds e) := by
  have key : ∀ (n : Nat) (i : Nat) (e : EnvD), ds.length - i = n → i ≤ ds.length → Inv i e → Q (frL t dead body (ds.drop i) e) := by
    intro n
    induction n with
    | zero =>
      intro i e h1 h2 h3
      have : i = ds.length := by omega
      subst this
      rw [List.drop_length]
      exact hz e h3
    | succ n ih =>
      intro i e h1 h2 h3
      have hi : i < ds.length := by omega
      rw [List.drop_eq_getElem_cons hi]
      obtain ⟨e2, q1, q2⟩ := hs i ds[i] e (List.getElem?_eq_getElem hi) h3
      unfold frL
      rw [q1]
      simp only
      cases eb : body e2 with
      | nx e3 => rw [eb] at q2; exact ih (i + 1) e3 (by omega) (by omega) q2
      | ct e3 => rw [eb] at q2; exact ih (i + 1) e3 (by omega) (by omega) q2
      | bk e3 => rw [eb] at q2; exact q2
      | rt d e3 => rw [eb] at q2; exact q2
      | exc x e3 => rw [eb] at q2; exact q2
      | no => rw [eb] at q2; exact q2.elim
  intro e h
  have := key ds.length 0 e (by omega) (by omega) h
  rwa [List.drop_zero] at this
/-- a loop that runs to its end -/
theorem frS_nx (Inv : Nat → EnvD → Prop) (hm : m e = .ok ds e1) (h0 : Inv 0 e1) (hs : ∀ (i : Nat) (d : D) (e : EnvD), ds[i]? = some d → Inv i e → ∃ e2 e3, bindT t d (wip dead e) = some e2 ∧ body e2 = .nx e3 ∧ Inv (i + 1) e3) :
    ∃ e2, frS t dead m body e = .nx (wip dead e2) ∧ Inv ds.length e2 := by
  unfold frS
  rw [thenS_ok hm]
  exact frL_ind (t := t) (dead := dead) (body := body) (ds := ds) Inv (fun o => ∃ e2, o = .nx (wip dead e2) ∧ Inv ds.length e2) (fun i d e h q => by
    obtain ⟨e2, e3, h1, h2, h3⟩ := hs i d e h q
    exact ⟨e2, h1, by rw [h2]; exact h3⟩) (fun e q => ⟨e, rfl, q⟩) e1 h0
theorem lcL_map {ds : List D} {acc : List D} {e0 : EnvD} (p : D → Bool) (f : D → D) (h : ∀ d ∈ ds, ∃ e2, bindT t d e0 = some e2 ∧ tt e2 = .ok (p d) e2 ∧ (p d = true → te e2 = .ok (f d) e2) ∧ wip vs e2 = e0) :
    lcL t vs tt te ds acc e0 = .ok (acc ++ (ds.filter p).map f) e0 := by
  induction ds generalizing acc with
  | nil => simp [lcL]
  | cons d ds ih =>
    obtain ⟨e2, h1, h2, h3, h4⟩ := h d List.mem_cons_self
    unfold lcL
    rw [h1]
    simp only [h2]
    cases hp : p d with
    | true =>
      simp only [if_true, h3 hp]
      rw [h4, ih fun d hd => h d (List.mem_cons_of_mem _ hd)]
      simp [List.filter_cons, hp]
    | false =>
      simp only [Bool.false_eq_true, if_false]
      rw [h4, ih fun d hd => h d (List.mem_cons_of_mem _ hd)]
      simp [List.filter_cons, hp]
/-- [f x for x in ds if p x], nothing changed -/
theorem lcE_map (p : D → Bool) (f : D → D) (hm : m e = .ok ds e1) (hno : noOwn vs e1 = true) (hr : rst vs e1 (wip vs e1) = e1) (h : ∀ d ∈ ds, ∃ e2, bindT t d (wip vs e1) = some e2 ∧ tt e2 = .ok (p d) e2 ∧ (p d = true → te e2 = .ok (f d) e2) ∧ wip vs e2 = wip vs e1) :
    lcE t vs tt te m e = .ok (.list ((ds.filter p).map f)) e1 := by
  unfold lcE
  rw [bnd_ok hm]
  simp only [hno, if_true]
  rw [lcL_map p f h]
  simp only [List.nil_append]
  rw [hr]
theorem lcE_all (f : D → D) (hm : m e = .ok ds e1) (hno : noOwn vs e1 = true) (hr : rst vs e1 (wip vs e1) = e1) (h : ∀ d ∈ ds, ∃ e2, bindT t d (wip vs e1) = some e2 ∧ te e2 = .ok (f d) e2 ∧ wip vs e2 = wip vs e1) :
    lcE t vs yesT te m e = .ok (.list (ds.map f)) e1 := by
  have := lcE_map (t := t) (vs := vs) (tt := yesT) (te := te) (fun _ => true) f hm hno hr fun d hd => by
    obtain ⟨e2, h1, h2, h3⟩ := h d hd
    exact ⟨e2, h1, rfl, fun _ => h2, h3⟩
  rw [this]
  have e3 : ds.filter (fun _ => true) = ds := List.filter_eq_self.mpr fun _ _ => rfl
  rw [e3]
end
section
variable {t : Tg} {dead vs : List Nat} {body : Sm} {m : M (List D)} {e e1 : EnvD} {ds : List D} {tt : M Bool} {te : M D}
theorem lcL_inv {ds : List D} {acc : List D} {e0 : EnvD} (Inv : EnvD → Prop) (P : D → Prop) (h0 : Inv e0) (hs : ∀ d ∈ ds, ∀ e, Inv e → ∃ e2 y e3, bindT t d e = some e2 ∧ te e2 = .ok y e3 ∧ P y ∧ Inv (wip vs e3)) :
    ∃ out e', lcL t vs yesT te ds acc e0 = .ok (acc ++ out) e' ∧ Inv e' ∧ (∀ y ∈ out, P y) ∧ out.length = ds.length := by
  induction ds generalizing acc e0 with
  | nil => exact ⟨[], e0, by simp [lcL], h0, by simp, rfl⟩
  | cons d ds ih =>
    obtain ⟨e2, y, e3, h1, h2, h3, h4⟩ := hs d List.mem_cons_self e0 h0
    obtain ⟨out, e', g1, g2, g3, g4⟩ := ih (acc := acc ++ [y]) h4 fun d hd => hs d (List.mem_cons_of_mem _ hd)
    refine ⟨y :: out, e', ?_, g2, fun z hz => ?_, by rw [List.length_cons, g4, List.length_cons]⟩
    · unfold lcL
      rw [h1]
      simp only [yesT, PV.ret, if_true, h2]
      show lcL t vs yesT te ds (acc ++ [y]) (wip vs e3) = _
      rw [g1, List.append_assoc]; rfl
    · rcases List.mem_cons.mp hz with q | q
      · rw [q]; exact h3
      · exact g3 z q
/-- [e for x in ds], where e changes things -/
theorem lcE_inv (Inv : EnvD → Prop) (P : D → Prop) (hm : m e = .ok ds e1) (hno : noOwn vs e1 = true) (h0 : Inv (wip vs e1)) (hs : ∀ d ∈ ds, ∀ e, Inv e → ∃ e2 y e3, bindT t d e = some e2 ∧ te e2 = .ok y e3 ∧ P y ∧ Inv (wip vs e3)) :
    ∃ out e', lcE t vs yesT te m e = .ok (.list out) (rst vs e1 e') ∧ Inv e' ∧ (∀ y ∈ out, P y) ∧ out.length = ds.length := by
  obtain ⟨out, e', g1, g2, g3, g4⟩ := lcL_inv (t := t) (vs := vs) (te := te) (acc := []) Inv P h0 hs
  refine ⟨out, e', ?_, g2, g3, g4⟩
  unfold lcE
  rw [bnd_ok hm]
  simp only [hno, if_true, g1, List.nil_append]
end
theorem rngOk_of {lo hi : Int} (h1 : -4611686018427387904 ≤ lo) (h2 : lo < 4611686018427387904) (h3 : -4611686018427387904 ≤ hi) (h4 : hi < 4611686018427387904) (h5 : hi - lo ≤ 16777216) : rngOk lo hi = true := by
  unfold rngOk sizeLine
  simp only [Bool.and_eq_true, decide_eq_true_eq]
  refine ⟨⟨⟨⟨?_, ?_⟩, ?_⟩, ?_⟩, ?_⟩ <;> omega
theorem rngI1_ok {r : M (List D)} {e e1 : EnvD} {n : Int} (h : r e = .ok [.int n] e1) (h1 : -4611686018427387904 ≤ n) (h2 : n ≤ 16777216) : rngI1 r e = .ok (rngD 0 n) e1 := by
  unfold rngI1
  rw [bnd_ok h]
  have := rngOk_of (lo := 0) (hi := n) (by omega) (by omega) h1 (by omega) (by omega)
  unfold rngA1
  simp only [this, if_true]
  rfl
theorem rngI2_ok {r : M (List D)} {e e1 : EnvD} {l n : Int} (h : r e = .ok [.int l, .int n] e1) (h0 : -16777216 ≤ l) (h0' : l < 4611686018427387904) (h1 : -4611686018427387904 ≤ n) (h2 : n ≤ 0 ∨ n ≤ 16777216 + l) (h3 : n < 4611686018427387904) : rngI2 r e = .ok (rngD l n) e1 := by
  unfold rngI2
  rw [bnd_ok h]
  have := rngOk_of (lo := l) (hi := n) (by omega) (by omega) h1 (by omega) (by omega)
  unfold rngA2
  simp only [this, if_true]
  rfl
theorem rngD_nat (n : Nat) : rngD 0 (n : Int) = (List.range n).map fun (i : Nat) => PyData.int (i : Int) := by
  unfold rngD
  have : ((n : Int) - 0).toNat = n := by omega
  rw [this]
  apply List.map_congr_left
  intro i _
  simp
theorem rngD_at {lo hi : Int} {i : Nat} {d : D} (h : (rngD lo hi)[i]? = some d) : d = .int (lo + i) ∧ lo + i < hi := by
  unfold rngD at h
  rw [List.getElem?_map] at h
  cases q : (List.range (hi - lo).toNat)[i]? with
  | none => rw [q] at h; cases h
  | some j =>
    rw [q] at h
    have hj := List.getElem?_eq_some_iff.mp q
    obtain ⟨h1, h2⟩ := hj
    rw [List.getElem_range] at h2
    subst h2
    rw [List.length_range] at h1
    refine ⟨(Option.some.inj h).symm, by omega⟩
theorem rngD_len (lo hi : Int) : (rngD lo hi).length = (hi - lo).toNat := by unfold rngD; rw [List.length_map, List.length_range]
theorem rngD_mem {lo hi : Int} {d : D} (h : d ∈ rngD lo hi) : ∃ i : Int, d = .int i ∧ lo ≤ i ∧ i < hi := by
  obtain ⟨i, hi⟩ := List.getElem?_of_mem h
  obtain ⟨h1, h2⟩ := rngD_at hi
  exact ⟨_, h1, by omega, h2⟩
end PV
namespace PV
open PySem PySem.Spec PyProof.Rows L2
/-! defs that many laws have, as functions of data (printed by gen.py) -/
def q__law_draws_1 : Sm :=
 setO 2 (lstE (nilA))
def q__law_draws_2 : Sm :=
 setS 3 (ret (.int 7))
def q__law_draws_4 : Sm :=
 setS 5 (callD absD (consA (callD intD (consA (op2 ixD (rdS 0) (rdS 4)) (nilA))) (nilA)))
def q__law_draws_5 : Sm :=
 setS 3 (op2 modD (callD intD (consA (op2 addD (op2 addD (op2 mulD (rdS 3) (ret (.int 48271))) (op2 modD (rdS 5) (ret (.int 1000003)))) (rdS 4)) (nilA))) (ret (.int 65537)))
def q__law_draws_6 : Sm :=
 setS 6 (ret (.int 0))
def q__law_draws_8 : Sm :=
 setS 6 (rdS 5)
def q__law_draws_9 : Sm :=
 appS 2 (op2 modD (callD intD (consA (rdS 5) (nilA))) (ret (.int 997)))
def q__law_draws_10 : Sm :=
 appS 2 (op2 modD (op2 modD (callD intD (consA (op2 addD (op2 mulD (rdS 3) (ret (.int 69621))) (ret (.int 5))) (nilA))) (ret (.int 65521))) (ret (.int 997)))
def q__law_draws_7 : Sm :=
 ifS (tcm (op2 geD (rdS 5) (op2 powD (ret (.int 10)) (ret (.int 18)))))
 (q__law_draws_8)
 (sq (q__law_draws_9) (q__law_draws_10))
def q__law_draws_13 : Sm :=
 appS 2 (op2 modD (callD intD (consA (rdS 6) (nilA))) (ret (.int 997)))
def q__law_draws_14 : Sm :=
 setS 6 (op2 fdivD (rdS 6) (ret (.int 997)))
def q__law_draws_12 : Sm :=
 ifS (tcm (op2 gtD (rdS 6) (ret (.int 0))))
 (sq (q__law_draws_13) (q__law_draws_14))
 (nxt)
def q__law_draws_11 : Sm :=
 frS (.nm 7) [7] (rngI1 (consA (ret (.int 60)) (nilA)))
 (q__law_draws_12)
def q__law_draws_3 : Sm :=
 frS (.nm 4) [4, 5, 6, 7] (rngI1 (consA (callD lenD (consA (rdS 0) (nilA))) (nilA)))
 (sq (q__law_draws_4) (sq (q__law_draws_5) (sq (q__law_draws_6) (sq (q__law_draws_7) (q__law_draws_11)))))
def q__law_draws_16 : Sm :=
 setS 3 (op2 modD (callD intD (consA (op2 addD (op2 addD (op2 mulD (rdS 3) (ret (.int 16807))) (rdS 4)) (ret (.int 1))) (nilA))) (ret (.int 65537)))
def q__law_draws_17 : Sm :=
 appS 2 (op2 modD (callD intD (consA (rdS 3) (nilA))) (ret (.int 997)))
def q__law_draws_15 : Sm :=
 frS (.nm 4) [4] (rngI1 (consA (rdS 1) (nilA)))
 (sq (q__law_draws_16) (q__law_draws_17))
def q__law_draws_18 : Sm :=
 rtn (slE slD (rdB 2) (none) (some (rdS 1)))
def d__law_draws : Sm := sq (q__law_draws_1) (sq (q__law_draws_2) (sq (q__law_draws_3) (sq (q__law_draws_15) (q__law_draws_18))))
def f__law_draws : Fn := fnD [false, false] 8 d__law_draws
def q__law_next_1 : Sm :=
 augS iaddD 0 (ret (.str "at")) (ret (.int 1))
def q__law_next_3 : Sm :=
 rtn (ret (.int 0))
def q__law_next_2 : Sm :=
 ifS (tcm (op2 gtD (op2 ixD (rdB 0) (ret (.str "at"))) (callD lenD (consA (op2 ixD (rdB 0) (ret (.str "draws"))) (nilA)))))
 (q__law_next_3)
 (nxt)
def q__law_next_4 : Sm :=
 rtn (op2 modD (callD intD (consA (op2 ixD (op2 ixD (rdB 0) (ret (.str "draws"))) (op2 subD (op2 ixD (rdB 0) (ret (.str "at"))) (ret (.int 1)))) (nilA))) (rdS 1))
def d__law_next : Sm := sq (q__law_next_1) (sq (q__law_next_2) (q__law_next_4))
def f__law_next : Fn := fnD [true, false] 2 d__law_next
def q__law_pick_1 : Sm :=
 rtn (op2 ixD (rdS 1) (calH (f__law_next) [some 0, none] (holeA 0 (consA (callD lenD (consA (rdS 1) (nilA))) (nilA)))))
def d__law_pick : Sm := q__law_pick_1
def f__law_pick : Fn := fnD [true, false] 2 d__law_pick
def q__law_alike_3 (r__law_alike : Fn) : Sm :=
 rtn (ret (.bool false))
def q__law_alike_2 (r__law_alike : Fn) : Sm :=
 ifS (orT (notT (tru (isiE "tuple" (rdS 0)))) (tcm (op2 neD (callD lenD (consA (rdS 0) (nilA))) (callD lenD (consA (rdS 1) (nilA))))))
 (q__law_alike_3 r__law_alike)
 (nxt)
def q__law_alike_4 (r__law_alike : Fn) : Sm :=
 rtn (op2 eqD (lcE (.nm 2) [2] (notT (tru (cal (r__law_alike) (consA (op2 ixD (rdS 0) (rdS 2)) (consA (op2 ixD (rdS 1) (rdS 2)) (nilA)))))) (rdS 2) (rngI1 (consA (callD lenD (consA (rdS 1) (nilA))) (nilA)))) (lstE (nilA)))
def q__law_alike_1 (r__law_alike : Fn) : Sm :=
 ifS (tru (isiE "tuple" (rdS 1)))
 (sq (q__law_alike_2 r__law_alike) (q__law_alike_4 r__law_alike))
 (nxt)
def q__law_alike_6 (r__law_alike : Fn) : Sm :=
 rtn (op2 isD (rdS 0) (ret .none))
def q__law_alike_5 (r__law_alike : Fn) : Sm :=
 ifS (tcm (op2 isD (rdS 1) (ret .none)))
 (q__law_alike_6 r__law_alike)
 (nxt)
def q__law_alike_8 (r__law_alike : Fn) : Sm :=
 rtn (andV (isiE "bool" (rdS 0)) (op2 eqD (rdS 0) (rdS 1)))
def q__law_alike_7 (r__law_alike : Fn) : Sm :=
 ifS (tru (isiE "bool" (rdS 1)))
 (q__law_alike_8 r__law_alike)
 (nxt)
def q__law_alike_10 (r__law_alike : Fn) : Sm :=
 rtn (andV (isiE "int" (rdS 0)) (andV (notV (isiE "bool" (rdS 0))) (op2 eqD (rdS 0) (rdS 1))))
def q__law_alike_9 (r__law_alike : Fn) : Sm :=
 ifS (tru (isiE "int" (rdS 1)))
 (q__law_alike_10 r__law_alike)
 (nxt)
def q__law_alike_11 (r__law_alike : Fn) : Sm :=
 rtn (andV (isiE "str" (rdS 0)) (op2 eqD (rdS 0) (rdS 1)))
def d__law_alike (r__law_alike : Fn) : Sm := sq (q__law_alike_1 r__law_alike) (sq (q__law_alike_5 r__law_alike) (sq (q__law_alike_7 r__law_alike) (sq (q__law_alike_9 r__law_alike) (q__law_alike_11 r__law_alike))))
def f__law_alike : Nat → Fn
  | 0 => fun _ => .no
  | n + 1 => fnD [false, false] 3 (d__law_alike (f__law_alike n))
end PV
namespace PV
open PySem PySem.Spec PyProof.Rows

theorem fnD_ok {io : List Bool} {n : Nat} {b : Sm} {ds : List D} (h : ds.length = io.length) : fnD io n b ds = outF false (fxOf 0 io) (b (startE io ds ++ List.replicate (n - ds.length) .emp)) := by unfold fnD; rw [if_pos h]

/-! calls that hand w on -/
section
variable {e e1 : EnvD} {i : Nat} {g : Fn} {w w' x y z u : D} {m m2 m3 : M D}
theorem calH1 (h : e[i]? = some (.own w)) (hg : g [w] = .ok z [w']) : calH g [some i] (holeA i nilA) e = .ok z (e.set i (.own w')) := by
  unfold calH holeA
  simp only [bnd, h, nilA, PV.ret, fillH, Option.map_some, hg, putH]
theorem calH2 (h : e[i]? = some (.own w)) (ha : m e = .ok x e1) (h1 : e1[i]? = some (.own u)) (hg : g [u, x] = .ok z [w']) : calH g [some i, none] (holeA i (consA m nilA)) e = .ok z (e1.set i (.own w')) := by
  unfold calH holeA consA
  simp only [bnd, h, nilA, PV.ret, ha, fillH, h1, Option.map_some, hg, putH]
theorem calH3 {e2 : EnvD} (h : e[i]? = some (.own w)) (ha : m e = .ok x e1) (hb : m2 e1 = .ok y e2) (h1 : e2[i]? = some (.own u)) (hg : g [u, x, y] = .ok z [w']) : calH g [some i, none, none] (holeA i (consA m (consA m2 nilA))) e = .ok z (e2.set i (.own w')) := by
  unfold calH holeA consA
  simp only [bnd, h, nilA, PV.ret, ha, hb, fillH, h1, Option.map_some, hg, putH]
end

/-! the law's draws -/
def mkW (ds : List Int) (a : Int) : D := .dict [(.str "draws", .list (ds.map .int)), (.str "at", .int a)]
def WD (W : D) : Prop := ∃ (ds : List Int) (a : Int), W = mkW ds a ∧ (∀ x ∈ ds, 0 ≤ x) ∧ 0 ≤ a
theorem nx_1 (ds : List Int) (a : Int) (m : D) : q__law_next_1 [.own (mkW ds a), .shr m] = .nx [.own (mkW ds (a + 1)), .shr m] := by kernel_rfl
theorem nx_2 (ds : List Int) (a : Int) (m : D) : op2 ixD (rdB 0) (ret (.str "at")) [.own (mkW ds a), .shr m] = .ok (.int a) [.own (mkW ds a), .shr m] := by kernel_rfl
theorem nx_3 (ds : List Int) (a : Int) (m : D) : op2 ixD (rdB 0) (ret (.str "draws")) [.own (mkW ds a), .shr m] = .ok (.list (ds.map .int)) [.own (mkW ds a), .shr m] := by kernel_rfl
theorem next_ok {W : D} (h : WD W) {m : Int} (hm : 0 < m) : ∃ (r : Int) (W' : D), f__law_next [W, .int m] = .ok (.int r) [W'] ∧ WD W' ∧ 0 ≤ r ∧ r < m := by
  obtain ⟨ds, a, rfl, hd, ha⟩ := h
  have hw : WD (mkW ds (a + 1)) := ⟨ds, a + 1, rfl, hd, by omega⟩
  have e1 : f__law_next [mkW ds a, .int m] = outF false [0] (d__law_next [.own (mkW ds a), .shr (.int m)]) := rfl
  rw [e1]
  unfold d__law_next
  rw [sq_nx (nx_1 ds a _)]
  have hl : callD lenD (consA (op2 ixD (rdB 0) (ret (.str "draws"))) nilA) [.own (mkW ds (a + 1)), .shr (.int m)] = .ok (.int (ds.length : Int)) [.own (mkW ds (a + 1)), .shr (.int m)] :=
    callD_ok (consA_ok (nx_3 ds (a + 1) _) nilA_ok) (by show some (PyData.int (((ds.map PyData.int).length : Nat) : Int)) = _; rw [List.length_map])
  by_cases c : a + 1 > ds.length
  · refine ⟨0, _, ?_, hw, by omega, hm⟩
    unfold q__law_next_2
    rw [sq_rt (d := .int 0) (e1 := [.own (mkW ds (a + 1)), .shr (.int m)])]
    · rfl
    · rw [ifS_t (e1 := [.own (mkW ds (a + 1)), .shr (.int m)])]
      · rfl
      · exact tcm_ok (op2_ok (nx_2 ds (a + 1) _) hl (by show some (PyData.bool (decide ((ds.length : Int) < a + 1))) = _; rw [decide_eq_true c]))
  · have hi : a.toNat < ds.length := by omega
    refine ⟨ds[a.toNat] % m, _, ?_, hw, Int.emod_nonneg _ (by omega), Int.emod_lt_of_pos _ hm⟩
    unfold q__law_next_2
    rw [sq_nx (e1 := [.own (mkW ds (a + 1)), .shr (.int m)])]
    · unfold q__law_next_4
      rw [rtn_ok (d := .int (ds[a.toNat] % m)) (e1 := [.own (mkW ds (a + 1)), .shr (.int m)])]
      · rfl
      · refine op2_ok (callD_ok (consA_ok (op2_ok (nx_3 ds (a + 1) _) (op2_ok (nx_2 ds (a + 1) _) rfl (z := .int a) (by show some (PyData.int (a + 1 - 1)) = _; rw [Int.add_sub_cancel])) (z := .int ds[a.toNat]) ?_) nilA_ok) rfl) (rdS_ok rfl) ?_
        · show L2.atI (ds.map PyData.int) a = _
          have h3 : (ds.map PyData.int)[a.toNat]? = some (.int ds[a.toNat]) := by rw [List.getElem?_map, List.getElem?_eq_getElem hi]; rfl
          have h4 := L2.atI_nat h3
          rwa [Int.toNat_of_nonneg ha] at h4
        · show (if decide (0 < m) = true then some (PyData.int (ds[a.toNat] % m)) else none) = _
          rw [decide_eq_true hm]; rfl
    · rw [ifS_f (e1 := [.own (mkW ds (a + 1)), .shr (.int m)])]
      · rfl
      · exact tcm_ok (op2_ok (nx_2 ds (a + 1) _) hl (by show some (PyData.bool (decide ((ds.length : Int) < a + 1))) = _; rw [decide_eq_false (by omega)]))

theorem appS_ok {e : EnvD} {k : Nat} {m : M D} {ds : List D} {v : D} (h : e[k]? = some (.own (.list ds))) (hm : m e = .ok v e) (hl : ds.length < sizeLine) : appS k m e = .nx (e.set k (.own (.list (ds ++ [v])))) := by
  unfold appS
  rw [h]
  simp only
  rw [thenS_ok hm, h]
  simp only [hl, if_true]
theorem mul_ok {a b : Int} (h : -(2 ^ 64) < a ∧ a < 2 ^ 64 ∨ -(2 ^ 64) < b ∧ b < 2 ^ 64) : mulD (.int a) (.int b) = some (.int (a * b)) := by
  show (if cMulB a b = true then some (PyData.int (a * b)) else none) = _
  rw [if_pos]
  unfold cMulB
  simp only [Bool.or_eq_true, Bool.and_eq_true, decide_eq_true_eq]
  exact h
theorem mod_ok {a b : Int} (h : 0 < b) : modD (.int a) (.int b) = some (.int (a % b)) := by show (if decide (0 < b) = true then some (PyData.int (a % b)) else none) = _; rw [decide_eq_true h]; rfl
/-- the draws: no matter which, none is below 0 -/
theorem draws_ok (ns : List Int) (h : ns.length ≤ 63) (many : Int) (h0 : 0 ≤ many) (hm : many ≤ 1000) : ∃ ds : List Int, f__law_draws [.list (ns.map .int), .int many] = .ok (.list (ds.map .int)) [] ∧ ∀ x ∈ ds, 0 ≤ x := by
  have e1 : f__law_draws [.list (ns.map .int), .int many] = outF false [] (d__law_draws [.shr (.list (ns.map .int)), .shr (.int many), .emp, .emp, .emp, .emp, .emp, .emp]) := by
    unfold f__law_draws
    rw [fnD_ok (by rfl)]
    rfl
  rw [e1]
  unfold d__law_draws
  generalize hS : PyData.list (ns.map PyData.int) = S
  rw [sq_nx (show q__law_draws_1 [.shr S, .shr (.int many), .emp, .emp, .emp, .emp, .emp, .emp] = .nx [.shr S, .shr (.int many), .own (.list []), .emp, .emp, .emp, .emp, .emp] from rfl), sq_nx (show q__law_draws_2 [.shr S, .shr (.int many), .own (.list []), .emp, .emp, .emp, .emp, .emp] = .nx [.shr S, .shr (.int many), .own (.list []), .shr (.int 7), .emp, .emp, .emp, .emp] from rfl)]
  -- what stands between the rounds
  let Inv : Nat → EnvD → Prop := fun i e => ∃ (ds : List Int) (mixed : Int) (c4 c5 c6 c7 : PV.Cell), e = [.shr S, .shr (.int many), .own (.list (ds.map .int)), .shr (.int mixed), c4, c5, c6, c7] ∧ (∀ x ∈ ds, 0 ≤ x) ∧ ds.length ≤ 64 * i ∧ 0 ≤ mixed ∧ mixed < 65537
  have app : ∀ {ds : List Int} {x : Int}, (ds.map PyData.int) ++ [PyData.int x] = (ds ++ [x]).map PyData.int := fun {ds x} => by rw [List.map_append]; rfl
  have all1 : ∀ {ds : List Int} {x : Int}, (∀ y ∈ ds, 0 ≤ y) → 0 ≤ x → ∀ y ∈ ds ++ [x], 0 ≤ y := fun {ds x} h hx y hy => by
    rcases List.mem_append.mp hy with q | q
    · exact h y q
    · rw [List.mem_singleton] at q; rw [q]; exact hx
  have loop1 : ∃ e2, q__law_draws_3 [.shr S, .shr (.int many), .own (.list []), .shr (.int 7), .emp, .emp, .emp, .emp] = .nx (wip [4, 5, 6, 7] e2) ∧ Inv (rngD 0 ns.length).length e2 := by
    refine frS_nx (t := .nm 4) (dead := [4, 5, 6, 7]) Inv (ds := rngD 0 ns.length) (rngI1_ok (consA_ok (callD_ok (consA_ok (rdS_ok rfl) nilA_ok) (z := .int ns.length) ?_) nilA_ok) (by omega) (by omega)) ⟨[], 7, _, _, _, _, rfl, by simp, by simp, by omega, by omega⟩ fun i d e hd hI => ?_
    · rw [← hS]; show some (PyData.int (((ns.map PyData.int).length : Nat) : Int)) = _; rw [List.length_map]
    · obtain ⟨ds, mixed, c4, c5, c6, c7, rfl, a1, a2, a3, a4⟩ := hI
      obtain ⟨rfl, hi⟩ := rngD_at hd
      have hi' : i < ns.length := by omega
      refine ⟨[.shr S, .shr (.int many), .own (.list (ds.map .int)), .shr (.int mixed), .shr (.int (0 + i)), .emp, .emp, .emp], ?_⟩
      -- cell, mixed, rest
      have s4 : q__law_draws_4 [.shr S, .shr (.int many), .own (.list (ds.map .int)), .shr (.int mixed), .shr (.int (0 + i)), .emp, .emp, .emp] = .nx [.shr S, .shr (.int many), .own (.list (ds.map .int)), .shr (.int mixed), .shr (.int (0 + i)), .shr (.int (if ns[i] < 0 then -ns[i] else ns[i])), .emp, .emp] := by
        refine setS_ok (callD_ok (consA_ok (callD_ok (consA_ok (op2_ok (rdS_ok rfl) (rdS_ok rfl) (z := .int ns[i]) ?_) nilA_ok) rfl) nilA_ok) rfl)
        rw [← hS]
        show L2.atI (ns.map PyData.int) (0 + (i : Int)) = _
        rw [Int.zero_add]
        exact L2.atI_nat (by rw [List.getElem?_map, List.getElem?_eq_getElem hi']; rfl)
      generalize hc : (if ns[i] < 0 then -ns[i] else ns[i]) = cell at s4
      have hc0 : 0 ≤ cell := by rw [← hc]; split <;> omega
      have s5 : q__law_draws_5 [.shr S, .shr (.int many), .own (.list (ds.map .int)), .shr (.int mixed), .shr (.int (0 + i)), .shr (.int cell), .emp, .emp] = .nx [.shr S, .shr (.int many), .own (.list (ds.map .int)), .shr (.int ((mixed * 48271 + cell % 1000003 + (0 + i)) % 65537)), .shr (.int (0 + i)), .shr (.int cell), .emp, .emp] :=
        setS_ok (op2_ok (callD_ok (consA_ok (op2_ok (op2_ok (op2_ok (rdS_ok rfl) rfl (mul_ok (.inl (by omega)))) (op2_ok (rdS_ok rfl) rfl (mod_ok (by omega))) rfl) (rdS_ok rfl) rfl) nilA_ok) rfl) rfl (mod_ok (by omega)))
      generalize hmx : (mixed * 48271 + cell % 1000003 + (0 + (i : Int))) % 65537 = mx at s5
      have hm0 : 0 ≤ mx ∧ mx < 65537 := by rw [← hmx]; omega
      -- behind the if: draws, rest
      have s7 : ∃ (ds2 : List Int) (rest : Int), q__law_draws_7 [.shr S, .shr (.int many), .own (.list (ds.map .int)), .shr (.int mx), .shr (.int (0 + i)), .shr (.int cell), .shr (.int 0), .emp] = .nx [.shr S, .shr (.int many), .own (.list (ds2.map .int)), .shr (.int mx), .shr (.int (0 + i)), .shr (.int cell), .shr (.int rest), .emp] ∧ (∀ x ∈ ds2, 0 ≤ x) ∧ ds2.length ≤ ds.length + 2 ∧ 0 ≤ rest := by
        by_cases cc : (1000000000000000000 : Int) ≤ cell
        · refine ⟨ds, cell, ?_, a1, by omega, hc0⟩
          unfold q__law_draws_7
          refine Eq.trans (ifS_t (tcm_ok (op2_ok (rdS_ok rfl) (op2_ok rfl rfl (z := .int 1000000000000000000) (by kernel_rfl)) (by show some (PyData.bool (decide _)) = _; rw [decide_eq_true cc])))) ?_
          rfl
        · have b1 : 0 ≤ cell % 997 := by omega
          have b2 : 0 ≤ (mx * 69621 + 5) % 65521 % 997 := by omega
          refine ⟨ds ++ [cell % 997] ++ [(mx * 69621 + 5) % 65521 % 997], 0, ?_, all1 (all1 a1 b1) b2, by simp, by omega⟩
          unfold q__law_draws_7
          refine Eq.trans (ifS_f (tcm_ok (op2_ok (rdS_ok rfl) (op2_ok rfl rfl (z := .int 1000000000000000000) (by kernel_rfl)) (by show some (PyData.bool (decide _)) = _; rw [decide_eq_false cc])))) ?_
          have l1 : ds.length + 2 < sizeLine := by unfold sizeLine; omega
          refine Eq.trans (sq_nx (appS_ok (ds := ds.map .int) rfl (op2_ok (callD_ok (consA_ok (rdS_ok rfl) nilA_ok) rfl) rfl (mod_ok (by omega))) (by rw [List.length_map]; omega))) ?_
          rw [app]
          unfold q__law_draws_10
          refine Eq.trans (appS_ok (ds := (ds ++ [cell % 997]).map .int) rfl (op2_ok (op2_ok (callD_ok (consA_ok (op2_ok (op2_ok (rdS_ok rfl) rfl (mul_ok (.inl (by omega)))) rfl rfl) nilA_ok) rfl) rfl (mod_ok (by omega))) rfl (mod_ok (by omega))) (by rw [List.length_map, List.length_append]; show ds.length + 1 < _; omega)) ?_
          rw [app]
          rfl
      obtain ⟨ds2, rest, s7, b1, b2, b3⟩ := s7
      have loop2 : ∃ e2, q__law_draws_11 [.shr S, .shr (.int many), .own (.list (ds2.map .int)), .shr (.int mx), .shr (.int (0 + i)), .shr (.int cell), .shr (.int rest), .emp] = .nx (wip [7] e2) ∧
          ∃ (ds3 : List Int) (r : Int) (c : PV.Cell), e2 = [.shr S, .shr (.int many), .own (.list (ds3.map .int)), .shr (.int mx), .shr (.int (0 + i)), .shr (.int cell), .shr (.int r), c] ∧ (∀ x ∈ ds3, 0 ≤ x) ∧ ds3.length ≤ ds2.length + (rngD 0 60).length ∧ 0 ≤ r := by
        refine frS_nx (t := .nm 7) (dead := [7]) (fun j e2 => ∃ (ds3 : List Int) (r : Int) (c : PV.Cell), e2 = [.shr S, .shr (.int many), .own (.list (ds3.map .int)), .shr (.int mx), .shr (.int (0 + i)), .shr (.int cell), .shr (.int r), c] ∧ (∀ x ∈ ds3, 0 ≤ x) ∧ ds3.length ≤ ds2.length + j ∧ 0 ≤ r)
          (ds := rngD 0 60) (rngI1_ok (consA_ok rfl nilA_ok) (by omega) (by omega)) ⟨ds2, rest, _, rfl, b1, by omega, b3⟩ fun j d e hd hI => ?_
        obtain ⟨ds3, r, c, rfl, d1, d2, d3⟩ := hI
        obtain ⟨rfl, hj⟩ := rngD_at hd
        by_cases cr : 0 < r
        · refine ⟨_, [.shr S, .shr (.int many), .own (.list ((ds3 ++ [r % 997]).map .int)), .shr (.int mx), .shr (.int (0 + i)), .shr (.int cell), .shr (.int (r / 997)), .shr (.int (0 + j))], rfl, ?_, ds3 ++ [r % 997], r / 997, _, rfl, all1 d1 (by omega), by rw [List.length_append]; show ds3.length + 1 ≤ _; omega, by omega⟩
          unfold q__law_draws_12
          have l1 : ds3.length < sizeLine := by unfold sizeLine; omega
          refine Eq.trans (ifS_t (e1 := [.shr S, .shr (.int many), .own (.list (ds3.map .int)), .shr (.int mx), .shr (.int (0 + i)), .shr (.int cell), .shr (.int r), .shr (.int (0 + j))]) (tcm_ok (op2_ok (rdS_ok rfl) rfl (by show some (PyData.bool (decide _)) = _; rw [decide_eq_true cr])))) ?_
          refine Eq.trans (sq_nx (appS_ok (ds := ds3.map .int) rfl (op2_ok (callD_ok (consA_ok (rdS_ok rfl) nilA_ok) rfl) rfl (mod_ok (by omega))) (by rw [List.length_map]; omega))) ?_
          rw [app]
          rfl
        · refine ⟨_, [.shr S, .shr (.int many), .own (.list (ds3.map .int)), .shr (.int mx), .shr (.int (0 + i)), .shr (.int cell), .shr (.int r), .shr (.int (0 + j))], rfl, ?_, ds3, r, _, rfl, d1, by omega, d3⟩
          unfold q__law_draws_12
          refine Eq.trans (ifS_f (e1 := [.shr S, .shr (.int many), .own (.list (ds3.map .int)), .shr (.int mx), .shr (.int (0 + i)), .shr (.int cell), .shr (.int r), .shr (.int (0 + j))]) (tcm_ok (op2_ok (rdS_ok rfl) rfl (by show some (PyData.bool (decide _)) = _; rw [decide_eq_false cr])))) ?_
          rfl
      obtain ⟨e3, l2, ds3, r, c, rfl, d1, d2, d3⟩ := loop2
      refine ⟨wip [7] [.shr S, .shr (.int many), .own (.list (ds3.map .int)), .shr (.int mx), .shr (.int (0 + i)), .shr (.int cell), .shr (.int r), c], rfl, ?_, ds3, mx, _, _, _, _, rfl, d1, ?_, hm0.1, hm0.2⟩
      · rw [sq_nx s4, sq_nx s5, sq_nx (show q__law_draws_6 [.shr S, .shr (.int many), .own (.list (ds.map .int)), .shr (.int mx), .shr (.int (0 + i)), .shr (.int cell), .emp, .emp] = .nx [.shr S, .shr (.int many), .own (.list (ds.map .int)), .shr (.int mx), .shr (.int (0 + i)), .shr (.int cell), .shr (.int 0), .emp] from rfl), sq_nx s7]
        exact l2
      · rw [rngD_len] at d2
        omega
  obtain ⟨e2, l1, ds, mixed, c4, c5, c6, c7, rfl, a1, a2, a3, a4⟩ := loop1
  rw [sq_nx l1]
  rw [rngD_len] at a2
  have loop3 : ∃ e2, q__law_draws_15 [.shr S, .shr (.int many), .own (.list (ds.map .int)), .shr (.int mixed), .emp, .emp, .emp, .emp] = .nx (wip [4] e2) ∧
      ∃ (ds3 : List Int) (r : Int) (c : PV.Cell), e2 = [.shr S, .shr (.int many), .own (.list (ds3.map .int)), .shr (.int r), c, .emp, .emp, .emp] ∧ (∀ x ∈ ds3, 0 ≤ x) ∧ ds3.length ≤ ds.length + (rngD 0 many).length ∧ 0 ≤ r ∧ r < 65537 := by
    refine frS_nx (t := .nm 4) (dead := [4]) (fun j e2 => ∃ (ds3 : List Int) (r : Int) (c : PV.Cell), e2 = [.shr S, .shr (.int many), .own (.list (ds3.map .int)), .shr (.int r), c, .emp, .emp, .emp] ∧ (∀ x ∈ ds3, 0 ≤ x) ∧ ds3.length ≤ ds.length + j ∧ 0 ≤ r ∧ r < 65537)
      (ds := rngD 0 many) (rngI1_ok (consA_ok (rdS_ok rfl) nilA_ok) (by omega) (by omega)) ⟨ds, mixed, _, rfl, a1, by omega, a3, a4⟩ fun j d e hd hI => ?_
    obtain ⟨ds3, r, c, rfl, d1, d2, d3, d4⟩ := hI
    obtain ⟨rfl, hj⟩ := rngD_at hd
    generalize hmx : (r * 16807 + (0 + (j : Int)) + 1) % 65537 = mx
    have hm0 : 0 ≤ mx ∧ mx < 65537 := by rw [← hmx]; omega
    refine ⟨_, [.shr S, .shr (.int many), .own (.list ((ds3 ++ [mx % 997]).map .int)), .shr (.int mx), .shr (.int (0 + j)), .emp, .emp, .emp], rfl, ?_, ds3 ++ [mx % 997], mx, _, rfl, all1 d1 (by omega), by rw [List.length_append]; show ds3.length + 1 ≤ _; omega, hm0⟩
    have l1 : ds3.length < sizeLine := by unfold sizeLine; omega
    rw [sq_nx (e1 := [.shr S, .shr (.int many), .own (.list (ds3.map .int)), .shr (.int mx), .shr (.int (0 + j)), .emp, .emp, .emp])]
    · rw [← app]
      exact appS_ok (ds := ds3.map .int) rfl (op2_ok (callD_ok (consA_ok (rdS_ok rfl) nilA_ok) rfl) rfl (mod_ok (by omega))) (by rw [List.length_map]; omega)
    · rw [← hmx]
      exact setS_ok (op2_ok (callD_ok (consA_ok (op2_ok (op2_ok (op2_ok (rdS_ok rfl) rfl (mul_ok (.inl (by omega)))) (rdS_ok rfl) rfl) rfl rfl) nilA_ok) rfl) rfl (mod_ok (by omega)))
  obtain ⟨e4, l3, ds3, r, c, rfl, d1, d2, d3, d4⟩ := loop3
  rw [sq_nx (f := q__law_draws_15) (e := wip [4, 5, 6, 7] [.shr S, .shr (.int many), .own (.list (ds.map .int)), .shr (.int mixed), c4, c5, c6, c7]) l3]
  refine ⟨ds3.take (HT.sIx ds3.length ds3.length (some many)), ?_, fun x hx => d1 x (List.mem_of_mem_take hx)⟩
  show outF false [] (.rt (.list (cutD (ds3.map .int) none (some many))) _) = _
  have e5 : cutD (ds3.map PyData.int) none (some many) = (ds3.take (HT.sIx ds3.length ds3.length (some many))).map .int := by
    unfold cutD
    rw [List.length_map, List.map_take]
    rfl
  rw [e5]
  rfl

/-- one of the rows -/
theorem pick_ok {W : D} (h : WD W) {rows : List D} (h0 : rows ≠ []) : ∃ (i : Nat) (d : D) (W' : D), f__law_pick [W, .list rows] = .ok d [W'] ∧ WD W' ∧ rows[i]? = some d := by
  have hl : 0 < rows.length := List.length_pos_iff.mpr h0
  obtain ⟨r, W', h1, h2, h3, h4⟩ := next_ok h (m := (rows.length : Int)) (by omega)
  have hr : r.toNat < rows.length := by omega
  refine ⟨r.toNat, rows[r.toNat], W', ?_, h2, List.getElem?_eq_getElem hr⟩
  have e1 : f__law_pick [W, .list rows] = outF false [0] (d__law_pick [.own W, .shr (.list rows)]) := by
    unfold f__law_pick
    rw [fnD_ok (by rfl)]
    rfl
  rw [e1]
  have e2 : d__law_pick [.own W, .shr (.list rows)] = .rt rows[r.toNat] [.own W', .shr (.list rows)] := by
    refine rtn_ok (op2_ok (rdS_ok rfl) (calH2 rfl (callD_ok (consA_ok (rdS_ok rfl) nilA_ok) rfl) rfl h1) ?_)
    show L2.atI rows r = _
    have := L2.atI_nat (List.getElem?_eq_getElem hr)
    rwa [Int.toNat_of_nonneg h3] at this
  rw [e2]
  rfl

/-! alike -/
def plainD : Nat → D → Bool
  | 0, _ => false
  | n + 1, d => match d with
    | .none => true
    | .bool _ => true
    | .int _ => true
    | .str _ => true
    | .tuple ds => decide (ds.length ≤ 16777216) && ds.all (plainD n)
    | _ => false
theorem eqD_int (a b : Int) : eqD (.int a) (.int b) = some (.bool (a == b)) := rfl
theorem eqD_str (a b : Str) : eqD (.str a) (.str b) = some (.bool (a == b)) := rfl
theorem eqD_bool (a b : Bool) : eqD (.bool a) (.bool b) = some (.bool (a == b)) := rfl
theorem eqD_nil : eqD (.list []) (.list []) = some (.bool true) := rfl
theorem alike_refl : ∀ (n : Nat) (d : D), plainD n d = true → f__law_alike n [d, d] = .ok (.bool true) []
  | 0, _, h => by cases h
  | n + 1, d, h => by
    have e1 : f__law_alike (n + 1) [d, d] = outF false [] (d__law_alike (f__law_alike n) [.shr d, .shr d, .emp]) := rfl
    rw [e1]
    generalize hf : f__law_alike n = f
    unfold d__law_alike
    cases d with
    | none => rfl
    | bool b => 
      have : d__law_alike f [.shr (.bool b), .shr (.bool b), .emp] = .rt (.bool true) [.shr (.bool b), .shr (.bool b), .emp] := by cases b <;> rfl
      unfold d__law_alike at this
      rw [this]; rfl
    | int b =>
      have : d__law_alike f [.shr (.int b), .shr (.int b), .emp] = .rt (.bool (b == b)) [.shr (.int b), .shr (.int b), .emp] := rfl
      unfold d__law_alike at this
      rw [this, beq_self_eq_true]; rfl
    | str b =>
      have : d__law_alike f [.shr (.str b), .shr (.str b), .emp] = .rt (.bool (b == b)) [.shr (.str b), .shr (.str b), .emp] := rfl
      unfold d__law_alike at this
      rw [this, beq_self_eq_true]; rfl
    | list _ => cases h
    | dict _ => cases h
    | tuple ds =>
      have h' := Bool.and_eq_true_iff.mp (show (decide (ds.length ≤ 16777216) && ds.all (plainD n)) = true from h)
      have hl : ds.length ≤ 16777216 := of_decide_eq_true h'.1
      refine Eq.trans (congrArg _ (sq_rt (d := .bool true) (e1 := [.shr (.tuple ds), .shr (.tuple ds), .emp]) ?_)) rfl
      unfold q__law_alike_1
      refine Eq.trans (ifS_t (e1 := [.shr (.tuple ds), .shr (.tuple ds), .emp]) rfl) ?_
      have c1 : orT (notT (tru (isiE "tuple" (rdS 0)))) (tcm (op2 neD (callD lenD (consA (rdS 0) (nilA))) (callD lenD (consA (rdS 1) (nilA))))) [.shr (.tuple ds), .shr (.tuple ds), .emp] = .ok (!(((ds.length : Int)) == (ds.length : Int))) [.shr (.tuple ds), .shr (.tuple ds), .emp] := rfl
      rw [beq_self_eq_true] at c1
      refine Eq.trans (sq_nx (e1 := [.shr (.tuple ds), .shr (.tuple ds), .emp]) (ifS_f c1)) ?_
      refine rtn_ok (op2_ok (lcE_map (fun _ => false) id (ds := rngD 0 ds.length) (e1 := [.shr (.tuple ds), .shr (.tuple ds), .emp]) (rngI1_ok (consA_ok (callD_ok (consA_ok (rdS_ok rfl) nilA_ok) rfl) nilA_ok) (by omega) (by omega)) rfl rfl ?_) rfl (e2 := [.shr (.tuple ds), .shr (.tuple ds), .emp]) (y := .list []) ?_)
      · intro d hd
        obtain ⟨i, rfl, i1, i2⟩ := rngD_mem hd
        have hi : i.toNat < ds.length := by omega
        have g : ixD (.tuple ds) (.int i) = some ds[i.toNat] := by
          have := L2.atI_nat (List.getElem?_eq_getElem hi)
          rw [Int.toNat_of_nonneg i1] at this
          exact this
        refine ⟨[.shr (.tuple ds), .shr (.tuple ds), .shr (.int i)], rfl, ?_, nofun, rfl⟩
        have : f [ds[i.toNat], ds[i.toNat]] = .ok (.bool true) [] := by
          rw [← hf]
          exact alike_refl n _ (List.all_eq_true.mp h'.2 _ (List.getElem_mem hi))
        exact notT_ok (tru_ok (cal_ok (consA_ok (op2_ok (rdS_ok rfl) (rdS_ok rfl) g) (consA_ok (op2_ok (rdS_ok rfl) (rdS_ok rfl) g) nilA_ok)) this) rfl)
      · have : (rngD 0 (ds.length : Int)).filter (fun _ => false) = [] := List.filter_eq_nil_iff.mpr fun _ _ z => by cases z
        rw [this]
        rfl

/-! beside the empty list, the empty tuple -/
theorem noDicts_map {α : Type} {f : α → D} (h : ∀ x, noDict (f x) = true) : ∀ l : List α, noDicts (l.map f) = true
  | [] => rfl
  | x :: r => Bool.and_eq_true_iff.mpr ⟨h x, noDicts_map h r⟩
theorem noDicts_iff : ∀ {l : List D}, noDicts l = true ↔ ∀ d ∈ l, noDict d = true
  | [] => by simp [noDicts]
  | x :: r => by
    have := noDicts_iff (l := r)
    simp [noDicts, this]
theorem eqvAll_nil (ds : List D) : PyData.eqvAll ds [] = ds.isEmpty := by cases ds <;> rfl
theorem eqD_t0 {ds : List D} (h : noDicts ds = true) : eqD (.tuple ds) (.tuple []) = some (.bool ds.isEmpty) := by
  have : eqOk (.tuple ds) (.tuple []) = true := by
    show (noDicts ds && true && decide (min (PyData.tuple ds).depth (PyData.tuple []).depth ≤ 64)) = true
    rw [h, decide_eq_true (Nat.le_trans (Nat.min_le_right _ _) (by decide))]; rfl
  unfold eqD
  rw [if_pos this]
  show some (PyData.bool (PyData.eqvAll ds [])) = _
  rw [eqvAll_nil]
theorem neD_t0 {ds : List D} (h : noDicts ds = true) : neD (.tuple ds) (.tuple []) = some (.bool (!ds.isEmpty)) := by
  have : eqOk (.tuple ds) (.tuple []) = true := by
    show (noDicts ds && true && decide (min (PyData.tuple ds).depth (PyData.tuple []).depth ≤ 64)) = true
    rw [h, decide_eq_true (Nat.le_trans (Nat.min_le_right _ _) (by decide))]; rfl
  unfold neD
  rw [if_pos this]
  show some (PyData.bool (!PyData.eqvAll ds [])) = _
  rw [eqvAll_nil]
theorem eqD_l0 {ds : List D} (h : noDicts ds = true) : eqD (.list ds) (.list []) = some (.bool ds.isEmpty) := by
  have : eqOk (.list ds) (.list []) = true := by
    show (noDicts ds && true && decide (min (PyData.list ds).depth (PyData.list []).depth ≤ 64)) = true
    rw [h, decide_eq_true (Nat.le_trans (Nat.min_le_right _ _) (by decide))]; rfl
  unfold eqD
  rw [if_pos this]
  show some (PyData.bool (PyData.eqvAll ds [])) = _
  rw [eqvAll_nil]
theorem neD_l0 {ds : List D} (h : noDicts ds = true) : neD (.list ds) (.list []) = some (.bool (!ds.isEmpty)) := by
  have : eqOk (.list ds) (.list []) = true := by
    show (noDicts ds && true && decide (min (PyData.list ds).depth (PyData.list []).depth ≤ 64)) = true
    rw [h, decide_eq_true (Nat.le_trans (Nat.min_le_right _ _) (by decide))]; rfl
  unfold neD
  rw [if_pos this]
  show some (PyData.bool (!PyData.eqvAll ds [])) = _
  rw [eqvAll_nil]
theorem atI_neg1 {α : Type} {xs : List α} (h : xs ≠ []) : L2.atI xs (-1) = xs[xs.length - 1]? := by
  have hl : 0 < xs.length := List.length_pos_iff.mpr h
  unfold L2.atI L2.ixN
  rw [if_neg (by omega), if_pos (by omega)]
  show xs[_]? = _
  congr 1
  omega
theorem atI_map {α β : Type} (f : α → β) (xs : List α) (i : Int) : L2.atI (xs.map f) i = (L2.atI xs i).map f := by
  unfold L2.atI
  rw [List.length_map]
  cases L2.ixN xs.length i with
  | none => rfl
  | some j => show (xs.map f)[j]? = (xs[j]?).map f; rw [List.getElem?_map]
theorem cutD_map {α : Type} (f : α → D) (xs : List α) (lo hi : Option Int) : ∃ ys : List α, cutD (xs.map f) lo hi = ys.map f ∧ (∀ y ∈ ys, y ∈ xs) ∧ ys.length ≤ xs.length := by
  unfold cutD
  rw [List.length_map, ← List.map_drop, ← List.map_take]
  refine ⟨_, rfl, fun y hy => List.mem_of_mem_drop (List.mem_of_mem_take hy), ?_⟩
  rw [List.length_take, List.length_drop]; omega

theorem asgS_ok {t : Tg} {m : M D} {e e1 e2 : EnvD} {d : D} (h : m e = .ok d e1) (hb : bindT t d e1 = some e2) : asgS t m e = .nx e2 := by unfold asgS; rw [thenS_ok h, hb]
theorem dispE_cons {k v : M D} {r : List (M D × M D)} {e e1 e2 e3 : EnvD} {x y : D} {ps : List (D × D)} (hk : k e = .ok x e1) (hv : v e1 = .ok y e2) (hr : dispE r e2 = .ok ps e3) : dispE ((k, v) :: r) e = .ok ((x, y) :: ps) e3 := by
  unfold dispE
  rw [bnd_ok hk, bnd_ok hv, bnd_ok hr]
  rfl
theorem dicE_ok {prs : List (M D × M D)} {e e1 : EnvD} {es : List (D × D)} (h : dispE prs e = .ok es e1) (c : (es.all (fun e => isKey e.1) && decide (es.length ≤ 15)) = true) : dicE prs e = .ok (.dict (mergeE [] es)) e1 := by
  unfold dicE
  rw [h]
  simp only [c, if_true]
/-- w = {'draws': .., 'at': 0} -/
theorem w0_ok {m : M D} {e : EnvD} {ds : List Int} (h : m e = .ok (.list (ds.map .int)) e) : dicE [(ret (.str "draws"), m), (ret (.str "at"), ret (.int 0))] e = .ok (mkW ds 0) e :=
  Eq.trans (dicE_ok (dispE_cons rfl h (dispE_cons rfl rfl rfl)) rfl) rfl
end PV
namespace PV
open PySem PySem.Spec PyProof.Rows

/-! evaluation by simp -/
section
variable {α β : Type} (e : EnvD) (i j k : Nat) (m a b c : M D) (d x y z : D) (f g : Sm) (r r1 : M (List D)) (t ta tb : M Bool)
@[simp] theorem ev_ret (x : α) : ret x e = .ok x e := rfl
@[simp] theorem ev_bnd (m : M α) (k : α → M β) : bnd m k e = (match m e with
  | .ok a e1 => k a e1
  | .exc x e1 => .exc x e1
  | .no => .no) := rfl
@[simp] theorem ev_lft_some (x : α) : lft (some x) e = .ok x e := rfl
@[simp] theorem ev_rdS : rdS i e = (match e[i]? with
  | some (PV.Cell.shr d) => .ok d e
  | _ => .no) := rfl
@[simp] theorem ev_rdB : rdB i e = (match e[i]? with
  | some (PV.Cell.shr d) => .ok d e
  | some (PV.Cell.own d) => .ok d e
  | _ => .no) := rfl
@[simp] theorem ev_rdF : rdF i e = (match e[i]? with
  | some (PV.Cell.shr d) => .ok d e
  | some (PV.Cell.own d) => .ok d (e.set i (.shr d))
  | _ => .no) := rfl
@[simp] theorem ev_op1 (g : D → Option D) : op1 g m e = (match m e with
  | .ok a e1 => lft (g a) e1
  | .exc x e1 => .exc x e1
  | .no => .no) := by
  unfold op1 bnd; cases m e <;> rfl
@[simp] theorem ev_op2 (g : D → D → Option D) : op2 g a b e = (match a e with
  | .ok x e1 => (match b e1 with
    | .ok y e2 => lft (g x y) e2
    | .exc x e1 => .exc x e1
    | .no => .no)
  | .exc x e1 => .exc x e1
  | .no => .no) := by
  unfold op2 bnd; cases a e with
  | ok x e1 => first | (simp only []; done) | (simp only []; cases b e1 <;> rfl)
  | exc _ _ => rfl
  | no => rfl
@[simp] theorem ev_ifE (a b : M α) : ifE t a b e = (match t e with
  | .ok c e1 => if c = true then a e1 else b e1
  | .exc x e1 => .exc x e1
  | .no => .no) := by unfold ifE bnd; cases t e with | ok c e1 => cases c <;> rfl | exc _ _ => rfl | no => rfl
@[simp] theorem ev_nilA : nilA e = .ok [] e := rfl
@[simp] theorem ev_consA : consA a r e = (match a e with
  | .ok x e1 => (match r e1 with
    | .ok xs e2 => .ok (x :: xs) e2
    | .exc x e1 => .exc x e1
    | .no => .no)
  | .exc x e1 => .exc x e1
  | .no => .no) := by
  unfold consA bnd; cases a e with
  | ok x e1 => first | (simp only []; done) | (simp only []; cases r e1 <;> rfl)
  | exc _ _ => rfl
  | no => rfl
@[simp] theorem ev_tupE : tupE r e = (match r e with
  | .ok ds e1 => if ds.length ≤ sizeLine then .ok (.tuple ds) e1 else .no
  | .exc x e1 => .exc x e1
  | .no => .no) := by unfold tupE bnd; cases r e with
    | ok ds e1 => by_cases h : ds.length ≤ sizeLine <;> simp [h, lft]
    | exc _ _ => rfl
    | no => rfl
@[simp] theorem ev_lstE : lstE r e = (match r e with
  | .ok ds e1 => if ds.length ≤ sizeLine then .ok (.list ds) e1 else .no
  | .exc x e1 => .exc x e1
  | .no => .no) := by unfold lstE bnd; cases r e with
    | ok ds e1 => by_cases h : ds.length ≤ sizeLine <;> simp [h, lft]
    | exc _ _ => rfl
    | no => rfl
@[simp] theorem ev_callD (g : List D → Option D) : callD g r e = (match r e with
  | .ok ds e1 => lft (g ds) e1
  | .exc x e1 => .exc x e1
  | .no => .no) := by
  unfold callD bnd; cases r e <;> rfl
@[simp] theorem ev_cal (g : Fn) : cal g r e = (match r e with
  | .ok ds e1 => (match g ds with
    | .ok d _ => .ok d e1
    | .exc x => .exc x e1
    | .no => .no)
  | .exc x e1 => .exc x e1
  | .no => .no) := by
  unfold cal bnd frM; cases r e with
  | ok x e1 => first | (simp only []; done) | (simp only []; cases g x <;> rfl)
  | exc _ _ => rfl
  | no => rfl
@[simp] theorem ev_holeA : holeA i r e = (match e[i]? with
  | some (PV.Cell.own _) => (match r e with
    | .ok ds e1 => .ok (.none :: ds) e1
    | .exc x e1 => .exc x e1
    | .no => .no)
  | _ => .no) := by
  unfold holeA bnd; cases e[i]? with
  | none => rfl
  | some c => cases c with
    | own d => first | (simp only []; done) | (simp only []; cases r e <;> rfl)
    | _ => rfl
@[simp] theorem ev_calH (g : Fn) (js : List (Option Nat)) : calH g js r e = (match r e with
  | .ok ds e1 => (match fillH js ds e1 with
    | none => .no
    | some ds' => match g ds' with
      | .ok d ios => (match putH js ios e1 with
        | some e' => .ok d e'
        | none => .no)
      | _ => .no)
  | .exc x e1 => .exc x e1
  | .no => .no) := by
  unfold calH bnd; cases r e with
  | ok x e1 => first | (simp only []; done) | (simp only []; cases fillH js x e1 with
    | none => rfl
    | some y => first | (simp only []; done) | (simp only []; cases g y with
      | ok d ios => first | (simp only []; done) | (simp only []; cases putH js ios e1 <;> rfl)
      | exc _ => rfl
      | no => rfl))
  | exc _ _ => rfl
  | no => rfl
@[simp] theorem ev_tcm : tcm m e = (match m e with
  | .ok (.bool k) e1 => .ok k e1
  | .exc x e1 => .exc x e1
  | _ => .no) := by unfold tcm bnd; cases m e with
    | ok d e1 => cases d <;> rfl
    | exc _ _ => rfl
    | no => rfl
@[simp] theorem ev_tru : tru m e = (match m e with
  | .ok d e1 => lft (truD d) e1
  | .exc x e1 => .exc x e1
  | .no => .no) := by
  unfold tru bnd; cases m e <;> rfl
@[simp] theorem ev_notT : notT t e = (match t e with
  | .ok k e1 => .ok (!k) e1
  | .exc x e1 => .exc x e1
  | .no => .no) := by
  unfold notT bnd; cases t e <;> rfl
@[simp] theorem ev_andT : andT ta tb e = (match ta e with
  | .ok k e1 => if k = true then tb e1 else .ok false e1
  | .exc x e1 => .exc x e1
  | .no => .no) := by unfold andT bnd; cases ta e with | ok c e1 => cases c <;> rfl | exc _ _ => rfl | no => rfl
@[simp] theorem ev_orT : orT ta tb e = (match ta e with
  | .ok k e1 => if k = true then .ok true e1 else tb e1
  | .exc x e1 => .exc x e1
  | .no => .no) := by unfold orT bnd; cases ta e with | ok c e1 => cases c <;> rfl | exc _ _ => rfl | no => rfl
@[simp] theorem ev_andV : andV a b e = (match a e with
  | .ok (.bool k) e1 => if k = true then b e1 else .ok (.bool false) e1
  | .exc x e1 => .exc x e1
  | _ => .no) := by
  unfold andV bnd
  cases a e with
  | ok d e1 => cases d with
    | bool k => cases k <;> rfl
    | _ => rfl
  | exc _ _ => rfl
  | no => rfl
@[simp] theorem ev_orV : orV a b e = (match a e with
  | .ok (.bool k) e1 => if k = true then .ok (.bool true) e1 else b e1
  | .exc x e1 => .exc x e1
  | _ => .no) := by
  unfold orV bnd
  cases a e with
  | ok d e1 => cases d with
    | bool k => cases k <;> rfl
    | _ => rfl
  | exc _ _ => rfl
  | no => rfl
@[simp] theorem ev_notV : notV a e = (match a e with
  | .ok (.bool k) e1 => .ok (.bool (!k)) e1
  | .exc x e1 => .exc x e1
  | _ => .no) := by
  unfold notV bnd
  cases a e with
  | ok d e1 => cases d <;> rfl
  | exc _ _ => rfl
  | no => rfl
@[simp] theorem ev_isiE (T : String) : isiE T m e = (match m e with
  | .ok d e1 => .ok (.bool (isT T d)) e1
  | .exc x e1 => .exc x e1
  | .no => .no) := by
  unfold isiE bnd; cases m e <;> rfl
@[simp] theorem ev_setS : setS i m e = (match m e with
  | .ok d e1 => .nx (e1.set i (.shr d))
  | .exc x e1 => .exc x e1
  | .no => .no) := by
  unfold setS thenS; cases m e <;> rfl
@[simp] theorem ev_setO : setO i m e = (match m e with
  | .ok d e1 => .nx (e1.set i (ownC d))
  | .exc x e1 => .exc x e1
  | .no => .no) := by
  unfold setO thenS; cases m e <;> rfl
@[simp] theorem ev_rtn : rtn m e = (match m e with
  | .ok d e1 => .rt d e1
  | .exc x e1 => .exc x e1
  | .no => .no) := by
  unfold rtn thenS; cases m e <;> rfl
@[simp] theorem ev_nxt : nxt e = .nx e := rfl
@[simp] theorem ev_sq : sq f g e = (match f e with
  | .nx e1 => g e1
  | o => o) := by
  unfold sq; cases f e <;> rfl
@[simp] theorem ev_ifS : ifS t f g e = (match t e with
  | .ok k e1 => if k = true then f e1 else g e1
  | .exc x e1 => .exc x e1
  | .no => .no) := by unfold ifS thenS; cases t e with | ok c e1 => cases c <;> rfl | exc _ _ => rfl | no => rfl
@[simp] theorem ev_asgS (tg : Tg) : asgS tg m e = (match m e with
  | .ok d e1 => (match bindT tg d e1 with
    | some e2 => .nx e2
    | none => .no)
  | .exc x e1 => .exc x e1
  | .no => .no) := by
  unfold asgS thenS; cases m e with
  | ok d e1 => first | (simp only []; done) | (simp only []; cases bindT tg d e1 <;> rfl)
  | exc _ _ => rfl
  | no => rfl
@[simp] theorem isT_tuple (ds : List D) : isT "tuple" (.tuple ds) = true := rfl
end
section
variable (a b : Int) (d v : D) (ds es : List D) (i : Nat) (is : List Nat) (t : Tg) (ts : List Tg) (e : EnvD) (x y : Str) (p q : Bool) (js : List (Option Nat))
@[simp] theorem ev_addI : addD (.int a) (.int b) = some (.int (a + b)) := rfl
@[simp] theorem ev_subI : subD (.int a) (.int b) = some (.int (a - b)) := rfl
@[simp] theorem ev_negI : negD (.int a) = some (.int (-a)) := rfl
@[simp] theorem ev_invI : invD (.int a) = some (.int (Builtin.bitNot a)) := rfl
@[simp] theorem ev_xorI : xorD (.int a) (.int b) = some (.int (Builtin.bitXor a b)) := rfl
@[simp] theorem ev_andI : andD (.int a) (.int b) = some (.int (Builtin.bitAnd a b)) := rfl
@[simp] theorem ev_orI : orD (.int a) (.int b) = some (.int (Builtin.bitOr a b)) := rfl
@[simp] theorem ev_bindN : bindT (.nm i) d e = some (e.set i (.shr d)) := rfl
@[simp] theorem ev_bindP : bindT (.tp ts) (.tuple ds) e = bindTs ts ds e := rfl
@[simp] theorem ev_bindT0 : bindTs [] [] e = some e := rfl
@[simp] theorem ev_bindT1 : bindTs (t :: ts) (d :: ds) e = (match bindT t d e with
  | some e1 => bindTs ts ds e1
  | none => none) := rfl
@[simp] theorem ev_fill0 : fillH [] [] e = some [] := rfl
@[simp] theorem ev_fillN : fillH (none :: js) (d :: ds) e = (fillH js ds e).map (d :: ·) := rfl
@[simp] theorem ev_fillS : fillH (some i :: js) (d :: ds) e = (match e[i]? with
  | some (PV.Cell.own d) => (fillH js ds e).map (d :: ·)
  | _ => none) := rfl
@[simp] theorem ev_put0 : putH [] [] e = some e := rfl
@[simp] theorem ev_putN : putH (none :: js) ds e = putH js ds e := by cases ds <;> rfl
@[simp] theorem ev_putS : putH (some i :: js) (d :: ds) e = putH js ds (e.set i (.own d)) := rfl
@[simp] theorem ev_wip0 : wip [] e = e := rfl
@[simp] theorem ev_wip1 : wip (i :: is) e = wip is (e.set i .emp) := rfl
@[simp] theorem ev_eqI : eqD (.int a) (.int b) = some (.bool (a == b)) := rfl
@[simp] theorem ev_neI : neD (.int a) (.int b) = some (.bool (!(a == b))) := rfl
@[simp] theorem ev_eqS : eqD (.str x) (.str y) = some (.bool (x == y)) := rfl
@[simp] theorem ev_neS : neD (.str x) (.str y) = some (.bool (!(x == y))) := rfl
@[simp] theorem ev_eqB : eqD (.bool p) (.bool q) = some (.bool (p == q)) := rfl
@[simp] theorem ev_ltI : ltD (.int a) (.int b) = some (.bool (decide (a < b))) := rfl
@[simp] theorem ev_leI : leD (.int a) (.int b) = some (.bool (decide (a ≤ b))) := rfl
@[simp] theorem ev_gtI : gtD (.int a) (.int b) = some (.bool (decide (b < a))) := rfl
@[simp] theorem ev_geI : geD (.int a) (.int b) = some (.bool (decide (b ≤ a))) := rfl
@[simp] theorem ev_isN : isD d .none = some (.bool (isNone d)) := rfl
@[simp] theorem ev_notN : notD d .none = some (.bool (!isNone d)) := rfl
@[simp] theorem ev_isNone : isNone .none = true := rfl
@[simp] theorem ev_isNoneI : isNone (.int a) = false := rfl
@[simp] theorem ev_isNoneT : isNone (.tuple ds) = false := rfl
@[simp] theorem ev_isNoneS : isNone (.str x) = false := rfl
@[simp] theorem ev_truB : truD (.bool p) = some p := rfl
@[simp] theorem ev_lenT : lenD [.tuple ds] = some (.int ds.length) := rfl
@[simp] theorem ev_lenL : lenD [.list ds] = some (.int ds.length) := rfl
@[simp] theorem ev_intI : intD [.int a] = some (.int a) := rfl
@[simp] theorem ev_tupL : tupD [.list ds] = some (.tuple ds) := rfl
@[simp] theorem ev_tupT : tupD [.tuple ds] = some (.tuple ds) := rfl
@[simp] theorem ev_lisL : lisD [.list ds] = some (.list ds) := rfl
@[simp] theorem ev_lisT : lisD [.tuple ds] = some (.list ds) := rfl
@[simp] theorem ev_ixT : ixD (.tuple ds) (.int a) = L2.atI ds a := rfl
@[simp] theorem ev_ixL : ixD (.list ds) (.int a) = L2.atI ds a := rfl
@[simp] theorem ev_atI0 : L2.atI (d :: ds) 0 = some d := L2.atI_nat (j := 0) rfl
@[simp] theorem ev_atI1 : L2.atI (v :: d :: ds) 1 = some d := L2.atI_nat (j := 1) rfl
end
theorem lift_list {α : Type} {enc : α → D} {Q : α → Prop} : ∀ {out : List D}, (∀ y ∈ out, ∃ x, y = enc x ∧ Q x) → ∃ l : List α, out = l.map enc ∧ l.length = out.length ∧ ∀ x ∈ l, Q x
  | [], _ => ⟨[], rfl, rfl, fun _ z => by cases z⟩
  | y :: r, h => by
    obtain ⟨x, rfl, hx⟩ := h y List.mem_cons_self
    obtain ⟨l, rfl, h2, h3⟩ := lift_list (enc := enc) (Q := Q) (out := r) fun z hz => h z (List.mem_cons_of_mem _ hz)
    refine ⟨x :: l, rfl, by rw [List.length_cons, h2, List.length_cons], fun z hz => ?_⟩
    rcases List.mem_cons.mp hz with q | q
    · rw [q]; exact hx
    · exact h3 z q
theorem rst_wip1 (i : Nat) (e : EnvD) : rst [i] e (wip [i] e) = e := by
  unfold rst wip
  cases h : e[i]? with
  | none =>
    simp only [wip, rst]
    exact List.set_eq_of_length_le (by have := List.getElem?_eq_none_iff.mp h; omega)
  | some c =>
    simp only [wip, rst]
    rw [List.set_set]
    apply List.ext_getElem?
    intro j
    by_cases hj : i = j
    · subst hj
      have hl := lt_of_some h
      rw [List.getElem?_set_self hl, h]
    · rw [List.getElem?_set_ne hj]
section
variable {i : Nat} {te : M D} {tt : M Bool} {m : M (List D)} {e e1 : EnvD} {ds : List D}
/-- [f d for d in ds if p d], by one name, nothing changed -/
theorem lc1f (p : D → Bool) (f : D → D) (hm : m e = .ok ds e1) (hno : noOwn [i] e1 = true) (h : ∀ d ∈ ds, tt (e1.set i (.shr d)) = .ok (p d) (e1.set i (.shr d)) ∧ (p d = true → te (e1.set i (.shr d)) = .ok (f d) (e1.set i (.shr d)))) :
    lcE (.nm i) [i] tt te m e = .ok (.list ((ds.filter p).map f)) e1 :=
  lcE_map p f hm hno (rst_wip1 i e1) fun d hd => ⟨e1.set i (.shr d), by show some ((e1.set i .emp).set i (.shr d)) = _; rw [List.set_set], (h d hd).1, (h d hd).2, by show (e1.set i (.shr d)).set i .emp = e1.set i .emp; rw [List.set_set]⟩
theorem lc1 (f : D → D) (hm : m e = .ok ds e1) (hno : noOwn [i] e1 = true) (h : ∀ d ∈ ds, te (e1.set i (.shr d)) = .ok (f d) (e1.set i (.shr d))) :
    lcE (.nm i) [i] yesT te m e = .ok (.list (ds.map f)) e1 :=
  lcE_all f hm hno (rst_wip1 i e1) fun d hd => ⟨e1.set i (.shr d), by show some ((e1.set i .emp).set i (.shr d)) = _; rw [List.set_set], h d hd, by show (e1.set i (.shr d)).set i .emp = e1.set i .emp; rw [List.set_set]⟩
theorem bools_map (p : D → Bool) : ∀ l : List D, boolsD (l.map fun d => .bool (p d)) = some (l.map p)
  | [] => rfl
  | x :: r => by show (boolsD (r.map fun d => PyData.bool (p d))).map (p x :: ·) = _; rw [bools_map p r]; rfl
theorem allD_map (p : D → Bool) (l : List D) : allD [.list (l.map fun d => .bool (p d))] = some (.bool (l.all p)) := by
  show (boolsD (l.map fun d => PyData.bool (p d))).map (fun bs => PyData.bool (bs.all id)) = _
  rw [bools_map, Option.map_some, List.all_map]; rfl
theorem anyD_map (p : D → Bool) (l : List D) : anyD [.list (l.map fun d => .bool (p d))] = some (.bool (l.any p)) := by
  show (boolsD (l.map fun d => PyData.bool (p d))).map (fun bs => PyData.bool (bs.any id)) = _
  rw [bools_map, Option.map_some, List.any_map]; rfl
/-- all([p d for d in ds]) -/
theorem all1 (p : D → Bool) (hm : m e = .ok ds e1) (hno : noOwn [i] e1 = true) (h : ∀ d ∈ ds, te (e1.set i (.shr d)) = .ok (.bool (p d)) (e1.set i (.shr d))) :
    callD allD (consA (lcE (.nm i) [i] yesT te m) nilA) e = .ok (.bool (ds.all p)) e1 := callD_ok (consA_ok (lc1 (fun d => .bool (p d)) hm hno h) nilA_ok) (allD_map p ds)
theorem any1 (p : D → Bool) (hm : m e = .ok ds e1) (hno : noOwn [i] e1 = true) (h : ∀ d ∈ ds, te (e1.set i (.shr d)) = .ok (.bool (p d)) (e1.set i (.shr d))) :
    callD anyD (consA (lcE (.nm i) [i] yesT te m) nilA) e = .ok (.bool (ds.any p)) e1 := callD_ok (consA_ok (lc1 (fun d => .bool (p d)) hm hno h) nilA_ok) (anyD_map p ds)
/-- a loop whose outcome is known step by step: a step goes on, or the whole returns -/
theorem frS_all {i : Nat} {dead : List Nat} {m : M (List D)} {body : Sm} {e0 e1 : EnvD} {ds : List D} (p : D → Bool) (r : D) (hm : m e0 = .ok ds e1) (hw : wip dead e1 = e1) (hi : i ∈ dead) (h : ∀ d ∈ ds, (p d = true → ∃ e2, body (e1.set i (.shr d)) = .nx e2 ∧ wip dead e2 = e1) ∧ (p d = false → ∃ e2, body (e1.set i (.shr d)) = .rt r e2)) :
    (ds.all p = true → frS (.nm i) dead m body e0 = .nx e1) ∧ (ds.all p = false → ∃ e2, frS (.nm i) dead m body e0 = .rt r e2) := by
  unfold frS
  rw [thenS_ok hm]
  have key : ∀ (ds : List D) (e : EnvD), wip dead e = e1 → (∀ d ∈ ds, (p d = true → ∃ e2, body (e1.set i (.shr d)) = .nx e2 ∧ wip dead e2 = e1) ∧ (p d = false → ∃ e2, body (e1.set i (.shr d)) = .rt r e2)) →
      (ds.all p = true → frL (.nm i) dead body ds e = .nx e1) ∧ (ds.all p = false → ∃ e2, frL (.nm i) dead body ds e = .rt r e2) := by
    intro ds
    induction ds with
    | nil => exact fun e he _ => ⟨fun _ => (by unfold frL; rw [he]), nofun⟩
    | cons d ds ih =>
      intro e he h
      obtain ⟨h1, h2⟩ := h d List.mem_cons_self
      have hb : bindT (.nm i) d (wip dead e) = some (e1.set i (.shr d)) := by rw [he]; rfl
      cases hp : p d with
      | true =>
        obtain ⟨e2, g1, g2⟩ := h1 hp
        have := ih e2 g2 fun d hd => h d (List.mem_cons_of_mem _ hd)
        unfold frL
        rw [hb]
        simp only [g1, List.all_cons, hp, Bool.true_and]
        exact this
      | false =>
        obtain ⟨e2, g1⟩ := h2 hp
        unfold frL
        rw [hb]
        simp only [g1, List.all_cons, hp, Bool.false_and]
        exact ⟨nofun, fun _ => ⟨e2, rfl⟩⟩
  exact key ds e1 hw h
end
theorem eqD_n0 {d : D} (h : noDict d = true) : eqD d (.tuple []) = some (.bool (match d with
    | .tuple ds => ds.isEmpty
    | _ => false)) := by
  have : eqOk d (.tuple []) = true := by
    unfold eqOk
    rw [h, decide_eq_true (Nat.le_trans (Nat.min_le_right _ _) (by decide))]; rfl
  unfold eqD
  rw [if_pos this]
  cases d with
  | tuple ds => show some (PyData.bool (PyData.eqvAll ds [])) = _; rw [eqvAll_nil]
  | _ => rfl
theorem neD_n0 {d : D} (h : noDict d = true) : neD d (.tuple []) = some (.bool (match d with
    | .tuple ds => !ds.isEmpty
    | _ => true)) := by
  have : eqOk d (.tuple []) = true := by
    unfold eqOk
    rw [h, decide_eq_true (Nat.le_trans (Nat.min_le_right _ _) (by decide))]; rfl
  unfold neD
  rw [if_pos this]
  cases d with
  | tuple ds => show some (PyData.bool (!PyData.eqvAll ds [])) = _; rw [eqvAll_nil]
  | _ => rfl
end PV
namespace L_rungward_k27_tables_of_states
open PySem PySem.Spec PyProof.Rows L2 PV
def top (i : Nat) : Stmt := PySem.Challenge.pw_rungward_k27_tables_of_states.main.body.getD i (.Pass ⟨0, 0, 0, 0⟩)
abbrev s_is_number : Stmt := top 1
abbrev s_is_below : Stmt := top 2
abbrev s_is_tuple_of : Stmt := top 3
abbrev s_is_entry : Stmt := top 5
abbrev s_is_table : Stmt := top 6
abbrev s_run_table : Stmt := top 7
abbrev s__law_draws : Stmt := top 9
abbrev s__law_next : Stmt := top 10
abbrev s__law_pick : Stmt := top 11
abbrev s__law_alike : Stmt := top 12
abbrev s__law_table : Stmt := top 13
abbrev s__law_outs : Stmt := top 14
abbrev s__law_is_below : Stmt := top 15
abbrev s__law_is_table : Stmt := top 16
abbrev s__law_bent : Stmt := top 17
abbrev s_law : Stmt := top 18
def fn : List He.DefD := [dOf "is_number" s_is_number, dOf "is_below" s_is_below, dOf "is_tuple_of" s_is_tuple_of, dOf "is_entry" s_is_entry, dOf "is_table" s_is_table, dOf "run_table" s_run_table, dOf "_law_draws" s__law_draws, dOf "_law_next" s__law_next, dOf "_law_pick" s__law_pick, dOf "_law_alike" s__law_alike, dOf "_law_table" s__law_table, dOf "_law_outs" s__law_outs, dOf "_law_is_below" s__law_is_below, dOf "_law_is_table" s__law_is_table, dOf "_law_bent" s__law_bent, dOf "law" s_law]
def fa : List He.Fa := [.glo "is_number", .glo "is_below", .glo "is_tuple_of", .glo "is_entry", .glo "is_table", .glo "run_table", .glo "_law_draws", .glo "_law_next", .glo "_law_pick", .glo "_law_alike", .glo "_law_table", .glo "_law_outs", .glo "_law_is_below", .glo "_law_is_table", .glo "_law_bent", .glo "law", .free "abs", .free "all", .free "bool", .free "int", .free "isinstance", .free "len", .free "list", .free "range", .free "str", .free "tuple"]
def q_is_number_1 : Sm :=
 rtn (andV (isiE "int" (rdS 0)) (notV (isiE "bool" (rdS 0))))
def d_is_number : Sm := q_is_number_1
def f_is_number : Fn := fnD [false] 1 d_is_number
def q_is_below_1 : Sm :=
 rtn (andV (cal (f_is_number) (consA (rdS 0) (nilA))) (chE leD ltD (ret (.int 0)) (rdS 0) (rdS 1)))
def d_is_below : Sm := q_is_below_1
def f_is_below : Fn := fnD [false, false] 2 d_is_below
def q_is_tuple_of_1 : Sm :=
 rtn (andV (isiE "tuple" (rdS 0)) (op2 eqD (callD lenD (consA (rdS 0) (nilA))) (rdS 1)))
def d_is_tuple_of : Sm := q_is_tuple_of_1
def f_is_tuple_of : Fn := fnD [false, false] 2 d_is_tuple_of
def q_is_entry_2 : Sm :=
 rtn (ret (.bool false))
def q_is_entry_1 : Sm :=
 ifS (orT (notT (tru (cal (f_is_tuple_of) (consA (rdS 0) (consA (ret (.int 2)) (nilA)))))) (andT (tcm (op2 notD (op2 ixD (rdS 0) (ret (.int 0))) (ret .none))) (notT (tru (cal (f_is_below) (consA (op2 ixD (rdS 0) (ret (.int 0))) (consA (rdS 1) (nilA))))))))
 (q_is_entry_2)
 (nxt)
def q_is_entry_3 : Sm :=
 rtn (orV (op2 isD (op2 ixD (rdS 0) (ret (.int 1))) (ret .none)) (cal (f_is_below) (consA (op2 ixD (rdS 0) (ret (.int 1))) (consA (ret (.int 2)) (nilA)))))
def d_is_entry : Sm := sq (q_is_entry_1) (q_is_entry_3)
def f_is_entry : Fn := fnD [false, false] 2 d_is_entry
def q_is_table_2 : Sm :=
 rtn (ret (.bool false))
def q_is_table_1 : Sm :=
 ifS (orT (notT (tru (isiE "tuple" (rdS 0)))) (orT (tcm (op2 eqD (rdS 0) (tupE (nilA)))) (notT (tru (callD allD (consA (lcE (.nm 1) [1] (yesT) (isiE "tuple" (rdS 1)) (seqI (rdS 0))) (nilA)))))))
 (q_is_table_2)
 (nxt)
def q_is_table_4 : Sm :=
 rtn (ret (.bool false))
def q_is_table_3 : Sm :=
 ifS (orT (tcm (op2 eqD (op2 ixD (rdS 0) (ret (.int 0))) (tupE (nilA)))) (notT (tru (callD allD (consA (lcE (.nm 1) [1] (yesT) (op2 eqD (callD lenD (consA (rdS 1) (nilA))) (callD lenD (consA (op2 ixD (rdS 0) (ret (.int 0))) (nilA)))) (seqI (rdS 0))) (nilA))))))
 (q_is_table_4)
 (nxt)
def q_is_table_5 : Sm :=
 rtn (callD allD (consA (lcE (.nm 1) [1] (yesT) (callD allD (consA (lcE (.nm 2) [2] (yesT) (cal (f_is_entry) (consA (rdS 2) (consA (callD lenD (consA (rdS 0) (nilA))) (nilA)))) (seqI (rdS 1))) (nilA))) (seqI (rdS 0))) (nilA)))
def d_is_table : Sm := sq (q_is_table_1) (sq (q_is_table_3) (q_is_table_5))
def f_is_table : Fn := fnD [false] 3 d_is_table
def q_run_table_1 : Sm :=
 setO 3 (lstE (nilA))
def q_run_table_4 : Sm :=
 appS 3 (ret .none)
def q_run_table_5 : Sm :=
 asgS (.tp [.nm 1, .nm 5]) (op2 ixD (op2 ixD (rdS 0) (rdS 1)) (rdS 4))
def q_run_table_6 : Sm :=
 appS 3 (rdS 5)
def q_run_table_3 : Sm :=
 ifS (tcm (op2 isD (rdS 1) (ret .none)))
 (q_run_table_4)
 (sq (q_run_table_5) (q_run_table_6))
def q_run_table_2 : Sm :=
 frS (.nm 4) [4, 5] (seqI (rdS 2))
 (q_run_table_3)
def q_run_table_7 : Sm :=
 rtn (callD tupD (consA (rdB 3) (nilA)))
def d_run_table : Sm := sq (q_run_table_1) (sq (q_run_table_2) (q_run_table_7))
def f_run_table : Fn := fnD [false, false, false] 6 d_run_table
def q__law_table_1 : Sm :=
 rtn (callD tupD (consA (lcE (.nm 4) [4] (yesT) (callD tupD (consA (lcE (.nm 5) [5] (yesT) (tupE (consA (ifE (tcm (op2 geD (calH (f__law_next) [some 0, none] (holeA 0 (consA (ret (.int 5)) (nilA)))) (rdS 3))) (calH (f__law_next) [some 0, none] (holeA 0 (consA (rdS 1) (nilA)))) (ret .none)) (consA (ifE (tcm (op2 geD (calH (f__law_next) [some 0, none] (holeA 0 (consA (ret (.int 5)) (nilA)))) (rdS 3))) (calH (f__law_next) [some 0, none] (holeA 0 (consA (ret (.int 2)) (nilA)))) (ret .none)) (nilA)))) (rngI1 (consA (rdS 2) (nilA)))) (nilA))) (rngI1 (consA (rdS 1) (nilA)))) (nilA)))
def d__law_table : Sm := q__law_table_1
def f__law_table : Fn := fnD [true, false, false, false] 6 d__law_table
def q__law_outs_1 : Sm :=
 setS 3 (tupE (nilA))
def q__law_outs_3 : Sm :=
 setS 3 (op2 addD (rdS 3) (tupE (consA (ifE (tcm (op2 isD (rdS 1) (ret .none))) (ret .none) (op2 ixD (op2 ixD (op2 ixD (rdS 0) (rdS 1)) (rdS 4)) (ret (.int 1)))) (nilA))))
def q__law_outs_4 : Sm :=
 setS 1 (ifE (tcm (op2 isD (rdS 1) (ret .none))) (ret .none) (op2 ixD (op2 ixD (op2 ixD (rdS 0) (rdS 1)) (rdS 4)) (ret (.int 0))))
def q__law_outs_2 : Sm :=
 frS (.nm 4) [4] (seqI (rdS 2))
 (sq (q__law_outs_3) (q__law_outs_4))
def q__law_outs_5 : Sm :=
 rtn (rdS 3)
def d__law_outs : Sm := sq (q__law_outs_1) (sq (q__law_outs_2) (q__law_outs_5))
def f__law_outs : Fn := fnD [false, false, false] 5 d__law_outs
def q__law_is_below_1 : Sm :=
 rtn (andV (isiE "int" (rdS 0)) (andV (notV (isiE "bool" (rdS 0))) (chE leD ltD (ret (.int 0)) (rdS 0) (rdS 1))))
def d__law_is_below : Sm := q__law_is_below_1
def f__law_is_below : Fn := fnD [false, false] 2 d__law_is_below
def q__law_is_table_2 : Sm :=
 rtn (ret (.bool false))
def q__law_is_table_1 : Sm :=
 ifS (orT (notT (tru (isiE "tuple" (rdS 0)))) (tcm (op2 eqD (rdS 0) (tupE (nilA)))))
 (q__law_is_table_2)
 (nxt)
def q__law_is_table_5 : Sm :=
 rtn (ret (.bool false))
def q__law_is_table_4 : Sm :=
 ifS (orT (notT (tru (isiE "tuple" (rdS 1)))) (orT (tcm (op2 eqD (rdS 1) (tupE (nilA)))) (orT (notT (tru (isiE "tuple" (op2 ixD (rdS 0) (ret (.int 0)))))) (tcm (op2 neD (callD lenD (consA (rdS 1) (nilA))) (callD lenD (consA (op2 ixD (rdS 0) (ret (.int 0))) (nilA))))))))
 (q__law_is_table_5)
 (nxt)
def q__law_is_table_8 : Sm :=
 rtn (ret (.bool false))
def q__law_is_table_7 : Sm :=
 ifS (orT (notT (tru (isiE "tuple" (rdS 2)))) (orT (tcm (op2 neD (callD lenD (consA (rdS 2) (nilA))) (ret (.int 2)))) (orT (andT (tcm (op2 notD (op2 ixD (rdS 2) (ret (.int 0))) (ret .none))) (notT (tru (cal (f__law_is_below) (consA (op2 ixD (rdS 2) (ret (.int 0))) (consA (callD lenD (consA (rdS 0) (nilA))) (nilA))))))) (andT (tcm (op2 notD (op2 ixD (rdS 2) (ret (.int 1))) (ret .none))) (notT (tru (cal (f__law_is_below) (consA (op2 ixD (rdS 2) (ret (.int 1))) (consA (ret (.int 2)) (nilA))))))))))
 (q__law_is_table_8)
 (nxt)
def q__law_is_table_6 : Sm :=
 frS (.nm 2) [2] (seqI (rdS 1))
 (q__law_is_table_7)
def q__law_is_table_3 : Sm :=
 frS (.nm 1) [1, 2] (seqI (rdS 0))
 (sq (q__law_is_table_4) (q__law_is_table_6))
def q__law_is_table_9 : Sm :=
 rtn (ret (.bool true))
def d__law_is_table : Sm := sq (q__law_is_table_1) (sq (q__law_is_table_3) (q__law_is_table_9))
def f__law_is_table : Fn := fnD [false] 3 d__law_is_table
def q__law_bent_2 (r__law_bent : Fn) : Sm :=
 setS 3 (calH (f__law_next) [some 0, none] (holeA 0 (consA (callD lenD (consA (rdS 1) (nilA))) (nilA))))
def q__law_bent_3 (r__law_bent : Fn) : Sm :=
 rtn (op2 addD (op2 addD (slE slD (rdS 1) (none) (some (rdS 3))) (tupE (consA (calH (r__law_bent) [some 0, none, none] (holeA 0 (consA (op2 ixD (rdS 1) (rdS 3)) (consA (op2 subD (rdS 2) (ret (.int 1))) (nilA))))) (nilA)))) (slE slD (rdS 1) (some (op2 addD (rdS 3) (ret (.int 1)))) (none)))
def q__law_bent_1 (r__law_bent : Fn) : Sm :=
 ifS (andT (tru (isiE "tuple" (rdS 1))) (andT (tcm (op2 neD (rdS 1) (tupE (nilA)))) (andT (tcm (op2 gtD (rdS 2) (ret (.int 0)))) (tcm (op2 gtD (calH (f__law_next) [some 0, none] (holeA 0 (consA (ret (.int 5)) (nilA)))) (ret (.int 0)))))))
 (sq (q__law_bent_2 r__law_bent) (q__law_bent_3 r__law_bent))
 (nxt)
def q__law_bent_5 (r__law_bent : Fn) : Sm :=
 rtn (calH (f__law_pick) [some 0, none] (holeA 0 (consA (lstE (consA (ret (.int 0)) (consA (ret (.int 1)) (consA (ret (.int 2)) (consA (ret (.int 7)) (consA (op1 negD (ret (.int 1))) (consA (ret (.bool true)) (consA (ret .none) (consA (ret (.str "1")) (nilA)))))))))) (nilA))))
def q__law_bent_4 (r__law_bent : Fn) : Sm :=
 ifS (notT (tru (isiE "tuple" (rdS 1))))
 (q__law_bent_5 r__law_bent)
 (nxt)
def q__law_bent_6 (r__law_bent : Fn) : Sm :=
 rtn (calH (f__law_pick) [some 0, none] (holeA 0 (consA (lstE (consA (callD lisD (consA (rdS 1) (nilA))) (consA (slE slD (rdS 1) (none) (some (op1 negD (ret (.int 1))))) (consA (op2 addD (rdS 1) (slE slD (rdS 1) (none) (some (ret (.int 1))))) (consA (tupE (nilA)) (consA (ret .none) (nilA))))))) (nilA))))
def d__law_bent (r__law_bent : Fn) : Sm := sq (q__law_bent_1 r__law_bent) (sq (q__law_bent_4 r__law_bent) (q__law_bent_6 r__law_bent))
def f__law_bent : Nat → Fn
  | 0 => fun _ => .no
  | n + 1 => fnD [true, false, false] 4 (d__law_bent (f__law_bent n))
def q_law_1 : Sm :=
 setO 1 (dicE [(ret (.str "draws"), cal (f__law_draws) (consA (rdS 0) (consA (ret (.int 500)) (nilA)))), (ret (.str "at"), ret (.int 0))])
def q_law_3 : Sm :=
 asgS (.tp [.nm 3, .nm 4]) (tupE (consA (op2 addD (ret (.int 1)) (calH (f__law_next) [some 1, none] (holeA 1 (consA (ret (.int 6)) (nilA))))) (consA (op2 addD (ret (.int 1)) (calH (f__law_next) [some 1, none] (holeA 1 (consA (ret (.int 3)) (nilA))))) (nilA))))
def q_law_4 : Sm :=
 setS 5 (calH (f__law_table) [some 1, none, none, none] (holeA 1 (consA (rdS 3) (consA (rdS 4) (consA (calH (f__law_next) [some 1, none] (holeA 1 (consA (ret (.int 3)) (nilA)))) (nilA))))))
def q_law_6 : Sm :=
 parS 7 8 (callD tupD (consA (lcE (.nm 10) [10] (yesT) (calH (f__law_next) [some 1, none] (holeA 1 (consA (rdS 4) (nilA)))) (rngI1 (consA (calH (f__law_next) [some 1, none] (holeA 1 (consA (ret (.int 8)) (nilA)))) (nilA)))) (nilA))) (calH (f__law_next) [some 1, none] (holeA 1 (consA (rdS 3) (nilA))))
def q_law_8 : Sm :=
 rtn (ret (.bool false))
def q_law_7 : Sm :=
 ifS (notT (tru (cal (f__law_alike 40) (consA (cal (f_run_table) (consA (rdS 5) (consA (rdS 8) (consA (rdS 7) (nilA))))) (consA (cal (f__law_outs) (consA (rdS 5) (consA (rdS 8) (consA (rdS 7) (nilA))))) (nilA))))))
 (q_law_8)
 (nxt)
def q_law_5 : Sm :=
 frS (.nm 6) [6, 7, 8] (rngI1 (consA (ret (.int 5)) (nilA)))
 (sq (q_law_6) (q_law_7))
def q_law_9 : Sm :=
 setS 9 (rdS 5)
def q_law_12 : Sm :=
 rtn (ret (.bool false))
def q_law_11 : Sm :=
 ifS (notT (tru (cal (f__law_alike 40) (consA (cal (f_is_table) (consA (rdS 9) (nilA))) (consA (cal (f__law_is_table) (consA (rdS 9) (nilA))) (nilA))))))
 (q_law_12)
 (nxt)
def q_law_13 : Sm :=
 setS 9 (calH (f__law_bent 40) [some 1, none, none] (holeA 1 (consA (rdS 5) (consA (ret (.int 3)) (nilA)))))
def q_law_10 : Sm :=
 frS (.nm 6) [6] (rngI1 (consA (ret (.int 7)) (nilA)))
 (sq (q_law_11) (q_law_13))
def q_law_2 : Sm :=
 frS (.nm 2) [2, 3, 4, 5, 6, 7, 8, 9] (rngI1 (consA (ret (.int 8)) (nilA)))
 (sq (q_law_3) (sq (q_law_4) (sq (q_law_5) (sq (q_law_9) (q_law_10)))))
def q_law_14 : Sm :=
 rtn (ret (.bool true))
def d_law : Sm := sq (q_law_1) (sq (q_law_2) (q_law_14))
def f_law : Fn := fnD [false] 11 d_law
section
variable {P : Program} {w : World} {K : PySem.W.Frag} {mg : Str → Option Value} {base : Heap}
abbrev XR0 : XRT := fun _ _ _ _ => False
theorem sc_is_number : FnScope ["thing"] ["thing"] (defScope s_is_number) := ⟨rfl, rfl, rfl, by decide +kernel, rfl, by decide +kernel, by decide +kernel⟩
theorem ok_is_number (Z : Fx fa fn K mg) : FnI P w K mg base CX0 XR0 "is_number" 1 .fre [false] f_is_number := by
  have sc := sc_is_number
  obtain ⟨f, fd, F, hm⟩ := Z.def_ 0 0 (x := "is_number") (st := s_is_number) rfl rfl
  refine fn_ok F hm (F.binds (ps := ["thing"]) (fun _ _ _ _ _ _ us hl => match us, hl with | [_], _ => rfl)) sc rfl ?_
  exact fun cdv A outer s H E q hr => by
    have hu64 : A.units + 3 + 64 < cLine := by have := hr.un; simp only [Around.deeper] at this; omega
    have hu1 : A.units + 3 + 1 < cLine := by omega
    exact jb_one (js_ret (j_and (j_isi (T := "int") (j_rdS 0 (pv 0)) (by decide) (by rfl) (Z.free 20 rfl) (by rfl) (by rfl) (Z.free 19 rfl) (by rfl)) (j_one (j_not (j_isi (T := "bool") (j_rdS 0 (pv 0)) (by decide) (by rfl) (Z.free 20 rfl) (by rfl) (by rfl) (Z.free 18 rfl) (by rfl))))))
theorem sc_is_below : FnScope ["thing", "many"] ["thing", "many"] (defScope s_is_below) := ⟨rfl, rfl, rfl, by decide +kernel, rfl, by decide +kernel, by decide +kernel⟩
theorem ok_is_below (Z : Fx fa fn K mg) : FnI P w K mg base CX0 XR0 "is_below" 2 .fre [false, false] f_is_below := by
  have sc := sc_is_below
  obtain ⟨f, fd, F, hm⟩ := Z.def_ 1 1 (x := "is_below") (st := s_is_below) rfl rfl
  refine fn_ok F hm (F.binds (ps := ["thing", "many"]) (fun _ _ _ _ _ _ us hl => match us, hl with | [_, _], _ => rfl)) sc rfl ?_
  exact fun cdv A outer s H E q hr => by
    have hu64 : A.units + 3 + 64 < cLine := by have := hr.un; simp only [Around.deeper] at this; omega
    have hu1 : A.units + 3 + 1 < cLine := by omega
    exact jb_one (js_ret (j_and (j_call (n := 1) (ok_is_number Z) (hr.mono (by omega)) passW0 (by rfl) (ja_cons (j_rdS 0 (pv 0)) (ja_nil true))) (j_one (j_chain oo_le (oo_lt hu64) (j_int) (j_rdS 0 (pv 0)) (j_rdS 1 (pv 1))))))
theorem sc_is_tuple_of : FnScope ["thing", "many"] ["thing", "many"] (defScope s_is_tuple_of) := ⟨rfl, rfl, rfl, by decide +kernel, rfl, by decide +kernel, by decide +kernel⟩
theorem ok_is_tuple_of (Z : Fx fa fn K mg) : FnI P w K mg base CX0 XR0 "is_tuple_of" 1 .fre [false, false] f_is_tuple_of := by
  have sc := sc_is_tuple_of
  obtain ⟨f, fd, F, hm⟩ := Z.def_ 2 2 (x := "is_tuple_of") (st := s_is_tuple_of) rfl rfl
  refine fn_ok F hm (F.binds (ps := ["thing", "many"]) (fun _ _ _ _ _ _ us hl => match us, hl with | [_, _], _ => rfl)) sc rfl ?_
  exact fun cdv A outer s H E q hr => by
    have hu64 : A.units + 3 + 64 < cLine := by have := hr.un; simp only [Around.deeper] at this; omega
    have hu1 : A.units + 3 + 1 < cLine := by omega
    exact jb_one (js_ret (j_and (j_isi (T := "tuple") (j_rdS 0 (pv 0)) (by decide) (by rfl) (Z.free 20 rfl) (by rfl) (by rfl) (Z.free 25 rfl) (by rfl)) (j_one (j_cmp (oo_eq hu64) (j_callB oc_len (by rfl) (Z.free 21 rfl) (by rfl) (ja_cons (j_rdS 0 (pv 0)) (ja_nil false))) (j_rdS 1 (pv 1))))))
theorem sc_is_entry : FnScope ["thing", "many"] ["thing", "many"] (defScope s_is_entry) := ⟨rfl, rfl, rfl, by decide +kernel, rfl, by decide +kernel, by decide +kernel⟩
theorem ok_is_entry (Z : Fx fa fn K mg) : FnI P w K mg base CX0 XR0 "is_entry" 3 .fre [false, false] f_is_entry := by
  have sc := sc_is_entry
  obtain ⟨f, fd, F, hm⟩ := Z.def_ 3 3 (x := "is_entry") (st := s_is_entry) rfl rfl
  refine fn_ok F hm (F.binds (ps := ["thing", "many"]) (fun _ _ _ _ _ _ us hl => match us, hl with | [_, _], _ => rfl)) sc rfl ?_
  exact fun cdv A outer s H E q hr => by
    have hu64 : A.units + 3 + 64 < cLine := by have := hr.un; simp only [Around.deeper] at this; omega
    have hu1 : A.units + 3 + 1 < cLine := by omega
    exact jb_cons (js_if (JW.jt (jw_or (jt_not (jt_tru (j_call (n := 2) (ok_is_tuple_of Z) (hr.mono (by omega)) passW0 (by rfl) (ja_cons (j_rdS 0 (pv 0)) (ja_cons (j_int) (ja_nil true)))))) (jw_or1 (JW.jt (jw_and (jt_cmp oo_isnot (j_ix (oi_ix hu1) (j_rdS 0 (pv 0)) (j_int)) (j_non)) (jw_and1 (jt_not (jt_tru (j_call (n := 2) (ok_is_below Z) (hr.mono (by omega)) passW0 (by rfl) (ja_cons (j_ix (oi_ix hu1) (j_rdS 0 (pv 0)) (j_int)) (ja_cons (j_rdS 1 (pv 1)) (ja_nil true))))))))))))  (jb_one (js_ret (j_bl)))  (jb_nil))  (jb_one (js_ret (j_or (j_cmp oo_is (j_ix (oi_ix hu1) (j_rdS 0 (pv 0)) (j_int)) (j_non)) (j_one (j_call (n := 2) (ok_is_below Z) (hr.mono (by omega)) passW0 (by rfl) (ja_cons (j_ix (oi_ix hu1) (j_rdS 0 (pv 0)) (j_int)) (ja_cons (j_int) (ja_nil true))))))))
theorem sc_is_table : FnScope ["thing", "row", "one"] ["thing"] (defScope s_is_table) := ⟨rfl, rfl, rfl, by decide +kernel, rfl, by decide +kernel, by decide +kernel⟩
theorem ok_is_table (Z : Fx fa fn K mg) : FnI P w K mg base CX0 XR0 "is_table" 4 .fre [false] f_is_table := by
  have sc := sc_is_table
  obtain ⟨f, fd, F, hm⟩ := Z.def_ 4 4 (x := "is_table") (st := s_is_table) rfl rfl
  refine fn_ok F hm (F.binds (ps := ["thing"]) (fun _ _ _ _ _ _ us hl => match us, hl with | [_], _ => rfl)) sc rfl ?_
  exact fun cdv A outer s H E q hr => by
    have hu64 : A.units + 3 + 64 < cLine := by have := hr.un; simp only [Around.deeper] at this; omega
    have hu1 : A.units + 3 + 1 < cLine := by omega
    exact jb_cons (js_if (JW.jt (jw_or (jt_not (jt_tru (j_isi (T := "tuple") (j_rdS 0 (pv 0)) (by decide) (by rfl) (Z.free 20 rfl) (by rfl) (by rfl) (Z.free 25 rfl) (by rfl)))) (jw_or (jt_cmp (oo_eq hu64) (j_rdS 0 (pv 0)) (j_tup (ja_nil true))) (jw_or1 (jt_not (jt_tru (j_callB (oc_all (by rfl)) (by rfl) (Z.free 17 rfl) (by rfl) (ja_cons (j_lc (sf := false) (by rfl) sc.nd (ji_seq (j_rdS 0 (pv 0))) (own := [("row", 1)]) (blkOk_by (by kernel_rfl)) (fun _ _ _ _ _ _ => jg_nm 1 sc.nd (by rfl) (by first | exact Or.inl rfl | exact Or.inr rfl)) (fun _ _ _ _ _ _ => jpt_nil) (fun _ _ _ _ _ _ => j_isi (T := "tuple") (j_rdS 1 (pv 1)) (by decide) (by rfl) (Z.free 20 rfl) (by rfl) (by rfl) (Z.free 25 rfl) (by rfl))) (ja_nil false)))))))))  (jb_one (js_ret (j_bl)))  (jb_nil))  (jb_cons (js_if (JW.jt (jw_or (jt_cmp (oo_eq hu64) (j_ix (oi_ix hu1) (j_rdS 0 (pv 0)) (j_int)) (j_tup (ja_nil true))) (jw_or1 (jt_not (jt_tru (j_callB (oc_all (by rfl)) (by rfl) (Z.free 17 rfl) (by rfl) (ja_cons (j_lc (sf := false) (by rfl) sc.nd (ji_seq (j_rdS 0 (pv 0))) (own := [("row", 1)]) (blkOk_by (by kernel_rfl)) (fun _ _ _ _ _ _ => jg_nm 1 sc.nd (by rfl) (by first | exact Or.inl rfl | exact Or.inr rfl)) (fun _ _ _ _ _ _ => jpt_nil) (fun _ _ _ _ _ _ => j_cmp (oo_eq hu64) (j_callB oc_len (by rfl) (Z.free 21 rfl) (by rfl) (ja_cons (j_rdS 1 (pv 1)) (ja_nil false))) (j_callB oc_len (by rfl) (Z.free 21 rfl) (by rfl) (ja_cons (j_ix (oi_ix hu1) (j_rdS 0 (pv 0)) (j_int)) (ja_nil false))))) (ja_nil false))))))))  (jb_one (js_ret (j_bl)))  (jb_nil))  (jb_one (js_ret (j_callB (oc_all (by rfl)) (by rfl) (Z.free 17 rfl) (by rfl) (ja_cons (j_lc (sf := false) (by rfl) sc.nd (ji_seq (j_rdS 0 (pv 0))) (own := [("row", 1)]) (blkOk_by (by kernel_rfl)) (fun _ _ _ _ _ _ => jg_nm 1 sc.nd (by rfl) (by first | exact Or.inl rfl | exact Or.inr rfl)) (fun _ _ _ _ _ _ => jpt_nil) (fun _ _ _ _ _ _ => j_callB (oc_all (by rfl)) (by rfl) (Z.free 17 rfl) (by rfl) (ja_cons (j_lc (sf := false) (by rfl) sc.nd (ji_seq (j_rdS 1 (pv 1))) (own := [("one", 2)]) (blkOk_by (by kernel_rfl)) (fun _ _ _ _ _ _ => jg_nm 2 sc.nd (by rfl) (by first | exact Or.inl rfl | exact Or.inr rfl)) (fun _ _ _ _ _ _ => jpt_nil) (fun _ _ _ _ _ _ => j_call (n := 2) (ok_is_entry Z) (hr.mono (by omega)) passW0 (by rfl) (ja_cons (j_rdS 2 (pv 2)) (ja_cons (j_callB oc_len (by rfl) (Z.free 21 rfl) (by rfl) (ja_cons (j_rdS 0 (pv 0)) (ja_nil false))) (ja_nil true))))) (ja_nil false)))) (ja_nil false))))))
theorem sc_run_table : FnScope ["table", "state", "inputs", "found", "k", "out"] ["table", "state", "inputs"] (defScope s_run_table) := ⟨rfl, rfl, rfl, by decide +kernel, rfl, by decide +kernel, by decide +kernel⟩
theorem ok_run_table (Z : Fx fa fn K mg) : FnI P w K mg base CX0 XR0 "run_table" 1 .fre [false, false, false] f_run_table := by
  have sc := sc_run_table
  obtain ⟨f, fd, F, hm⟩ := Z.def_ 5 5 (x := "run_table") (st := s_run_table) rfl rfl
  refine fn_ok F hm (F.binds (ps := ["table", "state", "inputs"]) (fun _ _ _ _ _ _ us hl => match us, hl with | [_, _, _], _ => rfl)) sc rfl ?_
  exact fun cdv A outer s H E q hr => by
    have hu64 : A.units + 3 + 64 < cLine := by have := hr.un; simp only [Around.deeper] at this; omega
    have hu1 : A.units + 3 + 1 < cLine := by omega
    exact jb_cons (js_setO 3 sc.nd (by rfl) (by first | exact Or.inl rfl | exact Or.inr rfl) (j_lst (ja_nil true)))  (jb_cons (js_for PassesOwn.never (by rfl) (ji_seq (j_rdS 2 (pv 2))) (jg_nm 4 sc.nd (by rfl) (by first | exact Or.inl rfl | exact Or.inr rfl))  (jb_one (js_if (jt_cmp oo_is (j_rdS 1 (pv 1)) (j_non))  (jb_one (j_app 3 (pv 3) (j_non)))  (jb_cons (js_asg (j_ix (oi_ix hu1) (j_ix (oi_ix hu1) (j_rdS 0 (pv 0)) (j_rdS 1 (pv 1))) (j_rdS 4 (pv 4))) (jg_tp (by rfl) (jgs_cons (jg_nm 1 sc.nd (by rfl) (by first | exact Or.inl rfl | exact Or.inr rfl)) (jgs_cons (jg_nm 5 sc.nd (by rfl) (by first | exact Or.inl rfl | exact Or.inr rfl)) (jgs_nil)))))  (jb_one (j_app 3 (pv 3) (j_rdS 5 (pv 5))))))))  (jb_one (js_ret (j_callT oc_tuple (by rfl) (Z.free 25 rfl) (by rfl) (ja_cons (j_rdB 3 (pv 3)) (ja_nil false))))))
theorem sc__law_draws : FnScope ["script", "many", "draws", "mixed", "k", "cell", "rest", "turn"] ["script", "many"] (defScope s__law_draws) := ⟨rfl, rfl, rfl, by decide +kernel, rfl, by decide +kernel, by decide +kernel⟩
theorem ok__law_draws (Z : Fx fa fn K mg) : FnI P w K mg base CX0 XR0 "_law_draws" 1 .fre [false, false] f__law_draws := by
  have sc := sc__law_draws
  obtain ⟨f, fd, F, hm⟩ := Z.def_ 6 6 (x := "_law_draws") (st := s__law_draws) rfl rfl
  refine fn_ok F hm (F.binds (ps := ["script", "many"]) (fun _ _ _ _ _ _ us hl => match us, hl with | [_, _], _ => rfl)) sc rfl ?_
  exact fun cdv A outer s H E q hr => by
    have hu64 : A.units + 3 + 64 < cLine := by have := hr.un; simp only [Around.deeper] at this; omega
    have hu1 : A.units + 3 + 1 < cLine := by omega
    exact jb_cons (js_setO 2 sc.nd (by rfl) (by first | exact Or.inl rfl | exact Or.inr rfl) (j_lst (ja_nil true)))  (jb_cons (js_set 3 sc.nd (by rfl) (by first | exact Or.inl rfl | exact Or.inr rfl) (j_int))  (jb_cons (js_for PassesOwn.never (by rfl) (ji_range1 (by rfl) (Z.free 23 rfl) (ja_cons (j_callB oc_len (by rfl) (Z.free 21 rfl) (by rfl) (ja_cons (j_rdS 0 (pv 0)) (ja_nil false))) (ja_nil true))) (jg_nm 4 sc.nd (by rfl) (by first | exact Or.inl rfl | exact Or.inr rfl))  (jb_cons (js_set 5 sc.nd (by rfl) (by first | exact Or.inl rfl | exact Or.inr rfl) (j_callB oc_abs (by rfl) (Z.free 16 rfl) (by rfl) (ja_cons (j_callT oc_int (by rfl) (Z.free 19 rfl) (by rfl) (ja_cons (j_ix (oi_ix hu1) (j_rdS 0 (pv 0)) (j_rdS 4 (pv 4))) (ja_nil false))) (ja_nil false))))  (jb_cons (js_set 3 sc.nd (by rfl) (by first | exact Or.inl rfl | exact Or.inr rfl) (j_op oo_mod (j_callT oc_int (by rfl) (Z.free 19 rfl) (by rfl) (ja_cons (j_op oo_add (j_op oo_add (j_op oo_mul (j_rdS 3 (pv 3)) (j_int)) (j_op oo_mod (j_rdS 5 (pv 5)) (j_int))) (j_rdS 4 (pv 4))) (ja_nil false))) (j_int)))  (jb_cons (js_set 6 sc.nd (by rfl) (by first | exact Or.inl rfl | exact Or.inr rfl) (j_int))  (jb_cons (js_if (jt_cmp oo_ge (j_rdS 5 (pv 5)) (j_op oo_pow (j_int) (j_int)))  (jb_one (js_set 6 sc.nd (by rfl) (by first | exact Or.inl rfl | exact Or.inr rfl) (j_rdS 5 (pv 5))))  (jb_cons (j_app 2 (pv 2) (j_op oo_mod (j_callT oc_int (by rfl) (Z.free 19 rfl) (by rfl) (ja_cons (j_rdS 5 (pv 5)) (ja_nil false))) (j_int)))  (jb_one (j_app 2 (pv 2) (j_op oo_mod (j_op oo_mod (j_callT oc_int (by rfl) (Z.free 19 rfl) (by rfl) (ja_cons (j_op oo_add (j_op oo_mul (j_rdS 3 (pv 3)) (j_int)) (j_int)) (ja_nil false))) (j_int)) (j_int))))))  (jb_one (js_for PassesOwn.never (by rfl) (ji_range1 (by rfl) (Z.free 23 rfl) (ja_cons (j_int) (ja_nil true))) (jg_nm 7 sc.nd (by rfl) (by first | exact Or.inl rfl | exact Or.inr rfl))  (jb_one (js_if (jt_cmp oo_gt (j_rdS 6 (pv 6)) (j_int))  (jb_cons (j_app 2 (pv 2) (j_op oo_mod (j_callT oc_int (by rfl) (Z.free 19 rfl) (by rfl) (ja_cons (j_rdS 6 (pv 6)) (ja_nil false))) (j_int)))  (jb_one (js_set 6 sc.nd (by rfl) (by first | exact Or.inl rfl | exact Or.inr rfl) (j_op oo_fdiv (j_rdS 6 (pv 6)) (j_int)))))  (jb_nil))))))))))  (jb_cons (js_for PassesOwn.never (by rfl) (ji_range1 (by rfl) (Z.free 23 rfl) (ja_cons (j_rdS 1 (pv 1)) (ja_nil true))) (jg_nm 4 sc.nd (by rfl) (by first | exact Or.inl rfl | exact Or.inr rfl))  (jb_cons (js_set 3 sc.nd (by rfl) (by first | exact Or.inl rfl | exact Or.inr rfl) (j_op oo_mod (j_callT oc_int (by rfl) (Z.free 19 rfl) (by rfl) (ja_cons (j_op oo_add (j_op oo_add (j_op oo_mul (j_rdS 3 (pv 3)) (j_int)) (j_rdS 4 (pv 4))) (j_int)) (ja_nil false))) (j_int)))  (jb_one (j_app 2 (pv 2) (j_op oo_mod (j_callT oc_int (by rfl) (Z.free 19 rfl) (by rfl) (ja_cons (j_rdS 3 (pv 3)) (ja_nil false))) (j_int))))))  (jb_one (js_ret (j_slice os_sl (j_rdB 2 (pv 2)) (jo_none) (jo_some (j_rdS 1 (pv 1)))))))))
theorem sc__law_next : FnScope ["w", "many"] ["w", "many"] (defScope s__law_next) := ⟨rfl, rfl, rfl, by decide +kernel, rfl, by decide +kernel, by decide +kernel⟩
theorem ok__law_next (Z : Fx fa fn K mg) : FnI P w K mg base CX0 XR0 "_law_next" 1 .fre [true, false] f__law_next := by
  have sc := sc__law_next
  obtain ⟨f, fd, F, hm⟩ := Z.def_ 7 7 (x := "_law_next") (st := s__law_next) rfl rfl
  refine fn_ok F hm (F.binds (ps := ["w", "many"]) (fun _ _ _ _ _ _ us hl => match us, hl with | [_, _], _ => rfl)) sc rfl ?_
  exact fun cdv A outer s H E q hr => by
    have hu64 : A.units + 3 + 64 < cLine := by have := hr.un; simp only [Around.deeper] at this; omega
    have hu1 : A.units + 3 + 1 < cLine := by omega
    exact jb_cons (js_augI 0 hu1 (pv 0) (j_str (h := by decide +kernel)) (j_int) oa_add)  (jb_cons (js_if (jt_cmp oo_gt (j_ix (oi_ix hu1) (j_rdB 0 (pv 0)) (j_str (h := by decide +kernel))) (j_callB oc_len (by rfl) (Z.free 21 rfl) (by rfl) (ja_cons (j_ix (oi_ix hu1) (j_rdB 0 (pv 0)) (j_str (h := by decide +kernel))) (ja_nil false))))  (jb_one (js_ret (j_int)))  (jb_nil))  (jb_one (js_ret (j_op oo_mod (j_callT oc_int (by rfl) (Z.free 19 rfl) (by rfl) (ja_cons (j_ix (oi_ix hu1) (j_ix (oi_ix hu1) (j_rdB 0 (pv 0)) (j_str (h := by decide +kernel))) (j_op oo_sub (j_ix (oi_ix hu1) (j_rdB 0 (pv 0)) (j_str (h := by decide +kernel))) (j_int))) (ja_nil false))) (j_rdS 1 (pv 1))))))
theorem sc__law_pick : FnScope ["w", "rows"] ["w", "rows"] (defScope s__law_pick) := ⟨rfl, rfl, rfl, by decide +kernel, rfl, by decide +kernel, by decide +kernel⟩
theorem ok__law_pick (Z : Fx fa fn K mg) : FnI P w K mg base CX0 XR0 "_law_pick" 2 .saf [true, false] f__law_pick := by
  have sc := sc__law_pick
  obtain ⟨f, fd, F, hm⟩ := Z.def_ 8 8 (x := "_law_pick") (st := s__law_pick) rfl rfl
  refine fn_ok F hm (F.binds (ps := ["w", "rows"]) (fun _ _ _ _ _ _ us hl => match us, hl with | [_, _], _ => rfl)) sc rfl ?_
  exact fun cdv A outer s H E q hr => by
    have hu64 : A.units + 3 + 64 < cLine := by have := hr.un; simp only [Around.deeper] at this; omega
    have hu1 : A.units + 3 + 1 < cLine := by omega
    exact jb_one (js_ret (j_ix (oi_ix hu1) (j_rdS 1 (pv 1)) (j_callH (js := [some 0, none]) (ok__law_next Z) (hr.mono (by omega)) passW0 (by decide) (by rfl) (jh_hole 0 (pv 0) (jh_val (j_callB oc_len (by rfl) (Z.free 21 rfl) (by rfl) (ja_cons (j_rdS 1 (pv 1)) (ja_nil false))) (jh_nil))))))
theorem sc__law_alike : FnScope ["given", "due", "k"] ["given", "due"] (defScope s__law_alike) := ⟨rfl, rfl, rfl, by decide +kernel, rfl, by decide +kernel, by decide +kernel⟩
theorem okA__law_alike (Z : Fx fa fn K mg) (n : Nat) : FnI P w K mg base CX0 XR0 "_law_alike" (1 + n) .fre [false, false] (f__law_alike n) := by
  obtain ⟨a__law_alike, fd__law_alike, F__law_alike, hm__law_alike⟩ := Z.def_ 9 9 (x := "_law_alike") (st := s__law_alike) rfl rfl
  have bd__law_alike := F__law_alike.binds (ps := ["given", "due"]) (fun _ _ _ _ _ _ us hl => match us, hl with | [_, _], _ => rfl)
  induction n with
  | zero => exact fn_bot (k := 0) F__law_alike hm__law_alike bd__law_alike sc__law_alike rfl
  | succ n ih =>
    have h__law_alike := ih
    have sc := sc__law_alike
    refine fn_ok (k := 1 + n) F__law_alike hm__law_alike bd__law_alike sc rfl ?_
    exact fun cdv A outer s H E q hr => by
      have hu64 : A.units + 3 + 64 < cLine := by have := hr.un; simp only [Around.deeper] at this; omega
      have hu1 : A.units + 3 + 1 < cLine := by omega
      exact jb_cons (js_if (jt_tru (j_isi (T := "tuple") (j_rdS 1 (pv 1)) (by decide) (by rfl) (Z.free 20 rfl) (by rfl) (by rfl) (Z.free 25 rfl) (by rfl)))  (jb_cons (js_if (JW.jt (jw_or (jt_not (jt_tru (j_isi (T := "tuple") (j_rdS 0 (pv 0)) (by decide) (by rfl) (Z.free 20 rfl) (by rfl) (by rfl) (Z.free 25 rfl) (by rfl)))) (jw_or1 (jt_cmp (oo_ne hu64) (j_callB oc_len (by rfl) (Z.free 21 rfl) (by rfl) (ja_cons (j_rdS 0 (pv 0)) (ja_nil false))) (j_callB oc_len (by rfl) (Z.free 21 rfl) (by rfl) (ja_cons (j_rdS 1 (pv 1)) (ja_nil false)))))))  (jb_one (js_ret (j_bl)))  (jb_nil))  (jb_one (js_ret (j_cmp (oo_eq hu64) (j_lc (sf := false) (by rfl) sc.nd (ji_range1 (by rfl) (Z.free 23 rfl) (ja_cons (j_callB oc_len (by rfl) (Z.free 21 rfl) (by rfl) (ja_cons (j_rdS 1 (pv 1)) (ja_nil false))) (ja_nil true))) (own := [("k", 2)]) (blkOk_by (by kernel_rfl)) (fun _ _ _ _ _ _ => jg_nm 2 sc.nd (by rfl) (by first | exact Or.inl rfl | exact Or.inr rfl)) (fun _ _ _ _ _ _ => jpt_one (jt_not (jt_tru (j_call (n := 2) h__law_alike hr passW0 (by rfl) (ja_cons (j_ix (oi_ix hu1) (j_rdS 0 (pv 0)) (j_rdS 2 (pv 2))) (ja_cons (j_ix (oi_ix hu1) (j_rdS 1 (pv 1)) (j_rdS 2 (pv 2))) (ja_nil true))))))) (fun _ _ _ _ _ _ => j_rdS 2 (pv 2))) (j_lst (ja_nil true))))))  (jb_nil))  (jb_cons (js_if (jt_cmp oo_is (j_rdS 1 (pv 1)) (j_non))  (jb_one (js_ret (j_cmp oo_is (j_rdS 0 (pv 0)) (j_non))))  (jb_nil))  (jb_cons (js_if (jt_tru (j_isi (T := "bool") (j_rdS 1 (pv 1)) (by decide) (by rfl) (Z.free 20 rfl) (by rfl) (by rfl) (Z.free 18 rfl) (by rfl)))  (jb_one (js_ret (j_and (j_isi (T := "bool") (j_rdS 0 (pv 0)) (by decide) (by rfl) (Z.free 20 rfl) (by rfl) (by rfl) (Z.free 18 rfl) (by rfl)) (j_one (j_cmp (oo_eq hu64) (j_rdS 0 (pv 0)) (j_rdS 1 (pv 1)))))))  (jb_nil))  (jb_cons (js_if (jt_tru (j_isi (T := "int") (j_rdS 1 (pv 1)) (by decide) (by rfl) (Z.free 20 rfl) (by rfl) (by rfl) (Z.free 19 rfl) (by rfl)))  (jb_one (js_ret (j_and (j_isi (T := "int") (j_rdS 0 (pv 0)) (by decide) (by rfl) (Z.free 20 rfl) (by rfl) (by rfl) (Z.free 19 rfl) (by rfl)) (j_and (j_not (j_isi (T := "bool") (j_rdS 0 (pv 0)) (by decide) (by rfl) (Z.free 20 rfl) (by rfl) (by rfl) (Z.free 18 rfl) (by rfl))) (j_one (j_cmp (oo_eq hu64) (j_rdS 0 (pv 0)) (j_rdS 1 (pv 1))))))))  (jb_nil))  (jb_one (js_ret (j_and (j_isi (T := "str") (j_rdS 0 (pv 0)) (by decide) (by rfl) (Z.free 20 rfl) (by rfl) (by rfl) (Z.free 24 rfl) (by rfl)) (j_one (j_cmp (oo_eq hu64) (j_rdS 0 (pv 0)) (j_rdS 1 (pv 1))))))))))

theorem ok__law_alike (Z : Fx fa fn K mg) (n : Nat) : FnI P w K mg base CX0 XR0 "_law_alike" (1 + n) .fre [false, false] (f__law_alike n) := (okA__law_alike Z n)
theorem sc__law_table : FnScope ["w", "many", "inputs", "free", "state", "k"] ["w", "many", "inputs", "free"] (defScope s__law_table) := ⟨rfl, rfl, rfl, by decide +kernel, rfl, by decide +kernel, by decide +kernel⟩
theorem ok__law_table (Z : Fx fa fn K mg) : FnI P w K mg base CX0 XR0 "_law_table" 2 .fre [true, false, false, false] f__law_table := by
  have sc := sc__law_table
  obtain ⟨f, fd, F, hm⟩ := Z.def_ 10 10 (x := "_law_table") (st := s__law_table) rfl rfl
  refine fn_ok F hm (F.binds (ps := ["w", "many", "inputs", "free"]) (fun _ _ _ _ _ _ us hl => match us, hl with | [_, _, _, _], _ => rfl)) sc rfl ?_
  exact fun cdv A outer s H E q hr => by
    have hu64 : A.units + 3 + 64 < cLine := by have := hr.un; simp only [Around.deeper] at this; omega
    have hu1 : A.units + 3 + 1 < cLine := by omega
    exact jb_one (js_ret (j_callT oc_tuple (by rfl) (Z.free 25 rfl) (by rfl) (ja_cons (j_lc (sf := true) (by rfl) sc.nd (ji_range1 (by rfl) (Z.free 23 rfl) (ja_cons (j_rdS 1 (pv 1)) (ja_nil true))) (own := [("state", 4)]) (blkOk_by (by kernel_rfl)) (fun _ _ _ _ _ _ => jg_nm 4 sc.nd (by rfl) (by first | exact Or.inl rfl | exact Or.inr rfl)) (fun _ _ _ _ _ _ => jpt_nil) (fun _ _ _ _ _ _ => j_callT oc_tuple (by rfl) (Z.free 25 rfl) (by rfl) (ja_cons (j_lc (sf := true) (by rfl) sc.nd (ji_range1 (by rfl) (Z.free 23 rfl) (ja_cons (j_rdS 2 (pv 2)) (ja_nil true))) (own := [("k", 5)]) (blkOk_by (by kernel_rfl)) (fun _ _ _ _ _ _ => jg_nm 5 sc.nd (by rfl) (by first | exact Or.inl rfl | exact Or.inr rfl)) (fun _ _ _ _ _ _ => jpt_nil) (fun _ _ _ _ _ _ => j_tup (ja_cons (j_if (jt_cmp oo_ge (j_callH (js := [some 0, none]) (ok__law_next Z) (hr.mono (by omega)) passW0 (by decide) (by rfl) (jh_hole 0 (pv 0) (jh_val (j_int) (jh_nil)))) (j_rdS 3 (pv 3))) (j_callH (js := [some 0, none]) (ok__law_next Z) (hr.mono (by omega)) passW0 (by decide) (by rfl) (jh_hole 0 (pv 0) (jh_val (j_rdS 1 (pv 1)) (jh_nil)))) ((j_non).imp)) (ja_cons (j_if (jt_cmp oo_ge (j_callH (js := [some 0, none]) (ok__law_next Z) (hr.mono (by omega)) passW0 (by decide) (by rfl) (jh_hole 0 (pv 0) (jh_val (j_int) (jh_nil)))) (j_rdS 3 (pv 3))) (j_callH (js := [some 0, none]) (ok__law_next Z) (hr.mono (by omega)) passW0 (by decide) (by rfl) (jh_hole 0 (pv 0) (jh_val (j_int) (jh_nil)))) ((j_non).imp)) (ja_nil true))))) (ja_nil false)))) (ja_nil false))))
theorem sc__law_outs : FnScope ["table", "state", "inputs", "found", "k"] ["table", "state", "inputs"] (defScope s__law_outs) := ⟨rfl, rfl, rfl, by decide +kernel, rfl, by decide +kernel, by decide +kernel⟩
theorem ok__law_outs (Z : Fx fa fn K mg) : FnI P w K mg base CX0 XR0 "_law_outs" 1 .saf [false, false, false] f__law_outs := by
  have sc := sc__law_outs
  obtain ⟨f, fd, F, hm⟩ := Z.def_ 11 11 (x := "_law_outs") (st := s__law_outs) rfl rfl
  refine fn_ok F hm (F.binds (ps := ["table", "state", "inputs"]) (fun _ _ _ _ _ _ us hl => match us, hl with | [_, _, _], _ => rfl)) sc rfl ?_
  exact fun cdv A outer s H E q hr => by
    have hu64 : A.units + 3 + 64 < cLine := by have := hr.un; simp only [Around.deeper] at this; omega
    have hu1 : A.units + 3 + 1 < cLine := by omega
    exact jb_cons (js_set 3 sc.nd (by rfl) (by first | exact Or.inl rfl | exact Or.inr rfl) (j_tup (ja_nil true)))  (jb_cons (js_for PassesOwn.never (by rfl) (ji_seq (j_rdS 2 (pv 2))) (jg_nm 4 sc.nd (by rfl) (by first | exact Or.inl rfl | exact Or.inr rfl))  (jb_cons (js_set 3 sc.nd (by rfl) (by first | exact Or.inl rfl | exact Or.inr rfl) (j_op oo_add (j_rdS 3 (pv 3)) (j_tup (ja_cons (j_if (jt_cmp oo_is (j_rdS 1 (pv 1)) (j_non)) ((j_non).saf) (j_ix (oi_ix hu1) (j_ix (oi_ix hu1) (j_ix (oi_ix hu1) (j_rdS 0 (pv 0)) (j_rdS 1 (pv 1))) (j_rdS 4 (pv 4))) (j_int))) (ja_nil true)))))  (jb_one (js_set 1 sc.nd (by rfl) (by first | exact Or.inl rfl | exact Or.inr rfl) (j_if (jt_cmp oo_is (j_rdS 1 (pv 1)) (j_non)) ((j_non).saf) (j_ix (oi_ix hu1) (j_ix (oi_ix hu1) (j_ix (oi_ix hu1) (j_rdS 0 (pv 0)) (j_rdS 1 (pv 1))) (j_rdS 4 (pv 4))) (j_int)))))))  (jb_one (js_ret (j_rdS 3 (pv 3)))))
theorem sc__law_is_below : FnScope ["one", "many"] ["one", "many"] (defScope s__law_is_below) := ⟨rfl, rfl, rfl, by decide +kernel, rfl, by decide +kernel, by decide +kernel⟩
theorem ok__law_is_below (Z : Fx fa fn K mg) : FnI P w K mg base CX0 XR0 "_law_is_below" 1 .fre [false, false] f__law_is_below := by
  have sc := sc__law_is_below
  obtain ⟨f, fd, F, hm⟩ := Z.def_ 12 12 (x := "_law_is_below") (st := s__law_is_below) rfl rfl
  refine fn_ok F hm (F.binds (ps := ["one", "many"]) (fun _ _ _ _ _ _ us hl => match us, hl with | [_, _], _ => rfl)) sc rfl ?_
  exact fun cdv A outer s H E q hr => by
    have hu64 : A.units + 3 + 64 < cLine := by have := hr.un; simp only [Around.deeper] at this; omega
    have hu1 : A.units + 3 + 1 < cLine := by omega
    exact jb_one (js_ret (j_and (j_isi (T := "int") (j_rdS 0 (pv 0)) (by decide) (by rfl) (Z.free 20 rfl) (by rfl) (by rfl) (Z.free 19 rfl) (by rfl)) (j_and (j_not (j_isi (T := "bool") (j_rdS 0 (pv 0)) (by decide) (by rfl) (Z.free 20 rfl) (by rfl) (by rfl) (Z.free 18 rfl) (by rfl))) (j_one (j_chain oo_le (oo_lt hu64) (j_int) (j_rdS 0 (pv 0)) (j_rdS 1 (pv 1)))))))
theorem sc__law_is_table : FnScope ["thing", "row", "entry"] ["thing"] (defScope s__law_is_table) := ⟨rfl, rfl, rfl, by decide +kernel, rfl, by decide +kernel, by decide +kernel⟩
theorem ok__law_is_table (Z : Fx fa fn K mg) : FnI P w K mg base CX0 XR0 "_law_is_table" 2 .fre [false] f__law_is_table := by
  have sc := sc__law_is_table
  obtain ⟨f, fd, F, hm⟩ := Z.def_ 13 13 (x := "_law_is_table") (st := s__law_is_table) rfl rfl
  refine fn_ok F hm (F.binds (ps := ["thing"]) (fun _ _ _ _ _ _ us hl => match us, hl with | [_], _ => rfl)) sc rfl ?_
  exact fun cdv A outer s H E q hr => by
    have hu64 : A.units + 3 + 64 < cLine := by have := hr.un; simp only [Around.deeper] at this; omega
    have hu1 : A.units + 3 + 1 < cLine := by omega
    exact jb_cons (js_if (JW.jt (jw_or (jt_not (jt_tru (j_isi (T := "tuple") (j_rdS 0 (pv 0)) (by decide) (by rfl) (Z.free 20 rfl) (by rfl) (by rfl) (Z.free 25 rfl) (by rfl)))) (jw_or1 (jt_cmp (oo_eq hu64) (j_rdS 0 (pv 0)) (j_tup (ja_nil true))))))  (jb_one (js_ret (j_bl)))  (jb_nil))  (jb_cons (js_for PassesOwn.never (by rfl) (ji_seq (j_rdS 0 (pv 0))) (jg_nm 1 sc.nd (by rfl) (by first | exact Or.inl rfl | exact Or.inr rfl))  (jb_cons (js_if (JW.jt (jw_or (jt_not (jt_tru (j_isi (T := "tuple") (j_rdS 1 (pv 1)) (by decide) (by rfl) (Z.free 20 rfl) (by rfl) (by rfl) (Z.free 25 rfl) (by rfl)))) (jw_or (jt_cmp (oo_eq hu64) (j_rdS 1 (pv 1)) (j_tup (ja_nil true))) (jw_or (jt_not (jt_tru (j_isi (T := "tuple") (j_ix (oi_ix hu1) (j_rdS 0 (pv 0)) (j_int)) (by decide) (by rfl) (Z.free 20 rfl) (by rfl) (by rfl) (Z.free 25 rfl) (by rfl)))) (jw_or1 (jt_cmp (oo_ne hu64) (j_callB oc_len (by rfl) (Z.free 21 rfl) (by rfl) (ja_cons (j_rdS 1 (pv 1)) (ja_nil false))) (j_callB oc_len (by rfl) (Z.free 21 rfl) (by rfl) (ja_cons (j_ix (oi_ix hu1) (j_rdS 0 (pv 0)) (j_int)) (ja_nil false)))))))))  (jb_one (js_ret (j_bl)))  (jb_nil))  (jb_one (js_for PassesOwn.never (by rfl) (ji_seq (j_rdS 1 (pv 1))) (jg_nm 2 sc.nd (by rfl) (by first | exact Or.inl rfl | exact Or.inr rfl))  (jb_one (js_if (JW.jt (jw_or (jt_not (jt_tru (j_isi (T := "tuple") (j_rdS 2 (pv 2)) (by decide) (by rfl) (Z.free 20 rfl) (by rfl) (by rfl) (Z.free 25 rfl) (by rfl)))) (jw_or (jt_cmp (oo_ne hu64) (j_callB oc_len (by rfl) (Z.free 21 rfl) (by rfl) (ja_cons (j_rdS 2 (pv 2)) (ja_nil false))) (j_int)) (jw_or (JW.jt (jw_and (jt_cmp oo_isnot (j_ix (oi_ix hu1) (j_rdS 2 (pv 2)) (j_int)) (j_non)) (jw_and1 (jt_not (jt_tru (j_call (n := 2) (ok__law_is_below Z) (hr.mono (by omega)) passW0 (by rfl) (ja_cons (j_ix (oi_ix hu1) (j_rdS 2 (pv 2)) (j_int)) (ja_cons (j_callB oc_len (by rfl) (Z.free 21 rfl) (by rfl) (ja_cons (j_rdS 0 (pv 0)) (ja_nil false))) (ja_nil true))))))))) (jw_or1 (JW.jt (jw_and (jt_cmp oo_isnot (j_ix (oi_ix hu1) (j_rdS 2 (pv 2)) (j_int)) (j_non)) (jw_and1 (jt_not (jt_tru (j_call (n := 2) (ok__law_is_below Z) (hr.mono (by omega)) passW0 (by rfl) (ja_cons (j_ix (oi_ix hu1) (j_rdS 2 (pv 2)) (j_int)) (ja_cons (j_int) (ja_nil true))))))))))))))  (jb_one (js_ret (j_bl)))  (jb_nil)))))))  (jb_one (js_ret (j_bl))))
theorem sc__law_bent : FnScope ["w", "thing", "depth", "at"] ["w", "thing", "depth"] (defScope s__law_bent) := ⟨rfl, rfl, rfl, by decide +kernel, rfl, by decide +kernel, by decide +kernel⟩
theorem okA__law_bent (Z : Fx fa fn K mg) (n : Nat) : FnI P w K mg base CX0 XR0 "_law_bent" (3 + n) .saf [true, false, false] (f__law_bent n) := by
  obtain ⟨a__law_bent, fd__law_bent, F__law_bent, hm__law_bent⟩ := Z.def_ 14 14 (x := "_law_bent") (st := s__law_bent) rfl rfl
  have bd__law_bent := F__law_bent.binds (ps := ["w", "thing", "depth"]) (fun _ _ _ _ _ _ us hl => match us, hl with | [_, _, _], _ => rfl)
  induction n with
  | zero => exact fn_bot (k := 2) F__law_bent hm__law_bent bd__law_bent sc__law_bent rfl
  | succ n ih =>
    have h__law_bent := ih
    have sc := sc__law_bent
    refine fn_ok (k := 3 + n) F__law_bent hm__law_bent bd__law_bent sc rfl ?_
    exact fun cdv A outer s H E q hr => by
      have hu64 : A.units + 3 + 64 < cLine := by have := hr.un; simp only [Around.deeper] at this; omega
      have hu1 : A.units + 3 + 1 < cLine := by omega
      exact jb_cons (js_if (JW.jt (jw_and (jt_tru (j_isi (T := "tuple") (j_rdS 1 (pv 1)) (by decide) (by rfl) (Z.free 20 rfl) (by rfl) (by rfl) (Z.free 25 rfl) (by rfl))) (jw_and (jt_cmp (oo_ne hu64) (j_rdS 1 (pv 1)) (j_tup (ja_nil true))) (jw_and (jt_cmp oo_gt (j_rdS 2 (pv 2)) (j_int)) (jw_and1 (jt_cmp oo_gt (j_callH (js := [some 0, none]) (ok__law_next Z) (hr.mono (by omega)) passW0 (by decide) (by rfl) (jh_hole 0 (pv 0) (jh_val (j_int) (jh_nil)))) (j_int)))))))  (jb_cons (js_set 3 sc.nd (by rfl) (by first | exact Or.inl rfl | exact Or.inr rfl) (j_callH (js := [some 0, none]) (ok__law_next Z) (hr.mono (by omega)) passW0 (by decide) (by rfl) (jh_hole 0 (pv 0) (jh_val (j_callB oc_len (by rfl) (Z.free 21 rfl) (by rfl) (ja_cons (j_rdS 1 (pv 1)) (ja_nil false))) (jh_nil)))))  (jb_one (js_ret (j_op oo_add (j_op oo_add (j_slice os_sl (j_rdS 1 (pv 1)) (jo_none) (jo_some (j_rdS 3 (pv 3)))) (j_tup (ja_cons (j_callH (js := [some 0, none, none]) h__law_bent hr passW0 (by decide) (by rfl) (jh_hole 0 (pv 0) (jh_val (j_ix (oi_ix hu1) (j_rdS 1 (pv 1)) (j_rdS 3 (pv 3))) (jh_val (j_op oo_sub (j_rdS 2 (pv 2)) (j_int)) (jh_nil))))) (ja_nil true)))) (j_slice os_sl (j_rdS 1 (pv 1)) (jo_some (j_op oo_add (j_rdS 3 (pv 3)) (j_int))) (jo_none))))))  (jb_nil))  (jb_cons (js_if (jt_not (jt_tru (j_isi (T := "tuple") (j_rdS 1 (pv 1)) (by decide) (by rfl) (Z.free 20 rfl) (by rfl) (by rfl) (Z.free 25 rfl) (by rfl))))  (jb_one (js_ret (j_callH (js := [some 0, none]) (ok__law_pick Z) (hr.mono (by omega)) passW0 (by decide) (by rfl) (jh_hole 0 (pv 0) (jh_val (j_lst (ja_cons (j_int) (ja_cons (j_int) (ja_cons (j_int) (ja_cons (j_int) (ja_cons (j_un ou_neg (j_int)) (ja_cons (j_bl) (ja_cons (j_non) (ja_cons (j_str (h := by decide +kernel)) (ja_nil true)))))))))) (jh_nil))))))  (jb_nil))  (jb_one (js_ret (j_callH (js := [some 0, none]) (ok__law_pick Z) (hr.mono (by omega)) passW0 (by decide) (by rfl) (jh_hole 0 (pv 0) (jh_val (j_lst (ja_cons (j_callT oc_list (by rfl) (Z.free 22 rfl) (by rfl) (ja_cons (j_rdS 1 (pv 1)) (ja_nil false))) (ja_cons (j_slice os_sl (j_rdS 1 (pv 1)) (jo_none) (jo_some (j_un ou_neg (j_int)))) (ja_cons (j_op oo_add (j_rdS 1 (pv 1)) (j_slice os_sl (j_rdS 1 (pv 1)) (jo_none) (jo_some (j_int)))) (ja_cons (j_tup (ja_nil true)) (ja_cons (j_non) (ja_nil true))))))) (jh_nil)))))))

theorem ok__law_bent (Z : Fx fa fn K mg) (n : Nat) : FnI P w K mg base CX0 XR0 "_law_bent" (3 + n) .saf [true, false, false] (f__law_bent n) := (okA__law_bent Z n)
theorem sc_law : FnScope ["script", "w", "turn", "many", "inputs", "table", "k", "row", "state", "thing", "j"] ["script"] (defScope s_law) := ⟨rfl, rfl, rfl, by decide +kernel, rfl, by decide +kernel, by decide +kernel⟩
theorem ok_law (Z : Fx fa fn K mg) (f : Addr) (fd : FuncData) (F : L2.Fun K "law" "law" s_law f fd) : FnOk P w K mg base CX0 44 f fd ["script"] (spF K XR0 .fre [false] f_law) := by
  have sc := sc_law
  refine fn_ok0 F sc rfl ?_
  exact fun cdv A outer s H E q hr => by
    have hu64 : A.units + 3 + 64 < cLine := by have := hr.un; simp only [Around.deeper] at this; omega
    have hu1 : A.units + 3 + 1 < cLine := by omega
    exact jb_cons (js_setO 1 sc.nd (by rfl) (by first | exact Or.inl rfl | exact Or.inr rfl) (j_dict (jp_cons (fun _ => j_str (h := by decide +kernel)) (fun _ => j_call (n := 2) (ok__law_draws Z) (hr.mono (by omega)) passW0 (by rfl) (ja_cons (j_rdS 0 (pv 0)) (ja_cons (j_int) (ja_nil true)))) (jp_cons (fun _ => j_str (h := by decide +kernel)) (fun _ => j_int) (jp_nil)))))  (jb_cons (js_for PassesOwn.never (by rfl) (ji_range1 (by rfl) (Z.free 23 rfl) (ja_cons (j_int) (ja_nil true))) (jg_nm 2 sc.nd (by rfl) (by first | exact Or.inl rfl | exact Or.inr rfl))  (jb_cons (js_asg (j_tup (ja_cons (j_op oo_add (j_int) (j_callH (js := [some 1, none]) (ok__law_next Z) (hr.mono (by omega)) passW0 (by decide) (by rfl) (jh_hole 1 (pv 1) (jh_val (j_int) (jh_nil))))) (ja_cons (j_op oo_add (j_int) (j_callH (js := [some 1, none]) (ok__law_next Z) (hr.mono (by omega)) passW0 (by decide) (by rfl) (jh_hole 1 (pv 1) (jh_val (j_int) (jh_nil))))) (ja_nil true)))) (jg_tp (by rfl) (jgs_cons (jg_nm 3 sc.nd (by rfl) (by first | exact Or.inl rfl | exact Or.inr rfl)) (jgs_cons (jg_nm 4 sc.nd (by rfl) (by first | exact Or.inl rfl | exact Or.inr rfl)) (jgs_nil)))))  (jb_cons (js_set 5 sc.nd (by rfl) (by first | exact Or.inl rfl | exact Or.inr rfl) (j_callH (js := [some 1, none, none, none]) (ok__law_table Z) (hr.mono (by omega)) passW0 (by decide) (by rfl) (jh_hole 1 (pv 1) (jh_val (j_rdS 3 (pv 3)) (jh_val (j_rdS 4 (pv 4)) (jh_val (j_callH (js := [some 1, none]) (ok__law_next Z) (hr.mono (by omega)) passW0 (by decide) (by rfl) (jh_hole 1 (pv 1) (jh_val (j_int) (jh_nil)))) (jh_nil)))))))  (jb_cons (js_for PassesOwn.never (by rfl) (ji_range1 (by rfl) (Z.free 23 rfl) (ja_cons (j_int) (ja_nil true))) (jg_nm 6 sc.nd (by rfl) (by first | exact Or.inl rfl | exact Or.inr rfl))  (jb_cons (js_par 7 8 (by rfl) sc.nd (by rfl) (by rfl) (by decide) (by rfl) (by rfl) (ja_cons (j_callT oc_tuple (by rfl) (Z.free 25 rfl) (by rfl) (ja_cons (j_lc (sf := true) (by rfl) sc.nd (ji_range1 (by rfl) (Z.free 23 rfl) (ja_cons (j_callH (js := [some 1, none]) (ok__law_next Z) (hr.mono (by omega)) passW0 (by decide) (by rfl) (jh_hole 1 (pv 1) (jh_val (j_int) (jh_nil)))) (ja_nil true))) (own := [("j", 10)]) (blkOk_by (by kernel_rfl)) (fun _ _ _ _ _ _ => jg_nm 10 sc.nd (by rfl) (by first | exact Or.inl rfl | exact Or.inr rfl)) (fun _ _ _ _ _ _ => jpt_nil) (fun _ _ _ _ _ _ => j_callH (js := [some 1, none]) (ok__law_next Z) (hr.mono (by omega)) passW0 (by decide) (by rfl) (jh_hole 1 (pv 1) (jh_val (j_rdS 4 (pv 4)) (jh_nil))))) (ja_nil false))) (ja_cons (j_callH (js := [some 1, none]) (ok__law_next Z) (hr.mono (by omega)) passW0 (by decide) (by rfl) (jh_hole 1 (pv 1) (jh_val (j_rdS 3 (pv 3)) (jh_nil)))) (ja_nil true))) (by rfl))  (jb_one (js_if (jt_not (jt_tru (j_call (n := 2) (ok__law_alike Z 40) (hr.mono (by omega)) passW0 (by rfl) (ja_cons (j_call (n := 3) (ok_run_table Z) (hr.mono (by omega)) passW0 (by rfl) (ja_cons (j_rdS 5 (pv 5)) (ja_cons (j_rdS 8 (pv 8)) (ja_cons (j_rdS 7 (pv 7)) (ja_nil true))))) (ja_cons (j_call (n := 3) (ok__law_outs Z) (hr.mono (by omega)) passW0 (by rfl) (ja_cons (j_rdS 5 (pv 5)) (ja_cons (j_rdS 8 (pv 8)) (ja_cons (j_rdS 7 (pv 7)) (ja_nil true))))) (ja_nil true))))))  (jb_one (js_ret (j_bl)))  (jb_nil)))))  (jb_cons (js_set 9 sc.nd (by rfl) (by first | exact Or.inl rfl | exact Or.inr rfl) (j_rdS 5 (pv 5)))  (jb_one (js_for PassesOwn.never (by rfl) (ji_range1 (by rfl) (Z.free 23 rfl) (ja_cons (j_int) (ja_nil true))) (jg_nm 6 sc.nd (by rfl) (by first | exact Or.inl rfl | exact Or.inr rfl))  (jb_cons (js_if (jt_not (jt_tru (j_call (n := 2) (ok__law_alike Z 40) (hr.mono (by omega)) passW0 (by rfl) (ja_cons (j_call (n := 1) (ok_is_table Z) (hr.mono (by omega)) passW0 (by rfl) (ja_cons (j_rdS 9 (pv 9)) (ja_nil true))) (ja_cons (j_call (n := 1) (ok__law_is_table Z) (hr.mono (by omega)) passW0 (by rfl) (ja_cons (j_rdS 9 (pv 9)) (ja_nil true))) (ja_nil true))))))  (jb_one (js_ret (j_bl)))  (jb_nil))  (jb_one (js_set 9 sc.nd (by rfl) (by first | exact Or.inl rfl | exact Or.inr rfl) (j_callH (js := [some 1, none, none]) (ok__law_bent Z 40) (hr.mono (by omega)) passW0 (by decide) (by rfl) (jh_hole 1 (pv 1) (jh_val (j_rdS 5 (pv 5)) (jh_val (j_int) (jh_nil)))))))))))))))  (jb_one (js_ret (j_bl))))
end
end L_rungward_k27_tables_of_states
namespace L_rungward_k27_tables_of_states
open PySem PySem.Spec PyProof.Rows PV
/-! is_table -/
def belowB (d : D) (n : Int) : Bool := match d with
  | .int i => decide (0 ≤ i) && decide (i < n)
  | _ => false
theorem below_ok (d : D) (n : Int) : f_is_below [d, .int n] = .ok (.bool (belowB d n)) [] := by
  have e1 : f_is_below [d, .int n] = outF false [] (d_is_below [.shr d, .shr (.int n)]) := rfl
  rw [e1]
  cases d with
  | int i =>
    have e2 : d_is_below [.shr (.int i), .shr (.int n)] = .rt (.bool (decide (0 ≤ i) && decide (i < n))) [.shr (.int i), .shr (.int n)] := by
      by_cases h : 0 ≤ i
      · have : chE leD ltD (ret (.int 0)) (rdS 0) (rdS 1) [.shr (.int i), .shr (.int n)] = .ok (.bool (decide (i < n))) [.shr (.int i), .shr (.int n)] := by
          unfold chE
          simp [bolD, h]
        refine rtn_ok (Eq.trans (andV_t (e1 := [.shr (.int i), .shr (.int n)]) rfl) ?_)
        rw [this, decide_eq_true h]; rfl
      · have : chE leD ltD (ret (.int 0)) (rdS 0) (rdS 1) [.shr (.int i), .shr (.int n)] = .ok (.bool false) [.shr (.int i), .shr (.int n)] := by
          unfold chE
          simp [bolD, h]
        refine rtn_ok (Eq.trans (andV_t (e1 := [.shr (.int i), .shr (.int n)]) rfl) ?_)
        rw [this, decide_eq_false h]; rfl
    rw [e2]; rfl
  | _ => rfl
theorem lbelow_ok (d : D) (n : Int) : f__law_is_below [d, .int n] = .ok (.bool (belowB d n)) [] := by
  have e1 : f__law_is_below [d, .int n] = outF false [] (d__law_is_below [.shr d, .shr (.int n)]) := rfl
  rw [e1]
  cases d with
  | int i =>
    have e2 : d__law_is_below [.shr (.int i), .shr (.int n)] = .rt (.bool (decide (0 ≤ i) && decide (i < n))) [.shr (.int i), .shr (.int n)] := by
      by_cases h : 0 ≤ i
      · have : chE leD ltD (ret (.int 0)) (rdS 0) (rdS 1) [.shr (.int i), .shr (.int n)] = .ok (.bool (decide (i < n))) [.shr (.int i), .shr (.int n)] := by
          unfold chE
          simp [bolD, h]
        refine rtn_ok (Eq.trans (andV_t (e1 := [.shr (.int i), .shr (.int n)]) rfl) (Eq.trans (andV_t (e1 := [.shr (.int i), .shr (.int n)]) rfl) ?_))
        rw [this, decide_eq_true h]; rfl
      · have : chE leD ltD (ret (.int 0)) (rdS 0) (rdS 1) [.shr (.int i), .shr (.int n)] = .ok (.bool false) [.shr (.int i), .shr (.int n)] := by
          unfold chE
          simp [bolD, h]
        refine rtn_ok (Eq.trans (andV_t (e1 := [.shr (.int i), .shr (.int n)]) rfl) (Eq.trans (andV_t (e1 := [.shr (.int i), .shr (.int n)]) rfl) ?_))
        rw [this, decide_eq_false h]; rfl
    rw [e2]; rfl
  | _ => rfl
def entryB (n : Int) (d : D) : Bool := match d with
  | .tuple [a, b] => (isNone a || belowB a n) && (isNone b || belowB b 2)
  | _ => false
theorem entry_ok (d : D) (n : Int) : f_is_entry [d, .int n] = .ok (.bool (entryB n d)) [] := by
  have e1 : f_is_entry [d, .int n] = outF false [] (d_is_entry [.shr d, .shr (.int n)]) := rfl
  rw [e1]
  have tup : ∀ d : D, f_is_tuple_of [d, .int 2] = .ok (.bool (match d with | .tuple ds => ((ds.length : Int) == 2) | _ => false)) [] := fun d => by
    cases d <;> rfl
  cases d with
  | tuple ds =>
    match ds with
    | [a, b] =>
      have e2 : d_is_entry [.shr (.tuple [a, b]), .shr (.int n)] = .rt (.bool ((isNone a || belowB a n) && (isNone b || belowB b 2))) [.shr (.tuple [a, b]), .shr (.int n)] := by
        unfold d_is_entry q_is_entry_1 q_is_entry_2 q_is_entry_3
        simp only [ev_sq, ev_ifS, ev_orT, ev_notT, ev_tru, ev_cal, ev_consA, ev_rdS, ev_ret, ev_nilA, List.getElem?_cons_zero, tup]
        cases ha : isNone a <;> cases hb : isNone b <;> cases ha2 : belowB a n <;> cases hb2 : belowB b 2 <;> simp [below_ok, ha, hb, ha2, hb2]
      rw [e2]; rfl
    | [] => rfl
    | [_] => rfl
    | a :: b :: c :: r =>
      have e2 : d_is_entry [.shr (.tuple (a :: b :: c :: r)), .shr (.int n)] = .rt (.bool false) [.shr (.tuple (a :: b :: c :: r)), .shr (.int n)] := by
        unfold d_is_entry q_is_entry_1 q_is_entry_2 q_is_entry_3
        have : (((a :: b :: c :: r).length : Int) == 2) = false := by
          rw [beq_eq_false_iff_ne]; simp only [List.length_cons]; omega
        have c : f_is_tuple_of [.tuple (a :: b :: c :: r), .int 2] = .ok (.bool false) [] := by rw [tup]; exact congrArg (fun b => FR.ok (PyData.bool b) []) this
        exact sq_rt (Eq.trans (ifS_t (orT_t (notT_ok (tru_ok (cal_ok (consA_ok (rdS_ok rfl) (consA_ok rfl nilA_ok)) c) rfl)))) rfl)
      rw [e2]; rfl
  | _ => rfl
def rowB (r0 : D) (n : Int) (r : D) : Bool := match r0, r with
  | .tuple a, .tuple b => !b.isEmpty && (((b.length : Int) == a.length) && b.all (entryB n))
  | _, _ => false
def tabB : D → Bool
  | .tuple (r0 :: rs) => (r0 :: rs).all (rowB r0 ((r0 :: rs).length))
  | _ => false
def isTup : D → Bool
  | .tuple _ => true
  | _ => false
theorem isT_tup (d : D) : isT "tuple" d = isTup d := by cases d <;> rfl
theorem table_ok (d : D) (h : noDict d = true) : f_is_table [d] = .ok (.bool (tabB d)) [] := by
  have e1 : f_is_table [d] = outF false [] (d_is_table [.shr d, .emp, .emp]) := rfl
  rw [e1]
  cases d with
  | tuple ds =>
    have nd : noDicts ds = true := h
    cases ds with
    | nil => rfl
    | cons r0 rs =>
      generalize hds : r0 :: rs = ds at nd ⊢
      have h0 : L2.atI ds 0 = some r0 := by rw [← hds]; exact ev_atI0 r0 rs
      have hne : ds.isEmpty = false := by rw [← hds]; rfl
      have nd0 : noDict r0 = true := noDicts_iff.mp nd r0 (by rw [← hds]; exact List.mem_cons_self)
      have tabE : tabB (.tuple ds) = ds.all (rowB r0 ds.length) := by rw [← hds]; rfl
      have a1 : callD allD (consA (lcE (.nm 1) [1] (yesT) (isiE "tuple" (rdS 1)) (seqI (rdS 0))) (nilA)) [.shr (.tuple ds), .emp, .emp] = .ok (.bool (ds.all isTup)) [.shr (.tuple ds), .emp, .emp] :=
        all1 isTup rfl rfl fun d _ => by simp [isT_tup]
      have e2 : d_is_table [.shr (.tuple ds), .emp, .emp] = .rt (.bool (tabB (.tuple ds))) [.shr (.tuple ds), .emp, .emp] := by
        unfold d_is_table q_is_table_1
        have c0 : tru (isiE "tuple" (rdS 0)) [.shr (.tuple ds), .emp, .emp] = .ok true [.shr (.tuple ds), .emp, .emp] := rfl
        have c1 : tcm (op2 eqD (rdS 0) (tupE nilA)) [.shr (.tuple ds), .emp, .emp] = .ok false [.shr (.tuple ds), .emp, .emp] := by
          refine tcm_ok (op2_ok (rdS_ok rfl) (tupE_ok nilA_ok (by decide)) ?_)
          rw [eqD_t0 nd, hne]
        cases ha : ds.all isTup with
        | false =>
          rw [ha] at a1
          refine sq_rt (Eq.trans (ifS_t (Eq.trans (orT_f (notT_ok c0)) (Eq.trans (orT_f c1) (notT_ok (tru_ok a1 rfl))))) ?_)
          rw [tabE]
          have : ds.all (rowB r0 ds.length) = false := by
            rw [List.all_eq_false] at ha ⊢
            obtain ⟨x, hx, hx2⟩ := ha
            refine ⟨x, hx, ?_⟩
            cases r0 <;> cases x <;> first | (simp [isTup] at hx2; done) | simp [rowB]
          rw [this]
          rfl
        | true =>
          rw [ha] at a1
          refine Eq.trans (sq_nx (e1 := [.shr (.tuple ds), .emp, .emp]) (Eq.trans (ifS_f (Eq.trans (orT_f (notT_ok c0)) (Eq.trans (orT_f c1) (notT_ok (tru_ok a1 rfl))))) rfl)) ?_
          have allT := List.all_eq_true.mp ha
          obtain ⟨es0, rfl⟩ : ∃ es0, r0 = .tuple es0 := by
            have := allT r0 (by rw [← hds]; exact List.mem_cons_self)
            cases r0 with
            | tuple es => exact ⟨es, rfl⟩
            | _ => cases this
          let lenP : D → Bool := fun r => match r with
            | .tuple b => ((b.length : Int) == es0.length)
            | _ => false
          have a2 : callD allD (consA (lcE (.nm 1) [1] (yesT) (op2 eqD (callD lenD (consA (rdS 1) (nilA))) (callD lenD (consA (op2 ixD (rdS 0) (ret (.int 0))) (nilA)))) (seqI (rdS 0))) (nilA)) [.shr (.tuple ds), .emp, .emp] = .ok (.bool (ds.all lenP)) [.shr (.tuple ds), .emp, .emp] :=
            all1 lenP rfl rfl fun d hd => by
              have := allT d hd
              cases d with
              | tuple b => simp [h0, lenP]
              | _ => cases this
          let rowE : D → Bool := fun r => match r with
            | .tuple b => b.all (entryB ds.length)
            | _ => false
          have a3 : callD allD (consA (lcE (.nm 1) [1] (yesT) (callD allD (consA (lcE (.nm 2) [2] (yesT) (cal (f_is_entry) (consA (rdS 2) (consA (callD lenD (consA (rdS 0) (nilA))) (nilA)))) (seqI (rdS 1))) (nilA))) (seqI (rdS 0))) (nilA)) [.shr (.tuple ds), .emp, .emp] = .ok (.bool (ds.all rowE)) [.shr (.tuple ds), .emp, .emp] :=
            all1 rowE rfl rfl fun d hd => by
              have := allT d hd
              cases d with
              | tuple b => exact all1 (entryB ds.length) rfl rfl fun x _ => by simp [entry_ok]
              | _ => cases this
          have c2 : tcm (op2 eqD (op2 ixD (rdS 0) (ret (.int 0))) (tupE (nilA))) [.shr (.tuple ds), .emp, .emp] = .ok es0.isEmpty [.shr (.tuple ds), .emp, .emp] :=
            tcm_ok (op2_ok (op2_ok (rdS_ok rfl) rfl h0) (tupE_ok nilA_ok (by decide)) (eqD_t0 nd0))
          unfold q_is_table_3
          have fin : ∀ b : Bool, b = (!es0.isEmpty && (ds.all lenP && ds.all rowE)) → b = tabB (.tuple ds) := by
            intro b hb
            rw [hb, tabE, Bool.eq_iff_iff]
            simp only [Bool.and_eq_true, List.all_eq_true]
            constructor
            · rintro ⟨x1, x2, x3⟩ r hr
              have y2 := x2 r hr
              have y3 := x3 r hr
              cases r with
              | tuple b =>
                show (!b.isEmpty && (((b.length : Int) == es0.length) && b.all (entryB ds.length))) = true
                have y2' : ((b.length : Int) == es0.length) = true := y2
                have y3' : b.all (entryB ds.length) = true := y3
                rw [y2', y3']
                cases b with
                | nil => cases es0 with
                  | nil => exact x1
                  | cons _ _ => have := eq_of_beq y2'; simp only [List.length_cons, List.length_nil] at this; omega
                | cons _ _ => rfl
              | _ => cases y2
            · intro x
              have x0 := x (.tuple es0) (by rw [← hds]; exact List.mem_cons_self)
              have x0' : (!es0.isEmpty && (((es0.length : Int) == es0.length) && es0.all (entryB ds.length))) = true := x0
              refine ⟨(Bool.and_eq_true_iff.mp x0').1, fun r hr => ?_, fun r hr => ?_⟩
              · have y := x r hr
                cases r with
                | tuple b => 
                  have y' : (!b.isEmpty && (((b.length : Int) == es0.length) && b.all (entryB ds.length))) = true := y
                  exact (Bool.and_eq_true_iff.mp (Bool.and_eq_true_iff.mp y').2).1
                | _ => cases y
              · have y := x r hr
                cases r with
                | tuple b => 
                  have y' : (!b.isEmpty && (((b.length : Int) == es0.length) && b.all (entryB ds.length))) = true := y
                  exact (Bool.and_eq_true_iff.mp (Bool.and_eq_true_iff.mp y').2).2
                | _ => cases y
          cases h1 : es0.isEmpty with
          | true =>
            rw [h1] at c2
            refine sq_rt (Eq.trans (ifS_t (orT_t c2)) ?_)
            rw [← fin false (by rw [h1]; rfl)]
            rfl
          | false =>
            rw [h1] at c2
            cases h2 : ds.all lenP with
            | false =>
              rw [h2] at a2
              refine sq_rt (Eq.trans (ifS_t (Eq.trans (orT_f c2) (notT_ok (tru_ok a2 rfl)))) ?_)
              rw [← fin false (by rw [h1, h2]; rfl)]
              rfl
            | true =>
              rw [h2] at a2
              refine Eq.trans (sq_nx (e1 := [.shr (.tuple ds), .emp, .emp]) (Eq.trans (ifS_f (Eq.trans (orT_f c2) (notT_ok (tru_ok a2 rfl)))) rfl)) ?_
              refine rtn_ok ?_
              rw [← fin (ds.all rowE) (by rw [h1, h2]; rfl)]
              exact a3
      rw [e2]; rfl
  | dict _ => cases h
  | _ => rfl
end L_rungward_k27_tables_of_states
namespace L_rungward_k27_tables_of_states
open PySem PySem.Spec PyProof.Rows PV
theorem q7_ok (ds : List D) (r x : D) : (entryB ds.length x = true → q__law_is_table_7 [.shr (.tuple ds), .shr r, .shr x] = .nx [.shr (.tuple ds), .shr r, .shr x]) ∧ (entryB ds.length x = false → q__law_is_table_7 [.shr (.tuple ds), .shr r, .shr x] = .rt (.bool false) [.shr (.tuple ds), .shr r, .shr x]) := by
  cases x with
  | tuple es =>
    match es with
    | [a, b] =>
      unfold q__law_is_table_7 q__law_is_table_8
      cases ha : isNone a <;> cases hb : isNone b <;> cases ha2 : belowB a ds.length <;> cases hb2 : belowB b 2 <;> simp [lbelow_ok, ha, hb, ha2, hb2, isT_tup, isTup, entryB]
    | [] => exact ⟨nofun, fun _ => rfl⟩
    | [_] => exact ⟨nofun, fun _ => rfl⟩
    | a :: b :: c :: es =>
      refine ⟨nofun, fun _ => ?_⟩
      have : (!(((a :: b :: c :: es).length : Int) == 2)) = true := by
        rw [Bool.not_eq_true', beq_eq_false_iff_ne]; simp only [List.length_cons]; omega
      refine Eq.trans (ifS_t (Eq.trans (orT_f (e1 := [.shr (.tuple ds), .shr r, .shr (.tuple (a :: b :: c :: es))]) rfl) (orT_t (tcm_ok (op2_ok (callD_ok (consA_ok (rdS_ok rfl) nilA_ok) rfl) rfl ?_))))) rfl
      exact congrArg (fun b => some (PyData.bool b)) this
  | _ => exact ⟨nofun, fun _ => rfl⟩
theorem rowB_nt {r0 r : D} {n : Int} (h : isTup r = false) : rowB r0 n r = false := by cases r <;> first | (cases r0 <;> rfl) | cases h
theorem ltable_ok (d : D) (h : noDict d = true) : f__law_is_table [d] = .ok (.bool (tabB d)) [] := by
  have e1 : f__law_is_table [d] = outF false [] (d__law_is_table [.shr d, .emp, .emp]) := rfl
  rw [e1]
  cases d with
  | tuple ds =>
    have nd : noDicts ds = true := h
    cases ds with
    | nil => rfl
    | cons r0 rs =>
      generalize hds : r0 :: rs = ds at nd ⊢
      have h0 : L2.atI ds 0 = some r0 := by rw [← hds]; exact ev_atI0 r0 rs
      have hne : ds.isEmpty = false := by rw [← hds]; rfl
      have tabE : tabB (.tuple ds) = ds.all (rowB r0 ds.length) := by rw [← hds]; rfl
      have s1 : q__law_is_table_1 [.shr (.tuple ds), .emp, .emp] = .nx [.shr (.tuple ds), .emp, .emp] := by
        refine Eq.trans (ifS_f (Eq.trans (orT_f (e1 := [.shr (.tuple ds), .emp, .emp]) rfl) (tcm_ok (op2_ok (rdS_ok rfl) (tupE_ok nilA_ok (by decide)) ?_)))) rfl
        rw [eqD_t0 nd, hne]
      have s3 := frS_all (i := 1) (dead := [1, 2]) (m := seqI (rdS 0)) (body := sq q__law_is_table_4 q__law_is_table_6) (e0 := [.shr (.tuple ds), .emp, .emp]) (e1 := [.shr (.tuple ds), .emp, .emp]) (ds := ds) (rowB r0 ds.length) (.bool false) rfl rfl (by decide) (fun r hr => by
        have ndr : noDict r = true := noDicts_iff.mp nd r hr
        show (_ → ∃ e2, sq q__law_is_table_4 q__law_is_table_6 [.shr (.tuple ds), .shr r, .emp] = .nx e2 ∧ wip [1, 2] e2 = [.shr (.tuple ds), .emp, .emp]) ∧ (_ → ∃ e2, sq q__law_is_table_4 q__law_is_table_6 [.shr (.tuple ds), .shr r, .emp] = .rt (.bool false) e2)
        cases r with
        | tuple b =>
          cases r0 with
          | tuple a =>
            have c2 : tcm (op2 eqD (rdS 1) (tupE (nilA))) [.shr (.tuple ds), .shr (.tuple b), .emp] = .ok b.isEmpty [.shr (.tuple ds), .shr (.tuple b), .emp] := tcm_ok (op2_ok (rdS_ok rfl) (tupE_ok nilA_ok (by decide)) (eqD_t0 ndr))
            have g0 : op2 ixD (rdS 0) (ret (.int 0)) [.shr (.tuple ds), .shr (.tuple b), .emp] = .ok (.tuple a) [.shr (.tuple ds), .shr (.tuple b), .emp] := op2_ok (rdS_ok rfl) rfl h0
            have c3 : notT (tru (isiE "tuple" (op2 ixD (rdS 0) (ret (.int 0))))) [.shr (.tuple ds), .shr (.tuple b), .emp] = .ok false [.shr (.tuple ds), .shr (.tuple b), .emp] := by
              refine notT_ok (kb := true) (tru_ok (d := .bool true) ?_ rfl)
              unfold isiE
              rw [bnd_ok g0]; rfl
            have c4 : tcm (op2 neD (callD lenD (consA (rdS 1) (nilA))) (callD lenD (consA (op2 ixD (rdS 0) (ret (.int 0))) (nilA)))) [.shr (.tuple ds), .shr (.tuple b), .emp] = .ok (!((b.length : Int) == a.length)) [.shr (.tuple ds), .shr (.tuple b), .emp] :=
              tcm_ok (op2_ok (callD_ok (consA_ok (rdS_ok rfl) nilA_ok) rfl) (callD_ok (consA_ok g0 nilA_ok) rfl) rfl)
            have c1 : notT (tru (isiE "tuple" (rdS 1))) [.shr (.tuple ds), .shr (.tuple b), .emp] = .ok false [.shr (.tuple ds), .shr (.tuple b), .emp] := rfl
            have s6 := frS_all (i := 2) (dead := [2]) (m := seqI (rdS 1)) (body := q__law_is_table_7) (e0 := [.shr (.tuple ds), .shr (.tuple b), .emp]) (e1 := [.shr (.tuple ds), .shr (.tuple b), .emp]) (ds := b) (entryB ds.length) (.bool false) rfl rfl (by decide) (fun x hx => ⟨fun q => ⟨_, (q7_ok ds (.tuple b) x).1 q, rfl⟩, fun q => ⟨_, (q7_ok ds (.tuple b) x).2 q⟩⟩)
            show ((!b.isEmpty && (((b.length : Int) == a.length) && b.all (entryB ds.length))) = true → _) ∧ ((!b.isEmpty && (((b.length : Int) == a.length) && b.all (entryB ds.length))) = false → _)
            unfold q__law_is_table_4
            cases x1 : b.isEmpty with
            | true =>
              rw [x1] at c2
              exact ⟨nofun, fun _ => ⟨_, sq_rt (Eq.trans (ifS_t (Eq.trans (orT_f c1) (orT_t c2))) rfl)⟩⟩
            | false =>
              rw [x1] at c2
              cases x2 : ((b.length : Int) == a.length) with
              | false =>
                rw [x2] at c4
                exact ⟨nofun, fun _ => ⟨_, sq_rt (Eq.trans (ifS_t (Eq.trans (orT_f c1) (Eq.trans (orT_f c2) (Eq.trans (orT_f c3) c4)))) rfl)⟩⟩
              | true =>
                rw [x2] at c4
                have g := sq_nx (g := q__law_is_table_6) (e1 := [.shr (.tuple ds), .shr (.tuple b), .emp]) (Eq.trans (ifS_f (f := q__law_is_table_5) (g := nxt) (Eq.trans (orT_f c1) (Eq.trans (orT_f c2) (Eq.trans (orT_f c3) c4)))) rfl)
                refine ⟨fun q => ⟨_, Eq.trans g (s6.1 q), rfl⟩, fun q => ?_⟩
                obtain ⟨e2, q2⟩ := s6.2 q
                exact ⟨e2, Eq.trans g q2⟩
          | _ =>
            refine ⟨nofun, fun _ => ⟨[.shr (.tuple ds), .shr (.tuple b), .emp], ?_⟩⟩
            refine sq_rt (Eq.trans (ifS_t (Eq.trans (orT_f (e1 := [.shr (.tuple ds), .shr (.tuple b), .emp]) rfl) ?_)) rfl)
            have c2 : tcm (op2 eqD (rdS 1) (tupE (nilA))) [.shr (.tuple ds), .shr (.tuple b), .emp] = .ok b.isEmpty [.shr (.tuple ds), .shr (.tuple b), .emp] := tcm_ok (op2_ok (rdS_ok rfl) (tupE_ok nilA_ok (by decide)) (eqD_t0 ndr))
            cases x1 : b.isEmpty with
            | true => rw [x1] at c2; exact orT_t c2
            | false =>
              rw [x1] at c2
              refine Eq.trans (orT_f c2) (orT_t (notT_ok (kb := false) (tru_ok (d := .bool false) ?_ rfl)))
              unfold isiE
              refine Eq.trans (bnd_ok (op2_ok (rdS_ok rfl) rfl h0)) rfl
        | _ =>
          exact ⟨fun q => (by rw [rowB_nt rfl] at q; cases q), fun _ => ⟨_, sq_rt (Eq.trans (ifS_t (orT_t rfl)) rfl)⟩⟩)
      rw [tabE]
      unfold d__law_is_table
      rw [sq_nx s1]
      cases hb : ds.all (rowB r0 ds.length) with
      | true =>
        rw [sq_nx (f := q__law_is_table_3) (s3.1 hb)]
        rfl
      | false =>
        obtain ⟨e2, q⟩ := s3.2 hb
        rw [sq_rt (f := q__law_is_table_3) q]
        rfl
  | dict _ => cases h
  | _ => rfl
end L_rungward_k27_tables_of_states
namespace L_rungward_k27_tables_of_states
open PySem PySem.Spec PyProof.Rows PV
theorem seqI_ok {m : M D} {e e1 : EnvD} {d : D} {ds : List D} (h : m e = .ok d e1) (hd : seqD d = some ds) : seqI m e = .ok ds e1 := by unfold seqI; rw [bnd_ok h, hd]; rfl
/-! tables of one's own -/
abbrev Ent := Option Int × Option Int
def encO : Option Int → D
  | none => .none
  | some i => .int i
def encE (e : Ent) : D := .tuple [encO e.1, encO e.2]
def encR (r : List Ent) : D := .tuple (r.map encE)
def encT (t : List (List Ent)) : D := .tuple (t.map encR)
def EntOk (many : Int) (e : Ent) : Prop := ∀ s, e.1 = some s → 0 ≤ s ∧ s < many
structure TabOk (many inputs : Nat) (t : List (List Ent)) : Prop where
  len : t.length = many
  row : ∀ r ∈ t, r.length = inputs ∧ ∀ e ∈ r, EntOk many e
/-! running -/
def outs (t : List (List Ent)) : Option Int → List Int → List (Option Int)
  | _, [] => []
  | none, _ :: r => none :: outs t none r
  | some s, k :: r => let e := ((t[s.toNat]?).bind (·[k.toNat]?)).getD (none, none); e.2 :: outs t e.1 r
def stepO (t : List (List Ent)) (s : Option Int) (k : Int) : Ent := match s with
  | none => (none, none)
  | some s => ((t[s.toNat]?).bind (·[k.toNat]?)).getD (none, none)
theorem outs_cons (t : List (List Ent)) (s : Option Int) (k : Int) (r : List Int) : outs t s (k :: r) = (stepO t s k).2 :: outs t (stepO t s k).1 r := by
  cases s <;> rfl
def StOk (many : Nat) (s : Option Int) : Prop := ∀ i, s = some i → 0 ≤ i ∧ i < many
theorem step_ok {many inputs : Nat} {t : List (List Ent)} (h : TabOk many inputs t) {s k : Int} (hs : 0 ≤ s ∧ s < many) (hk : 0 ≤ k ∧ k < inputs) : ∃ r, L2.atI (t.map encR) s = some (encR r) ∧ L2.atI (r.map encE) k = some (encE (stepO t (some s) k)) ∧ StOk many (stepO t (some s) k).1 := by
  have h1 : s.toNat < t.length := by rw [h.len]; omega
  have hr := h.row t[s.toNat] (List.getElem_mem h1)
  have h2 : k.toNat < t[s.toNat].length := by rw [hr.1]; omega
  have es : stepO t (some s) k = t[s.toNat][k.toNat] := by
    show ((t[s.toNat]?).bind (·[k.toNat]?)).getD (none, none) = _
    rw [List.getElem?_eq_getElem h1]
    show (t[s.toNat][k.toNat]?).getD _ = _
    rw [List.getElem?_eq_getElem h2]; rfl
  refine ⟨t[s.toNat], ?_, ?_, ?_⟩
  · rw [atI_map]
    have := L2.atI_nat (List.getElem?_eq_getElem h1)
    rw [Int.toNat_of_nonneg hs.1] at this
    rw [this]; rfl
  · rw [atI_map]
    have := L2.atI_nat (List.getElem?_eq_getElem h2)
    rw [Int.toNat_of_nonneg hk.1] at this
    rw [this, es]; rfl
  · rw [es]
    exact hr.2 _ (List.getElem_mem h2)
theorem run_ok {many inputs : Nat} {t : List (List Ent)} (h : TabOk many inputs t) (s : Option Int) (hs : StOk many s) (ks : List Int) (hk : ∀ k ∈ ks, 0 ≤ k ∧ k < inputs) (hl : ks.length ≤ 1000) :
    f_run_table [encT t, encO s, .tuple (ks.map .int)] = .ok (.tuple ((outs t s ks).map encO)) [] := by
  have e1 : f_run_table [encT t, encO s, .tuple (ks.map .int)] = outF false [] (d_run_table [.shr (encT t), .shr (encO s), .shr (.tuple (ks.map .int)), .emp, .emp, .emp]) := rfl
  rw [e1]
  unfold d_run_table
  generalize hI : PyData.tuple (ks.map PyData.int) = I
  rw [sq_nx (show q_run_table_1 [.shr (encT t), .shr (encO s), .shr I, .emp, .emp, .emp] = .nx [.shr (encT t), .shr (encO s), .shr I, .own (.list []), .emp, .emp] from rfl)]
  have loop : ∃ e2, q_run_table_2 [.shr (encT t), .shr (encO s), .shr I, .own (.list []), .emp, .emp] = .nx (wip [4, 5] e2) ∧ ∃ (s' : Option Int) (pre : List (Option Int)) (c4 c5 : PV.Cell), e2 = [.shr (encT t), .shr (encO s'), .shr I, .own (.list (pre.map encO)), c4, c5] ∧ StOk many s' ∧ pre.length = (ks.map PyData.int).length ∧ outs t s ks = pre ++ outs t s' (ks.drop (ks.map PyData.int).length) := by
    refine frS_nx (t := .nm 4) (dead := [4, 5]) (fun i e2 => ∃ (s' : Option Int) (pre : List (Option Int)) (c4 c5 : PV.Cell), e2 = [.shr (encT t), .shr (encO s'), .shr I, .own (.list (pre.map encO)), c4, c5] ∧ StOk many s' ∧ pre.length = i ∧ outs t s ks = pre ++ outs t s' (ks.drop i)) (ds := ks.map .int) (seqI_ok (rdS_ok rfl) (by rw [← hI]; rfl)) ⟨s, [], _, _, rfl, hs, rfl, rfl⟩ fun i d e hd hI => ?_
    obtain ⟨s', pre, c4, c5, rfl, a1, a2, a3⟩ := hI
    rw [List.getElem?_map] at hd
    have hi : i < ks.length := by
      rcases Nat.lt_or_ge i ks.length with z | z
      · exact z
      · rw [List.getElem?_eq_none z] at hd; cases hd
    rw [List.getElem?_eq_getElem hi] at hd
    cases hd
    have hlen : (pre.map encO).length < sizeLine := by rw [List.length_map, a2]; unfold sizeLine; omega
    have o1 : outs t s' (ks.drop i) = (stepO t s' ks[i]).2 :: outs t (stepO t s' ks[i]).1 (ks.drop (i + 1)) := by rw [List.drop_eq_getElem_cons hi, outs_cons]
    have app : pre.map encO ++ [encO (stepO t s' ks[i]).2] = (pre ++ [(stepO t s' ks[i]).2]).map encO := by rw [List.map_append]; rfl
    have fin : outs t s ks = (pre ++ [(stepO t s' ks[i]).2]) ++ outs t (stepO t s' ks[i]).1 (ks.drop (i + 1)) := by rw [a3, o1, List.append_assoc]; rfl
    cases s' with
    | none =>
      refine ⟨[.shr (encT t), .shr .none, .shr I, .own (.list (pre.map encO)), .shr (.int ks[i]), .emp], [.shr (encT t), .shr .none, .shr I, .own (.list ((pre ++ [(stepO t none ks[i]).2]).map encO)), .shr (.int ks[i]), .emp], rfl, ?_, none, pre ++ [(stepO t none ks[i]).2], _, _, rfl, a1, by rw [List.length_append, a2]; rfl, fin⟩
      rw [← app]
      exact Eq.trans (ifS_t rfl) (appS_ok rfl rfl hlen)
    | some s1 =>
      obtain ⟨r, g1, g2, g3⟩ := step_ok h (a1 s1 rfl) (hk _ (List.getElem_mem hi))
      refine ⟨[.shr (encT t), .shr (.int s1), .shr I, .own (.list (pre.map encO)), .shr (.int ks[i]), .emp], [.shr (encT t), .shr (encO (stepO t (some s1) ks[i]).1), .shr I, .own (.list ((pre ++ [(stepO t (some s1) ks[i]).2]).map encO)), .shr (.int ks[i]), .shr (encO (stepO t (some s1) ks[i]).2)], rfl, ?_, _, pre ++ [(stepO t (some s1) ks[i]).2], _, _, rfl, g3, by rw [List.length_append, a2]; rfl, fin⟩
      rw [← app]
      refine Eq.trans (ifS_f rfl) (Eq.trans (sq_nx (e1 := [.shr (encT t), .shr (encO (stepO t (some s1) ks[i]).1), .shr I, .own (.list (pre.map encO)), .shr (.int ks[i]), .shr (encO (stepO t (some s1) ks[i]).2)]) ?_) (appS_ok rfl rfl hlen))
      exact asgS_ok (op2_ok (op2_ok (rdS_ok rfl) (rdS_ok rfl) g1) (rdS_ok rfl) g2) rfl
  obtain ⟨e2, l1, s', pre, c4, c5, rfl, b1, b2, b3⟩ := loop
  rw [sq_nx l1]
  rw [List.length_map, List.drop_length] at b3
  have : outs t s ks = pre := by rw [b3]; cases s' <;> simp [outs]
  rw [this]
  rfl
theorem outs_ok {many inputs : Nat} {t : List (List Ent)} (h : TabOk many inputs t) (s : Option Int) (hs : StOk many s) (ks : List Int) (hk : ∀ k ∈ ks, 0 ≤ k ∧ k < inputs) (hl : ks.length ≤ 1000) :
    f__law_outs [encT t, encO s, .tuple (ks.map .int)] = .ok (.tuple ((outs t s ks).map encO)) [] := by
  have e1 : f__law_outs [encT t, encO s, .tuple (ks.map .int)] = outF false [] (d__law_outs [.shr (encT t), .shr (encO s), .shr (.tuple (ks.map .int)), .emp, .emp]) := rfl
  rw [e1]
  unfold d__law_outs
  generalize hI : PyData.tuple (ks.map PyData.int) = I
  rw [sq_nx (show q__law_outs_1 [.shr (encT t), .shr (encO s), .shr I, .emp, .emp] = .nx [.shr (encT t), .shr (encO s), .shr I, .shr (.tuple []), .emp] from rfl)]
  have loop : ∃ e2, q__law_outs_2 [.shr (encT t), .shr (encO s), .shr I, .shr (.tuple []), .emp] = .nx (wip [4] e2) ∧ ∃ (s' : Option Int) (pre : List (Option Int)) (c4 : PV.Cell), e2 = [.shr (encT t), .shr (encO s'), .shr I, .shr (.tuple (pre.map encO)), c4] ∧ StOk many s' ∧ pre.length = (ks.map PyData.int).length ∧ outs t s ks = pre ++ outs t s' (ks.drop (ks.map PyData.int).length) := by
    refine frS_nx (t := .nm 4) (dead := [4]) (fun i e2 => ∃ (s' : Option Int) (pre : List (Option Int)) (c4 : PV.Cell), e2 = [.shr (encT t), .shr (encO s'), .shr I, .shr (.tuple (pre.map encO)), c4] ∧ StOk many s' ∧ pre.length = i ∧ outs t s ks = pre ++ outs t s' (ks.drop i)) (ds := ks.map .int) (seqI_ok (rdS_ok rfl) (by rw [← hI]; rfl)) ⟨s, [], _, rfl, hs, rfl, rfl⟩ fun i d e hd hI => ?_
    obtain ⟨s', pre, c4, rfl, a1, a2, a3⟩ := hI
    rw [List.getElem?_map] at hd
    have hi : i < ks.length := by
      rcases Nat.lt_or_ge i ks.length with z | z
      · exact z
      · rw [List.getElem?_eq_none z] at hd; cases hd
    rw [List.getElem?_eq_getElem hi] at hd
    cases hd
    have hlen : (pre.map encO).length + 1 ≤ sizeLine := by rw [List.length_map, a2]; unfold sizeLine; omega
    have o1 : outs t s' (ks.drop i) = (stepO t s' ks[i]).2 :: outs t (stepO t s' ks[i]).1 (ks.drop (i + 1)) := by rw [List.drop_eq_getElem_cons hi, outs_cons]
    have app : pre.map encO ++ [encO (stepO t s' ks[i]).2] = (pre ++ [(stepO t s' ks[i]).2]).map encO := by rw [List.map_append]; rfl
    have fin : outs t s ks = (pre ++ [(stepO t s' ks[i]).2]) ++ outs t (stepO t s' ks[i]).1 (ks.drop (i + 1)) := by rw [a3, o1, List.append_assoc]; rfl
    have addT : ∀ x : D, addD (.tuple (pre.map encO)) (.tuple [x]) = some (.tuple (pre.map encO ++ [x])) := fun x => by
      show (if (pre.map encO).length + 1 ≤ sizeLine then some (PyData.tuple (pre.map encO ++ [x])) else none) = _
      rw [if_pos hlen]
    have s3 : ∀ (x : D) (m : M D), m [.shr (encT t), .shr (encO s'), .shr I, .shr (.tuple (pre.map encO)), .shr (.int ks[i])] = .ok x [.shr (encT t), .shr (encO s'), .shr I, .shr (.tuple (pre.map encO)), .shr (.int ks[i])] →
        setS 3 (op2 addD (rdS 3) (tupE (consA m nilA))) [.shr (encT t), .shr (encO s'), .shr I, .shr (.tuple (pre.map encO)), .shr (.int ks[i])] = .nx [.shr (encT t), .shr (encO s'), .shr I, .shr (.tuple (pre.map encO ++ [x])), .shr (.int ks[i])] := fun x m hm =>
      setS_ok (op2_ok (rdS_ok rfl) (tupE_ok (consA_ok hm nilA_ok) (by show 1 ≤ sizeLine; decide)) (addT x))
    refine ⟨[.shr (encT t), .shr (encO s'), .shr I, .shr (.tuple (pre.map encO)), .shr (.int ks[i])], [.shr (encT t), .shr (encO (stepO t s' ks[i]).1), .shr I, .shr (.tuple ((pre ++ [(stepO t s' ks[i]).2]).map encO)), .shr (.int ks[i])], rfl, ?_, _, pre ++ [(stepO t s' ks[i]).2], _, rfl, ?_, by rw [List.length_append, a2]; rfl, fin⟩
    · rw [← app]
      cases s' with
      | none => exact Eq.trans (sq_nx (f := q__law_outs_3) (s3 .none (ifE (tcm (op2 isD (rdS 1) (ret .none))) (ret .none) (op2 ixD (op2 ixD (op2 ixD (rdS 0) (rdS 1)) (rdS 4)) (ret (.int 1)))) rfl)) rfl
      | some s1 =>
        obtain ⟨r, g1, g2, g3⟩ := step_ok h (a1 s1 rfl) (hk _ (List.getElem_mem hi))
        exact Eq.trans (sq_nx (s3 _ _ (Eq.trans (ifE_f rfl) (op2_ok (op2_ok (op2_ok (rdS_ok rfl) (rdS_ok rfl) g1) (rdS_ok rfl) g2) rfl (ev_atI1 _ _ _))))) (setS_ok (Eq.trans (ifE_f rfl) (op2_ok (op2_ok (op2_ok (rdS_ok rfl) (rdS_ok rfl) g1) (rdS_ok rfl) g2) rfl (ev_atI0 _ _))))
    · cases s' with
      | none => exact nofun
      | some s1 => exact (step_ok h (a1 s1 rfl) (hk _ (List.getElem_mem hi))).choose_spec.2.2
  obtain ⟨e2, l1, s', pre, c4, rfl, b1, b2, b3⟩ := loop
  rw [sq_nx l1]
  rw [List.length_map, List.drop_length] at b3
  have : outs t s ks = pre := by rw [b3]; cases s' <;> simp [outs]
  rw [this]
  rfl
end L_rungward_k27_tables_of_states
namespace L_rungward_k27_tables_of_states
open PySem PySem.Spec PV
/-! drawing a table -/
theorem half_ok {W : D} (hW : WD W) (c1 c2 : PV.Cell) (free m : Int) (c4 c5 : PV.Cell) (mm : M D) (hm : 0 < m) (hmm : ∀ W, mm [.own W, c1, c2, .shr (.int free), c4, c5] = .ok (.int m) [.own W, c1, c2, .shr (.int free), c4, c5]) :
    ∃ (o : Option Int) (W' : D), ifE (tcm (op2 geD (calH (f__law_next) [some 0, none] (holeA 0 (consA (ret (.int 5)) (nilA)))) (rdS 3))) (calH (f__law_next) [some 0, none] (holeA 0 (consA mm (nilA)))) (ret .none) [.own W, c1, c2, .shr (.int free), c4, c5] = .ok (encO o) [.own W', c1, c2, .shr (.int free), c4, c5] ∧ WD W' ∧ ∀ s, o = some s → 0 ≤ s ∧ s < m := by
  obtain ⟨r, W1, a1, a2, a3, a4⟩ := next_ok hW (m := 5) (by omega)
  have t : ∀ b, decide (free ≤ r) = b → tcm (op2 geD (calH (f__law_next) [some 0, none] (holeA 0 (consA (ret (.int 5)) (nilA)))) (rdS 3)) [.own W, c1, c2, .shr (.int free), c4, c5] = .ok b [.own W1, c1, c2, .shr (.int free), c4, c5] := fun b hb =>
    tcm_ok (op2_ok (calH2 rfl rfl rfl a1) (rdS_ok rfl) (by show some (PyData.bool (decide (free ≤ r))) = _; rw [hb]))
  by_cases h : free ≤ r
  · obtain ⟨r2, W2, b1, b2, b3, b4⟩ := next_ok a2 hm
    refine ⟨some r2, W2, Eq.trans (ifE_t (t true (decide_eq_true h))) (calH2 rfl (hmm W1) rfl b1), b2, fun s e => ?_⟩
    cases e; exact ⟨b3, b4⟩
  · exact ⟨none, W1, ifE_f (t false (decide_eq_false h)), a2, nofun⟩
theorem draw_ok {W : D} (hW : WD W) (many inputs : Nat) (free : Int) (h1 : 0 < many) (h2 : many ≤ 100) (h3 : inputs ≤ 100) :
    ∃ (t : List (List Ent)) (W' : D), f__law_table [W, .int many, .int inputs, .int free] = .ok (encT t) [W'] ∧ WD W' ∧ TabOk many inputs t := by
  have e1 : f__law_table [W, .int many, .int inputs, .int free] = outF false [0] (d__law_table [.own W, .shr (.int many), .shr (.int inputs), .shr (.int free), .emp, .emp]) := by
    unfold f__law_table; rw [fnD_ok (by rfl)]; rfl
  rw [e1]
  obtain ⟨out, e', g1, ⟨W1, rfl, g2⟩, g3, g4⟩ := lcE_inv (t := .nm 4) (vs := [4]) (te := callD tupD (consA (lcE (.nm 5) [5] (yesT) (tupE (consA (ifE (tcm (op2 geD (calH (f__law_next) [some 0, none] (holeA 0 (consA (ret (.int 5)) (nilA)))) (rdS 3))) (calH (f__law_next) [some 0, none] (holeA 0 (consA (rdS 1) (nilA)))) (ret .none)) (consA (ifE (tcm (op2 geD (calH (f__law_next) [some 0, none] (holeA 0 (consA (ret (.int 5)) (nilA)))) (rdS 3))) (calH (f__law_next) [some 0, none] (holeA 0 (consA (ret (.int 2)) (nilA)))) (ret .none)) (nilA)))) (rngI1 (consA (rdS 2) (nilA)))) (nilA)))
    (m := rngI1 (consA (rdS 1) (nilA))) (e := [.own W, .shr (.int many), .shr (.int inputs), .shr (.int free), .emp, .emp]) (e1 := [.own W, .shr (.int many), .shr (.int inputs), .shr (.int free), .emp, .emp]) (ds := rngD 0 many)
    (fun e => ∃ W', e = [.own W', .shr (.int many), .shr (.int inputs), .shr (.int free), .emp, .emp] ∧ WD W') (fun d => ∃ r : List Ent, d = encR r ∧ (r.length = inputs ∧ ∀ e ∈ r, EntOk many e))
    (rngI1_ok (consA_ok (rdS_ok rfl) nilA_ok) (by omega) (by omega)) rfl ⟨W, rfl, hW⟩ (fun d4 hd e hI => by
      obtain ⟨W', rfl, hW'⟩ := hI
      obtain ⟨out, e', g1, ⟨W1, rfl, g2⟩, g3, g4⟩ := lcE_inv (t := .nm 5) (vs := [5]) (te := (tupE (consA (ifE (tcm (op2 geD (calH (f__law_next) [some 0, none] (holeA 0 (consA (ret (.int 5)) (nilA)))) (rdS 3))) (calH (f__law_next) [some 0, none] (holeA 0 (consA (rdS 1) (nilA)))) (ret .none)) (consA (ifE (tcm (op2 geD (calH (f__law_next) [some 0, none] (holeA 0 (consA (ret (.int 5)) (nilA)))) (rdS 3))) (calH (f__law_next) [some 0, none] (holeA 0 (consA (ret (.int 2)) (nilA)))) (ret .none)) (nilA)))))
        (m := rngI1 (consA (rdS 2) (nilA))) (e := [.own W', .shr (.int many), .shr (.int inputs), .shr (.int free), .shr d4, .emp]) (e1 := [.own W', .shr (.int many), .shr (.int inputs), .shr (.int free), .shr d4, .emp]) (ds := rngD 0 inputs)
        (fun e => ∃ W', e = [.own W', .shr (.int many), .shr (.int inputs), .shr (.int free), .shr d4, .emp] ∧ WD W') (fun d => ∃ x : Ent, d = encE x ∧ EntOk many x)
        (rngI1_ok (consA_ok (rdS_ok rfl) nilA_ok) (by omega) (by omega)) rfl ⟨W', rfl, hW'⟩ (fun d5 hd e hI => by
          obtain ⟨W2, rfl, hW2⟩ := hI
          obtain ⟨o1, W3, a1, a2, a3⟩ := half_ok hW2 (.shr (.int many)) (.shr (.int inputs)) free many (.shr d4) (.shr d5) (rdS 1) (by omega) (fun _ => rdS_ok rfl)
          obtain ⟨o2, W4, b1, b2, b3⟩ := half_ok a2 (.shr (.int many)) (.shr (.int inputs)) free 2 (.shr d4) (.shr d5) (ret (.int 2)) (by omega) (fun _ => rfl)
          exact ⟨_, _, _, rfl, tupE_ok (consA_ok a1 (consA_ok b1 nilA_ok)) (by show 2 ≤ sizeLine; decide), ⟨(o1, o2), rfl, a3⟩, W4, rfl, b2⟩)
      obtain ⟨l, rfl, l2, l3⟩ := lift_list (enc := encE) (Q := EntOk many) g3
      refine ⟨_, _, _, rfl, callD_ok (consA_ok g1 nilA_ok) rfl, ⟨l, rfl, ?_, l3⟩, W1, rfl, g2⟩
      rw [l2, g4, rngD_len]; omega)
  obtain ⟨t, rfl, l2, l3⟩ := lift_list (enc := encR) (Q := fun r => r.length = inputs ∧ ∀ e ∈ r, EntOk many e) g3
  refine ⟨t, W1, ?_, g2, ⟨by rw [l2, g4, rngD_len]; omega, l3⟩⟩
  have : d__law_table [.own W, .shr (.int many), .shr (.int inputs), .shr (.int free), .emp, .emp] = .rt (encT t) [.own W1, .shr (.int many), .shr (.int inputs), .shr (.int free), .emp, .emp] := by
    unfold d__law_table q__law_table_1
    refine rtn_ok (callD_ok (ds := [.list (t.map encR)]) ?_ rfl)
    exact consA_ok g1 nilA_ok
  rw [this]; rfl
/-! bending -/
def gdf : Nat → D → Bool
  | 0, d => scaD d
  | k + 1, d => scaD d || (match d with
    | .tuple ds => decide (ds.length ≤ 100) && ds.all (gdf k)
    | _ => false)
theorem sca_nd {d : D} (h : scaD d = true) : noDict d = true := by cases d <;> first | rfl | cases h
theorem gdf_nd : ∀ (k : Nat) (d : D), gdf k d = true → noDict d = true
  | 0, d, h => sca_nd h
  | k + 1, d, h => by
    rcases Bool.or_eq_true_iff.mp (show (scaD d || _) = true from h) with q | q
    · exact sca_nd q
    · cases d with
      | tuple ds =>
        have q' := Bool.and_eq_true_iff.mp (show (decide (ds.length ≤ 100) && ds.all (gdf k)) = true from q)
        exact noDicts_iff.mpr fun d hd => gdf_nd k d (List.all_eq_true.mp q'.2 d hd)
      | _ => cases q
theorem nd_app {a b : List D} (ha : noDicts a = true) (hb : noDicts b = true) : noDicts (a ++ b) = true := noDicts_iff.mpr fun d hd => by
  rcases List.mem_append.mp hd with q | q
  · exact noDicts_iff.mp ha d q
  · exact noDicts_iff.mp hb d q
theorem nd_cut {a : List D} (ha : noDicts a = true) (lo hi : Option Int) : noDicts (cutD a lo hi) = true ∧ (cutD a lo hi).length ≤ a.length := by
  refine ⟨noDicts_iff.mpr fun d hd => noDicts_iff.mp ha d (List.mem_of_mem_drop (List.mem_of_mem_take hd)), ?_⟩
  unfold cutD
  rw [List.length_take, List.length_drop]; omega
theorem add_t {a b : List D} (h : a.length + b.length ≤ sizeLine) : addD (.tuple a) (.tuple b) = some (.tuple (a ++ b)) := by
  show (if a.length + b.length ≤ sizeLine then some (PyData.tuple (a ++ b)) else none) = _
  rw [if_pos h]
theorem q6_ok {W : D} (hW : WD W) (f : Fn) (ds : List D) (c2 c3 : PV.Cell) (hn : noDicts ds = true) (hl : ds.length ≤ 100) : ∃ d' W', q__law_bent_6 f [.own W, .shr (.tuple ds), c2, c3] = .rt d' [.own W', .shr (.tuple ds), c2, c3] ∧ WD W' ∧ noDict d' = true := by
  let rows : List D := [.list ds, .tuple (cutD ds none (some (-1))), .tuple (ds ++ cutD ds none (some 1)), .tuple [], .none]
  obtain ⟨i, d, W', p1, p2, p3⟩ := pick_ok hW (rows := rows) (by simp [rows])
  obtain ⟨c1, c1'⟩ := nd_cut hn none (some (-1))
  obtain ⟨c5, c5'⟩ := nd_cut hn none (some 1)
  refine ⟨d, W', ?_, p2, ?_⟩
  · refine rtn_ok (calH2 (e1 := [.own W, .shr (.tuple ds), c2, c3]) rfl (lstE_ok (ds := rows) ?_ (by show 5 ≤ sizeLine; decide)) rfl p1)
    refine consA_ok (callD_ok (consA_ok (rdS_ok rfl) nilA_ok) rfl) (consA_ok (e1 := [.own W, .shr (.tuple ds), c2, c3]) rfl (consA_ok (op2_ok (rdS_ok rfl) (e2 := [.own W, .shr (.tuple ds), c2, c3]) (y := .tuple (cutD ds none (some 1))) rfl (add_t (by unfold sizeLine; omega))) (consA_ok (tupE_ok nilA_ok (by decide)) (consA_ok rfl nilA_ok))))
  · have hm : d ∈ rows := List.mem_of_getElem? p3
    simp only [rows, List.mem_cons, List.not_mem_nil, or_false] at hm
    rcases hm with rfl | rfl | rfl | rfl | rfl
    · exact hn
    · exact c1
    · exact nd_app hn c5
    · rfl
    · rfl
theorem bent_ok : ∀ (k n : Nat) (d : D) (depth : Int) (W : D), gdf k d = true → k ≤ n → WD W → ∃ d' W', f__law_bent (n + 1) [W, d, .int depth] = .ok d' [W'] ∧ WD W' ∧ noDict d' = true := by
  intro k
  induction k with
  | zero => exact fun n d depth W h _ hW => bentS n d depth W (by simpa [gdf] using h) hW
  | succ k ih =>
    intro n d depth W h hk hW
    rcases Bool.or_eq_true_iff.mp (show (scaD d || _) = true from h) with q | q
    · exact bentS n d depth W q hW
    · cases d with
      | tuple ds =>
        have q' := Bool.and_eq_true_iff.mp (show (decide (ds.length ≤ 100) && ds.all (gdf k)) = true from q)
        have hl : ds.length ≤ 100 := of_decide_eq_true q'.1
        have hn : noDicts ds = true := gdf_nd (k + 1) (.tuple ds) h
        have e1 : f__law_bent (n + 1) [W, .tuple ds, .int depth] = outF false [0] (d__law_bent (f__law_bent n) [.own W, .shr (.tuple ds), .shr (.int depth), .emp]) := rfl
        rw [e1]
        -- the other road
        have other : ∀ W1, WD W1 → q__law_bent_1 (f__law_bent n) [.own W, .shr (.tuple ds), .shr (.int depth), .emp] = .nx [.own W1, .shr (.tuple ds), .shr (.int depth), .emp] → ∃ d' W', outF false [0] (d__law_bent (f__law_bent n) [.own W, .shr (.tuple ds), .shr (.int depth), .emp]) = .ok d' [W'] ∧ WD W' ∧ noDict d' = true := by
          intro W1 hW1 h1
          obtain ⟨d', W', r1, r2, r3⟩ := q6_ok hW1 (f__law_bent n) ds (.shr (.int depth)) .emp hn hl
          refine ⟨d', W', ?_, r2, r3⟩
          unfold d__law_bent
          rw [sq_nx h1, sq_nx (show q__law_bent_4 (f__law_bent n) [.own W1, .shr (.tuple ds), .shr (.int depth), .emp] = .nx [.own W1, .shr (.tuple ds), .shr (.int depth), .emp] from rfl), r1]
          rfl
        have t1 : tru (isiE "tuple" (rdS 1)) [.own W, .shr (.tuple ds), .shr (.int depth), .emp] = .ok true [.own W, .shr (.tuple ds), .shr (.int depth), .emp] := rfl
        have t2 : tcm (op2 neD (rdS 1) (tupE (nilA))) [.own W, .shr (.tuple ds), .shr (.int depth), .emp] = .ok (!ds.isEmpty) [.own W, .shr (.tuple ds), .shr (.int depth), .emp] := tcm_ok (op2_ok (rdS_ok rfl) (tupE_ok nilA_ok (by decide)) (neD_t0 hn))
        have t3 : tcm (op2 gtD (rdS 2) (ret (.int 0))) [.own W, .shr (.tuple ds), .shr (.int depth), .emp] = .ok (decide (0 < depth)) [.own W, .shr (.tuple ds), .shr (.int depth), .emp] := rfl
        cases x1 : ds.isEmpty with
        | true =>
          rw [x1] at t2
          exact other W hW (Eq.trans (ifS_f (Eq.trans (andT_t t1) (andT_f t2))) rfl)
        | false =>
          rw [x1] at t2
          by_cases x2 : 0 < depth
          · rw [decide_eq_true x2] at t3
            obtain ⟨r, W1, a1, a2, a3, a4⟩ := next_ok hW (m := 5) (by omega)
            have t4 : tcm (op2 gtD (calH (f__law_next) [some 0, none] (holeA 0 (consA (ret (.int 5)) (nilA)))) (ret (.int 0))) [.own W, .shr (.tuple ds), .shr (.int depth), .emp] = .ok (decide (0 < r)) [.own W1, .shr (.tuple ds), .shr (.int depth), .emp] := tcm_ok (op2_ok (calH2 rfl rfl rfl a1) rfl rfl)
            by_cases x3 : 0 < r
            · rw [decide_eq_true x3] at t4
              have hpos : 0 < ds.length := by cases ds with | nil => cases x1 | cons _ _ => simp
              obtain ⟨at_, W2, b1, b2, b3, b4⟩ := next_ok a2 (m := (ds.length : Int)) (by omega)
              have hat : at_.toNat < ds.length := by omega
              obtain ⟨n', rfl⟩ : ∃ n', n = n' + 1 := ⟨n - 1, by omega⟩
              obtain ⟨d', W3, c1, c2, c3⟩ := ih n' ds[at_.toNat] (depth - 1) W2 (List.all_eq_true.mp q'.2 _ (List.getElem_mem hat)) (by omega) b2
              obtain ⟨u1, u1'⟩ := nd_cut hn none (some at_)
              obtain ⟨u2, u2'⟩ := nd_cut hn (some (at_ + 1)) none
              refine ⟨.tuple (cutD ds none (some at_) ++ [d'] ++ cutD ds (some (at_ + 1)) none), W3, ?_, c2, nd_app (nd_app u1 (by simp [noDicts, c3])) u2⟩
              have s1 : q__law_bent_1 (f__law_bent (n' + 1)) [.own W, .shr (.tuple ds), .shr (.int depth), .emp] = .rt (.tuple (cutD ds none (some at_) ++ [d'] ++ cutD ds (some (at_ + 1)) none)) [.own W3, .shr (.tuple ds), .shr (.int depth), .shr (.int at_)] := by
                refine Eq.trans (ifS_t (Eq.trans (andT_t t1) (Eq.trans (andT_t t2) (Eq.trans (andT_t t3) t4)))) ?_
                refine Eq.trans (sq_nx (e1 := [.own W2, .shr (.tuple ds), .shr (.int depth), .shr (.int at_)]) (setS_ok (calH2 rfl (callD_ok (consA_ok (rdS_ok rfl) nilA_ok) rfl) rfl b1))) ?_
                have gix : L2.atI ds at_ = some ds[at_.toNat] := by
                  have := L2.atI_nat (List.getElem?_eq_getElem hat)
                  rwa [Int.toNat_of_nonneg b3] at this
                refine rtn_ok (op2_ok (op2_ok (e1 := [.own W2, .shr (.tuple ds), .shr (.int depth), .shr (.int at_)]) (x := .tuple (cutD ds none (some at_))) rfl (tupE_ok (consA_ok (calH3 rfl (op2_ok (rdS_ok rfl) (rdS_ok rfl) gix) (op2_ok (rdS_ok rfl) rfl rfl) rfl c1) nilA_ok) (by show 1 ≤ sizeLine; decide)) (add_t ?_)) (y := .tuple (cutD ds (some (at_ + 1)) none)) rfl (add_t ?_))
                · show _ + 1 ≤ _; unfold sizeLine; omega
                · rw [List.length_append]; show _ + 1 + _ ≤ _; unfold sizeLine; omega
              unfold d__law_bent
              rw [sq_rt s1]
              rfl
            · rw [decide_eq_false x3] at t4
              exact other W1 a2 (Eq.trans (ifS_f (Eq.trans (andT_t t1) (Eq.trans (andT_t t2) (Eq.trans (andT_t t3) t4)))) rfl)
          · rw [decide_eq_false x2] at t3
            exact other W hW (Eq.trans (ifS_f (Eq.trans (andT_t t1) (Eq.trans (andT_t t2) (andT_f t3)))) rfl)
      | _ => cases q
where
  bentS (n : Nat) (d : D) (depth : Int) (W : D) (h : scaD d = true) (hW : WD W) : ∃ d' W', f__law_bent (n + 1) [W, d, .int depth] = .ok d' [W'] ∧ WD W' ∧ noDict d' = true := by
    have e1 : f__law_bent (n + 1) [W, d, .int depth] = outF false [0] (d__law_bent (f__law_bent n) [.own W, .shr d, .shr (.int depth), .emp]) := rfl
    rw [e1]
    let rows : List D := [.int 0, .int 1, .int 2, .int 7, .int (-1), .bool true, .none, .str "1"]
    obtain ⟨i, d', W', p1, p2, p3⟩ := pick_ok hW (rows := rows) (by simp [rows])
    refine ⟨d', W', ?_, p2, ?_⟩
    · have t1 : tru (isiE "tuple" (rdS 1)) [.own W, .shr d, .shr (.int depth), .emp] = .ok false [.own W, .shr d, .shr (.int depth), .emp] := by cases d <;> first | rfl | cases h
      unfold d__law_bent
      rw [sq_nx (f := q__law_bent_1 (f__law_bent n)) (e1 := [.own W, .shr d, .shr (.int depth), .emp]) (Eq.trans (ifS_f (andT_f t1)) rfl)]
      have s4 : q__law_bent_4 (f__law_bent n) [.own W, .shr d, .shr (.int depth), .emp] = .rt d' [.own W', .shr d, .shr (.int depth), .emp] := by
        refine Eq.trans (ifS_t (notT_ok t1)) (rtn_ok (calH2 (e1 := [.own W, .shr d, .shr (.int depth), .emp]) rfl (lstE_ok (ds := rows) rfl (by show 8 ≤ sizeLine; decide)) rfl p1))
      rw [sq_rt s4]
      rfl
    · have hm : d' ∈ rows := List.mem_of_getElem? p3
      simp only [rows, List.mem_cons, List.not_mem_nil, or_false] at hm
      rcases hm with rfl | rfl | rfl | rfl | rfl | rfl | rfl | rfl <;> rfl
end L_rungward_k27_tables_of_states
namespace L_rungward_k27_tables_of_states
open PySem PySem.Spec PV
theorem calH4 {e e1 e2 e3 : EnvD} {i : Nat} {g : Fn} {w w' x y v z u : D} {m m2 m3 : M D} (h : e[i]? = some (.own w)) (ha : m e = .ok x e1) (hb : m2 e1 = .ok y e2) (hc : m3 e2 = .ok v e3) (h1 : e3[i]? = some (.own u)) (hg : g [u, x, y, v] = .ok z [w']) : calH g [some i, none, none, none] (holeA i (consA m (consA m2 (consA m3 nilA)))) e = .ok z (e3.set i (.own w')) := by
  unfold calH holeA consA
  simp only [bnd, h, nilA, PV.ret, ha, hb, hc, fillH, h1, Option.map_some, hg, putH]
theorem parS_ok {i j : Nat} {a b : M D} {e e1 e2 : EnvD} {x y : D} (h : a e = .ok x e1) (h2 : b e1 = .ok y e2) : parS i j a b e = .nx ((e2.set i (.shr x)).set j (.shr y)) := by
  unfold parS
  rw [thenS_ok (consA_ok h (consA_ok h2 nilA_ok))]
theorem encO_p (n : Nat) (o : Option Int) : plainD (n + 1) (encO o) = true := by cases o <;> rfl
theorem outs_len (t : List (List Ent)) : ∀ (ks : List Int) (s : Option Int), (outs t s ks).length = ks.length
  | [], s => by cases s <;> rfl
  | k :: r, s => by rw [outs_cons, List.length_cons, List.length_cons, outs_len t r]
theorem law_true (ns : List Int) (h : ns.length ≤ 63) : f_law [.list (ns.map .int)] = .ok (.bool true) [] := by
  obtain ⟨ds, hd, hp⟩ := draws_ok ns h 500 (by omega) (by omega)
  have e1 : f_law [.list (ns.map .int)] = outF false [] (d_law [.shr (.list (ns.map .int)), .emp, .emp, .emp, .emp, .emp, .emp, .emp, .emp, .emp, .emp]) := by
    unfold f_law; rw [fnD_ok (by rfl)]; rfl
  rw [e1]
  generalize hS : PyData.list (ns.map PyData.int) = S at hd ⊢
  have h1 : q_law_1 [.shr S, .emp, .emp, .emp, .emp, .emp, .emp, .emp, .emp, .emp, .emp] = .nx [.shr S, .own (mkW ds 0), .emp, .emp, .emp, .emp, .emp, .emp, .emp, .emp, .emp] :=
    setO_ok (d := mkW ds 0) (e1 := [.shr S, .emp, .emp, .emp, .emp, .emp, .emp, .emp, .emp, .emp, .emp]) (w0_ok (cal_ok (consA_ok (rdS_ok rfl) (consA_ok rfl nilA_ok)) hd))
  unfold d_law
  rw [sq_nx h1]
  have h2 : ∃ e2, q_law_2 [.shr S, .own (mkW ds 0), .emp, .emp, .emp, .emp, .emp, .emp, .emp, .emp, .emp] = .nx (wip [2, 3, 4, 5, 6, 7, 8, 9] e2) ∧ ∃ W a2 a3 a4 a5 a6 a7 a8 a9, e2 = [.shr S, .own W, a2, a3, a4, a5, a6, a7, a8, a9, .emp] ∧ WD W := by
    refine frS_nx (t := .nm 2) (dead := [2, 3, 4, 5, 6, 7, 8, 9]) (fun i e2 => ∃ W a2 a3 a4 a5 a6 a7 a8 a9, e2 = [.shr S, .own W, a2, a3, a4, a5, a6, a7, a8, a9, .emp] ∧ WD W) (ds := rngD 0 8) (rngI1_ok (consA_ok rfl nilA_ok) (by omega) (by omega))
      ⟨mkW ds 0, _, _, _, _, _, _, _, _, rfl, ⟨ds, 0, rfl, hp, by omega⟩⟩ fun i d e hd hI => ?_
    obtain ⟨W, a2, a3, a4, a5, a6, a7, a8, a9, rfl, hW⟩ := hI
    refine ⟨[.shr S, .own W, .shr d, .emp, .emp, .emp, .emp, .emp, .emp, .emp, .emp], ?_⟩
    obtain ⟨r1, W1, b1, b2, b3, b4⟩ := next_ok hW (m := 6) (by omega)
    obtain ⟨r2, W2, c1, c2, c3, c4⟩ := next_ok b2 (m := 3) (by omega)
    obtain ⟨M, hM⟩ : ∃ M : Nat, 1 + r1 = (M : Int) := ⟨(1 + r1).toNat, by omega⟩
    obtain ⟨I, hIn⟩ : ∃ I : Nat, 1 + r2 = (I : Int) := ⟨(1 + r2).toNat, by omega⟩
    have s3 : q_law_3 [.shr S, .own W, .shr d, .emp, .emp, .emp, .emp, .emp, .emp, .emp, .emp] = .nx [.shr S, .own W2, .shr d, .shr (.int M), .shr (.int I), .emp, .emp, .emp, .emp, .emp, .emp] := by
      rw [← hM, ← hIn]
      exact asgS_ok (tupE_ok (consA_ok (op2_ok rfl (calH2 rfl rfl rfl b1) rfl) (consA_ok (op2_ok rfl (calH2 rfl rfl rfl c1) rfl) nilA_ok)) (by show 2 ≤ sizeLine; decide)) rfl
    obtain ⟨r3, W3, d1, d2, d3, d4⟩ := next_ok c2 (m := 3) (by omega)
    obtain ⟨t, W4, g1, g2, g3⟩ := draw_ok d2 M I r3 (by omega) (by omega) (by omega)
    have s4 : q_law_4 [.shr S, .own W2, .shr d, .shr (.int M), .shr (.int I), .emp, .emp, .emp, .emp, .emp, .emp] = .nx [.shr S, .own W4, .shr d, .shr (.int M), .shr (.int I), .shr (encT t), .emp, .emp, .emp, .emp, .emp] :=
      setS_ok (calH4 rfl (rdS_ok rfl) (rdS_ok rfl) (calH2 rfl rfl rfl d1) rfl g1)
    have s5 : ∃ e2, q_law_5 [.shr S, .own W4, .shr d, .shr (.int M), .shr (.int I), .shr (encT t), .emp, .emp, .emp, .emp, .emp] = .nx (wip [6, 7, 8] e2) ∧ ∃ W a6 a7 a8, e2 = [.shr S, .own W, .shr d, .shr (.int M), .shr (.int I), .shr (encT t), a6, a7, a8, .emp, .emp] ∧ WD W := by
      refine frS_nx (t := .nm 6) (dead := [6, 7, 8]) (fun i e2 => ∃ W a6 a7 a8, e2 = [.shr S, .own W, .shr d, .shr (.int M), .shr (.int I), .shr (encT t), a6, a7, a8, .emp, .emp] ∧ WD W) (ds := rngD 0 5) (rngI1_ok (consA_ok rfl nilA_ok) (by omega) (by omega)) ⟨W4, _, _, _, rfl, g2⟩ fun i6 d6 e hd hI => ?_
      obtain ⟨W5, a6, a7, a8, rfl, hW5⟩ := hI
      refine ⟨[.shr S, .own W5, .shr d, .shr (.int M), .shr (.int I), .shr (encT t), .shr d6, .emp, .emp, .emp, .emp], ?_⟩
      obtain ⟨r, W6, x1, x2, x3, x4⟩ := next_ok hW5 (m := 8) (by omega)
      obtain ⟨out, e', y1, ⟨W7, rfl, y2⟩, y3, y4⟩ := lcE_inv (t := .nm 10) (vs := [10]) (te := calH (f__law_next) [some 1, none] (holeA 1 (consA (rdS 4) (nilA)))) (m := rngI1 (consA (calH (f__law_next) [some 1, none] (holeA 1 (consA (ret (.int 8)) (nilA)))) (nilA)))
        (e := [.shr S, .own W5, .shr d, .shr (.int M), .shr (.int I), .shr (encT t), .shr d6, .emp, .emp, .emp, .emp]) (e1 := [.shr S, .own W6, .shr d, .shr (.int M), .shr (.int I), .shr (encT t), .shr d6, .emp, .emp, .emp, .emp])
        (fun e => ∃ W2, e = [.shr S, .own W2, .shr d, .shr (.int M), .shr (.int I), .shr (encT t), .shr d6, .emp, .emp, .emp, .emp] ∧ WD W2) (fun d => ∃ i : Int, d = .int i ∧ 0 ≤ i ∧ i < I)
        (rngI1_ok (consA_ok (calH2 rfl rfl rfl x1) nilA_ok) (by omega) (by omega)) rfl ⟨W6, rfl, x2⟩ (fun d hd e hI => by
          obtain ⟨W2, rfl, w2⟩ := hI
          obtain ⟨r2, W3, q1, q2, q3, q4⟩ := next_ok w2 (m := (I : Int)) (by omega)
          exact ⟨_, .int r2, _, rfl, calH2 rfl (rdS_ok rfl) rfl q1, ⟨r2, rfl, q3, q4⟩, W3, rfl, q2⟩)
      obtain ⟨ks, rfl, k2, k3⟩ := lift_list (enc := PyData.int) (Q := fun i => 0 ≤ i ∧ i < (I : Int)) y3
      have kl : ks.length ≤ 1000 := by rw [k2, y4, rngD_len]; omega
      obtain ⟨st, W8, z1, z2, z3, z4⟩ := next_ok y2 (m := (M : Int)) (by omega)
      have s6 : q_law_6 [.shr S, .own W5, .shr d, .shr (.int M), .shr (.int I), .shr (encT t), .shr d6, .emp, .emp, .emp, .emp] = .nx [.shr S, .own W8, .shr d, .shr (.int M), .shr (.int I), .shr (encT t), .shr d6, .shr (.tuple (ks.map .int)), .shr (.int st), .emp, .emp] :=
        parS_ok (callD_ok (consA_ok y1 nilA_ok) rfl) (calH2 rfl (rdS_ok rfl) rfl z1)
      have stk : StOk M (some st) := fun i e => by cases e; exact ⟨z3, z4⟩
      have s7 : q_law_7 [.shr S, .own W8, .shr d, .shr (.int M), .shr (.int I), .shr (encT t), .shr d6, .shr (.tuple (ks.map .int)), .shr (.int st), .emp, .emp] = .nx [.shr S, .own W8, .shr d, .shr (.int M), .shr (.int I), .shr (encT t), .shr d6, .shr (.tuple (ks.map .int)), .shr (.int st), .emp, .emp] := by
        refine Eq.trans (ifS_f (notT_ok (kb := true) (tru_ok (cal_ok (consA_ok (cal_ok (consA_ok (rdS_ok rfl) (consA_ok (rdS_ok rfl) (consA_ok (rdS_ok rfl) nilA_ok))) (run_ok g3 (some st) stk ks k3 kl)) (consA_ok (cal_ok (consA_ok (rdS_ok rfl) (consA_ok (rdS_ok rfl) (consA_ok (rdS_ok rfl) nilA_ok))) (outs_ok g3 (some st) stk ks k3 kl)) nilA_ok)) (alike_refl 40 _ ?_)) rfl))) rfl
        show (decide (((outs t (some st) ks).map encO).length ≤ 16777216) && ((outs t (some st) ks).map encO).all (plainD 39)) = true
        rw [List.length_map, outs_len, decide_eq_true (by omega), Bool.true_and, List.all_eq_true]
        intro x hx
        obtain ⟨o, _, rfl⟩ := List.mem_map.mp hx
        exact encO_p 38 o
      exact ⟨[.shr S, .own W8, .shr d, .shr (.int M), .shr (.int I), .shr (encT t), .shr d6, .shr (.tuple (ks.map .int)), .shr (.int st), .emp, .emp], rfl, Eq.trans (sq_nx s6) s7, W8, _, _, _, rfl, z2⟩
    obtain ⟨e5, s5, W5, a6', a7', a8', rfl, hW5⟩ := s5
    have s9 : q_law_9 [.shr S, .own W5, .shr d, .shr (.int M), .shr (.int I), .shr (encT t), .emp, .emp, .emp, .emp, .emp] = .nx [.shr S, .own W5, .shr d, .shr (.int M), .shr (.int I), .shr (encT t), .emp, .emp, .emp, .shr (encT t), .emp] := rfl
    have gt : gdf 3 (encT t) = true := by
      show (scaD (encT t) || (decide ((t.map encR).length ≤ 100) && (t.map encR).all (gdf 2))) = true
      rw [List.length_map, g3.len, decide_eq_true (by omega), Bool.true_and]
      refine Bool.or_eq_true_iff.mpr (.inr (List.all_eq_true.mpr fun x hx => ?_))
      obtain ⟨r, hr, rfl⟩ := List.mem_map.mp hx
      show (scaD (encR r) || (decide ((r.map encE).length ≤ 100) && (r.map encE).all (gdf 1))) = true
      rw [List.length_map, (g3.row r hr).1, decide_eq_true (by omega), Bool.true_and]
      refine Bool.or_eq_true_iff.mpr (.inr (List.all_eq_true.mpr fun x hx => ?_))
      obtain ⟨⟨o1, o2⟩, _, rfl⟩ := List.mem_map.mp hx
      cases o1 <;> cases o2 <;> rfl
    have s10 : ∃ e2, q_law_10 [.shr S, .own W5, .shr d, .shr (.int M), .shr (.int I), .shr (encT t), .emp, .emp, .emp, .shr (encT t), .emp] = .nx (wip [6] e2) ∧ ∃ W a6 th, e2 = [.shr S, .own W, .shr d, .shr (.int M), .shr (.int I), .shr (encT t), a6, .emp, .emp, .shr th, .emp] ∧ WD W ∧ noDict th = true := by
      refine frS_nx (t := .nm 6) (dead := [6]) (fun i e2 => ∃ W a6 th, e2 = [.shr S, .own W, .shr d, .shr (.int M), .shr (.int I), .shr (encT t), a6, .emp, .emp, .shr th, .emp] ∧ WD W ∧ noDict th = true) (ds := rngD 0 7) (rngI1_ok (consA_ok rfl nilA_ok) (by omega) (by omega)) ⟨W5, _, _, rfl, hW5, gdf_nd 3 _ gt⟩ fun i6 d6 e hd hI => ?_
      obtain ⟨W6, a6, th, rfl, hW6, hth⟩ := hI
      obtain ⟨d', W7, y1, y2, y3⟩ := bent_ok 3 39 (encT t) 3 W6 gt (by omega) hW6
      have s11 : q_law_11 [.shr S, .own W6, .shr d, .shr (.int M), .shr (.int I), .shr (encT t), .shr d6, .emp, .emp, .shr th, .emp] = .nx [.shr S, .own W6, .shr d, .shr (.int M), .shr (.int I), .shr (encT t), .shr d6, .emp, .emp, .shr th, .emp] :=
        Eq.trans (ifS_f (notT_ok (kb := true) (tru_ok (cal_ok (consA_ok (cal_ok (consA_ok (rdS_ok rfl) nilA_ok) (table_ok th hth)) (consA_ok (cal_ok (consA_ok (rdS_ok rfl) nilA_ok) (ltable_ok th hth)) nilA_ok)) (alike_refl 40 _ rfl)) rfl))) rfl
      have s13 : q_law_13 [.shr S, .own W6, .shr d, .shr (.int M), .shr (.int I), .shr (encT t), .shr d6, .emp, .emp, .shr th, .emp] = .nx [.shr S, .own W7, .shr d, .shr (.int M), .shr (.int I), .shr (encT t), .shr d6, .emp, .emp, .shr d', .emp] :=
        setS_ok (calH3 rfl (rdS_ok rfl) rfl rfl y1)
      exact ⟨[.shr S, .own W6, .shr d, .shr (.int M), .shr (.int I), .shr (encT t), .shr d6, .emp, .emp, .shr th, .emp], _, rfl, Eq.trans (sq_nx s11) s13, W7, _, _, rfl, y2, y3⟩
    obtain ⟨e10, s10, W6, a6'', th, rfl, hW6, _⟩ := s10
    refine ⟨_, rfl, Eq.trans (sq_nx s3) (Eq.trans (sq_nx s4) (Eq.trans (sq_nx s5) (Eq.trans (sq_nx s9) s10))), W6, _, _, _, _, _, _, _, _, rfl, hW6⟩
  obtain ⟨e2, h2, W, a2, a3, a4, a5, a6, a7, a8, a9, rfl, _⟩ := h2
  rw [sq_nx h2]
  rfl
end L_rungward_k27_tables_of_states
namespace L_rungward_k27_tables_of_states
open PySem PySem.Spec PyProof.Rows L2 PV
abbrev R : PySem.W.OpenRow := PySem.W.OpenLaw.row PySem.Challenge.rw_rungward_k27_tables_of_states
def loose : List PySem.Str := (["is_number", "is_below", "is_tuple_of", "is_entry", "is_table", "run_table", "_law_draws", "_law_next", "_law_pick", "_law_alike", "_law_table", "_law_outs", "_law_is_below", "_law_is_table", "_law_bent"] : List PySem.Str)
abbrev hk : PySem.W.Hook := hookP 4 fa fn
def ob (s : PySem.W.SharedT) : AlP := obsP 4 fa fn (HandSHeadRun.getT s)
theorem ob_eq (s : PySem.W.SharedT) : ob s = hk.obs s.abs := obsP_eq (HandSHeadRun.getT_eq s)
set_option maxHeartbeats 0 in
theorem run (w : World) : HandSHeadRun.RunEq R (PySem.W.view R.prog [18]) hk ob 1740 loose w := by
  intro os
  kernel_rfl
end L_rungward_k27_tables_of_states
open PySem PySem.W PySem.Calls PyProof.Rows
set_option maxHeartbeats 0 in
theorem PySem.Challenge.cw_rungward_k27_tables_of_states_holds : PySem.Challenge.rw_rungward_k27_tables_of_states.Holds := by
  w_on; o_law
  refine HandSHeadRun.head_any (r := OpenLaw.row PySem.Challenge.rw_rungward_k27_tables_of_states) (q := view (OpenLaw.row PySem.Challenge.rw_rungward_k27_tables_of_states).prog [18]) (H := L_rungward_k27_tables_of_states.hk) (ob := L_rungward_k27_tables_of_states.ob) (M := 1740) (loose := L_rungward_k27_tables_of_states.loose) (d := HandSHeadRun.topDef (OpenLaw.row PySem.Challenge.rw_rungward_k27_tables_of_states).prog 18) (kwd := []) L_rungward_k27_tables_of_states.ob_eq
    (by kernel_rfl) (fun s => by kernel_rfl) L_rungward_k27_tables_of_states.run (by kernel_rfl) (by kernel_rfl) (by kernel_rfl) (by rfl) (by first | assumption | decide +kernel) (by decide +kernel) ⟨rfl, rfl, rfl, rfl, rfl, by decide +kernel⟩ ?hw ?hc
  case hw => w_witness2
  case hc =>
    exact PV.law_walk (l := PySem.Challenge.rw_rungward_k27_tables_of_states) (fa := L_rungward_k27_tables_of_states.fa) (fn := L_rungward_k27_tables_of_states.fn) (st := L_rungward_k27_tables_of_states.s_law) (i := 15) (j := 15) (g := L_rungward_k27_tables_of_states.f_law) (k := 44) rfl (by kernel_rfl) (by kernel_rfl) ⟨rfl, by decide, by decide⟩ rfl rfl
      (fun _ _ _ _ _ _ us hl => match us, hl with | [_], _ => rfl) (fun w K mg base Z f fd F => L_rungward_k27_tables_of_states.ok_law Z f fd F) L_rungward_k27_tables_of_states.law_true
