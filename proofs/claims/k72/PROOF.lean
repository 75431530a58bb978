import PyProof.Rows.All
import Wide.All
import OpenK.AllK
import Wide.FinOn
import HandS.ForMost
import HandS.Deep
import HandS.CallSlots
import HandS.TupAny
import HandS.Style
import HandS.TupMul
import HandS.IsInst
import HandS.Codes
import KE.SortData
import HandS.More
import HandS.Small
import KE.KStateDown
import HandS.Defaults
import HandS.Head0
import HandS.Head1
import HandS.Head2
import HandS.HeadEnd
import HandS.HeadHook1
import HandS.HeadHook2
import HandS.Dict
import HandS.Set
import HandS.SetFor
import HandS.Iter
import KE.DataMinMax
import KE.KRevSl
import PySem.Challenge.RW_rungward_k72_presses_for_lamps
set_option Elab.async false
set_option linter.all false
set_option autoImplicit false
set_option maxRecDepth 100000
set_option maxHeartbeats 4000000
namespace PV
open PySem PySem.Spec PyProof.Rows L2

/-! data, cells, the machine of data -/
abbrev D := PyData
inductive Cell where
  | emp | shr (d : D) | own (d : D)
abbrev EnvD := List PV.Cell
structure Ex where
  c : Str
  fs : List D
inductive Res (α : Type) where
  | ok (a : α) (e : EnvD) | exc (x : Ex) (e : EnvD) | no
abbrev M (α : Type) := EnvD → Res α
def ret {α : Type} (a : α) : M α := fun e => .ok a e
def bnd {α β : Type} (m : M α) (k : α → M β) : M β := fun e => match m e with
  | .ok a e1 => k a e1
  | .exc x e1 => .exc x e1
  | .no => .no
def lft {α : Type} (o : Option α) : M α := fun e => match o with
  | some a => .ok a e
  | none => .no

/-- what may be changed in place -/
def Mu : HO → Prop
  | .lst _ => True
  | .dK _ => True
  | .dT _ => True
  | .set _ _ => True
  | .ins _ _ _ => True
  | .ext _ => True
  | _ => False

/-- all that was tracked is as it was, but what stands in N and may be changed -/
def Keep (N : Addr → Prop) (H H' : Hp) : Prop := ∀ a o, H a = some o → H' a = some o ∨ (N a ∧ Mu o ∧ ∃ o', H' a = some o' ∧ Mu o')
theorem Keep.refl (N : Addr → Prop) (H : Hp) : Keep N H H := fun _ _ h => .inl h
theorem Keep.of_same {N : Addr → Prop} {H H' : Hp} (s : Same H H') : Keep N H H' := fun a o h => .inl (s a o h)
theorem Keep.mono {N N' : Addr → Prop} {H H' : Hp} (k : Keep N H H') (h : ∀ a, N a → N' a) : Keep N' H H' := fun a o e =>
  (k a o e).imp id fun ⟨n, r⟩ => ⟨h a n, r⟩
theorem Keep.trans {N N' : Addr → Prop} {H H1 H2 : Hp} (k : Keep N H H1) (k' : Keep N' H1 H2) (h : ∀ a, (∃ o, H a = some o) → N' a → N a) : Keep N H H2 := fun a o e => by
  rcases k a o e with e1 | ⟨n, m, o1, e1, m1⟩
  · rcases k' a o e1 with e2 | ⟨n', m', r⟩
    · exact .inl e2
    · exact .inr ⟨h a ⟨o, e⟩ n', m', r⟩
  · rcases k' a o1 e1 with e2 | ⟨n', m', r⟩
    · exact .inr ⟨n, m, o1, e2, m1⟩
    · exact .inr ⟨n, m, r⟩
theorem Keep.there {N : Addr → Prop} {H H' : Hp} (k : Keep N H H') {a : Addr} (h : ∃ o, H a = some o) : ∃ o, H' a = some o := by
  obtain ⟨o, e⟩ := h
  rcases k a o e with e1 | ⟨_, _, o1, e1, _⟩
  · exact ⟨o, e1⟩
  · exact ⟨o1, e1⟩
theorem Keep.at {N : Addr → Prop} {H H' : Hp} (k : Keep N H H') {a : Addr} {o : HO} (e : H a = some o) (n : ¬ N a) : H' a = some o :=
  (k a o e).resolve_right fun z => n z.1
theorem Keep.tup {N : Addr → Prop} {H H' : Hp} (k : Keep N H H') {a : Addr} {o : HO} (e : H a = some o) (n : ¬ Mu o) : H' a = some o :=
  (k a o e).resolve_right fun z => n z.2.1

def keyD : Key → D
  | .inl i => .int i
  | .inr x => .str x

/-! a value stands for data; no address in N is in it -/
mutual
inductive Rp (K : PySem.W.Frag) (H : Hp) (N : Addr → Prop) : V → D → Prop
  | non : Rp K H N .non .none
  | bl (b : Bool) : Rp K H N (.bl b) (.bool b)
  | int (i : Int) : Rp K H N (.int i) (.int i)
  | str (x : Str) : PyData.strOk x = true → Rp K H N (.str x) (.str x)
  | tup {a : Addr} {xs : List V} {ds : List D} : SqT K H a xs → RpAll K H N xs ds → Rp K H N (.ref a) (.tuple ds)
  | lst {a : Addr} {xs : List V} {ds : List D} : Rd H a (.lst xs) → ¬ N a → RpAll K H N xs ds → Rp K H N (.ref a) (.list ds)
  | dct {a : Addr} {kvs : List (Key × V)} {es : List (D × D)} : Rd H a (.dK kvs) → ¬ N a → RpKV K H N kvs es → Rp K H N (.ref a) (.dict es)
inductive RpAll (K : PySem.W.Frag) (H : Hp) (N : Addr → Prop) : List V → List D → Prop
  | nil : RpAll K H N [] []
  | cons {v : V} {vs : List V} {d : D} {ds : List D} : Rp K H N v d → RpAll K H N vs ds → RpAll K H N (v :: vs) (d :: ds)
inductive RpKV (K : PySem.W.Frag) (H : Hp) (N : Addr → Prop) : List (Key × V) → List (D × D) → Prop
  | nil : RpKV K H N [] []
  | cons {k : Key} {v : V} {kvs : List (Key × V)} {d : D} {es : List (D × D)} : Rp K H N v d → RpKV K H N kvs es → RpKV K H N ((k, v) :: kvs) ((keyD k, d) :: es)
end

/-- the frame: nothing outside M is changed; the new forbidden set is empty of what stands in the value -/
structure Fwd (K : PySem.W.Frag) (N N' : Addr → Prop) (H H' : Hp) : Prop where
  keep : ∀ a o, H a = some o → ¬ N a → H' a = some o
  tup : ∀ a o, H a = some o → ¬ Mu o → H' a = some o
  sub : ∀ a, N' a → ¬ N a → H a = none
theorem sqT_fwd {K : PySem.W.Frag} {N N' : Addr → Prop} {H H' : Hp} (f : Fwd K N N' H H') {a : Addr} {xs : List V} (h : SqT K H a xs) : SqT K H' a xs := by
  rcases h with (h | ⟨o, h⟩) | h
  · exact .inl (.inl (f.tup _ _ h (fun z => z)))
  · exact .inl (.inr ⟨o, f.tup _ _ h (fun z => z)⟩)
  · exact .inr h
theorem sqL_fwd {K : PySem.W.Frag} {N N' : Addr → Prop} {H H' : Hp} (f : Fwd K N N' H H') {a : Addr} {xs : List V} (h : Rd H a (.lst xs)) (n : ¬ N a) : Rd H' a (.lst xs) ∧ ¬ N' a := by
  rcases h with h | ⟨o, h⟩
  · exact ⟨.inl (f.keep _ _ h n), fun z => by rw [f.sub a z n] at h; cases h⟩
  · exact ⟨.inr ⟨o, f.keep _ _ h n⟩, fun z => by rw [f.sub a z n] at h; cases h⟩
theorem rd_fwd {K : PySem.W.Frag} {N N' : Addr → Prop} {H H' : Hp} (f : Fwd K N N' H H') {a : Addr} {u : HO} (h : Rd H a u) (n : ¬ N a) : Rd H' a u ∧ ¬ N' a := by
  rcases h with h | ⟨o, h⟩
  · exact ⟨.inl (f.keep _ _ h n), fun z => by rw [f.sub a z n] at h; cases h⟩
  · exact ⟨.inr ⟨o, f.keep _ _ h n⟩, fun z => by rw [f.sub a z n] at h; cases h⟩
mutual
theorem Rp.fwd {K : PySem.W.Frag} {N N' : Addr → Prop} {H H' : Hp} (f : Fwd K N N' H H') : ∀ {v : V} {d : D}, Rp K H N v d → Rp K H' N' v d
  | _, _, .non => .non
  | _, _, .bl b => .bl b
  | _, _, .int i => .int i
  | _, _, .str x h => .str x h
  | _, _, .tup h r => .tup (sqT_fwd f h) (RpAll.fwd f r)
  | _, _, .lst h n r => .lst (sqL_fwd f h n).1 (sqL_fwd f h n).2 (RpAll.fwd f r)
  | _, _, .dct h n r => .dct (rd_fwd f h n).1 (rd_fwd f h n).2 (RpKV.fwd f r)
theorem RpAll.fwd {K : PySem.W.Frag} {N N' : Addr → Prop} {H H' : Hp} (f : Fwd K N N' H H') : ∀ {vs : List V} {ds : List D}, RpAll K H N vs ds → RpAll K H' N' vs ds
  | _, _, .nil => .nil
  | _, _, .cons h r => .cons (Rp.fwd f h) (RpAll.fwd f r)
theorem RpKV.fwd {K : PySem.W.Frag} {N N' : Addr → Prop} {H H' : Hp} (f : Fwd K N N' H H') : ∀ {vs : List (Key × V)} {ds : List (D × D)}, RpKV K H N vs ds → RpKV K H' N' vs ds
  | _, _, .nil => .nil
  | _, _, .cons h r => .cons (Rp.fwd f h) (RpKV.fwd f r)
end
theorem Fwd.of_same {K : PySem.W.Frag} {N : Addr → Prop} {H H' : Hp} (s : Same H H') : Fwd K N N H H' := ⟨fun a o h _ => s a o h, fun a o h _ => s a o h, fun _ z n => absurd z n⟩
theorem Fwd.sub_same {K : PySem.W.Frag} {N N' : Addr → Prop} {H H' : Hp} (s : Same H H') (h : ∀ a, N' a → N a) : Fwd K N N' H H' := ⟨fun a o h _ => s a o h, fun a o h _ => s a o h, fun a z n => absurd (h a z) n⟩
theorem Fwd.of_keep {K : PySem.W.Frag} {N N' : Addr → Prop} {H H' : Hp} (k : Keep N H H') (h : ∀ a, N' a → N a) : Fwd K N N' H H' := ⟨fun a o e n => k.at e n, fun a o e m => k.tup e m, fun a z n => absurd (h a z) n⟩

theorem RpAll.length {K : PySem.W.Frag} {N : Addr → Prop} {H : Hp} : ∀ {vs : List V} {ds : List D}, RpAll K H N vs ds → vs.length = ds.length
  | _, _, .nil => rfl
  | _, _, .cons _ r => congrArg (· + 1) (RpAll.length r)
theorem RpAll.get {K : PySem.W.Frag} {N : Addr → Prop} {H : Hp} : ∀ {vs : List V} {ds : List D} {i : Nat} {d : D}, RpAll K H N vs ds → ds[i]? = some d → ∃ v, vs[i]? = some v ∧ Rp K H N v d
  | _, _, _, _, .nil, e => by simp at e
  | _, _, 0, _, .cons h _, e => by simp at e; subst e; exact ⟨_, rfl, h⟩
  | _, _, i + 1, _, .cons _ r, e => by
    obtain ⟨v, e1, h⟩ := RpAll.get (i := i) r (by simpa using e)
    exact ⟨v, by simpa using e1, h⟩
theorem RpAll.getV {K : PySem.W.Frag} {N : Addr → Prop} {H : Hp} : ∀ {vs : List V} {ds : List D} {i : Nat} {v : V}, RpAll K H N vs ds → vs[i]? = some v → ∃ d, ds[i]? = some d ∧ Rp K H N v d
  | _, _, _, _, .nil, e => by simp at e
  | _, _, 0, _, .cons h _, e => by simp at e; subst e; exact ⟨_, rfl, h⟩
  | _, _, i + 1, _, .cons _ r, e => by
    obtain ⟨v, e1, h⟩ := RpAll.getV (i := i) r (by simpa using e)
    exact ⟨v, by simpa using e1, h⟩
theorem RpAll.append {K : PySem.W.Frag} {N : Addr → Prop} {H : Hp} : ∀ {vs ws : List V} {ds es : List D}, RpAll K H N vs ds → RpAll K H N ws es → RpAll K H N (vs ++ ws) (ds ++ es)
  | _, _, _, _, .nil, h => h
  | _, _, _, _, .cons h r, q => .cons h (RpAll.append r q)
theorem RpAll.take {K : PySem.W.Frag} {N : Addr → Prop} {H : Hp} : ∀ {vs : List V} {ds : List D} (n : Nat), RpAll K H N vs ds → RpAll K H N (vs.take n) (ds.take n)
  | _, _, 0, _ => .nil
  | _, _, _ + 1, .nil => .nil
  | _, _, n + 1, .cons h r => .cons h (RpAll.take n r)
theorem RpAll.drop {K : PySem.W.Frag} {N : Addr → Prop} {H : Hp} : ∀ {vs : List V} {ds : List D} (n : Nat), RpAll K H N vs ds → RpAll K H N (vs.drop n) (ds.drop n)
  | _, _, 0, h => h
  | _, _, _ + 1, .nil => .nil
  | _, _, n + 1, .cons _ r => RpAll.drop n r
theorem RpAll.set {K : PySem.W.Frag} {N : Addr → Prop} {H : Hp} {v : V} {d : D} (h : Rp K H N v d) : ∀ {vs : List V} {ds : List D} (i : Nat), RpAll K H N vs ds → RpAll K H N (vs.set i v) (ds.set i d)
  | _, _, _, .nil => .nil
  | _, _, 0, .cons _ r => .cons h r
  | _, _, i + 1, .cons q r => .cons q (RpAll.set h i r)
theorem RpAll.reverse {K : PySem.W.Frag} {N : Addr → Prop} {H : Hp} : ∀ {vs : List V} {ds : List D}, RpAll K H N vs ds → RpAll K H N vs.reverse ds.reverse
  | _, _, .nil => .nil
  | _, _, .cons h r => by
    rw [List.reverse_cons, List.reverse_cons]
    exact (RpAll.reverse r).append (.cons h .nil)

/-- the value, its own root free to stand in N -/
inductive RpC (K : PySem.W.Frag) (H : Hp) (N : Addr → Prop) : V → D → Prop
  | of {v : V} {d : D} : Rp K H N v d → RpC K H N v d
  | lst {a : Addr} {xs : List V} {ds : List D} : Rd H a (.lst xs) → RpAll K H N xs ds → RpC K H N (.ref a) (.list ds)
  | dct {a : Addr} {kvs : List (Key × V)} {es : List (D × D)} : Rd H a (.dK kvs) → RpKV K H N kvs es → RpC K H N (.ref a) (.dict es)
theorem RpC.list {K : PySem.W.Frag} {H : Hp} {N : Addr → Prop} {v : V} {ds : List D} (h : RpC K H N v (.list ds)) : ∃ a xs, v = .ref a ∧ Rd H a (.lst xs) ∧ RpAll K H N xs ds := by
  cases h with
  | of h => cases h with
    | lst h1 _ h2 => exact ⟨_, _, rfl, h1, h2⟩
  | lst h1 h2 => exact ⟨_, _, rfl, h1, h2⟩
theorem RpC.tuple {K : PySem.W.Frag} {H : Hp} {N : Addr → Prop} {v : V} {ds : List D} (h : RpC K H N v (.tuple ds)) : ∃ a xs, v = .ref a ∧ SqT K H a xs ∧ RpAll K H N xs ds := by
  cases h with
  | of h => cases h with
    | tup h1 h2 => exact ⟨_, _, rfl, h1, h2⟩
theorem RpC.dict {K : PySem.W.Frag} {H : Hp} {N : Addr → Prop} {v : V} {es : List (D × D)} (h : RpC K H N v (.dict es)) : ∃ a kvs, v = .ref a ∧ Rd H a (.dK kvs) ∧ RpKV K H N kvs es := by
  cases h with
  | of h => cases h with
    | dct h1 _ h2 => exact ⟨_, _, rfl, h1, h2⟩
  | dct h1 h2 => exact ⟨_, _, rfl, h1, h2⟩
theorem RpC.int {K : PySem.W.Frag} {H : Hp} {N : Addr → Prop} {v : V} {i : Int} (h : RpC K H N v (.int i)) : v = .int i := by
  cases h with
  | of h => cases h; rfl
theorem RpC.str {K : PySem.W.Frag} {H : Hp} {N : Addr → Prop} {v : V} {i : Str} (h : RpC K H N v (.str i)) : v = .str i := by
  cases h with
  | of h => cases h; rfl
theorem RpC.strOk {K : PySem.W.Frag} {H : Hp} {N : Addr → Prop} {v : V} {i : Str} (h : RpC K H N v (.str i)) : PyData.strOk i = true := by
  cases h with
  | of h => cases h; assumption
theorem RpC.bool {K : PySem.W.Frag} {H : Hp} {N : Addr → Prop} {v : V} {i : Bool} (h : RpC K H N v (.bool i)) : v = .bl i := by
  cases h with
  | of h => cases h; rfl
theorem RpC.none {K : PySem.W.Frag} {H : Hp} {N : Addr → Prop} {v : V} (h : RpC K H N v .none) : v = .non := by
  cases h with
  | of h => cases h; rfl
theorem RpC.same {K : PySem.W.Frag} {H H' : Hp} {N N' : Addr → Prop} {v : V} {d : D} (s : Same H H') (sub : ∀ a, N' a → N a) (h : RpC K H N v d) : RpC K H' N' v d := by
  have f : Fwd K N N' H H' := .sub_same s sub
  cases h with
  | of h => exact .of (h.fwd f)
  | lst h r => exact .lst (h.imp (s _ _) fun ⟨o, h⟩ => ⟨o, s _ _ h⟩) (r.fwd f)
  | dct h r => exact .dct (h.imp (s _ _) fun ⟨o, h⟩ => ⟨o, s _ _ h⟩) (r.fwd f)

/-- a new one (or such as never changes): its root was not there in H -/
def RpF (K : PySem.W.Frag) (H H' : Hp) (N : Addr → Prop) (v : V) : D → Prop
  | .list ds => ∃ a xs, v = .ref a ∧ H a = none ∧ H' a = some (.lst xs) ∧ RpAll K H' (fun b => N b ∨ b = a) xs ds
  | .dict es => ∃ a kvs, v = .ref a ∧ H a = none ∧ H' a = some (.dK kvs) ∧ RpKV K H' (fun b => N b ∨ b = a) kvs es
  | d => Rp K H' N v d
end PV
namespace PV
open PySem PySem.Spec PyProof.Rows L2

/-! where one stands: the heap at the def's entry, what must not be aliased, what may be changed -/
structure Amb where
  H0 : Hp
  N : Addr → Prop
  fx : List Nat
  fa : Nat → Addr
  Z : Addr → Prop
  W : Value → Option Addr → L2.St → Hp → Prop
  XR : Ex → Value → Option Addr → Hp → Prop
  nd : ∀ a, N a → ∃ o, H0 a = some o
  ion : ∀ i ∈ fx, N (fa i)
def Amb.IO (G : Amb) (a : Addr) : Prop := ∃ i ∈ G.fx, G.fa i = a
def rts (σ : L2.St) (env : EnvD) (a : Addr) : Prop := ∃ (i : Nat) (d : D), env[i]? = some (PV.Cell.own d) ∧ σ[i]? = some (some (V.ref a))
def Amb.R (G : Amb) (σ : L2.St) (env : EnvD) (a : Addr) : Prop := (G.N a ∨ G.Z a) ∨ rts σ env a

inductive Root (K : PySem.W.Frag) (H : Hp) (N : Addr → Prop) : Addr → D → Prop
  | lst {a : Addr} {xs : List V} {ds : List D} : H a = some (.lst xs) → RpAll K H N xs ds → Root K H N a (.list ds)
  | dct {a : Addr} {kvs : List (Key × V)} {es : List (D × D)} : H a = some (.dK kvs) → RpKV K H N kvs es → Root K H N a (.dict es)
theorem Root.there {K : PySem.W.Frag} {H : Hp} {N : Addr → Prop} {a : Addr} {d : D} (r : Root K H N a d) : ∃ o, H a = some o ∧ Mu o := by
  cases r with
  | lst h _ => exact ⟨_, h, trivial⟩
  | dct h _ => exact ⟨_, h, trivial⟩
theorem Root.rpC {K : PySem.W.Frag} {H : Hp} {N : Addr → Prop} {a : Addr} {d : D} (r : Root K H N a d) : RpC K H N (.ref a) d := by
  cases r with
  | lst h q => exact .lst (.inl h) q
  | dct h q => exact .dct (.inl h) q
theorem Root.same {K : PySem.W.Frag} {H H' : Hp} {N N' : Addr → Prop} {a : Addr} {d : D} (s : Same H H') (sub : ∀ a, N' a → N a) (r : Root K H N a d) : Root K H' N' a d := by
  cases r with
  | lst h q => exact .lst (s _ _ h) (q.fwd (.sub_same s sub))
  | dct h q => exact .dct (s _ _ h) (q.fwd (.sub_same s sub))
/-- kept where its own address is -/
theorem Root.at {K : PySem.W.Frag} {H H' : Hp} {N N' : Addr → Prop} {a : Addr} {d : D} (f : Fwd K N N' H H') (e : H' a = H a) (r : Root K H N a d) : Root K H' N' a d := by
  cases r with
  | lst h q => exact .lst (e.trans h) (q.fwd f)
  | dct h q => exact .dct (e.trans h) (q.fwd f)
theorem Root.rp {K : PySem.W.Frag} {H : Hp} {N : Addr → Prop} {a : Addr} {d : D} (r : Root K H N a d) (n : ¬ N a) : Rp K H N (.ref a) d := by
  cases r with
  | lst h q => exact .lst (.inl h) n q
  | dct h q => exact .dct (.inl h) n q

structure StR (K : PySem.W.Frag) (G : Amb) (σ : L2.St) (H : Hp) (env : EnvD) : Prop where
  len : env.length = σ.length
  keep : Keep G.IO G.H0 H
  shr : ∀ (i : Nat) (d : D), env[i]? = some (PV.Cell.shr d) → ∃ v, σ[i]? = some (some v) ∧ Rp K H (G.R σ env) v d
  own : ∀ (i : Nat) (d : D), env[i]? = some (PV.Cell.own d) → ∃ a, σ[i]? = some (some (V.ref a)) ∧ Root K H (G.R σ env) a d ∧ (G.H0 a = none ∨ G.IO a) ∧ ¬ G.Z a
  dis : ∀ (i j : Nat) (d e : D) (a : Addr), env[i]? = some (PV.Cell.own d) → env[j]? = some (PV.Cell.own e) → σ[i]? = some (some (V.ref a)) → σ[j]? = some (some (V.ref a)) → i = j
  zd : ∀ a, G.Z a → (∃ o, H a = some o) ∧ G.H0 a = none
  fix : ∀ i ∈ G.fx, σ[i]? = some (some (V.ref (G.fa i))) ∧ ∃ d, env[i]? = some (PV.Cell.own d)

section
variable {K : PySem.W.Frag} {G : Amb} {σ : L2.St} {H H' H1 H2 : Hp} {env env' env1 env2 : EnvD}
theorem StR.dom (S : StR K G σ H env) : ∀ a, G.R σ env a → ∃ o, H a = some o := by
  intro a h
  rcases h with (h | h) | ⟨i, d, e1, e2⟩
  · exact S.keep.there (G.nd a h)
  · exact (S.zd a h).1
  · obtain ⟨b, e3, r, _⟩ := S.own i d e1
    have : a = b := by rw [e2] at e3; cases e3; rfl
    subst this
    obtain ⟨o, q, _⟩ := r.there
    exact ⟨o, q⟩
theorem StR.same (S : StR K G σ H env) (s : Same H H') : StR K G σ H' env where
  len := S.len
  keep := S.keep.trans (Keep.of_same (N := G.IO) s) fun _ _ h => h
  shr := fun i d e => let ⟨v, e1, r⟩ := S.shr i d e; ⟨v, e1, r.fwd (.of_same s)⟩
  own := fun i d e => let ⟨a, e1, r, o⟩ := S.own i d e; ⟨a, e1, r.same s (fun _ h => h), o⟩
  dis := S.dis
  zd := fun a z => let ⟨⟨o, e⟩, n⟩ := S.zd a z; ⟨⟨o, s _ _ e⟩, n⟩
  fix := S.fix

/-- what an expression may do -/
structure Eff (K : PySem.W.Frag) (G : Amb) (p : Bool) (σ : L2.St) (H : Hp) (env : EnvD) (H' : Hp) (env' : EnvD) : Prop where
  st : StR K G σ H' env'
  pure : p = true → env' = env ∧ Same H H'
  keepo : Keep (rts σ env) H H'
  subo : ∀ a, rts σ env' a → rts σ env a
theorem R_of {σ' : L2.St} (h : ∀ a, rts σ' env' a → rts σ env a) (a : Addr) (z : G.R σ' env' a) : G.R σ env a := z.imp id (h a)
theorem Eff.keep {p : Bool} (f : Eff K G p σ H env H' env') : Keep (G.R σ env) H H' := f.keepo.mono fun _ z => .inr z
theorem Eff.sub {p : Bool} (f : Eff K G p σ H env H' env') : ∀ a, G.R σ env' a → G.R σ env a := R_of f.subo
theorem Eff.refl {p : Bool} (S : StR K G σ H env) : Eff K G p σ H env H env := ⟨S, fun _ => ⟨rfl, Same.refl H⟩, .refl _ _, fun _ h => h⟩
theorem Eff.of_same {p : Bool} (S : StR K G σ H env) (s : Same H H') : Eff K G p σ H env H' env := ⟨S.same s, fun _ => ⟨rfl, s⟩, .of_same s, fun _ h => h⟩
theorem Eff.trans {p p' : Bool} (a : Eff K G p σ H env H1 env1) (b : Eff K G p' σ H1 env1 H2 env2) : Eff K G (p && p') σ H env H2 env2 where
  st := b.st
  pure := fun h => by
    have h2 := Bool.and_eq_true_iff.mp h
    obtain ⟨e1, s1⟩ := a.pure h2.1
    obtain ⟨e2, s2⟩ := b.pure h2.2
    exact ⟨e2.trans e1, s1.trans s2⟩
  keepo := a.keepo.trans b.keepo fun c _ h => a.subo c h
  subo := fun c h => a.subo c (b.subo c h)
theorem Eff.weak {p p' : Bool} (a : Eff K G p σ H env H1 env1) (h : p' = true → p = true) : Eff K G p' σ H env H1 env1 := ⟨a.st, fun e => a.pure (h e), a.keepo, a.subo⟩

inductive Lvl where
  | bor | saf | fre
def Lvl.safe : Lvl → Bool
  | .bor => false
  | _ => true
def RpX (l : Lvl) (K : PySem.W.Frag) (H H' : Hp) (N : Addr → Prop) (v : V) (d : D) : Prop := match l with
  | .bor => RpC K H' N v d
  | .saf => Rp K H' N v d
  | .fre => RpF K H H' N v d
theorem RpF.rp {N : Addr → Prop} {v : V} {d : D} (dom : ∀ a, N a → ∃ o, H a = some o) (h : RpF K H H' N v d) : Rp K H' N v d := by
  have n : ∀ a, H a = none → ¬ N a := fun a e z => by
    obtain ⟨o, q⟩ := dom a z
    rw [e] at q; cases q
  cases d with
  | list ds =>
    obtain ⟨a, xs, rfl, h1, h2, h3⟩ := h
    exact .lst (.inl h2) (n a h1) (h3.fwd (.sub_same (Same.refl _) fun _ z => .inl z))
  | dict es =>
    obtain ⟨a, xs, rfl, h1, h2, h3⟩ := h
    exact .dct (.inl h2) (n a h1) (h3.fwd (.sub_same (Same.refl _) fun _ z => .inl z))
  | none => exact h
  | bool _ => exact h
  | int _ => exact h
  | str _ => exact h
  | tuple _ => exact h
theorem RpX.rp {l : Lvl} {N : Addr → Prop} {v : V} {d : D} (dom : ∀ a, N a → ∃ o, H a = some o) (hl : l.safe = true) (h : RpX l K H H' N v d) : Rp K H' N v d := by
  cases l with
  | bor => cases hl
  | saf => exact h
  | fre => exact RpF.rp dom h
theorem RpX.rpC {l : Lvl} {N : Addr → Prop} {v : V} {d : D} (dom : ∀ a, N a → ∃ o, H a = some o) (h : RpX l K H H' N v d) : RpC K H' N v d := by
  cases l with
  | bor => exact h
  | saf => exact .of h
  | fre => exact .of (RpF.rp dom h)

/-- what is wanted behind the machine of data -/
def Ok {α : Type} (K : PySem.W.Frag) (G : Amb) (p : Bool) (σ : L2.St) (H : Hp) (env : EnvD) (r : Res α) (P : α → EnvD → Hp → Prop) : Prop := match r with
  | .ok a env' => ∀ H', Eff K G p σ H env H' env' → P a env' H'
  | .exc x env' => ∀ c d H', Eff K G p σ H env H' env' → G.XR x c d H' → G.W c d σ H'
  | .no => False
theorem Ok.bind {α β : Type} {p p' : Bool} {m : M α} {k : α → M β} {P : β → EnvD → Hp → Prop} (h : Ok K G (p && p') σ H env (bnd m k env) P) :
    Ok K G p σ H env (m env) fun a env1 H1 => Eff K G p σ H env H1 env1 ∧ Ok K G p' σ H1 env1 (k a env1) P := by
  unfold bnd at h
  unfold Ok
  cases e : m env with
  | no => rw [e] at h; exact h
  | exc x env1 =>
    rw [e] at h
    exact fun c d H1 f hx => h c d H1 (f.weak fun z => (Bool.and_eq_true_iff.mp z).1) hx
  | ok a env1 =>
    rw [e] at h
    intro H1 f
    refine ⟨f, ?_⟩
    simp only at h
    unfold Ok at h
    cases e2 : k a env1 with
    | no => rw [e2] at h; exact h
    | exc x env2 =>
      rw [e2] at h
      exact fun c d H2 f2 hx => h c d H2 (f.trans f2) hx
    | ok b env2 =>
      rw [e2] at h
      exact fun H2 f2 => h H2 (f.trans f2)
theorem Ok.mono {α : Type} {p : Bool} {r : Res α} {P P' : α → EnvD → Hp → Prop} (h : Ok K G p σ H env r P) (q : ∀ a e H1, P a e H1 → P' a e H1) : Ok K G p σ H env r P' := by
  cases r with
  | no => exact h
  | exc x e => exact h
  | ok a e => exact fun H1 f => q _ _ _ (h H1 f)
theorem Ok.weak {α : Type} {p p' : Bool} {r : Res α} {P : α → EnvD → Hp → Prop} (h : Ok K G p σ H env r P) (q : p' = true → p = true) (hp : p = true → p' = true) : Ok K G p' σ H env r P := by
  have e : p = p' := by cases p <;> cases p' <;> simp_all
  subst e; exact h
theorem Ok.lft {α : Type} {p : Bool} {o : Option α} {P : α → EnvD → Hp → Prop} (S : StR K G σ H env) (h : Ok K G p σ H env (lft o env) P) : ∃ a, o = some a ∧ ∀ H', Same H H' → P a env H' := by
  cases o with
  | none => exact False.elim h
  | some a => exact ⟨a, rfl, fun H' s => h H' (.of_same S s)⟩

def tM (K : PySem.W.Frag) (G : Amb) (p : Bool) (l : Lvl) (f : M D) : TE := fun σ H Q => ∃ env, StR K G σ H env ∧
  Ok K G p σ H env (f env) fun d env' H' => ∀ v, RpX l K H H' (G.R σ env') v d → Q v H'
def tMT (K : PySem.W.Frag) (G : Amb) (p : Bool) (f : M Bool) : TT := fun σ H Q => ∃ env, StR K G σ H env ∧
  Ok K G p σ H env (f env) fun b env' H' => Q b H'
inductive RpCAll (K : PySem.W.Frag) (H : Hp) (N : Addr → Prop) : List V → List D → Prop
  | nil : RpCAll K H N [] []
  | cons {v : V} {vs : List V} {d : D} {ds : List D} : RpC K H N v d → RpCAll K H N vs ds → RpCAll K H N (v :: vs) (d :: ds)
def RpA (sf : Bool) (K : PySem.W.Frag) (H : Hp) (N : Addr → Prop) (vs : List V) (ds : List D) : Prop := if sf = true then RpAll K H N vs ds else RpCAll K H N vs ds
def tMA (K : PySem.W.Frag) (G : Amb) (p : Bool) (sf : Bool) (f : M (List D)) : TA := fun σ H Q => ∃ env, StR K G σ H env ∧
  Ok K G p σ H env (f env) fun ds env' H' => ∀ vs, RpA sf K H' (G.R σ env') vs ds → Q vs H'
end

/-! the judgements -/
def J (X : Cx) (G : Amb) (p : Bool) (l : Lvl) (e : Expr) (f : M D) : Prop := PE X e (tM X.K G p l f)
def JT (X : Cx) (G : Amb) (p : Bool) (e : Expr) (f : M Bool) : Prop := PT X e (tMT X.K G p f)
def JW (X : Cx) (G : Amb) (p : Bool) (e : Expr) (f : M Bool) : Prop := PW X e (tMT X.K G p f)
def JA (X : Cx) (G : Amb) (p : Bool) (sf : Bool) (es : List Expr) (f : M (List D)) : Prop := PA X es (tMA X.K G p sf f)
theorem pe_mono {X : Cx} {e : Expr} {t t' : TE} (h : PE X e t) (m : ∀ σ H Q, t' σ H Q → t σ H Q) : PE X e t' := ⟨fun pins s σ H Q I q => h.run pins s σ H Q I (m _ _ _ q)⟩
theorem pt_mono {X : Cx} {e : Expr} {t t' : TT} (h : PT X e t) (m : ∀ σ H Q, t' σ H Q → t σ H Q) : PT X e t' := ⟨fun pins s σ H Q I q => h.run pins s σ H Q I (m _ _ _ q)⟩
theorem pw_mono {X : Cx} {e : Expr} {t t' : TT} (h : PW X e t) (m : ∀ σ H Q, t' σ H Q → t σ H Q) : PW X e t' := ⟨fun wh pins s σ H Q I q => h.run wh pins s σ H Q I (m _ _ _ q)⟩
theorem pa_mono {X : Cx} {e : List Expr} {t t' : TA} (h : PA X e t) (m : ∀ σ H Q, t' σ H Q → t σ H Q) : PA X e t' := ⟨fun pos pins s σ H Q I q => h.run pos pins s σ H Q I (m _ _ _ q)⟩
theorem ps_mono {X : Cx} {e : Stmt} {t t' : TS} (h : PS X e t) (m : ∀ Dn σ H, t' Dn σ H → t Dn σ H) : PS X e t' := ⟨fun pins s σ H Dn I q => h.run pins s σ H Dn I (m _ _ _ q)⟩
theorem pss_mono {X : Cx} {e : List Stmt} {t t' : TS} (h : PSs X e t) (m : ∀ Dn σ H, t' Dn σ H → t Dn σ H) : PSs X e t' := ⟨fun pins s σ H Dn I q => h.run pins s σ H Dn I (m _ _ _ q)⟩

section
variable {X : Cx} {G : Amb} {p pa pb pc : Bool} {l la lb : Lvl} {e a b c : Expr} {es : List Expr} {f fa fb fc : M D} {pos : Pos}

/-! ### levels -/
theorem J.saf (h : J X G p l e f) (hl : l.safe = true := by rfl) : J X G p .saf e f := pe_mono h fun σ H Q ⟨env, S, q⟩ => ⟨env, S, by
  revert q; unfold Ok
  cases f env with
  | no => exact id
  | exc x e1 => exact id
  | ok d e1 => exact fun q H' f v r => q H' f v (RpX.rp (fun a z => f.st.dom a z |> fun _ => S.dom a (f.sub a z)) hl r)⟩
theorem J.bor (h : J X G p l e f) : J X G p .bor e f := pe_mono h fun σ H Q ⟨env, S, q⟩ => ⟨env, S, by
  revert q; unfold Ok
  cases f env with
  | no => exact id
  | exc x e1 => exact id
  | ok d e1 => exact fun q H' f v r => q H' f v (RpX.rpC (fun a z => S.dom a (f.sub a z)) r)⟩
theorem J.imp (h : J X G true l e f) : J X G false l e f := pe_mono h fun σ H Q ⟨env, S, q⟩ => ⟨env, S, by
  revert q; unfold Ok
  cases f env with
  | no => exact id
  | exc x e1 => exact fun q c d H' f hx => q c d H' (f.weak nofun) hx
  | ok d e1 => exact fun q H' f v r => q H' (f.weak nofun) v r⟩
end
end PV
namespace PV
open PySem PySem.Spec PyProof.Rows L2

/-! the machine's words -/
def rdS (i : Nat) : M D := fun e => match e[i]? with
  | some (.shr d) => .ok d e
  | _ => .no
def rdB (i : Nat) : M D := fun e => match e[i]? with
  | some (.shr d) => .ok d e
  | some (.own d) => .ok d e
  | _ => .no
def rdF (i : Nat) : M D := fun e => match e[i]? with
  | some (.shr d) => .ok d e
  | some (.own d) => .ok d (e.set i (.shr d))
  | _ => .no
def op1 (g : D → Option D) (m : M D) : M D := bnd m fun a => lft (g a)
def op2 (g : D → D → Option D) (m k : M D) : M D := bnd m fun a => bnd k fun b => lft (g a b)
def ifE {α : Type} (t : M Bool) (a b : M α) : M α := bnd t fun c => if c = true then a else b
def truD : D → Option Bool
  | .none => some false
  | .bool b => some b
  | .int i => some (i != 0)
  | .str y => if y.length ≤ sizeLine then some ((y.length : Int) != 0) else none
  | .tuple ds => some (!ds.isEmpty)
  | .list ds => some (!ds.isEmpty)
  | .dict _ => none
def tru (m : M D) : M Bool := bnd m fun a => lft (truD a)
def andT (a b : M Bool) : M Bool := bnd a fun x => if x = true then b else ret false
def orT (a b : M Bool) : M Bool := bnd a fun x => if x = true then ret true else b
def notT (a : M Bool) : M Bool := bnd a fun x => ret (!x)
def bolD : D → Option Bool
  | .bool b => some b
  | _ => none
def andV (a b : M D) : M D := bnd a fun x => bnd (lft (bolD x)) fun c => if c = true then b else ret (.bool false)
def orV (a b : M D) : M D := bnd a fun x => bnd (lft (bolD x)) fun c => if c = true then ret (.bool true) else b
def nilA : M (List D) := ret []
def consA (a : M D) (r : M (List D)) : M (List D) := bnd a fun x => bnd r fun xs => ret (x :: xs)
def tupE (r : M (List D)) : M D := bnd r fun ds => lft (if ds.length ≤ sizeLine then some (.tuple ds) else none)
def lstE (r : M (List D)) : M D := bnd r fun ds => lft (if ds.length ≤ sizeLine then some (.list ds) else none)

section
variable {K : PySem.W.Frag} {G : Amb} {σ : L2.St} {H H' H1 H2 : Hp} {env env' env1 env2 : EnvD}
theorem Eff.back {p : Bool} (f : Eff K G p σ H env H1 env1) {l : Lvl} {N : Addr → Prop} {v : V} {d : D} (h : RpX l K H1 H' N v d) : RpX l K H H' N v d := by
  cases l with
  | bor => exact h
  | saf => exact h
  | fre =>
    have n : ∀ a, H1 a = none → H a = none := fun a e => by
      cases q : H a with
      | none => rfl
      | some o =>
        obtain ⟨o', z⟩ := f.keep.there ⟨o, q⟩
        rw [e] at z; cases z
    cases d with
    | list ds =>
      obtain ⟨a, xs, e, h1, r⟩ := h
      exact ⟨a, xs, e, n a h1, r⟩
    | dict ds =>
      obtain ⟨a, xs, e, h1, r⟩ := h
      exact ⟨a, xs, e, n a h1, r⟩
    | none => exact h
    | bool _ => exact h
    | int _ => exact h
    | str _ => exact h
    | tuple _ => exact h
/-- a value already there, behind more work -/
theorem Eff.carry {p : Bool} (f : Eff K G p σ H1 env1 H2 env2) (S : StR K G σ H1 env1) {l : Lvl} {v : V} {d : D} (h : RpX l K H H1 (G.R σ env1) v d) (dom : ∀ a, G.R σ env1 a → ∃ o, H a = some o)
    (hs : (l.safe || p) = true) : RpC K H2 (G.R σ env2) v d ∧ (l.safe = true → Rp K H2 (G.R σ env2) v d) := by
  have saf : l.safe = true → Rp K H2 (G.R σ env2) v d := fun q => (RpX.rp dom q h).fwd (.of_keep f.keep f.sub)
  refine ⟨?_, saf⟩
  cases hl : l.safe with
  | true => exact .of (saf hl)
  | false =>
    rw [hl] at hs
    obtain ⟨e, s⟩ := f.pure (by simpa using hs)
    exact (RpX.rpC dom h).same s f.sub
end

theorem Ok.bind3 {K : PySem.W.Frag} {G : Amb} {σ : L2.St} {H : Hp} {env : EnvD} {α β : Type} {p p' p3 : Bool} {m : M α} {k : α → M β} {P : β → EnvD → Hp → Prop} (hp : p3 = (p && p')) (h : Ok K G p3 σ H env (bnd m k env) P) :
    Ok K G p σ H env (m env) fun a env1 H1 => Eff K G p σ H env H1 env1 ∧ Ok K G p' σ H1 env1 (k a env1) P := by
  subst hp; exact h.bind

def r1 (K : PySem.W.Frag) (l : Lvl) (g : D → Option D) : V → Hp → VK → Prop := fun x H Q => ∃ (N : Addr → Prop) (da d : D), (∀ a, N a → ∃ o, H a = some o) ∧ RpC K H N x da ∧ g da = some d ∧
  ∀ v H', Same H H' → RpX l K H H' N v d → Q v H'
def r2 (K : PySem.W.Frag) (l : Lvl) (g : D → D → Option D) : R2 := fun x y H Q => ∃ (N : Addr → Prop) (da db d : D), (∀ a, N a → ∃ o, H a = some o) ∧ RpC K H N x da ∧ RpC K H N y db ∧ g da db = some d ∧
  ∀ v H', Same H H' → RpX l K H H' N v d → Q v H'

section
variable {X : Cx} {G : Amb} {p pa pb pc : Bool} {l la lb : Lvl} {e a b c : Expr} {es rest : List Expr} {f fa fb fc : M D} {pos : Pos} {ta tb : M Bool}

/-! ### names, constants -/
theorem j_rdS (i : Nat) {x : Str} (h : PE X (.Name x pos) (tVar i)) : J X G true .saf (.Name x pos) (rdS i) := pe_mono h fun σ H Q ⟨env, S, q⟩ => by
  unfold rdS at q
  cases ec : env[i]? with
  | none => rw [ec] at q; exact q.elim
  | some cc =>
    rw [ec] at q
    cases cc with
    | emp => exact q.elim
    | own d => exact q.elim
    | shr d =>
      obtain ⟨v, e1, r⟩ := S.shr i d ec
      exact ⟨v, e1, q H (.refl S) v r⟩
theorem j_rdB (i : Nat) {x : Str} (h : PE X (.Name x pos) (tVar i)) : J X G true .bor (.Name x pos) (rdB i) := pe_mono h fun σ H Q ⟨env, S, q⟩ => by
  unfold rdB at q
  cases ec : env[i]? with
  | none => rw [ec] at q; exact q.elim
  | some cc =>
    rw [ec] at q
    cases cc with
    | emp => exact q.elim
    | own d =>
      obtain ⟨a, e1, r, _⟩ := S.own i d ec
      exact ⟨_, e1, q H (.refl S) _ r.rpC⟩
    | shr d =>
      obtain ⟨v, e1, r⟩ := S.shr i d ec
      exact ⟨v, e1, q H (.refl S) v (.of r)⟩
theorem rts_set_shr {σ : L2.St} {env : EnvD} {i : Nat} {d : D} {a : Addr} (h : rts σ (env.set i (.shr d)) a) : rts σ env a := by
  obtain ⟨j, e, h1, h2⟩ := h
  by_cases hj : i = j
  · subst hj
    by_cases hl : i < env.length
    · rw [List.getElem?_set_self hl] at h1; cases h1
    · rw [List.getElem?_eq_none (by rw [List.length_set]; omega)] at h1; cases h1
  · rw [List.getElem?_set_ne hj] at h1
    exact ⟨j, e, h1, h2⟩
/-- an own thing is made a shared one -/
theorem StR.freeze {K : PySem.W.Frag} {σ : L2.St} {H : Hp} {env : EnvD} (S : StR K G σ H env) {i : Nat} {d : D} (hi : i ∉ G.fx) (h : env[i]? = some (PV.Cell.own d)) : StR K G σ H (env.set i (.shr d)) ∧ ∀ a, rts σ (env.set i (.shr d)) a → rts σ env a := by
  have sub : ∀ a, G.R σ (env.set i (.shr d)) a → G.R σ env a := fun a z => z.imp id rts_set_shr
  have hl : i < env.length := by
    rcases Nat.lt_or_ge i env.length with z | z
    · exact z
    · rw [List.getElem?_eq_none z] at h; cases h
  refine ⟨⟨by rw [List.length_set]; exact S.len, S.keep, fun j d' e => ?_, fun j d' e => ?_, fun j k d1 d2 a e1 e2 => ?_, S.zd, fun j hj => ?_⟩, fun a z => rts_set_shr z⟩
  · by_cases hj : i = j
    · subst hj
      rw [List.getElem?_set_self hl] at e
      cases e
      obtain ⟨a, e1, r, ho, hz⟩ := S.own i d h
      refine ⟨_, e1, (r.same (Same.refl H) sub).rp fun w => ?_⟩
      rcases w with (w | w) | ⟨k, d2, h1, h2⟩
      · rcases ho with ho | ⟨j, hj, ho⟩
        · obtain ⟨o, z⟩ := G.nd a w
          rw [ho] at z; cases z
        · obtain ⟨z1, d3, z2⟩ := S.fix j hj
          rw [ho] at z1
          exact hi (S.dis i j _ _ a h z2 e1 z1 ▸ hj)
      · exact hz w
      · have hk : i ≠ k := fun q => by
          subst q
          rw [List.getElem?_set_self hl] at h1; cases h1
        rw [List.getElem?_set_ne hk] at h1
        exact hk (S.dis i k _ _ a h h1 e1 h2)
    · rw [List.getElem?_set_ne hj] at e
      obtain ⟨v, e1, r⟩ := S.shr j d' e
      exact ⟨v, e1, r.fwd (.sub_same (Same.refl H) sub)⟩
  · have hj : i ≠ j := fun q => by
      subst q
      rw [List.getElem?_set_self hl] at e; cases e
    rw [List.getElem?_set_ne hj] at e
    obtain ⟨a, e1, r, o⟩ := S.own j d' e
    exact ⟨a, e1, r.same (Same.refl H) sub, o⟩
  · have hj : i ≠ j := fun q => by
      subst q
      rw [List.getElem?_set_self hl] at e1; cases e1
    have hk : i ≠ k := fun q => by
      subst q
      rw [List.getElem?_set_self hl] at e2; cases e2
    rw [List.getElem?_set_ne hj] at e1
    rw [List.getElem?_set_ne hk] at e2
    exact S.dis j k d1 d2 a e1 e2
  · have hj2 : i ≠ j := fun q => hi (q ▸ hj)
    rw [List.getElem?_set_ne hj2]
    exact S.fix j hj
end
end PV
namespace PV
open PySem PySem.Spec PyProof.Rows L2

section
variable {X : Cx} {G : Amb} {p pa pb pc : Bool} {l la lb : Lvl} {e a b c : Expr} {es rest : List Expr} {f fa fb fc : M D} {pos : Pos} {ta tb : M Bool}

theorem j_rdF (i : Nat) {x : Str} (h : PE X (.Name x pos) (tVar i)) (hi : G.fx.contains i = false := by rfl) : J X G false .saf (.Name x pos) (rdF i) := pe_mono h fun σ H Q ⟨env, S, q⟩ => by
  have hi' : i ∉ G.fx := fun z => by
    rw [List.contains_iff_mem.mpr z] at hi; cases hi
  unfold rdF at q
  cases ec : env[i]? with
  | none => rw [ec] at q; exact q.elim
  | some cc =>
    rw [ec] at q
    cases cc with
    | emp => exact q.elim
    | own d =>
      obtain ⟨a, e1, r, _⟩ := S.own i d ec
      obtain ⟨S2, sub⟩ := S.freeze hi' ec
      have hl : i < env.length := by
        rcases Nat.lt_or_ge i env.length with z | z
        · exact z
        · rw [List.getElem?_eq_none z] at ec; cases ec
      obtain ⟨v, e2, r2⟩ := S2.shr i d (List.getElem?_set_self hl)
      exact ⟨v, e2, q H ⟨S2, nofun, .refl _ _, sub⟩ v r2⟩
    | shr d =>
      obtain ⟨v, e1, r⟩ := S.shr i d ec
      exact ⟨v, e1, q H ⟨S, nofun, .refl _ _, fun _ z => z⟩ v r⟩
theorem j_cst {v : V} {d : D} (h : PE X e (tC v)) (r : ∀ (H : Hp) (N : Addr → Prop), RpX .fre X.K H H N v d) : J X G true .fre e (ret d) := pe_mono h fun σ H Q ⟨env, S, q⟩ => q H (.refl S) v (r H _)
theorem j_int {i : Int} {j : Nat} : J X G true .fre (.Constant (.int i) j pos) (ret (.int i)) := j_cst pe_int fun _ _ => .int i
theorem j_str {x : Str} {j : Nat} (h : PyData.strOk x = true := by decide) : J X G true .fre (.Constant (.str x) j pos) (ret (.str x)) := j_cst pe_str fun _ _ => .str x h
theorem j_bl {x : Bool} {j : Nat} : J X G true .fre (.Constant (.bool x) j pos) (ret (.bool x)) := j_cst pe_bl fun _ _ => .bl x
theorem j_non {j : Nat} : J X G true .fre (.Constant .none j pos) (ret .none) := j_cst pe_non fun _ _ => .non

/-! ### operations -/
theorem tM_op1 {σ : L2.St} {H : Hp} {Q : VK} {g : D → Option D} (h : tM X.K G p l (op1 g fa) σ H Q) : tM X.K G p la fa σ H fun x H1 => r1 X.K l g x H1 Q := by
  obtain ⟨env, S, q⟩ := h
  refine ⟨env, S, (Ok.bind3 (p' := true) (by simp) q).mono fun da env1 H1 ⟨f1, q1⟩ v rv => ?_⟩
  have dom : ∀ a, G.R σ env1 a → ∃ o, H1 a = some o := f1.st.dom
  obtain ⟨d, e, q2⟩ := q1.lft f1.st
  refine ⟨G.R σ env1, da, d, dom, ?_, e, fun v' H' s r => q2 H' s v' ?_⟩
  · exact RpX.rpC (fun a z => S.dom a (f1.sub a z)) rv
  · exact f1.back r
theorem tM_op2 {σ : L2.St} {H : Hp} {Q : VK} {g : D → D → Option D} (hs : (la.safe || pb) = true) (h : tM X.K G (pa && pb) l (op2 g fa fb) σ H Q) :
    tM X.K G pa la fa σ H fun x H1 => tM X.K G pb lb fb σ H1 fun y H2 => r2 X.K l g x y H2 Q := by
  obtain ⟨env, S, q⟩ := h
  refine ⟨env, S, (Ok.bind3 (p' := pb) rfl q).mono fun da env1 H1 ⟨f1, q1⟩ v rv => ?_⟩
  refine ⟨env1, f1.st, (Ok.bind3 (p' := true) (by simp) q1).mono fun db env2 H2 ⟨f2, q2⟩ u ru => ?_⟩
  obtain ⟨d, e, q3⟩ := q2.lft f2.st
  refine ⟨G.R σ env2, da, db, d, f2.st.dom, ?_, ?_, e, fun v' H' s r => q3 H' s v' ?_⟩
  · exact (f2.carry f1.st rv (fun a z => S.dom a (f1.sub a z)) hs).1
  · exact RpX.rpC (fun a z => f1.st.dom a (f2.sub a z)) ru
  · exact f1.back (f2.back r)
theorem j_op {op : Operator} {g : D → D → Option D} (ho : OpR X (binaryOp op) (r2 X.K l g)) (ha : J X G pa la a fa) (hb : J X G pb lb b fb) (hs : (la.safe || pb) = true := by rfl) :
    J X G (pa && pb) l (.BinOp a op b pos) (op2 g fa fb) := pe_mono (pe_op ho ha hb) fun σ H Q h => tM_op2 hs h
theorem j_un {op : UnaryOp} {g : D → Option D} (ho : UnR X (unaryOp op) (r1 X.K l g)) (ha : J X G p la a fa) : J X G p l (.UnaryOp op a pos) (op1 g fa) := pe_mono (pe_un ho ha) fun σ H Q h => tM_op1 h
theorem j_cmp {op : CmpOp} {g : D → D → Option D} (ho : OpR X (compareOp op) (r2 X.K l g)) (ha : J X G pa la a fa) (hb : J X G pb lb b fb) (hm : behindInMarks op b = false := by first | exact nomark _ | rfl) (hs : (la.safe || pb) = true := by rfl) :
    J X G (pa && pb) l (.Compare a [op] [b] pos) (op2 g fa fb) := pe_mono (pe_cmpR ho ha hb hm) fun σ H Q h => tM_op2 hs h
theorem j_ix {g : D → D → Option D} (ho : IxR X (r2 X.K l g)) (ha : J X G pa la a fa) (hb : J X G pb lb b fb) (hp : PlainIx b := by exact fun _ _ => rfl) (hs : (la.safe || pb) = true := by rfl) :
    J X G (pa && pb) l (.Subscript a b pos) (op2 g fa fb) := pe_mono (pe_ix ho ha hb hp) fun σ H Q h => tM_op2 hs h

/-! ### truth -/
theorem truD_V {K : PySem.W.Frag} {H : Hp} {N : Addr → Prop} {v : V} {d : D} {k : Bool} (r : RpC K H N v d) (h : truD d = some k) : TruV K v H k := by
  cases d with
  | none =>
    rw [r.none]
    cases h; rfl
  | bool b =>
    rw [r.bool]
    cases h; rfl
  | int i =>
    rw [r.int]
    cases h; rfl
  | str y =>
    rw [r.str]
    simp only [truD] at h
    by_cases q : y.length ≤ sizeLine
    · rw [if_pos q] at h
      cases h
      exact ⟨q, rfl⟩
    · rw [if_neg q] at h; cases h
  | tuple ds =>
    obtain ⟨a, xs, rfl, h1, h2⟩ := r.tuple
    cases h
    exact .inr (.inl ⟨xs, h1, by cases h2 <;> rfl⟩)
  | list ds =>
    obtain ⟨a, xs, rfl, h1, h2⟩ := r.list
    cases h
    exact .inl ⟨xs, .inl h1, by cases h2 <;> rfl⟩
  | dict ds =>
    cases h
theorem jt_tru (ha : J X G p la a fa) (he : ∀ whole, isTrue a X.env whole = (do let v ← whole; standAt a.pos; holding [v] (truthy v)) := by intro _; rfl) : JT X G p a (tru fa) := pt_mono (pt_truth ha he) fun σ H Q ⟨env, S, q⟩ => by
  refine ⟨env, S, (Ok.bind3 (p' := true) (by simp) q).mono fun da env1 H1 ⟨f1, q1⟩ v rv => ?_⟩
  obtain ⟨k, e, q2⟩ := q1.lft f1.st
  exact ⟨k, truD_V (RpX.rpC (fun a z => S.dom a (f1.sub a z)) rv) e, q2 H1 (Same.refl _)⟩
theorem jt_cmp {op : CmpOp} {g : D → D → Option D} (ho : OpR X (compareOp op) (r2 X.K l g)) (ha : J X G pa la a fa) (hb : J X G pb lb b fb) (hm : behindInMarks op b = false := by first | exact nomark _ | rfl) (hs : (la.safe || pb) = true := by rfl) :
    JT X G (pa && pb) (.Compare a [op] [b] pos) (bnd (op2 g fa fb) fun d => lft (bolD d)) := pt_mono (pt_cmpR ho ha hb hm) fun σ H Q ⟨env, S, q⟩ => by
  have h2 : tM X.K G (pa && pb) l (op2 g fa fb) σ H fun x H' => ∃ k, x = .bl k ∧ Q k H' := by
    refine ⟨env, S, (Ok.bind3 (p' := true) (by simp) q).mono fun d env1 H1 ⟨f1, q1⟩ v rv => ?_⟩
    obtain ⟨k, e, q2⟩ := q1.lft f1.st
    cases d with
    | bool bb =>
      cases e
      exact ⟨_, (RpX.rpC (fun a z => S.dom a (f1.sub a z)) rv).bool, q2 H1 (Same.refl _)⟩
    | _ => cases e
  exact tM_op2 hs h2

theorem Ok.ret {α : Type} {K : PySem.W.Frag} {σ : L2.St} {H : Hp} {env : EnvD} {x : α} {P : α → EnvD → Hp → Prop} (S : StR K G σ H env) (h : Ok K G p σ H env (ret x env) P) : P x env H := h H (.refl S)
theorem Ok.fix {α : Type} {K : PySem.W.Frag} {σ : L2.St} {H H1 : Hp} {env env1 : EnvD} {P : α → EnvD → Hp → Prop} {r : Res α} (f : Eff K G p σ H env H1 env1) (h : Ok K G pa σ H1 env1 r P) : Ok K G pa σ H1 env1 r P := h

theorem jw_and1 (ha : JT X G p a ta) : JW X G p (.BoolOp .And [a] pos) ta := pw_and1 ha
theorem jw_or1 (ha : JT X G p a ta) : JW X G p (.BoolOp .Or [a] pos) ta := pw_or1 ha
theorem jw_and (ha : JT X G pa a ta) (hb : JW X G pb (.BoolOp .And (b :: rest) pos) tb) : JW X G (pa && pb) (.BoolOp .And (a :: b :: rest) pos) (andT ta tb) := pw_mono (pw_and ha hb) fun σ H Q ⟨env, S, q⟩ => by
  refine ⟨env, S, (Ok.bind3 (p' := pb) rfl q).mono fun x env1 H1 ⟨f1, q1⟩ => ?_⟩
  cases x with
  | true =>
    simp only [if_true] at q1 ⊢
    exact ⟨env1, f1.st, q1⟩
  | false =>
    simp only [Bool.false_eq_true, if_false] at q1 ⊢
    exact q1.ret f1.st
theorem jw_or (ha : JT X G pa a ta) (hb : JW X G pb (.BoolOp .Or (b :: rest) pos) tb) : JW X G (pa && pb) (.BoolOp .Or (a :: b :: rest) pos) (orT ta tb) := pw_mono (pw_or ha hb) fun σ H Q ⟨env, S, q⟩ => by
  refine ⟨env, S, (Ok.bind3 (p' := pb) rfl q).mono fun x env1 H1 ⟨f1, q1⟩ => ?_⟩
  cases x with
  | true =>
    simp only [if_true] at q1 ⊢
    exact q1.ret f1.st
  | false =>
    simp only [Bool.false_eq_true, if_false] at q1 ⊢
    exact ⟨env1, f1.st, q1⟩
theorem JW.jt (h : JW X G p e ta) : JT X G p e ta := PW.pt h
theorem jt_not (ha : JT X G p a ta) : JT X G p (.UnaryOp .Not a pos) (notT ta) := pt_mono (pt_not ha) fun σ H Q ⟨env, S, q⟩ => by
  refine ⟨env, S, (Ok.bind3 (p' := true) (by simp) q).mono fun x env1 H1 ⟨f1, q1⟩ => q1.ret f1.st⟩
/-- .. as values -/
theorem j_one {op : BoolOp} (h : J X G p l a fa) : J X G p l (.BoolOp op [a] pos) fa := pe_one h
theorem bol_of {K : PySem.W.Frag} {H H' : Hp} {N : Addr → Prop} {v : V} {d : D} {k : Bool} (dom : ∀ a, N a → ∃ o, H a = some o) (r : RpX la K H H' N v d) (e : bolD d = some k) : d = .bool k ∧ v = .bl k := by
  cases d with
  | bool bb =>
    cases e
    exact ⟨rfl, (RpX.rpC dom r).bool⟩
  | _ => cases e
theorem j_and (ha : J X G pa la a fa) (hb : J X G pb .fre (.BoolOp .And (b :: rest) pos) fb) : J X G (pa && pb) .fre (.BoolOp .And (a :: b :: rest) pos) (andV fa fb) := pe_mono (pe_and ha hb) fun σ H Q ⟨env, S, q⟩ => by
  refine ⟨env, S, (Ok.bind3 (p' := pb) rfl q).mono fun x env1 H1 ⟨f1, q1⟩ v rv => ?_⟩
  obtain ⟨k, e, q2⟩ : ∃ k, bolD x = some k ∧ Ok X.K G pb σ H1 env1 ((if k = true then fb else ret (PyData.bool false)) env1) _ := by
    cases e : bolD x with
    | none => rw [e] at q1; exact q1.elim
    | some k => rw [e] at q1; exact ⟨k, rfl, q1⟩
  obtain ⟨rfl, rfl⟩ := bol_of (fun a z => S.dom a (f1.sub a z)) rv e
  refine ⟨k, rfl, ?_⟩
  cases k with
  | true =>
    simp only [if_true] at q2 ⊢
    exact ⟨env1, f1.st, q2.mono fun d e2 H2 q3 v rv => q3 v (f1.back rv)⟩
  | false =>
    simp only [Bool.false_eq_true, if_false] at q2 ⊢
    exact q2.ret f1.st _ (.bl false)
theorem j_or (ha : J X G pa la a fa) (hb : J X G pb .fre (.BoolOp .Or (b :: rest) pos) fb) : J X G (pa && pb) .fre (.BoolOp .Or (a :: b :: rest) pos) (orV fa fb) := pe_mono (pe_or ha hb) fun σ H Q ⟨env, S, q⟩ => by
  refine ⟨env, S, (Ok.bind3 (p' := pb) rfl q).mono fun x env1 H1 ⟨f1, q1⟩ v rv => ?_⟩
  obtain ⟨k, e, q2⟩ : ∃ k, bolD x = some k ∧ Ok X.K G pb σ H1 env1 ((if k = true then ret (PyData.bool true) else fb) env1) _ := by
    cases e : bolD x with
    | none => rw [e] at q1; exact q1.elim
    | some k => rw [e] at q1; exact ⟨k, rfl, q1⟩
  obtain ⟨rfl, rfl⟩ := bol_of (fun a z => S.dom a (f1.sub a z)) rv e
  refine ⟨k, rfl, ?_⟩
  cases k with
  | true =>
    simp only [if_true] at q2 ⊢
    exact q2.ret f1.st _ (.bl true)
  | false =>
    simp only [Bool.false_eq_true, if_false] at q2 ⊢
    exact ⟨env1, f1.st, q2.mono fun d e2 H2 q3 v rv => q3 v (f1.back rv)⟩
def notV (a : M D) : M D := bnd a fun x => bnd (lft (bolD x)) fun c => ret (PyData.bool (!c))
theorem j_not (ha : J X G p la a fa) : J X G p .fre (.UnaryOp .Not a pos) (notV fa) := pe_mono (pe_not ha) fun σ H Q ⟨env, S, q⟩ => by
  refine ⟨env, S, (Ok.bind3 (p' := true) (by simp) q).mono fun x env1 H1 ⟨f1, q1⟩ v rv => ?_⟩
  obtain ⟨k, e, q2⟩ : ∃ k, bolD x = some k ∧ Ok X.K G true σ H1 env1 (ret (PyData.bool (!k)) env1) _ := by
    cases e : bolD x with
    | none => rw [e] at q1; exact q1.elim
    | some k => rw [e] at q1; exact ⟨k, rfl, q1⟩
  obtain ⟨rfl, rfl⟩ := bol_of (fun a z => S.dom a (f1.sub a z)) rv e
  exact ⟨k, rfl, q2.ret f1.st _ (.bl (!k))⟩
theorem j_if {c : Expr} (hc : JT X G pc c ta) (ha : J X G pa l a fa) (hb : J X G pa l b fb) : J X G (pc && pa) l (.IfExp c a b pos) (ifE ta fa fb) := pe_mono (pe_ifExp hc ha hb) fun σ H Q ⟨env, S, q⟩ => by
  refine ⟨env, S, (Ok.bind3 (p' := pa) rfl q).mono fun x env1 H1 ⟨f1, q1⟩ => ?_⟩
  cases x with
  | true =>
    simp only [if_true] at q1 ⊢
    exact ⟨env1, f1.st, q1.mono fun d e2 H2 q3 v rv => q3 v (f1.back rv)⟩
  | false =>
    simp only [Bool.false_eq_true, if_false] at q1 ⊢
    exact ⟨env1, f1.st, q1.mono fun d e2 H2 q3 v rv => q3 v (f1.back rv)⟩

/-! ### argument lists, displays -/
theorem ja_nil (sf : Bool) : JA X G true sf [] nilA := pa_mono pa_nil fun σ H Q ⟨env, S, q⟩ => q.ret S _ (by unfold RpA; split; exact .nil; exact .nil)
theorem RpAll.all {K : PySem.W.Frag} {H : Hp} {N : Addr → Prop} : ∀ {vs : List V} {ds : List D}, RpAll K H N vs ds → RpCAll K H N vs ds
  | _, _, .nil => .nil
  | _, _, .cons h r => .cons (.of h) (RpAll.all r)
theorem ja_cons {sf : Bool} {fr : M (List D)} (ha : J X G pa la e fa) (hr : JA X G pb sf es fr) (hl : (la.safe || (!sf && pb)) = true := by rfl) (hs : starEach (e :: es) X.env = (false, eval e X.env) :: starEach es X.env := by rfl) :
    JA X G (pa && pb) sf (e :: es) (consA fa fr) := pa_mono (pa_cons ha hr hs) fun σ H Q ⟨env, S, q⟩ => by
  refine ⟨env, S, (Ok.bind3 (p' := pb) rfl q).mono fun d env1 H1 ⟨f1, q1⟩ v rv => ?_⟩
  refine ⟨env1, f1.st, (Ok.bind3 (p' := true) (by simp) q1).mono fun ds env2 H2 ⟨f2, q2⟩ vs rvs => q2.ret f2.st (v :: vs) ?_⟩
  have hc := f2.carry f1.st rv (fun a z => S.dom a (f1.sub a z)) (by cases la <;> cases sf <;> cases pb <;> simp_all [Lvl.safe])
  unfold RpA at rvs ⊢
  cases sf with
  | true =>
    simp only [if_true] at rvs ⊢
    exact .cons (hc.2 (by simpa using hl)) rvs
  | false =>
    simp only [Bool.false_eq_true, if_false] at rvs ⊢
    exact .cons hc.1 rvs
theorem RpAll.new {K : PySem.W.Frag} {H : Hp} {N : Addr → Prop} {a : Addr} {o : HO} {vs : List V} {ds : List D} (h : RpAll K H N vs ds) (hn : H a = none) : RpAll K (upd H a o) (fun b => N b ∨ b = a) vs ds := by
  have s : Same H (upd H a o) := fun b x e => by rw [upd_ne (ne_of_none e hn)]; exact e
  refine h.fwd ⟨fun b x e _ => s b x e, fun b x e _ => s b x e, fun b z n => ?_⟩
  rcases z with z | rfl
  · exact absurd z n
  · exact hn
end
end PV
namespace PV
open PySem PySem.Spec PyProof.Rows L2

theorem same_new {H : Hp} {a : Addr} {o : HO} (hn : H a = none) : Same H (upd H a o) := fun b x e => by rw [upd_ne (ne_of_none e hn)]; exact e

def callD (g : List D → Option D) (r : M (List D)) : M D := bnd r fun ds => lft (g ds)
def rC (K : PySem.W.Frag) (l : Lvl) (g : List D → Option D) : List V → Hp → VK → Prop := fun xs H Q => ∃ (N : Addr → Prop) (ds : List D) (d : D), (∀ a, N a → ∃ o, H a = some o) ∧ RpCAll K H N xs ds ∧ g ds = some d ∧
  ∀ v H', Same H H' → RpX l K H H' N v d → Q v H'
def methD (ty : D → Bool) (g : D → List D → Option D) (o : M D) (r : M (List D)) : M D := bnd o fun x => bnd (lft (if ty x = true then some () else none)) fun _ => bnd r fun ds => lft (g x ds)
def rMt (K : PySem.W.Frag) (l : Lvl) (g : D → List D → Option D) : V → List V → Hp → VK → Prop := fun x xs H Q => ∃ (N : Addr → Prop) (da : D) (ds : List D) (d : D), (∀ a, N a → ∃ o, H a = some o) ∧ RpC K H N x da ∧ RpCAll K H N xs ds ∧ g da ds = some d ∧
  ∀ v H', Same H H' → RpX l K H H' N v d → Q v H'
/-- the data is an object of the built-in type -/
def TyOk (K : PySem.W.Frag) (T : String) (ty : D → Bool) : Prop := ∀ (H : Hp) (N : Addr → Prop) (v : V) (d : D), RpC K H N v d → ty d = true → tyV K T v H
def prt (o : Option (M D)) : M (Option Int) := match o with
  | none => ret none
  | some m => bnd m fun d => match d with
    | .int i => ret (some i)
    | _ => fun _ => .no
def slE (g : D → Option Int → Option Int → Option D) (m : M D) (lo hi : Option (M D)) : M D := bnd m fun d => bnd (prt lo) fun i => bnd (prt hi) fun j => lft (g d i j)
def rSl3 (K : PySem.W.Frag) (l : Lvl) (g : D → Option Int → Option Int → Option D) : V → Option Int → Option Int → Hp → VK → Prop := fun x lo hi H Q => ∃ (N : Addr → Prop) (da d : D), (∀ a, N a → ∃ o, H a = some o) ∧ RpC K H N x da ∧ g da lo hi = some d ∧
  ∀ v H', Same H H' → RpX l K H H' N v d → Q v H'
def tMO (K : PySem.W.Frag) (G : Amb) (p : Bool) (f : M (Option Int)) : TO := fun σ H Q => ∃ env, StR K G σ H env ∧ Ok K G p σ H env (f env) fun d env' H' => Q d H'
def JO (X : Cx) (G : Amb) (p : Bool) (e : Option Expr) (f : Option (M D)) : Prop := PO X e (tMO X.K G p (prt f))

section
variable {X : Cx} {G : Amb} {p pa pb pc : Bool} {l la lb : Lvl} {e a b c : Expr} {es rest : List Expr} {f fa fb fc : M D} {pos apos : Pos} {ta tb : M Bool} {fr : M (List D)} {sf : Bool}

theorem RpA.len {K : PySem.W.Frag} {H : Hp} {N : Addr → Prop} : ∀ {vs : List V} {ds : List D}, RpAll K H N vs ds → ds.length ≤ sizeLine → vs.length ≤ sizeLine := fun r h => by rw [r.length]; exact h
theorem j_tup {k : Nat} (h : JA X G p true es fr) : J X G p .fre (.Tuple es k pos) (tupE fr) := pe_mono (pe_tup h) fun σ H Q ⟨env, S, q⟩ => by
  refine ⟨env, S, (Ok.bind3 (p' := true) (by simp) q).mono fun ds env1 H1 ⟨f1, q1⟩ vs rvs => ?_⟩
  have r : RpAll X.K H1 (G.R σ env1) vs ds := rvs
  obtain ⟨d, e, q2⟩ := q1.lft f1.st
  by_cases z : ds.length ≤ sizeLine
  · rw [if_pos z] at e
    cases e
    exact ⟨RpA.len r z, fun a hn => q2 _ (same_new hn) _ (.tup (SqT.of upd_same) (r.fwd (.of_same (same_new hn))))⟩
  · rw [if_neg z] at e; cases e
theorem j_lst (h : JA X G p true es fr) : J X G p .fre (.List es pos) (lstE fr) := pe_mono (pe_lst h) fun σ H Q ⟨env, S, q⟩ => by
  refine ⟨env, S, (Ok.bind3 (p' := true) (by simp) q).mono fun ds env1 H1 ⟨f1, q1⟩ vs rvs => ?_⟩
  have r : RpAll X.K H1 (G.R σ env1) vs ds := rvs
  obtain ⟨d, e, q2⟩ := q1.lft f1.st
  by_cases z : ds.length ≤ sizeLine
  · rw [if_pos z] at e
    cases e
    refine ⟨RpA.len r z, fun a hn => q2 _ (same_new hn) _ (f1.back (l := .fre) ?_)⟩
    exact ⟨a, vs, rfl, hn, upd_same, r.new hn⟩
  · rw [if_neg z] at e; cases e

theorem tMA_call {σ : L2.St} {H : Hp} {Q : VK} {g : List D → Option D} (h : tM X.K G p l (callD g fr) σ H Q) : tMA X.K G p false fr σ H fun xs H1 => rC X.K l g xs H1 Q := by
  obtain ⟨env, S, q⟩ := h
  refine ⟨env, S, (Ok.bind3 (p' := true) (by simp) q).mono fun ds env1 H1 ⟨f1, q1⟩ vs rvs => ?_⟩
  obtain ⟨d, e, q2⟩ := q1.lft f1.st
  exact ⟨G.R σ env1, ds, d, f1.st.dom, rvs, e, fun v' H' s r => q2 H' s v' (f1.back r)⟩
theorem j_callB {id : String} {x : Str} {p' : Pos} {g : List D → Option D} (hc : CallR X (.builtin id) (rC X.K l g)) (hg : Gl X x) (hm : X.mg x = none) (hv : bootBuiltins x = some (.builtin id)) (ha : JA X G p false (e :: es) fr)
    (hn : x ≠ "__name__" := by decide) (hdb : (x == ("__debug__" : Str)) = false := by decide)
    (he : starEach (e :: es) X.env = (false, eval e X.env) :: starEach es X.env := by rfl) (hpl : (backTo pos (starEach es X.env)).any (·.1) = false := by rfl) :
    J X G p l (.Call (.Name x p') (e :: es) [] pos) (callD g fr) := pe_mono (pe_callB hc hg hm hv ha hn hdb he hpl) fun σ H Q h => tMA_call h
theorem j_callT {T : String} {x : Str} {p' : Pos} {g : List D → Option D} (hc : CallR X (.type T) (rC X.K l g)) (hg : Gl X x) (hm : X.mg x = none) (hv : bootBuiltins x = some (.type T)) (ha : JA X G p false (e :: es) fr)
    (hn : x ≠ "__name__" := by decide) (hdb : (x == ("__debug__" : Str)) = false := by decide)
    (he : starEach (e :: es) X.env = (false, eval e X.env) :: starEach es X.env := by rfl) (hpl : (backTo pos (starEach es X.env)).any (·.1) = false := by rfl) :
    J X G p l (.Call (.Name x p') (e :: es) [] pos) (callD g fr) := pe_mono (pe_callTy hc hg hm hv ha hn hdb he hpl) fun σ H Q h => tMA_call h

theorem jo_none : JO X G true none none := ⟨fun pins s σ H Q I h => po_none.run pins s σ H Q I (by
  obtain ⟨env, S, q⟩ := h
  exact q.ret S)⟩
theorem jo_some (h : J X G p l e fa) : JO X G p (some e) (some fa) := ⟨fun pins s σ H Q I h2 => (po_some h).run pins s σ H Q I (by
  obtain ⟨env, S, q⟩ := h2
  refine ⟨env, S, (Ok.bind3 (p' := true) (by simp) q).mono fun d env1 H1 ⟨f1, q1⟩ v rv => ?_⟩
  cases d with
  | int i => exact ⟨i, (RpX.rpC (fun a z => S.dom a (f1.sub a z)) rv).int, q1.ret f1.st⟩
  | _ => exact q1.elim)⟩
theorem j_slice {g : D → Option Int → Option Int → Option D} {lo hi : Option Expr} {ml mh : Option (M D)} {pl ph : Bool} {p2 : Pos} (hr : SlR X (rSl3 X.K l g)) (he : J X G pa la e fa) (hl : JO X G pl lo ml) (hh : JO X G ph hi mh) (hs : (la.safe || (pl && ph)) = true := by rfl) :
    J X G (pa && (pl && ph)) l (.Subscript e (.Slice lo hi none p2) pos) (slE g fa ml mh) := pe_mono (pe_slice hr he hl hh) fun σ H Q ⟨env, S, q⟩ => by
  refine ⟨env, S, (Ok.bind3 (p' := pl && ph) rfl q).mono fun da env1 H1 ⟨f1, q1⟩ v rv => ?_⟩
  refine ⟨env1, f1.st, (Ok.bind3 (p' := ph) rfl q1).mono fun i env2 H2 ⟨f2, q2⟩ => ?_⟩
  refine ⟨env2, f2.st, (Ok.bind3 (p' := true) (by simp) q2).mono fun j env3 H3 ⟨f3, q3⟩ => ?_⟩
  obtain ⟨d, e, q4⟩ := q3.lft f3.st
  have f23 := f2.trans f3
  refine ⟨G.R σ env3, da, d, f3.st.dom, (f23.carry f1.st rv (fun a z => S.dom a (f1.sub a z)) hs).1, e, fun v' H' s r => q4 H' s v' (f1.back (f2.back (f3.back r)))⟩

/-! a method of a built-in type that changes nothing -/
theorem j_meth {T id : String} {name : Str} {ty : D → Bool} {g : D → List D → Option D} (pa' : PlainAttrs T) (slot : Slot T name id) (hty : typeOf (.builtin id) = pure (.type "method_descriptor")) (hm : MtR X id (rMt X.K l g)) (ht : TyOk X.K T ty)
    (ho : J X G pa la a fa) (ha : JA X G pb false (e :: es) fr) (hs : (la.safe || pb) = true := by rfl)
    (hbase : attributeBase a name X.env (eval a X.env) = eval a X.env := by rfl)
    (hfew : ((backTo pos (starEach (e :: es) X.env)).all (fun x => !x.1) && (backToKw pos (keywordEach [] X.env)).all (fun x => x.1.isSome)
      && decide ((e :: es).length + ([] : List Keyword).length + (if ([] : List Keyword).isEmpty then 0 else 1) < 30)) = true := by rfl)
    (hline : (apos.endLine == pos.line) = true := by rfl) (hst : starEach (e :: es) X.env = (false, eval e X.env) :: starEach es X.env := by rfl) (hplain : (backTo pos (starEach es X.env)).any (·.1) = false := by rfl) :
    J X G (pa && pb) l (.Call (.Attribute a name apos) (e :: es) [] pos) (methD ty g fa fr) := pe_mono (pe_bm pa' slot hty hm ho ha hbase hfew hline hst hplain) fun σ H Q ⟨env, S, q⟩ => by
  refine ⟨env, S, (Ok.bind3 (p' := pb) rfl q).mono fun da env1 H1 ⟨f1, q1⟩ v rv => ?_⟩
  have rc := RpX.rpC (fun a z => S.dom a (f1.sub a z)) rv
  by_cases z : ty da = true
  · rw [if_pos z] at q1
    refine ⟨ht _ _ _ _ rc z, env1, f1.st, (Ok.bind3 (m := fr) (p' := true) (by simp) q1).mono fun ds env2 H2 ⟨f2, q2⟩ vs rvs => ?_⟩
    obtain ⟨d, e, q3⟩ := q2.lft f2.st
    exact ⟨G.R σ env2, da, ds, d, f2.st.dom, (f2.carry f1.st rv (fun a z => S.dom a (f1.sub a z)) hs).1, rvs, e, fun v' H' s r => q3 H' s v' (f1.back (f2.back r))⟩
  · rw [if_neg z] at q1
    exact q1.elim
theorem j_meth0 {T id : String} {name : Str} {ty : D → Bool} {g : D → List D → Option D} (pa' : PlainAttrs T) (slot : Slot T name id) (hty : typeOf (.builtin id) = pure (.type "method_descriptor")) (hm : MtR X id (rMt X.K l g)) (ht : TyOk X.K T ty)
    (ho : J X G pa la a fa) (hbase : attributeBase a name X.env (eval a X.env) = eval a X.env := by rfl) (hline : (apos.endLine == pos.line) = true := by rfl) :
    J X G pa l (.Call (.Attribute a name apos) [] [] pos) (methD ty g fa nilA) := pe_mono (pe_bm0 pa' slot hty hm ho hbase hline) fun σ H Q ⟨env, S, q⟩ => by
  refine ⟨env, S, (Ok.bind3 (p' := true) (by simp) q).mono fun da env1 H1 ⟨f1, q1⟩ v rv => ?_⟩
  have rc := RpX.rpC (fun a z => S.dom a (f1.sub a z)) rv
  by_cases z : ty da = true
  · rw [if_pos z] at q1
    have q2 : Ok X.K G true σ H1 env1 (lft (g da []) env1) _ := q1
    obtain ⟨d, e, q3⟩ := q2.lft f1.st
    exact ⟨ht _ _ _ _ rc z, G.R σ env1, da, [], d, f1.st.dom, rc |> fun r => r.same (Same.refl _) (fun _ z => z), .nil, e, fun v' H' s r => q3 H' s v' (f1.back r)⟩
  · rw [if_neg z] at q1
    exact q1.elim
end
end PV
namespace PV
open PySem PySem.Spec PyProof.Rows L2

/-! what a def gives where no repr is under way around it -/
abbrev NoRep (A : Around) : Prop := A.guards = some []
structure FnG (P : Program) (w : World) (K : PySem.W.Frag) (mg : Str → Option Value) (base : Heap) (C : CXT) (k : Nat) (f : Addr) (fd : FuncData) (ps : List Str) (sp : Sp) : Prop where
  size : ∀ xs H Q E, sp xs H Q E → xs.length = ps.length
  go : ∀ (A : Around) (o : List Env) (s : Shared) (H : Hp) (as : Args) (us : List Value) (xs : List V) (Q : VK) (E : XK), NoRep A → Room k A →
    Env0 P w K mg base A o s H → BindsTo s fd as (ps.zip us) → Vals xs us → sp xs H Q E → codeAny (model P w) A (.call (.ref f) as) (CR C o P w H s Q E) s
section
variable {P : Program} {w : World} {K : PySem.W.Frag} {mg : Str → Option Value} {base : Heap} {C : CXT} {k : Nat} {f : Addr} {fd : FuncData} {ps : List Str} {sp : Sp}
theorem FnG.up {j : Nat} (F : FnG P w K mg base C j f fd ps sp) (h : j ≤ k) : FnG P w K mg base C k f fd ps sp where
  size := F.size
  go := fun A o s H as us xs Q E hn hr => F.go A o s H as us xs Q E hn (hr.mono h)
/-- a def, by its body -/
theorem fnG_of {x : Str} {st : Stmt} {N : List Str} (F : L2.Fun K x x st f fd) (S : FnScope N ps (defScope st)) (sz : ∀ xs H Q E, sp xs H Q E → xs.length = ps.length)
    (body : ∀ (cdv : Value) (A : Around) (o : List Env) (s : Shared) (H : Hp) (xs : List V) (Q : VK) (E : XK), NoRep A → Room k (A.deeper (envOfC x (defScope st) s.heap.objs.size f cdv)) → sp xs H Q E →
      ∃ t, PSs (cxOf CX0 P w K mg base N x (defScope st) f cdv A o s H E).nox (defBody st) t ∧ t { nx := fun _ H' => Q .non H', rt := Q } (start N xs) H) : FnG P w K mg base CX0 (k + 1) f fd ps sp where
  size := sz
  go := by
    obtain ⟨oc, od, kV, doc, pm, an, cdv, ct, osl, e, lk, cd⟩ := F.ex
    intro A o s H as us xs Q E hn hr e0 hb rv hs
    subst e
    have n1 := sz xs H Q E hs
    have inK : K.In s.heap := e0.mod.kin.keeps fun b u z => (e0.bs b u z).1
    have lim := e0.mod.nolimit.keeps fun b u z => (e0.bs b u z).1
    obtain ⟨t, ht, hq⟩ := body cdv A o s H xs Q E hn (hr.deeper _) hs
    refine codeAny_call_function hr.depth (inK _ _ lk) rfl S.co S.gen rfl (PySem.W.codeRec_of inK cd) (hb _ _ _ _ ?_)
    have kinds : ∀ y ∈ ps.zip us, (defScope st).names.lookup y.1 = some .local ∨ ((defScope st).names.lookup y.1 = some .cell ∧ ((cellsFrom (s.heap.objs.size + 1) (defScope st).names []).lookup y.1).isSome = true) := by
      intro y hy
      have hy1 : y.1 ∈ ps := (List.of_mem_zip (show (y.1, y.2) ∈ ps.zip us from hy)).1
      exact (S.par y.1 hy1).imp id fun q => ⟨q, PySem.W.cellsFrom_some _ _ _ (.inl q)⟩
    refine wpAny_newFunctionEnv_cells S.kind kinds fun env he s1 ic => ?_
    subst he
    refine ⟨lim.keeps ic.toInCall.keep, codeAny_func ?_⟩
    have I0 := inv_start (CX := CX0) (P := P) (w := w) (E := E) S hr.hd e0 n1 rv ic
    refine wpAny_mono (ht.nox.run [] s1 (start N xs) H _ I0 hq) (fun fl s' z => ?_) fun _ _ z => z
    cases fl with
    | brk => exact z.elim fun _ ⟨_, _, q⟩ => q.elim
    | cont => exact z.elim fun _ ⟨_, _, q⟩ => q.elim
    | ret u =>
      obtain ⟨v, _, H', J, r1, q1⟩ := z
      exact ⟨v, H', J.os, J.bare, J.base, J.hok, r1, q1⟩
    | next =>
      obtain ⟨_, H', J, q1⟩ := z
      exact ⟨.non, H', J.os, J.bare, J.base, J.hok, rfl, q1⟩
end
section
variable {X : Cx} {C : CXT} {k : Nat} {f : Addr} {fd : FuncData} {ps : List Str} {sp : Sp} {E : L2.St → XK} {x : Str} {p pos : Pos} {e : Expr} {es : List Expr} {t : TA}
theorem pe_callG (F : FnG X.prog X.w X.K X.mg X.base C k f fd ps sp) (hn : NoRep X.A) (hr : Room k X.A) (hg : Gl X x) (hm : X.mg x = some (.ref f)) (hk : PySem.W.keepIn X.K (.ref f) = true) (hb : Binds X.K fd ps []) (hx : ∀ σ, PassesAt C X σ (E σ))
    (ha : PA X (e :: es) t) (hdb : (x == ("__debug__" : Str)) = false) (he : starEach (e :: es) X.env = (false, eval e X.env) :: starEach es X.env) (hpl : (backTo pos (starEach es X.env)).any (·.1) = false) :
    PE X (.Call (.Name x p) (e :: es) [] pos) (tCallSD sp [] E t) where
  run := by
    intro pn s σ H Q I h
    refine wpAny_Call_Name_kw (ld_glob I hg hm ?_ hdb)
    refine PySem.W.callWith_K (h₀ := X.base) I.ok.mod.kin hk (thn (ha.run pos pn s σ H _ I h) fun us s1 ⟨xs, H1, I1, r, q⟩ => ⟨I1.kIn, ?_⟩) he hpl
    have q : sp (xs ++ []) H1 Q (E σ) := q
    rw [List.append_nil] at q
    show wpAny (model X.prog X.w) X.A (call (.ref f) us) (EP X pn σ Q) X.xe s1
    have n1 : us.length = ps.length := r.length.symm.trans (F.size _ _ _ _ q)
    have b1 := hb s1 us I1.kIn (by rw [List.append_nil]; exact n1)
    rw [List.append_nil] at b1
    refine wpAny_call (codeAny_mono (F.go X.A X.stack s1 H1 ⟨us, []⟩ us xs Q (E σ) hn hr I1.env0 b1 r q) fun o s2 z => ?_)
    match o, z with
    | .error c, z => exact hx σ pn H1 s1 c s2 I1 z
    | .ok (.ret u), z => exact I1.after z
    | .ok .next, z => exact z.elim
    | .ok .brk, z => exact z.elim
    | .ok .cont, z => exact z.elim
end
/-- the law's def is called from outside -/
theorem lawG {P : Program} {w : World} {K : PySem.W.Frag} {mg mb : Str → Option Value} {k : Nat} {fa a : Addr} {fd : FuncData} {x : Str} {sp : Sp} {s : Shared} {vs : List Value} {ns : List Int}
    (inK : K.In s.heap) (n1 : s.heap.Ns mainGlobals mg) (n2 : s.heap.Ns builtinsNs mb) (n3 : ∀ x : Str, x ≠ "__name__" → mb x = bootBuiltins x) (lim : s.heap.NoLimit) (gz : s.gens = #[])
    (ha : s.heap.get? a = some { cls := .type "list", data := .seq vs.toArray }) (hi : IntsAre vs ns) (hl : ns.length ≤ sizeLine) (hr : Room k callerA)
    (F : ∀ base : Heap, K.In base → base.Ns mainGlobals mg → FnG P w K mg base CX0 k fa fd [x] sp) (hb : ∀ (s : Shared) (u : Value), BindsTo s fd ⟨[u], []⟩ [(x, u)])
    (hs : ∀ H : Hp, Only H → SqL K H a (ns.map V.int) → sp [.ref a] H (fun v _ => v = .bl true) fun _ _ _ => False) :
    codeAny (model P w) callerA (.call (.ref fa) ⟨[.ref a], []⟩) (fun r s' => r = .ok (.ret (.bool true)) ∧ OldK s.heap s'.heap ∧ s'.os = s.os ∧ AllBare s'.gens) s := by
  -- H: nothing is tracked, or the script alone
  have main : ∀ H : Hp, Only H → SqL K H a (ns.map V.int) → HOk P w H s.heap → (∀ b, H b ≠ none → b = a ∧ K.lookup a = none) →
      codeAny (model P w) callerA (.call (.ref fa) ⟨[.ref a], []⟩) (fun r s' => r = .ok (.ret (.bool true)) ∧ OldK s.heap s'.heap ∧ s'.os = s.os ∧ AllBare s'.gens) s := by
    intro H hO hS hok hA
    have free : ∀ b, b ≠ a → H b = none := fun b hb => Classical.byContradiction fun z => hb (hA b z).1
    have up : ∀ {b : Addr} {m : Str → Option Value}, s.heap.Ns b m → (hidT s.heap H).Ns b m := by
      rintro b m ⟨o, es, ep, e, d, r⟩
      refine ⟨o, es, ep, hidT_get e (free b fun z => ?_), d, r⟩
      subst z
      rw [ha] at e
      cases e
      exact nomatch d
    have inK2 : K.In (hidT s.heap H) := fun b o e => by
      refine hidT_get (inK b o e) (Classical.byContradiction fun z => ?_)
      obtain ⟨rfl, z2⟩ := hA b z
      rw [z2] at e
      cases e
    obtain ⟨ml, l1, l2⟩ := lim
    have e0 : Env0 P w K mg (hidT s.heap H) callerA [] s H := {
      frames := rfl
      mod := ⟨inK2, up n1, ⟨mb, up n2, n3⟩, ml, up l1, l2⟩
      bs := fun b o e => of_hidT e
      bsz := Nat.le_of_eq (hidT_size _ _)
      funs := trivial
      frf := fun b hb => nomatch (show b ∈ ([] : List Addr) from hb)
      hok := hok
      bare := .of_eq gz }
    have G := (F (hidT s.heap H) inK2 (up n1)).go callerA [] s H ⟨[.ref a], []⟩ [.ref a] [.ref a] (fun v _ => v = .bl true) (fun _ _ _ => False) rfl hr e0 (hb s (.ref a)) (.cons rfl .nil) (hs H hO hS)
    refine codeAny_mono G fun r s' h => ?_
    match r, h with
    | .error c, h => exact False.elim h
    | .ok .next, h => exact h.elim
    | .ok .brk, h => exact h.elim
    | .ok .cont, h => exact h.elim
    | .ok (.ret u), ⟨v, H', h1, h2, un, hok', r', q⟩ =>
      have q' : v = .bl true := q
      subst q'
      cases (show u = Value.bool true from r')
      refine ⟨rfl, OldK.of_keep fun b o e => ?_, h1, h2⟩
      rcases hO b with z | ⟨ob, ys, z⟩
      · exact un.keep b o e z (fun y => nomatch (show b ∈ ([] : List Addr) from y)) (by simp)
      · have y1 := (hok b _ z).1
        have y2 := (hok' b _ (un.frzs b ob _ z)).1
        rw [e] at y1
        cases y1
        exact y2
  have rv := vals_ints hi
  by_cases c : K.lookup a = none
  · have h1 : ObjOk P w (fun b => if b = a then some (.frz { cls := .type "list", data := .seq vs.toArray } (.lst (ns.map V.int))) else none) s.heap a (.frz { cls := .type "list", data := .seq vs.toArray } (.lst (ns.map V.int))) :=
      ⟨ha, by rw [List.length_map]; exact hl, vs, _, rv, ha⟩
    refine main (fun b => if b = a then some (.frz { cls := .type "list", data := .seq vs.toArray } (.lst (ns.map V.int))) else none) (fun b => ?_) (.inl (.inr ⟨_, if_pos rfl⟩)) (fun b u z => ?_) fun b z => ?_
    · by_cases e : b = a
      · exact .inr ⟨_, _, if_pos e⟩
      · exact .inl (if_neg e)
    · have z : (if b = a then some (HO.frz { cls := .type "list", data := .seq vs.toArray } (.lst (ns.map V.int))) else none) = some u := z
      by_cases e : b = a
      · rw [if_pos e] at z
        cases z
        rw [e]; exact h1
      · rw [if_neg e] at z; cases z
    · by_cases e : b = a
      · exact ⟨e, c⟩
      · exact absurd (if_neg e) z
  · obtain ⟨o, ho⟩ := Option.ne_none_iff_exists'.mp c
    have e := inK a o ho
    rw [ha] at e
    cases e
    have n3 := hi.length
    exact main (fun _ => none) (fun _ => .inl rfl) (.inr ⟨_, vs.toArray, _, ho, rfl, rfl, rfl, by rw [List.size_toArray, n3]; exact hl, by simpa using rv⟩) (fun b u z => nomatch z) fun b z => absurd rfl z
end PV
namespace PV
open PySem PySem.Spec PyProof.Rows L2

/-! what a def promises -/
inductive FR where
  | ok (d : D) (io : List D) | exc (x : Ex) | no
abbrev Fn := List D → FR
def ioR : List Bool → List V → List Addr
  | true :: io, .ref a :: vs => a :: ioR io vs
  | _ :: io, _ :: vs => ioR io vs
  | _, _ => []
inductive RpIO (K : PySem.W.Frag) (H : Hp) (N : Addr → Prop) : List Bool → List V → List D → Prop
  | nil : RpIO K H N [] [] []
  | val {io : List Bool} {v : V} {vs : List V} {d : D} {ds : List D} : Rp K H N v d → RpIO K H N io vs ds → RpIO K H N (false :: io) (v :: vs) (d :: ds)
  | ref {io : List Bool} {a : Addr} {vs : List V} {d : D} {ds : List D} : Root K H N a d → RpIO K H N io vs ds → RpIO K H N (true :: io) (.ref a :: vs) (d :: ds)
inductive Rts (K : PySem.W.Frag) (H : Hp) (N : Addr → Prop) : List Addr → List D → Prop
  | nil : Rts K H N [] []
  | cons {a : Addr} {r : List Addr} {d : D} {ds : List D} : Root K H N a d → Rts K H N r ds → Rts K H N (a :: r) (d :: ds)
theorem Rts.get {K : PySem.W.Frag} {H : Hp} {N : Addr → Prop} : ∀ {r : List Addr} {ds : List D} {i : Nat} {a : Addr}, Rts K H N r ds → r[i]? = some a → ∃ d, ds[i]? = some d ∧ Root K H N a d
  | _, _, _, _, .nil, e => by simp at e
  | _, _, 0, _, .cons h _, e => by simp at e; subst e; exact ⟨_, rfl, h⟩
  | _, _, i + 1, _, .cons _ r, e => by
    obtain ⟨v, e1, h⟩ := Rts.get (i := i) r (by simpa using e)
    exact ⟨v, by simpa using e1, h⟩
theorem Rts.length {K : PySem.W.Frag} {H : Hp} {N : Addr → Prop} : ∀ {r : List Addr} {ds : List D}, Rts K H N r ds → r.length = ds.length
  | _, _, .nil => rfl
  | _, _, .cons _ r => congrArg (· + 1) (Rts.length r)
abbrev XRT := Ex → Value → Option Addr → Hp → Prop
def spF (K : PySem.W.Frag) (XR : XRT) (fl : Lvl) (io : List Bool) (g : Fn) : Sp := fun vs H Q E => ∃ (N : Addr → Prop) (ds : List D), (∀ a, N a → ∃ o, H a = some o) ∧ RpIO K H N io vs ds ∧ (ioR io vs).Nodup ∧ (∀ a ∈ ioR io vs, N a) ∧
  match g ds with
  | .ok d ios => ∀ v H', Keep (fun a => a ∈ ioR io vs) H H' → RpX fl K H H' N v d → Rts K H' N (ioR io vs) ios → Q v H'
  | .exc x => ∀ c dd H', Keep (fun a => a ∈ ioR io vs) H H' → XR x c dd H' → E c dd H'
  | .no => False
theorem RpIO.length {K : PySem.W.Frag} {H : Hp} {N : Addr → Prop} : ∀ {io : List Bool} {vs : List V} {ds : List D}, RpIO K H N io vs ds → vs.length = io.length
  | _, _, _, .nil => rfl
  | _, _, _, .val _ r => congrArg (· + 1) (RpIO.length r)
  | _, _, _, .ref _ r => congrArg (· + 1) (RpIO.length r)
/-- a def of the module, with its promise -/
structure FnI (P : Program) (w : World) (K : PySem.W.Frag) (mg : Str → Option Value) (base : Heap) (CX : CXT) (XR : XRT) (x : Str) (k : Nat) (fl : Lvl) (io : List Bool) (g : Fn) : Prop where
  ex : ∃ (f : Addr) (fd : FuncData) (ps : List Str), FnG P w K mg base CX k f fd ps (spF K XR fl io g) ∧ mg x = some (.ref f) ∧ PySem.W.keepIn K (.ref f) = true ∧ Binds K fd ps []
  ar : ∀ ds, ds.length ≠ io.length → g ds = .no
theorem FnI.up {P : Program} {w : World} {K : PySem.W.Frag} {mg : Str → Option Value} {base : Heap} {CX : CXT} {XR : XRT} {x : Str} {k k' : Nat} {fl : Lvl} {io : List Bool} {g : Fn} (F : FnI P w K mg base CX XR x k fl io g) (h : k ≤ k') : FnI P w K mg base CX XR x k' fl io g := by
  obtain ⟨f, fd, ps, F1, r⟩ := F.ex
  exact ⟨⟨f, fd, ps, F1.up h, r⟩, F.ar⟩

/-! calls -/
def frM (r : FR) : M D := fun e => match r with
  | .ok d _ => .ok d e
  | .exc x => .exc x e
  | .no => .no
def cal (g : Fn) (r : M (List D)) : M D := bnd r fun ds => frM (g ds)
theorem ioR_no : ∀ (vs : List V), ioR (List.replicate vs.length false) vs = []
  | [] => rfl
  | v :: vs => by
    show ioR (false :: List.replicate vs.length false) (v :: vs) = []
    unfold ioR
    exact ioR_no vs
theorem RpIO.no {K : PySem.W.Frag} {H : Hp} {N : Addr → Prop} : ∀ {vs : List V} {ds : List D}, RpAll K H N vs ds → RpIO K H N (List.replicate vs.length false) vs ds
  | _, _, .nil => .nil
  | _, _, .cons h r => .val h (RpIO.no r)
theorem Keep.empty {H H' : Hp} (k : Keep (fun a => a ∈ ([] : List Addr)) H H') : Same H H' := fun a o e => (k a o e).resolve_right fun z => by simp at z

/-- places of names handed on as they stand -/
inductive RpH (K : PySem.W.Frag) (H : Hp) (N : Addr → Prop) (σ : L2.St) : List (Option Nat) → List V → List D → Prop
  | nil : RpH K H N σ [] [] []
  | val {js : List (Option Nat)} {v : V} {vs : List V} {d : D} {ds : List D} : Rp K H N v d → RpH K H N σ js vs ds → RpH K H N σ (none :: js) (v :: vs) (d :: ds)
  | hole {js : List (Option Nat)} {i : Nat} {v : V} {vs : List V} {ds : List D} : σ[i]? = some (some v) → RpH K H N σ js vs ds → RpH K H N σ (some i :: js) (v :: vs) (.none :: ds)
def tMH (K : PySem.W.Frag) (G : Amb) (p : Bool) (js : List (Option Nat)) (f : M (List D)) : TA := fun σ H Q => ∃ env, StR K G σ H env ∧
  Ok K G p σ H env (f env) fun ds env' H' => ∀ vs, RpH K H' (G.R σ env') σ js vs ds → Q vs H'
def JH (X : Cx) (G : Amb) (p : Bool) (js : List (Option Nat)) (es : List Expr) (f : M (List D)) : Prop := PA X es (tMH X.K G p js f)
def holeA (i : Nat) (r : M (List D)) : M (List D) := fun e => match e[i]? with
  | some (.own _) => bnd r (fun ds => ret (.none :: ds)) e
  | _ => .no
def fillH : List (Option Nat) → List D → EnvD → Option (List D)
  | [], [], _ => some []
  | none :: js, d :: ds, e => (fillH js ds e).map (d :: ·)
  | some i :: js, _ :: ds, e => match e[i]? with
    | some (.own d) => (fillH js ds e).map (d :: ·)
    | _ => none
  | _, _, _ => none
def putH : List (Option Nat) → List D → EnvD → Option EnvD
  | [], [], e => some e
  | none :: js, ds, e => putH js ds e
  | some i :: js, d :: ds, e => putH js ds (e.set i (.own d))
  | _, _, _ => none
def calH (g : Fn) (js : List (Option Nat)) (r : M (List D)) : M D := bnd r fun ds => fun e => match fillH js ds e with
  | none => .no
  | some ds' => match g ds' with
    | .ok d ios => match putH js ios e with
      | some e' => .ok d e'
      | none => .no
    | _ => .no

section
variable {X : Cx} {G : Amb} {p pa pb pc : Bool} {l la lb fl : Lvl} {e a b c : Expr} {es rest : List Expr} {f fa fb fc : M D} {pos apos : Pos} {ta tb : M Bool} {fr : M (List D)} {sf : Bool} {js : List (Option Nat)} {CX : CXT} {k : Nat} {g : Fn} {io : List Bool}
theorem jh_nil : JH X G true [] [] nilA := pa_mono pa_nil fun σ H Q ⟨env, S, q⟩ => q.ret S _ .nil
theorem jh_val (ha : J X G pa la e fa) (hr : JH X G pb js es fr) (hl : la.safe = true := by rfl) (hs : starEach (e :: es) X.env = (false, eval e X.env) :: starEach es X.env := by rfl) :
    JH X G (pa && pb) (none :: js) (e :: es) (consA fa fr) := pa_mono (pa_cons ha hr hs) fun σ H Q ⟨env, S, q⟩ => by
  refine ⟨env, S, (Ok.bind3 (p' := pb) rfl q).mono fun d env1 H1 ⟨f1, q1⟩ v rv => ?_⟩
  refine ⟨env1, f1.st, (Ok.bind3 (p' := true) (by simp) q1).mono fun ds env2 H2 ⟨f2, q2⟩ vs rvs => q2.ret f2.st (v :: vs) ?_⟩
  exact .val ((f2.carry f1.st rv (fun a z => S.dom a (f1.sub a z)) (by rw [hl]; rfl)).2 hl) rvs
theorem jh_hole (i : Nat) {x : Str} (h : PE X (.Name x pos) (tVar i)) (hr : JH X G pb js es fr) (hs : starEach (.Name x pos :: es) X.env = (false, eval (.Name x pos) X.env) :: starEach es X.env := by rfl) :
    JH X G pb (some i :: js) (.Name x pos :: es) (holeA i fr) := pa_mono (pa_cons h hr hs) fun σ H Q ⟨env, S, q⟩ => by
  unfold holeA at q
  cases ec : env[i]? with
  | none => rw [ec] at q; exact q.elim
  | some cc =>
    rw [ec] at q
    cases cc with
    | emp => exact q.elim
    | shr d => exact q.elim
    | own d =>
      obtain ⟨a, e1, _, _⟩ := S.own i d ec
      refine ⟨.ref a, e1, env, S, (Ok.bind3 (p' := true) (by simp) q).mono fun ds env2 H2 ⟨f2, q2⟩ vs rvs => q2.ret f2.st _ (.hole e1 rvs)⟩

theorem putH_spec : ∀ {js : List (Option Nat)} {ds : List D} {e e' : EnvD}, putH js ds e = some e' → e'.length = e.length ∧ (∀ j, some j ∉ js → e'[j]? = e[j]?) ∧ (∀ j, j < e.length → some j ∈ js → ∃ d, e'[j]? = some (PV.Cell.own d))
  | [], [], e, e', h => by
    cases h
    exact ⟨rfl, fun _ _ => rfl, fun _ _ z => by simp at z⟩
  | [], _ :: _, e, e', h => by cases h
  | none :: js, ds, e, e', h => by
    have h' : putH js ds e = some e' := by cases ds <;> exact h
    obtain ⟨h1, h2, h3⟩ := putH_spec h'
    exact ⟨h1, fun j z => h2 j fun w => z (List.mem_cons_of_mem _ w), fun j hl z => h3 j hl (by simpa using z)⟩
  | some i :: js, [], e, e', h => by cases h
  | some i :: js, d :: ds, e, e', h => by
    have h' : putH js ds (e.set i (.own d)) = some e' := h
    obtain ⟨h1, h2, h3⟩ := putH_spec h'
    rw [List.length_set] at h1 h3
    refine ⟨h1, fun j z => ?_, fun j hl z => ?_⟩
    · have zi : i ≠ j := fun q => z (by rw [q]; exact List.mem_cons_self)
      rw [h2 j fun w => z (List.mem_cons_of_mem _ w), List.getElem?_set_ne zi]
    · by_cases hm : some j ∈ js
      · exact h3 j hl hm
      · have e1 : j = i := by
          rcases List.mem_cons.mp z with w | w
          · exact Option.some.inj w
          · exact absurd w hm
        subst e1
        rw [h2 j hm, List.getElem?_set_self hl]
        exact ⟨d, rfl⟩
/-- the roots handed back stand at the holes -/
theorem putH_root {K : PySem.W.Frag} {H : Hp} {N : Addr → Prop} {σ : L2.St} : ∀ {js : List (Option Nat)} {vs : List V} {as : List D} {ds : List D} {e e' : EnvD} {H0 : Hp} {N0 : Addr → Prop}, RpH K H0 N0 σ js vs as → (js.filterMap id).Nodup → putH js ds e = some e' →
    Rts K H N (ioR (js.map Option.isSome) vs) ds → (∀ j, some j ∈ js → ∃ a, σ[j]? = some (some (V.ref a))) → ∀ j d, j < e.length → some j ∈ js → e'[j]? = some (PV.Cell.own d) → ∃ a, σ[j]? = some (some (V.ref a)) ∧ Root K H N a d
  | [], _, _, _, e, e', _, _, .nil, _, _, _, _, j, d, _, hm, _ => by simp at hm
  | none :: js, v :: vs, _, ds, e, e', H0, N0, .val _ r, nd, h, rt, hr, j, d, hl, hm, he => by
    have h' : putH js ds e = some e' := by cases ds <;> exact h
    have rt' : Rts K H N (ioR (js.map Option.isSome) vs) ds := by
      have z : ioR (false :: js.map Option.isSome) (v :: vs) = ioR (js.map Option.isSome) vs := by cases v <;> rfl
      exact z ▸ rt
    exact putH_root r (by simpa using nd) h' rt' (fun j z => hr j (List.mem_cons_of_mem _ z)) j d hl (by simpa using hm) he
  | some i :: js, v :: vs, _, ds, e, e', H0, N0, .hole hv r, nd, h, rt, hr, j, d, hl, hm, he => by
    obtain ⟨a, ha⟩ := hr i List.mem_cons_self
    have hva : v = V.ref a := by rw [hv] at ha; cases ha; rfl
    subst hva
    have nd' : i ∉ js.filterMap id ∧ (js.filterMap id).Nodup := by
      have : (i :: js.filterMap id).Nodup := by simpa using nd
      exact List.nodup_cons.mp this
    cases rt with
    | cons r1 r2 =>
      rename_i d1 ds1
      have h' : putH js ds1 (e.set i (.own d1)) = some e' := h
      by_cases hj : some j ∈ js
      · exact putH_root r nd'.2 h' r2 (fun j z => hr j (List.mem_cons_of_mem _ z)) j d (by rw [List.length_set]; exact hl) hj he
      · have e1 : j = i := by
          rcases List.mem_cons.mp hm with w | w
          · exact Option.some.inj w
          · exact absurd w hj
        subst e1
        rw [(putH_spec h').2.1 j hj, List.getElem?_set_self hl] at he
        cases he
        exact ⟨a, ha, r1⟩
end
end PV
namespace PV
open PySem PySem.Spec PyProof.Rows L2
section
variable {K : PySem.W.Frag} {G : Amb} {σ : L2.St} {H H' : Hp} {env e' : EnvD} {N : Addr → Prop}
theorem mem_ioR : ∀ {js : List (Option Nat)} {vs : List V} {ds : List D} {a : Addr}, RpH K H N σ js vs ds → a ∈ ioR (js.map Option.isSome) vs → ∃ i, some i ∈ js ∧ σ[i]? = some (some (V.ref a))
  | [], _, _, a, .nil, h => by simp [ioR] at h
  | none :: js, v :: vs, _, a, .val _ r, h => by
    have z : ioR (false :: js.map Option.isSome) (v :: vs) = ioR (js.map Option.isSome) vs := by cases v <;> rfl
    obtain ⟨i, h1, h2⟩ := mem_ioR r (z ▸ h)
    exact ⟨i, List.mem_cons_of_mem _ h1, h2⟩
  | some i :: js, v :: vs, _, a, .hole hv r, h => by
    cases v with
    | ref b =>
      have h' : a ∈ b :: ioR (js.map Option.isSome) vs := h
      rcases List.mem_cons.mp h' with rfl | h'
      · exact ⟨i, List.mem_cons_self, hv⟩
      · obtain ⟨j, h1, h2⟩ := mem_ioR r h'
        exact ⟨j, List.mem_cons_of_mem _ h1, h2⟩
    | non => exact let ⟨j, h1, h2⟩ := mem_ioR r (show a ∈ ioR (js.map Option.isSome) vs from h); ⟨j, List.mem_cons_of_mem _ h1, h2⟩
    | bl _ => exact let ⟨j, h1, h2⟩ := mem_ioR r (show a ∈ ioR (js.map Option.isSome) vs from h); ⟨j, List.mem_cons_of_mem _ h1, h2⟩
    | int _ => exact let ⟨j, h1, h2⟩ := mem_ioR r (show a ∈ ioR (js.map Option.isSome) vs from h); ⟨j, List.mem_cons_of_mem _ h1, h2⟩
    | str _ => exact let ⟨j, h1, h2⟩ := mem_ioR r (show a ∈ ioR (js.map Option.isSome) vs from h); ⟨j, List.mem_cons_of_mem _ h1, h2⟩
    | byt _ => exact let ⟨j, h1, h2⟩ := mem_ioR r (show a ∈ ioR (js.map Option.isSome) vs from h); ⟨j, List.mem_cons_of_mem _ h1, h2⟩
    | flt _ => exact let ⟨j, h1, h2⟩ := mem_ioR r (show a ∈ ioR (js.map Option.isSome) vs from h); ⟨j, List.mem_cons_of_mem _ h1, h2⟩
    | ty _ => exact let ⟨j, h1, h2⟩ := mem_ioR r (show a ∈ ioR (js.map Option.isSome) vs from h); ⟨j, List.mem_cons_of_mem _ h1, h2⟩
theorem fill_own : ∀ {js : List (Option Nat)} {ds ds' : List D}, fillH js ds env = some ds' → ∀ i, some i ∈ js → ∃ d, env[i]? = some (PV.Cell.own d)
  | [], _, _, _, i, hm => by simp at hm
  | none :: js, [], _, h, i, hm => by cases h
  | none :: js, d :: ds, ds', h, i, hm => by
    have h' : (fillH js ds env).map (d :: ·) = some ds' := h
    cases e : fillH js ds env with
    | none => rw [e] at h'; cases h'
    | some z => exact fill_own e i (by simpa using hm)
  | some j :: js, [], _, h, i, hm => by cases h
  | some j :: js, d :: ds, ds', h, i, hm => by
    unfold fillH at h
    cases ec : env[j]? with
    | none => rw [ec] at h; cases h
    | some c =>
      rw [ec] at h
      cases c with
      | emp => cases h
      | shr _ => cases h
      | own d2 =>
        simp only at h
        cases e : fillH js ds env with
        | none => rw [e] at h; cases h
        | some z =>
          rcases List.mem_cons.mp hm with w | w
          · cases w; exact ⟨d2, ec⟩
          · exact fill_own e i w
theorem rpIO_of (S : StR K G σ H env) : ∀ {js : List (Option Nat)} {vs : List V} {ds ds' : List D}, RpH K H (G.R σ env) σ js vs ds → fillH js ds env = some ds' → RpIO K H (G.R σ env) (js.map Option.isSome) vs ds'
  | [], _, _, _, .nil, h => by cases h; exact .nil
  | none :: js, v :: vs, d :: ds, ds', .val h1 r, h => by
    have h' : (fillH js ds env).map (d :: ·) = some ds' := h
    cases e : fillH js ds env with
    | none => rw [e] at h'; cases h'
    | some z =>
      rw [e] at h'; cases h'
      exact .val h1 (rpIO_of S r e)
  | some j :: js, v :: vs, _ :: ds, ds', .hole hv r, h => by
    unfold fillH at h
    cases ec : env[j]? with
    | none => rw [ec] at h; cases h
    | some c =>
      rw [ec] at h
      cases c with
      | emp => cases h
      | shr _ => cases h
      | own d2 =>
        simp only at h
        cases e : fillH js ds env with
        | none => rw [e] at h; cases h
        | some z =>
          rw [e] at h; cases h
          obtain ⟨a, e1, r1, _⟩ := S.own j d2 ec
          rw [hv] at e1; cases e1
          exact .ref r1 (rpIO_of S r e)
theorem ioR_nodup (S : StR K G σ H env) : ∀ {js : List (Option Nat)} {vs : List V} {ds : List D}, RpH K H N σ js vs ds → (js.filterMap id).Nodup → (∀ i, some i ∈ js → ∃ d, env[i]? = some (PV.Cell.own d)) → (ioR (js.map Option.isSome) vs).Nodup
  | [], _, _, .nil, _, _ => by simp [ioR]
  | none :: js, v :: vs, _, .val _ r, nd, ho => by
    have z : ioR (false :: js.map Option.isSome) (v :: vs) = ioR (js.map Option.isSome) vs := by cases v <;> rfl
    show (ioR (false :: js.map Option.isSome) (v :: vs)).Nodup
    rw [z]
    exact ioR_nodup S r (by simpa using nd) fun i z => ho i (List.mem_cons_of_mem _ z)
  | some i :: js, v :: vs, _, .hole hv r, nd, ho => by
    have nd' : i ∉ js.filterMap id ∧ (js.filterMap id).Nodup := by
      have : (i :: js.filterMap id).Nodup := by simpa using nd
      exact List.nodup_cons.mp this
    obtain ⟨d, hd⟩ := ho i List.mem_cons_self
    obtain ⟨a, e1, _⟩ := S.own i d hd
    rw [hv] at e1; cases e1
    show (a :: ioR (js.map Option.isSome) vs).Nodup
    refine List.nodup_cons.mpr ⟨fun hm => ?_, ioR_nodup S r nd'.2 fun i z => ho i (List.mem_cons_of_mem _ z)⟩
    obtain ⟨j, hj, hs⟩ := mem_ioR r hm
    obtain ⟨d2, hd2⟩ := ho j (List.mem_cons_of_mem _ hj)
    have e := S.dis i j d d2 a hd hd2 hv hs
    subst e
    exact nd'.1 (List.mem_filterMap.mpr ⟨some i, hj, rfl⟩)
/-- the state behind a call that has changed what stands at the holes -/
theorem StR.called (S : StR K G σ H env) {js : List (Option Nat)} {vs : List V} {as : List D} {ios : List D} (r : RpH K H (G.R σ env) σ js vs as) (nd : (js.filterMap id).Nodup) (ho : ∀ i, some i ∈ js → ∃ d, env[i]? = some (PV.Cell.own d))
    (kp : Keep (fun a => a ∈ ioR (js.map Option.isSome) vs) H H') (rt : Rts K H' (G.R σ env) (ioR (js.map Option.isSome) vs) ios) (hp : putH js ios env = some e') :
    StR K G σ H' e' ∧ (∀ a, rts σ e' a ↔ rts σ env a) ∧ Keep (rts σ env) H H' := by
  obtain ⟨p1, p2, p3⟩ := putH_spec hp
  have lt : ∀ {i : Nat} {c : PV.Cell}, env[i]? = some c → i < env.length := fun {i c} h => by
    rcases Nat.lt_or_ge i env.length with z | z
    · exact z
    · rw [List.getElem?_eq_none z] at h; cases h
  have lt2 : ∀ {i : Nat} {c : PV.Cell}, e'[i]? = some c → i < env.length := fun {i c} h => by
    rcases Nat.lt_or_ge i env.length with z | z
    · exact z
    · rw [List.getElem?_eq_none (by omega)] at h; cases h
  have ow : ∀ j, (∃ d, e'[j]? = some (PV.Cell.own d)) ↔ ∃ d, env[j]? = some (PV.Cell.own d) := fun j => by
    by_cases hj : some j ∈ js
    · obtain ⟨d, hd⟩ := ho j hj
      exact ⟨fun _ => ⟨d, hd⟩, fun _ => p3 j (lt hd) hj⟩
    · rw [p2 j hj]
  have rr : ∀ a, rts σ e' a ↔ rts σ env a := fun a => by
    constructor
    · rintro ⟨j, d, h1, h2⟩
      obtain ⟨d2, h3⟩ := (ow j).mp ⟨d, h1⟩
      exact ⟨j, d2, h3, h2⟩
    · rintro ⟨j, d, h1, h2⟩
      obtain ⟨d2, h3⟩ := (ow j).mpr ⟨d, h1⟩
      exact ⟨j, d2, h3, h2⟩
  have RR : ∀ a, G.R σ e' a ↔ G.R σ env a := fun a => or_congr Iff.rfl (rr a)
  have sub : ∀ a, a ∈ ioR (js.map Option.isSome) vs → rts σ env a := fun a h => by
    obtain ⟨i, h1, h2⟩ := mem_ioR r h
    obtain ⟨d, hd⟩ := ho i h1
    exact ⟨i, d, hd, h2⟩
  have kO : Keep (rts σ env) H H' := kp.mono sub
  have kR : Keep (G.R σ env) H H' := kO.mono fun _ z => .inr z
  have fw : Fwd K (G.R σ env) (G.R σ e') H H' := .of_keep kR fun b h => (RR b).mp h
  refine ⟨⟨by rw [p1]; exact S.len, ?_, fun i d h => ?_, fun i d h => ?_, fun i j d e a h1 h2 h3 h4 => ?_, fun a z => ⟨kR.there (S.zd a z).1, (S.zd a z).2⟩, fun i hi => ?_⟩, rr, kO⟩
  · refine S.keep.trans kp fun a hx hm => ?_
    obtain ⟨i, h1, h2⟩ := mem_ioR r hm
    obtain ⟨d, hd⟩ := ho i h1
    obtain ⟨b, h3, _, h4, _⟩ := S.own i d hd
    rw [h2] at h3; cases h3
    rcases h4 with h4 | h4
    · obtain ⟨o, z⟩ := hx
      rw [h4] at z; cases z
    · exact h4
  · have hj : some i ∉ js := fun z => by
      obtain ⟨d2, h2⟩ := p3 i (lt2 h) z
      rw [h] at h2; cases h2
    rw [p2 i hj] at h
    obtain ⟨v, h1, h2⟩ := S.shr i d h
    exact ⟨v, h1, h2.fwd fw⟩
  · by_cases hj : some i ∈ js
    · obtain ⟨d0, h0⟩ := ho i hj
      obtain ⟨a0, e0, _, o0⟩ := S.own i d0 h0
      obtain ⟨a, h1, h2⟩ := putH_root r nd hp rt (fun j z => by
        obtain ⟨d, hd⟩ := ho j z
        obtain ⟨a, e1, _⟩ := S.own j d hd
        exact ⟨a, e1⟩) i d (lt2 h) hj h
      rw [h1] at e0; cases e0
      exact ⟨_, h1, h2.same (Same.refl _) fun a z => (RR a).mp z, o0⟩
    · rw [p2 i hj] at h
      obtain ⟨a, h1, h2, h3⟩ := S.own i d h
      refine ⟨a, h1, h2.at fw ?_, h3⟩
      obtain ⟨o, ho1, _⟩ := h2.there
      have nm : a ∉ ioR (js.map Option.isSome) vs := fun hm => by
        obtain ⟨k, k1, k2⟩ := mem_ioR r hm
        obtain ⟨dk, hk⟩ := ho k k1
        have := S.dis i k d dk a h hk h1 k2
        subst this
        exact hj k1
      rw [ho1, kp.at ho1 nm]
  · obtain ⟨d2, g1⟩ := (ow i).mp ⟨d, h1⟩
    obtain ⟨d3, g2⟩ := (ow j).mp ⟨e, h2⟩
    exact S.dis i j d2 d3 a g1 g2 h3 h4
  · obtain ⟨h1, h2⟩ := S.fix i hi
    exact ⟨h1, (ow i).mpr h2⟩
end

section
variable {X : Cx} {G : Amb} {p pa pb pc : Bool} {l la lb fl : Lvl} {e a b c : Expr} {es rest : List Expr} {f fa fb fc : M D} {pos apos p' : Pos} {ta tb : M Bool} {fr : M (List D)} {sf : Bool} {js : List (Option Nat)} {k : Nat} {g : Fn} {x : Str}
/-- what a callee lets out is wished for here -/
def PassW (X : Cx) (G : Amb) (CX : CXT) : Prop := ∀ σ, PassesAt CX X σ (fun c d H' => G.W c d σ H')
theorem passW0 : PassW X G CX0 := fun σ pins H s e s' I h => False.elim h
/-- f(e, ..), nothing handed on to be changed -/
theorem j_call {CX : CXT} {n : Nat} (F : FnI X.prog X.w X.K X.mg X.base CX G.XR x k fl (List.replicate n false) g) (hn : NoRep X.A) (hr : Room k X.A) (hx : PassW X G CX) (hg : Gl X x) (ha : JA X G p true (e :: es) fr) (hdb : (x == ("__debug__" : Str)) = false := by decide)
    (he : starEach (e :: es) X.env = (false, eval e X.env) :: starEach es X.env := by rfl) (hpl : (backTo pos (starEach es X.env)).any (·.1) = false := by rfl) :
    J X G p fl (.Call (.Name x p') (e :: es) [] pos) (cal g fr) := by
  obtain ⟨fa, fd, ps, F1, hm, hk, hb⟩ := F.ex
  refine pe_mono (pe_callG F1 hn hr hg hm hk hb hx ha hdb he hpl) fun σ H Q ⟨env, S, q⟩ => ?_
  refine ⟨env, S, (Ok.bind3 (p' := true) (by simp) q).mono fun ds env1 H1 ⟨f1, q1⟩ vs rvs => ?_⟩
  have r : RpAll X.K H1 (G.R σ env1) vs ds := rvs
  by_cases hl : ds.length = n
  · have hv : n = vs.length := hl.symm.trans r.length.symm
    subst hv
    refine ⟨G.R σ env1, ds, f1.st.dom, ?_, ?_, ?_, ?_⟩
    · rw [List.append_nil]; exact RpIO.no r
    · rw [List.append_nil, ioR_no]; exact List.nodup_nil
    · rw [List.append_nil, ioR_no]; exact fun _ z => absurd z (by simp)
    · rw [List.append_nil, ioR_no]
      unfold frM at q1
      cases eg : g ds with
      | no => rw [eg] at q1; exact q1.elim
      | exc x =>
        rw [eg] at q1
        exact fun c dd H' kp hxr => q1 c dd H' (.of_same f1.st kp.empty) hxr
      | ok d ios =>
        rw [eg] at q1
        exact fun v H' kp rv _ => q1 H' (.of_same f1.st kp.empty) v (f1.back rv)
  · have z := F.ar ds (by rw [List.length_replicate]; exact hl)
    unfold frM at q1
    rw [z] at q1
    exact q1.elim
/-- f(w, e, ..): the things at the names are changed -/
theorem j_callH {CX : CXT} (F : FnI X.prog X.w X.K X.mg X.base CX G.XR x k fl (js.map Option.isSome) g) (hn : NoRep X.A) (hr : Room k X.A) (hx : PassW X G CX) (nd : (js.filterMap id).Nodup) (hg : Gl X x) (ha : JH X G p js (e :: es) fr) (hdb : (x == ("__debug__" : Str)) = false := by decide)
    (he : starEach (e :: es) X.env = (false, eval e X.env) :: starEach es X.env := by rfl) (hpl : (backTo pos (starEach es X.env)).any (·.1) = false := by rfl) :
    J X G false fl (.Call (.Name x p') (e :: es) [] pos) (calH g js fr) := by
  obtain ⟨fa, fd, ps, F1, hm, hk, hb⟩ := F.ex
  refine pe_mono (pe_callG F1 hn hr hg hm hk hb hx ha hdb he hpl) fun σ H Q ⟨env, S, q⟩ => ?_
  refine ⟨env, S, (Ok.bind3 (p' := false) (by simp) q).mono fun ds env1 H1 ⟨f1, q1⟩ vs r => ?_⟩
  cases ef : fillH js ds env1 with
  | none => rw [ef] at q1; exact q1.elim
  | some ds' =>
    rw [ef] at q1
    simp only at q1
    have ho := fill_own ef
    have S1 := f1.st
    refine ⟨G.R σ env1, ds', S1.dom, ?_, ?_, ?_, ?_⟩
    · rw [List.append_nil]; exact rpIO_of S1 r ef
    · rw [List.append_nil]; exact ioR_nodup S1 r nd ho
    · rw [List.append_nil]
      intro a hm
      obtain ⟨i, h1, h2⟩ := mem_ioR r hm
      obtain ⟨d, hd⟩ := ho i h1
      exact .inr ⟨i, d, hd, h2⟩
    · rw [List.append_nil]
      cases eg : g ds' with
      | no => rw [eg] at q1; exact q1.elim
      | exc x => rw [eg] at q1; exact q1.elim
      | ok d ios =>
        rw [eg] at q1
        simp only at q1 ⊢
        cases ep : putH js ios env1 with
        | none => rw [ep] at q1; exact q1.elim
        | some env2 =>
          rw [ep] at q1
          intro v H' kp rv rt
          obtain ⟨S2, RR, kR⟩ := S1.called r nd ho kp rt ep
          refine q1 H' ⟨S2, nofun, kR, fun a z => (RR a).mp z⟩ v (f1.back ?_)
          have eq : G.R σ env2 = G.R σ env1 := funext fun a => propext (or_congr Iff.rfl (RR a))
          rw [eq]; exact rv
end
end PV
namespace PV
open PySem PySem.Spec PyProof.Rows L2

inductive Out where
  | nx (e : EnvD) | rt (d : D) (e : EnvD) | bk (e : EnvD) | ct (e : EnvD) | exc (x : Ex) (e : EnvD) | no
abbrev Sm := EnvD → Out
def sq (f g : Sm) : Sm := fun e => match f e with
  | .nx e1 => g e1
  | o => o
def nxt : Sm := fun e => .nx e
/-- an expression, then what is done with its value -/
def thenS {α : Type} (m : M α) (k : α → Sm) : Sm := fun e => match m e with
  | .ok d e1 => k d e1
  | .exc x e1 => .exc x e1
  | .no => .no
def drp (m : M D) : Sm := thenS m fun _ e => .nx e
def rtn (m : M D) : Sm := thenS m fun d e => .rt d e
def rtO (i : Nat) : Sm := fun e => match e[i]? with
  | some (.own d) => .rt d e
  | some (.shr d) => .no
  | _ => .no
def ifS (t : M Bool) (f g : Sm) : Sm := thenS t fun b => if b = true then f else g
def setS (i : Nat) (m : M D) : Sm := thenS m fun d e => .nx (e.set i (.shr d))
def ownC : D → PV.Cell
  | .list ds => .own (.list ds)
  | .dict ds => .own (.dict ds)
  | d => .shr d
def setO (i : Nat) (m : M D) : Sm := thenS m fun d e => .nx (e.set i (ownC d))
def wip : List Nat → EnvD → EnvD
  | [], e => e
  | i :: is, e => wip is (e.set i .emp)

structure Stp (K : PySem.W.Frag) (G : Amb) (σ : L2.St) (H : Hp) (env : EnvD) (σ' : L2.St) (H' : Hp) (env' : EnvD) : Prop where
  st : StR K G σ' H' env'
  keepo : Keep (rts σ env) H H'
  subo : ∀ a, rts σ' env' a → rts σ env a ∨ H a = none
theorem Stp.keep {K : PySem.W.Frag} {G : Amb} {σ σ' : L2.St} {H H' : Hp} {env env' : EnvD} (s : Stp K G σ H env σ' H' env') : Keep (G.R σ env) H H' := s.keepo.mono fun _ z => .inr z
theorem Stp.sub {K : PySem.W.Frag} {G : Amb} {σ σ' : L2.St} {H H' : Hp} {env env' : EnvD} (s : Stp K G σ H env σ' H' env') : ∀ a, G.R σ' env' a → G.R σ env a ∨ H a = none := fun a z => by
  rcases z with z | z
  · exact .inl (.inl z)
  · exact (s.subo a z).imp .inr id
def OkS (K : PySem.W.Frag) (G : Amb) (fl : Lvl) (σ : L2.St) (H : Hp) (env : EnvD) (o : Out) (Dn : Ends) : Prop := match o with
  | .nx e => ∀ σ' H', Stp K G σ H env σ' H' e → Dn.nx σ' H'
  | .bk e => ∀ σ' H', Stp K G σ H env σ' H' e → Dn.bk σ' H'
  | .ct e => ∀ σ' H', Stp K G σ H env σ' H' e → Dn.ct σ' H'
  | .rt d e => ∀ σ' H' v, Stp K G σ H env σ' H' e → RpX fl K G.H0 H' G.N v d → Dn.rt v H'
  | .exc x e => ∀ σ' H' c dd, Stp K G σ H env σ' H' e → G.XR x c dd H' → G.W c dd σ' H'
  | .no => False
def tSt (K : PySem.W.Frag) (G : Amb) (fl : Lvl) (f : Sm) : TS := fun Dn σ H => ∃ env, StR K G σ H env ∧ OkS K G fl σ H env (f env) Dn
def JS (X : Cx) (G : Amb) (fl : Lvl) (st : Stmt) (f : Sm) : Prop := PS X st (tSt X.K G fl f)
def JB (X : Cx) (G : Amb) (fl : Lvl) (st : List Stmt) (f : Sm) : Prop := PSs X st (tSt X.K G fl f)

section
variable {K : PySem.W.Frag} {G : Amb} {σ σ' σ1 σ2 : L2.St} {H H' H1 H2 : Hp} {env env' env1 env2 : EnvD} {fl : Lvl}
theorem Stp.refl (S : StR K G σ H env) : Stp K G σ H env σ H env := ⟨S, .refl _ _, fun _ h => .inl h⟩
theorem Stp.trans (a : Stp K G σ H env σ1 H1 env1) (b : Stp K G σ1 H1 env1 σ2 H2 env2) : Stp K G σ H env σ2 H2 env2 where
  st := b.st
  keepo := a.keepo.trans b.keepo fun c h z => (a.subo c z).resolve_right fun w => by obtain ⟨o, h⟩ := h; rw [w] at h; cases h
  subo := fun c h => by
    rcases b.subo c h with z | z
    · exact a.subo c z
    · refine .inr ?_
      cases q : H c with
      | none => rfl
      | some o =>
        obtain ⟨o', w⟩ := a.keep.there ⟨o, q⟩
        rw [z] at w; cases w
theorem Stp.eff {p : Bool} (f : Eff K G p σ H env H1 env1) : Stp K G σ H env σ H1 env1 := ⟨f.st, f.keepo, fun a h => .inl (f.subo a h)⟩
theorem OkS.back {o : Out} {Dn : Ends} (s : Stp K G σ H env σ1 H1 env1) (h : OkS K G fl σ H env o Dn) : OkS K G fl σ1 H1 env1 o Dn := by
  cases o with
  | nx e => exact fun σ' H' t => h σ' H' (s.trans t)
  | bk e => exact fun σ' H' t => h σ' H' (s.trans t)
  | ct e => exact fun σ' H' t => h σ' H' (s.trans t)
  | rt d e => exact fun σ' H' v t => h σ' H' v (s.trans t)
  | exc x e => exact fun σ' H' c dd t => h σ' H' c dd (s.trans t)
  | no => exact h
theorem OkS.thenS {α : Type} {m : M α} {k : α → Sm} {Dn : Ends} (p : Bool) (h : OkS K G fl σ H env (thenS m k env) Dn) :
    Ok K G p σ H env (m env) fun a env1 H1 => Eff K G p σ H env H1 env1 ∧ OkS K G fl σ H1 env1 (k a env1) Dn := by
  unfold PV.thenS at h
  unfold Ok
  cases e : m env with
  | no => rw [e] at h; exact h
  | exc x env1 =>
    rw [e] at h
    exact fun c d H1 f hx => h σ H1 c d (.eff f) hx
  | ok a env1 =>
    rw [e] at h
    exact fun H1 f => ⟨f, OkS.back (.eff f) h⟩

theorem OkS.thenS0 {α : Type} {m : M α} {k : α → Sm} {Dn : Ends} (p : Bool) (h : OkS K G fl σ H env (PV.thenS m k env) Dn) :
    Ok K G p σ H env (m env) fun a env1 H1 => Eff K G p σ H env H1 env1 ∧ OkS K G fl σ H env (k a env1) Dn := by
  unfold PV.thenS at h
  unfold Ok
  cases e : m env with
  | no => rw [e] at h; exact h
  | exc x env1 =>
    rw [e] at h
    exact fun c d H1 f hx => h σ H1 c d (.eff f) hx
  | ok a env1 =>
    rw [e] at h
    exact fun H1 f => ⟨f, h⟩

/-- a slot is stored -/
theorem rts_set {i : Nat} {c : PV.Cell} {v : Option V} {a : Addr} (hl : env.length = σ.length) (h : rts (σ.set i v) (env.set i c) a) : rts σ env a ∨ (v = some (.ref a) ∧ ∃ d, c = .own d) := by
  obtain ⟨j, d, h1, h2⟩ := h
  by_cases hj : i = j
  · subst hj
    by_cases hi : i < env.length
    · rw [List.getElem?_set_self hi] at h1
      rw [List.getElem?_set_self (by omega)] at h2
      cases h1; cases h2
      exact .inr ⟨rfl, d, rfl⟩
    · rw [List.getElem?_eq_none (by rw [List.length_set]; omega)] at h1; cases h1
  · rw [List.getElem?_set_ne hj] at h1 h2
    exact .inl ⟨j, d, h1, h2⟩
theorem lt_of_some {α : Type} {l : List α} {i : Nat} {x : α} (h : l[i]? = some x) : i < l.length := by
  rcases Nat.lt_or_ge i l.length with z | z
  · exact z
  · rw [List.getElem?_eq_none z] at h; cases h
/-- the state with a slot stored anew; f: how what stood is carried over -/
theorem StR.put (S : StR K G σ H env) {i : Nat} {v : Option V} {c : PV.Cell} (hi : i ∉ G.fx) (s : Same H H') (fw : Fwd K (G.R σ env) (G.R (σ.set i v) (env.set i c)) H H')
    (hs : ∀ d, c = .shr d → ∃ u, v = some u ∧ Rp K H' (G.R (σ.set i v) (env.set i c)) u d)
    (ho : ∀ d, c = .own d → ∃ a, v = some (.ref a) ∧ Root K H' (G.R (σ.set i v) (env.set i c)) a d ∧ ¬ G.R σ env a ∧ G.H0 a = none) : StR K G (σ.set i v) H' (env.set i c) := by
  have ne : ∀ {j : Nat} {c' : PV.Cell}, (env.set i c)[j]? = some c' → (i ≠ j ∧ env[j]? = some c' ∧ (σ.set i v)[j]? = σ[j]?) ∨ (i = j ∧ c' = c ∧ (σ.set i v)[j]? = some v) := fun {j c'} h => by
    by_cases hj : i = j
    · subst hj
      have hl := lt_of_some h
      rw [List.length_set] at hl
      rw [List.getElem?_set_self hl] at h
      cases h
      exact .inr ⟨rfl, rfl, List.getElem?_set_self (by rw [← S.len]; exact hl)⟩
    · rw [List.getElem?_set_ne hj] at h
      exact .inl ⟨hj, h, List.getElem?_set_ne hj⟩
  refine ⟨by rw [List.length_set, List.length_set]; exact S.len, S.keep.trans (Keep.of_same (N := G.IO) s) fun _ _ h => h, fun j d h => ?_, fun j d h => ?_, fun j k d e a h1 h2 h3 h4 => ?_, fun a z => let ⟨⟨o, e⟩, n⟩ := S.zd a z; ⟨⟨o, s _ _ e⟩, n⟩, fun j hj => ?_⟩
  · rcases ne h with ⟨hj, h1, h2⟩ | ⟨hj, h1, h2⟩
    · obtain ⟨u, e1, r⟩ := S.shr j d h1
      exact ⟨u, h2.trans e1, r.fwd fw⟩
    · obtain ⟨u, e1, r⟩ := hs d h1.symm
      exact ⟨u, by rw [h2, e1], r⟩
  · rcases ne h with ⟨hj, h1, h2⟩ | ⟨hj, h1, h2⟩
    · obtain ⟨a, e1, r, o⟩ := S.own j d h1
      refine ⟨a, h2.trans e1, r.at fw ?_, o⟩
      obtain ⟨ob, z, _⟩ := r.there
      rw [z, s _ _ z]
    · obtain ⟨a, e1, r, nr, o⟩ := ho d h1.symm
      exact ⟨a, by rw [h2, e1], r, .inl o, fun z => nr (.inl (.inr z))⟩
  · rcases ne h1 with ⟨hj, g1, g2⟩ | ⟨hj, g1, g2⟩
    · rcases ne h2 with ⟨hk, k1, k2⟩ | ⟨hk, k1, k2⟩
      · rw [g2] at h3
        rw [k2] at h4
        exact S.dis j k d e a g1 k1 h3 h4
      · obtain ⟨b, e1, _, nr, _⟩ := ho e k1.symm
        rw [k2, e1] at h4
        cases h4
        rw [g2] at h3
        exact absurd (.inr ⟨j, d, g1, h3⟩) nr
    · rcases ne h2 with ⟨hk, k1, k2⟩ | ⟨hk, k1, k2⟩
      · obtain ⟨b, e1, _, nr, _⟩ := ho d g1.symm
        rw [g2, e1] at h3
        cases h3
        rw [k2] at h4
        exact absurd (.inr ⟨k, e, k1, h4⟩) nr
      · exact hj.symm.trans hk
  · have hj2 : i ≠ j := fun q => hi (q ▸ hj)
    rw [List.getElem?_set_ne hj2, List.getElem?_set_ne hj2]
    exact S.fix j hj
theorem StR.putS (S : StR K G σ H env) {i : Nat} {v : V} {d : D} (hi : i ∉ G.fx) (r : Rp K H (G.R σ env) v d) : StR K G (σ.set i (some v)) H (env.set i (.shr d)) ∧ ∀ a, rts (σ.set i (some v)) (env.set i (.shr d)) a → rts σ env a := by
  have subo : ∀ a, rts (σ.set i (some v)) (env.set i (.shr d)) a → rts σ env a := fun a z => (rts_set S.len z).resolve_right fun w => by obtain ⟨_, _, w⟩ := w; cases w
  have sub := R_of (G := G) subo
  have fw : Fwd K (G.R σ env) (G.R (σ.set i (some v)) (env.set i (.shr d))) H H := .sub_same (Same.refl H) sub
  exact ⟨S.put hi (Same.refl H) fw (fun d' e => by cases e; exact ⟨v, rfl, r.fwd fw⟩) (fun d' e => by cases e), subo⟩
theorem StR.putE (S : StR K G σ H env) {i : Nat} {v : Option V} (hi : i ∉ G.fx) : StR K G (σ.set i v) H (env.set i .emp) ∧ ∀ a, rts (σ.set i v) (env.set i .emp) a → rts σ env a := by
  have subo : ∀ a, rts (σ.set i v) (env.set i .emp) a → rts σ env a := fun a z => (rts_set S.len z).resolve_right fun w => by obtain ⟨_, _, w⟩ := w; cases w
  have sub := R_of (G := G) subo
  have fw : Fwd K (G.R σ env) (G.R (σ.set i v) (env.set i .emp)) H H := .sub_same (Same.refl H) sub
  exact ⟨S.put hi (Same.refl H) fw (fun d' e => by cases e) (fun d' e => by cases e), subo⟩
/-- a slot is forgotten, its value stays -/
theorem StR.drop (S : StR K G σ H env) {i : Nat} (hi : i ∉ G.fx) : StR K G σ H (env.set i .emp) ∧ ∀ a, rts σ (env.set i .emp) a → rts σ env a := by
  by_cases hl : i < σ.length
  · have e : σ.set i σ[i] = σ := by
      apply List.ext_getElem?
      intro j
      by_cases hj : i = j
      · subst hj
        rw [List.getElem?_set_self hl, List.getElem?_eq_getElem hl]
      · rw [List.getElem?_set_ne hj]
    have := S.putE (v := σ[i]) hi
    rw [e] at this
    exact this
  · have e : env.set i .emp = env := List.set_eq_of_length_le (by rw [S.len]; omega)
    rw [e]
    exact ⟨S, fun _ h => h⟩
theorem StR.wips (S : StR K G σ H env) : ∀ {is : List Nat}, (∀ i ∈ is, i ∉ G.fx) → StR K G σ H (wip is env) ∧ ∀ a, rts σ (wip is env) a → rts σ env a := fun {is} => by
  induction is generalizing env with
  | nil => exact fun _ => ⟨S, fun _ h => h⟩
  | cons i is ih =>
    intro h
    obtain ⟨S1, r1⟩ := S.drop (h i List.mem_cons_self)
    obtain ⟨S2, r2⟩ := ih S1 fun j z => h j (List.mem_cons_of_mem _ z)
    exact ⟨S2, fun a z => r1 a (r2 a z)⟩
theorem Stp.wips (S : StR K G σ H env) {is : List Nat} (h : ∀ i ∈ is, i ∉ G.fx) : Stp K G σ H env σ H (wip is env) := ⟨(S.wips h).1, .refl _ _, fun a z => .inl ((S.wips h).2 a z)⟩
/-- a new thing is stored -/
theorem StR.putO (S : StR K G σ H env) {i : Nat} {a : Addr} {d : D} (hi : i ∉ G.fx) (s : Same H H') (hn : H a = none) (r : Root K H' (fun b => G.R σ env b ∨ b = a) a d) :
    StR K G (σ.set i (some (.ref a))) H' (env.set i (.own d)) ∧ ∀ b, rts (σ.set i (some (.ref a))) (env.set i (.own d)) b → rts σ env b ∨ b = a := by
  have subo : ∀ b, rts (σ.set i (some (.ref a))) (env.set i (.own d)) b → rts σ env b ∨ b = a := fun b z => by
    rcases rts_set S.len z with z | ⟨z, _⟩
    · exact .inl z
    · cases z; exact .inr rfl
  have sub : ∀ b, G.R (σ.set i (some (.ref a))) (env.set i (.own d)) b → G.R σ env b ∨ b = a := fun b z => by
    rcases z with z | z
    · exact .inl (.inl z)
    · rcases rts_set S.len z with z | ⟨z, _⟩
      · exact .inl (.inr z)
      · cases z; exact .inr rfl
  have fw : Fwd K (G.R σ env) (G.R (σ.set i (some (.ref a))) (env.set i (.own d))) H H' := ⟨fun b o e _ => s b o e, fun b o e _ => s b o e, fun b z n => by
    rcases sub b z with w | w
    · exact absurd w n
    · rw [w]; exact hn⟩
  refine ⟨S.put hi s fw (fun d' e => by cases e) (fun d' e => ?_), subo⟩
  cases e
  refine ⟨a, rfl, r.same (Same.refl _) sub, fun z => ?_, ?_⟩
  · obtain ⟨o, w⟩ := S.dom a z
    rw [hn] at w; cases w
  · cases q : G.H0 a with
    | none => rfl
    | some o =>
      obtain ⟨o', w⟩ := S.keep.there ⟨o, q⟩
      rw [hn] at w; cases w
end

section
variable {X : Cx} {G : Amb} {p pa pb pc : Bool} {l la lb fl : Lvl} {e a b c : Expr} {es : List Expr} {f fa fb fc : M D} {pos apos p' : Pos} {ta tb : M Bool} {fr : M (List D)} {sf : Bool} {k : Nat} {x : Str} {st : Stmt} {rest : List Stmt} {s1 s2 : Sm}
theorem not_fx {i : Nat} (h : G.fx.contains i = false) : i ∉ G.fx := fun z => by rw [List.contains_iff_mem.mpr z] at h; cases h
theorem jb_nil : JB X G fl [] nxt := pss_mono pss_nil fun Dn σ H ⟨env, S, q⟩ => q σ H (.refl S)
theorem jb_one (h : JS X G fl st s1) : JB X G fl [st] s1 := pss_one h
theorem jb_cons (h : JS X G fl st s1) (h2 : JB X G fl rest s2) : JB X G fl (st :: rest) (sq s1 s2) := pss_mono (pss_cons h h2) fun Dn σ H ⟨env, S, q⟩ => by
  refine ⟨env, S, ?_⟩
  unfold sq at q
  cases e : s1 env with
  | nx e1 =>
    rw [e] at q
    exact fun σ' H' t => ⟨e1, t.st, OkS.back t q⟩
  | rt d e1 => rw [e] at q; exact q
  | bk e1 => rw [e] at q; exact q
  | ct e1 => rw [e] at q; exact q
  | exc x e1 => rw [e] at q; exact q
  | no => rw [e] at q; exact q
theorem js_pass : JS X G fl (.Pass pos) nxt := ps_mono ps_pass fun Dn σ H ⟨env, S, q⟩ => q σ H (.refl S)
theorem js_break : JS X G fl (.Break pos) (fun e => .bk e) := ps_mono ps_break fun Dn σ H ⟨env, S, q⟩ => q σ H (.refl S)
theorem js_continue : JS X G fl (.Continue pos) (fun e => .ct e) := ps_mono ps_continue fun Dn σ H ⟨env, S, q⟩ => q σ H (.refl S)
theorem js_doc {y : Str} {j : Nat} {pos' : Pos} : JS X G fl (.Expr (.Constant (.str y) j pos) pos') nxt := ps_mono ps_doc fun Dn σ H ⟨env, S, q⟩ => q σ H (.refl S)
theorem js_expr (h : J X G p l e fa) (hs : swapsWith e none pos.line X.env = pure false := by rfl) : JS X G fl (.Expr e pos) (drp fa) := ps_mono (ps_expr h hs) fun Dn σ H ⟨env, S, q⟩ => by
  exact ⟨env, S, (OkS.thenS p q).mono fun d env1 H1 ⟨f1, q1⟩ v rv => q1 σ H1 (.refl f1.st)⟩
theorem js_if (hc : JT X G p e ta) {aa bb : List Stmt} (h1 : JB X G fl aa s1) (h2 : JB X G fl bb s2) : JS X G fl (.If e aa bb pos) (ifS ta s1 s2) := ps_mono (ps_if hc h1 h2) fun Dn σ H ⟨env, S, q⟩ => by
  refine ⟨env, S, (OkS.thenS p q).mono fun d env1 H1 ⟨f1, q1⟩ => ?_⟩
  cases d with
  | true =>
    simp only [if_true] at q1 ⊢
    exact ⟨env1, f1.st, q1⟩
  | false =>
    simp only [Bool.false_eq_true, if_false] at q1 ⊢
    exact ⟨env1, f1.st, q1⟩
/-- return e -/
theorem js_ret (h : J X G p l e fa) (hl : (match fl with | .fre => (match l with | .fre => true | _ => false) | .saf => l.safe | .bor => true) = true := by rfl) : JS X G fl (.Return (some e) pos) (rtn fa) := ps_mono (ps_ret h) fun Dn σ H ⟨env, S, q⟩ => by
  refine ⟨env, S, (OkS.thenS p q).mono fun d env1 H1 ⟨f1, q1⟩ v rv => q1 σ H1 v (.refl f1.st) ?_⟩
  have sub : ∀ a, G.N a → G.R σ env1 a := fun a z => .inl (.inl z)
  have dom : ∀ a, G.R σ env1 a → ∃ o, H a = some o := fun a z => S.dom a (f1.sub a z)
  cases fl with
  | bor => exact (RpX.rpC dom rv).same (Same.refl _) sub
  | saf => exact (RpX.rp dom hl rv).fwd (.sub_same (Same.refl _) sub)
  | fre =>
    cases l with
    | bor => cases hl
    | saf => cases hl
    | fre =>
      have n : ∀ a, H a = none → G.H0 a = none := fun a e => by
        cases q : G.H0 a with
        | none => rfl
        | some o =>
          obtain ⟨o', z⟩ := S.keep.there ⟨o, q⟩
          rw [e] at z; cases z
      have rv' : RpF X.K H H1 (G.R σ env1) v d := rv
      have sub2 : ∀ x a, (G.N a ∨ a = x) → (G.R σ env1 a ∨ a = x) := fun x a z => z.imp (sub a) id
      show RpF X.K G.H0 H1 G.N v d
      cases d with
      | list ds =>
        obtain ⟨a, xs, e, h1, h2, r⟩ := rv'
        exact ⟨a, xs, e, n a h1, h2, r.fwd (.sub_same (Same.refl _) (sub2 a))⟩
      | dict ds =>
        obtain ⟨a, xs, e, h1, h2, r⟩ := rv'
        exact ⟨a, xs, e, n a h1, h2, r.fwd (.sub_same (Same.refl _) (sub2 a))⟩
      | none => exact Rp.fwd (.sub_same (Same.refl _) sub) rv'
      | bool _ => exact Rp.fwd (.sub_same (Same.refl _) sub) rv'
      | int _ => exact Rp.fwd (.sub_same (Same.refl _) sub) rv'
      | str _ => exact Rp.fwd (.sub_same (Same.refl _) sub) rv'
      | tuple _ => exact Rp.fwd (.sub_same (Same.refl _) sub) rv'
theorem js_retN : JS X G fl (.Return none pos) (rtn (ret .none)) := ps_mono ps_retN fun Dn σ H ⟨env, S, q⟩ => q σ H .non (.refl S) (by
  cases fl with
  | bor => exact .of .non
  | saf => exact .non
  | fre => exact .non)
/-- return x, a thing of one's own -/
theorem js_retO (i : Nat) {y : Str} (h : PE X (.Name y p') (tVar i)) (hi : G.fx.contains i = false := by rfl) : JS X G fl (.Return (some (.Name y p')) pos) (rtO i) := ps_mono (ps_ret h) fun Dn σ H ⟨env, S, q⟩ => by
  unfold rtO at q
  cases ec : env[i]? with
  | none => rw [ec] at q; exact q.elim
  | some cc =>
    rw [ec] at q
    cases cc with
    | emp => exact q.elim
    | shr d => exact q.elim
    | own d =>
      obtain ⟨a, e1, r, o, _⟩ := S.own i d ec
      refine ⟨.ref a, e1, q σ H _ (.refl S) ?_⟩
      have hr : G.R σ env a := .inr ⟨i, d, ec, e1⟩
      have na : G.H0 a = none := o.resolve_right fun ⟨j, hj, z⟩ => by
        obtain ⟨z1, d3, z2⟩ := S.fix j hj
        rw [z] at z1
        exact not_fx hi (S.dis i j _ _ a ec z2 e1 z1 ▸ hj)
      have nN : ¬ G.N a := fun z => by
        obtain ⟨o, w⟩ := G.nd a z
        rw [na] at w; cases w
      have f : Fwd X.K (G.R σ env) (fun b => G.N b ∨ b = a) H H := .sub_same (Same.refl _) fun b z => by
        rcases z with z | rfl
        · exact .inl (.inl z)
        · exact hr
      have rF : RpF X.K G.H0 H G.N (.ref a) d := by
        cases r with
        | lst h1 h2 => exact ⟨a, _, rfl, na, h1, h2.fwd f⟩
        | dct h1 h2 => exact ⟨a, _, rfl, na, h1, h2.fwd f⟩
      cases fl with
      | fre => exact rF
      | saf => exact rF.rp G.nd
      | bor => exact .of (rF.rp G.nd)
/-- x = e -/
theorem js_set (i : Nat) (hN : X.N.Nodup) (hi : X.N[i]? = some x) (hx : Loc X.env.scope x) (he : J X G p l e fa) (hl : l.safe = true := by rfl) (hf : G.fx.contains i = false := by rfl)
    (hs : swapsWith e (some (.Name x p')) pos.line X.env = pure false := by rfl) (hfn : X.fn x = true ∨ X.env.scope.names.lookup x = some .local := by first | exact .inl rfl | exact .inr rfl | assumption) :
    JS X G fl (.Assign [.Name x p'] e pos) (setS i fa) := ps_mono (ps_set hN hi hx he hs hfn) fun Dn σ H ⟨env, S, q⟩ => by
  refine ⟨env, S, (OkS.thenS p q).mono fun d env1 H1 ⟨f1, q1⟩ v rv => ?_⟩
  obtain ⟨S2, sub⟩ := f1.st.putS (i := i) (v := v) (d := d) (not_fx hf) (RpX.rp (fun a z => S.dom a (f1.sub a z)) hl rv)
  exact q1 _ H1 ⟨S2, .refl _ _, fun a z => .inl (sub a z)⟩
theorem putO_step {σ : L2.St} {H H1 : Hp} {env : EnvD} {i : Nat} {v : V} {d : D} (S : StR X.K G σ H env) (hi : i ∉ G.fx) (s : Same H H1) (r : RpF X.K H H1 (G.R σ env) v d) : Stp X.K G σ H env (σ.set i (some v)) H1 (env.set i (ownC d)) := by
  have plain : ∀ {d : D}, Rp X.K H1 (G.R σ env) v d → Stp X.K G σ H env (σ.set i (some v)) H1 (env.set i (.shr d)) := fun {d} r => by
    obtain ⟨S2, sub⟩ := (S.same s).putS (i := i) hi r
    exact ⟨S2, .of_same s, fun a z => .inl (sub a z)⟩
  cases d with
  | list ds =>
    obtain ⟨a, xs, rfl, h1, h2, r⟩ := r
    obtain ⟨S2, sub⟩ := S.putO (i := i) (d := .list ds) hi s h1 (.lst h2 r)
    exact ⟨S2, .of_same s, fun b z => (sub b z).imp id fun z => by rw [z]; exact h1⟩
  | dict ds =>
    obtain ⟨a, xs, rfl, h1, h2, r⟩ := r
    obtain ⟨S2, sub⟩ := S.putO (i := i) (d := .dict ds) hi s h1 (.dct h2 r)
    exact ⟨S2, .of_same s, fun b z => (sub b z).imp id fun z => by rw [z]; exact h1⟩
  | none => exact plain r
  | bool _ => exact plain r
  | int _ => exact plain r
  | str _ => exact plain r
  | tuple _ => exact plain r
/-- x = a new thing, to be changed in place -/
theorem js_setO (i : Nat) (hN : X.N.Nodup) (hi : X.N[i]? = some x) (hx : Loc X.env.scope x) (he : J X G true .fre e fa) (hf : G.fx.contains i = false := by rfl)
    (hs : swapsWith e (some (.Name x p')) pos.line X.env = pure false := by rfl) (hfn : X.fn x = true ∨ X.env.scope.names.lookup x = some .local := by first | exact .inl rfl | exact .inr rfl | assumption) :
    JS X G fl (.Assign [.Name x p'] e pos) (setO i fa) := ps_mono (ps_set hN hi hx he hs hfn) fun Dn σ H ⟨env, S, q⟩ => by
  refine ⟨env, S, (OkS.thenS0 true q).mono fun d env1 H1 ⟨f1, q1⟩ v rv => ?_⟩
  obtain ⟨e1, s⟩ := f1.pure rfl
  subst e1
  exact q1 _ H1 (putO_step S (not_fx hf) s rv)
end
end PV
namespace PV
open PySem PySem.Spec PyProof.Rows L2

/-! targets -/
inductive Tg where
  | nm (i : Nat) | tp (ts : List Tg)
mutual
def bindT : Tg → D → EnvD → Option EnvD
  | .nm i, d, e => some (e.set i (.shr d))
  | .tp ts, .tuple ds, e => bindTs ts ds e
  | .tp _, _, _ => none
def bindTs : List Tg → List D → EnvD → Option EnvD
  | [], [], e => some e
  | t :: ts, d :: ds, e => match bindT t d e with
    | some e1 => bindTs ts ds e1
    | none => none
  | _, _, _ => none
end
mutual
def slT : Tg → List Nat
  | .nm i => [i]
  | .tp ts => slTs ts
def slTs : List Tg → List Nat
  | [] => []
  | t :: ts => slT t ++ slTs ts
end
def tTg (K : PySem.W.Frag) (G : Amb) (t : Tg) : TG := fun v σ H Q => ∃ env d env', StR K G σ H env ∧ Rp K H (G.R σ env) v d ∧ bindT t d env = some env' ∧
  ∀ σ', StR K G σ' H env' → (∀ a, rts σ' env' a → rts σ env a) → (∀ j, j ∉ slT t → σ'[j]? = σ[j]?) → σ'.length = σ.length → Q σ' H
def tTgs (K : PySem.W.Frag) (G : Amb) (ts : List Tg) : TGs := fun vs σ H Q => ∃ env ds env', StR K G σ H env ∧ RpAll K H (G.R σ env) vs ds ∧ bindTs ts ds env = some env' ∧
  ∀ σ', StR K G σ' H env' → (∀ a, rts σ' env' a → rts σ env a) → (∀ j, j ∉ slTs ts → σ'[j]? = σ[j]?) → σ'.length = σ.length → Q σ' H
def JG (X : Cx) (G : Amb) (tg : Expr) (t : Tg) : Prop := PG X tg (tTg X.K G t)
def JGs (X : Cx) (G : Amb) (es : List Expr) (ts : List Tg) : Prop := PGs X es (tTgs X.K G ts)
theorem pg_mono {X : Cx} {e : Expr} {t t' : TG} (h : PG X e t) (m : ∀ v σ H Q, t' v σ H Q → t v σ H Q) : PG X e t' := ⟨fun pins s σ H v u Q I r q => h.run pins s σ H v u Q I r (m _ _ _ _ q)⟩
theorem pgs_mono {X : Cx} {e : List Expr} {t t' : TGs} (h : PGs X e t) (m : ∀ v σ H Q, t' v σ H Q → t v σ H Q) : PGs X e t' := ⟨fun pins s σ H v u Q I r q => h.run pins s σ H v u Q I r (m _ _ _ _ q)⟩

section
variable {X : Cx} {G : Amb} {p pa pb pc : Bool} {l la lb fl : Lvl} {e a b c tg : Expr} {es : List Expr} {f fa fb fc : M D} {pos apos p' : Pos} {ta tb : M Bool} {fr : M (List D)} {sf : Bool} {k : Nat} {x : Str} {st : Stmt} {rest : List Stmt} {s1 s2 : Sm} {t : Tg} {ts : List Tg}
theorem jg_nm (i : Nat) (hN : X.N.Nodup) (hi : X.N[i]? = some x) (hx : Loc X.env.scope x) (hf : G.fx.contains i = false := by rfl) (hfn : X.fn x = true ∨ X.env.scope.names.lookup x = some .local := by first | exact .inl rfl | exact .inr rfl | assumption) :
    JG X G (.Name x pos) (.nm i) := pg_mono (pg_name hN hi hx hfn) fun v σ H Q ⟨env, d, env', S, r, eb, q⟩ => by
  have e2 : env.set i (.shr d) = env' := Option.some.inj (show some (env.set i (.shr d)) = some env' from eb)
  subst e2
  obtain ⟨S2, sub⟩ := S.putS (i := i) (not_fx hf) r
  refine q _ S2 sub (fun j hj => ?_) (List.length_set ..)
  have hij : i ≠ j := fun z => hj (by rw [z]; exact List.mem_cons_self)
  exact List.getElem?_set_ne hij
theorem jgs_nil : JGs X G [] [] := pgs_mono pgs_nil fun vs σ H Q ⟨env, ds, env', S, r, eb, q⟩ => by
  cases ds with
  | nil =>
    cases r
    have e2 : env = env' := Option.some.inj (show some env = some env' from eb)
    subst e2
    exact ⟨rfl, q σ S (fun _ z => z) (fun _ _ => rfl) rfl⟩
  | cons d ds => exact nomatch (show none = some env' from eb)
theorem jgs_cons (h1 : JG X G e t) (h2 : JGs X G es ts) (hs : (assignEach (e :: es) X.env).map (·.2) = assign e X.env :: (assignEach es X.env).map (·.2) := by rfl) : JGs X G (e :: es) (t :: ts) :=
    pgs_mono (pgs_cons h1 h2 hs) fun vs σ H Q ⟨env, ds, env', S, r, eb, q⟩ => by
  cases ds with
  | nil => exact nomatch (show none = some env' from eb)
  | cons d ds =>
    cases r with
    | cons r1 r2 =>
      rename_i v vr
      have eb' : (match bindT t d env with | some e1 => bindTs ts ds e1 | none => none) = some env' := eb
      cases e1 : bindT t d env with
      | none => rw [e1] at eb'; cases eb'
      | some env1 =>
        rw [e1] at eb'
        refine ⟨_, _, rfl, env, d, env1, S, r1, e1, fun σ1 S1 sub1 k1 l1 => ?_⟩
        refine ⟨env1, ds, env', S1, r2.fwd (.sub_same (Same.refl H) (R_of sub1)), eb', fun σ2 S2 sub2 k2 l2 => ?_⟩
        refine q σ2 S2 (fun a z => sub1 a (sub2 a z)) (fun j hj => ?_) (l2.trans l1)
        have hj' : j ∉ slT t ∧ j ∉ slTs ts := by
          have : j ∉ slT t ++ slTs ts := hj
          exact ⟨fun z => this (List.mem_append_left _ z), fun z => this (List.mem_append_right _ z)⟩
        exact (k2 j hj'.2).trans (k1 j hj'.1)
theorem bindTs_len : ∀ {ts : List Tg} {ds : List D} {e e' : EnvD}, bindTs ts ds e = some e' → ds.length = ts.length
  | [], [], _, _, _ => rfl
  | [], _ :: _, _, _, h => by cases h
  | _ :: _, [], _, _, h => by cases h
  | t :: ts, d :: ds, e, e', h => by
    have h' : (match bindT t d e with | some e1 => bindTs ts ds e1 | none => none) = some e' := h
    cases e1 : bindT t d e with
    | none => rw [e1] at h'; cases h'
    | some env1 => rw [e1] at h'; exact congrArg (· + 1) (bindTs_len h')
theorem jg_tp {n : Nat} {k : Nat} (hc : X.calm = true) (h : JGs X G es ts) (hl : ts.length = n := by rfl) (hn : (assignEach es X.env).length = n := by rfl) (hst : (assignEach es X.env).findIdx? (·.1) = none := by rfl) :
    JG X G (.Tuple es k pos) (.tp ts) := pg_mono (pg_tup hc h hn hst) fun v σ H Q ⟨env, d, env', S, r, eb, q⟩ => by
  cases d with
  | tuple ds =>
    obtain ⟨a, xs, rfl, h1, h2⟩ := (RpC.of r).tuple
    have eb' : bindTs ts ds env = some env' := eb
    refine ⟨a, xs, rfl, h1, ?_, env, ds, env', S, h2, eb', q⟩
    rw [h2.length, bindTs_len eb', hl]
  | _ => exact nomatch (show none = some env' from eb)
/-- target = e -/
def asgS (t : Tg) (m : M D) : Sm := thenS m fun d e => match bindT t d e with
  | some e1 => .nx e1
  | none => .no
theorem js_asg (he : J X G p l e fa) (hg : JG X G tg t) (hl : l.safe = true := by rfl) (hs : swapsWithSole [tg] e pos.line X.env = pure false := by rfl) (hw : swappedStores [tg] e X.env = pure none := by rfl)
    (h1 : (assignEach [tg] X.env).map (·.2) = [assign tg X.env] := by rfl) : JS X G fl (.Assign [tg] e pos) (asgS t fa) := ps_mono (ps_asg he hg hs hw h1) fun Dn σ H ⟨env, S, q⟩ => by
  refine ⟨env, S, (OkS.thenS p q).mono fun d env1 H1 ⟨f1, q1⟩ v rv => ?_⟩
  cases eb : bindT t d env1 with
  | none => rw [eb] at q1; exact q1.elim
  | some env2 =>
    rw [eb] at q1
    exact ⟨env1, d, env2, f1.st, RpX.rp (fun a z => S.dom a (f1.sub a z)) hl rv, eb, fun σ' S' sub _ _ => q1 σ' H1 ⟨S', .refl _ _, fun a z => .inl (sub a z)⟩⟩
end
end PV
namespace PV
open PySem PySem.Spec PyProof.Rows L2

/-! what is walked -/
/-- the heaps that the walk allows -/
def Al (sf : Bool) (R1 : Addr → Prop) (H1 H : Hp) : Prop := if sf = true then Keep R1 H1 H else Same H1 H
structure ItOk (K : PySem.W.Frag) (sf : Bool) (R1 : Addr → Prop) (H1 : Hp) (J : It) (ds : List D) : Prop where
  len : ds.length ≤ sizeLine
  go : ∀ (H : Hp) (i : Nat) (d : D), Al sf R1 H1 H → ds[i]? = some d → J.go i H ∧ ∀ x H', J.yld i H x H' → Same H H' ∧ Rp K H' (fun a => R1 a ∨ H1 a = none) x d
  stop : ∀ H, Al sf R1 H1 H → J.stop ds.length H
def tIt (K : PySem.W.Frag) (G : Amb) (p sf : Bool) (m : M (List D)) : TI := fun σ H R => ∃ env, StR K G σ H env ∧
  Ok K G p σ H env (m env) fun ds env1 H1 => ∀ J, ItOk K sf (G.R σ env1) H1 J ds → R J H1
def JI (X : Cx) (G : Amb) (p sf : Bool) (tg iter : Expr) (m : M (List D)) : Prop := PI X tg iter (tIt X.K G p sf m)
def seqD0 : D → Option (List D)
  | .list ds => some ds
  | .tuple ds => some ds
  | _ => none
def seqI0 (m : M D) : M (List D) := bnd m fun d => lft (seqD0 d)
/-- a text's signs -/
def chrD (x : Str) : List D := x.cps.toList.map fun c => PyData.str ⟨#[c]⟩
def seqD : D → Option (List D)
  | .list ds => some ds
  | .tuple ds => some ds
  | .str x => if (decide (x.cps.size ≤ sizeLine) && x.cps.toList.all fun c => PyData.strOk ⟨#[c]⟩) = true then some (chrD x) else none
  | _ => none
def seqI (m : M D) : M (List D) := bnd m fun d => lft (seqD d)

section
variable {K : PySem.W.Frag} {R1 : Addr → Prop} {H1 H : Hp} {sf : Bool}
theorem Al.fwd (h : Al sf R1 H1 H) : Fwd K R1 (fun a => R1 a ∨ H1 a = none) H1 H := by
  unfold Al at h
  cases sf with
  | true =>
    simp only [if_true] at h
    exact ⟨fun a o e n => h.at e n, fun a o e m => h.tup e m, fun a z n => z.resolve_left n⟩
  | false =>
    simp only [Bool.false_eq_true, if_false] at h
    exact ⟨fun a o e n => h a o e, fun a o e m => h a o e, fun a z n => z.resolve_left n⟩
theorem itOk_tup' {a : Addr} {xs : List V} {ds : List D} (h : SqT K H1 a xs) (r : RpAll K H1 R1 xs ds) (hl : ds.length ≤ sizeLine) : ItOk K sf R1 H1 (Itt K a) ds := by
  have st : ∀ {H}, Al sf R1 H1 H → SqT K H a xs := fun {H} al => sqT_fwd (K := K) (N' := fun a => R1 a ∨ H1 a = none) al.fwd h
  refine ⟨hl, fun H i d al e => ?_, fun H al => ⟨xs, st al, by rw [r.length]; exact Nat.le_refl _⟩⟩
  obtain ⟨v, e1, rv⟩ := r.get e
  refine ⟨⟨xs, v, st al, e1⟩, fun x H' y => ?_⟩
  obtain ⟨rfl, hy⟩ := y
  have e2 : x = v := Option.some.inj ((hy _ (st al)).symm.trans e1)
  subst e2
  exact ⟨Same.refl _, rv.fwd al.fwd⟩
theorem itOk_lst {a : Addr} {xs : List V} {ds : List D} (h : SqL K H1 a xs) (hk : ∀ H, Al sf R1 H1 H → SqL K H a xs) (r : RpAll K H1 R1 xs ds) (hl : ds.length ≤ sizeLine) : ItOk K sf R1 H1 (Itl K a) ds := by
  refine ⟨hl, fun H i d al e => ?_, fun H al => ⟨xs, hk H al, by rw [r.length]; exact Nat.le_refl _⟩⟩
  obtain ⟨v, e1, rv⟩ := r.get e
  refine ⟨⟨xs, v, hk H al, e1⟩, fun x H' y => ?_⟩
  obtain ⟨rfl, hy⟩ := y
  have e2 : x = v := Option.some.inj ((hy _ (hk _ al)).symm.trans e1)
  subst e2
  exact ⟨Same.refl _, rv.fwd al.fwd⟩
theorem list_at {H0 : Hp} {l : Lvl} {v : V} {ds : List D} (dom : ∀ a, R1 a → ∃ o, H0 a = some o) (hl : (l.safe || !sf) = true) (rv : RpX l K H0 H1 R1 v (.list ds)) :
    ∃ a xs, v = .ref a ∧ SqL K H1 a xs ∧ RpAll K H1 R1 xs ds ∧ ∀ H, Al sf R1 H1 H → SqL K H a xs := by
  cases sf with
  | false =>
    obtain ⟨a, xs, e, h1, h2⟩ := (RpX.rpC dom rv).list
    exact ⟨a, xs, e, .inl h1, h2, fun H al => Same.seq (show Same H1 H from al) (.inl h1)⟩
  | true =>
    cases RpX.rp dom (by simpa using hl) rv with
    | lst g1 g2 g3 =>
      exact ⟨_, _, rfl, .inl g1, g3, fun H al => .inl (sqL_fwd (K := K) (N' := R1) (.of_keep (show Keep R1 H1 H from al) fun _ z => z) g1 g2).1⟩
theorem itOk_rng {lo : Int} {n : Nat} (hl : n ≤ sizeLine) : ItOk K sf R1 H1 (Itr lo n) ((List.range n).map fun i => PyData.int (lo + (i : Nat))) := by
  refine ⟨by simpa using hl, fun H i d al e => ?_, fun H al => by simp [Itr]⟩
  have hi : i < n := by
    have := lt_of_some e
    simpa using this
  have e2 : d = PyData.int (lo + (i : Nat)) := by
    rw [List.getElem?_map, List.getElem?_range hi] at e
    exact (Option.some.inj e).symm
  subst e2
  refine ⟨hi, fun x H' y => ?_⟩
  obtain ⟨rfl, rfl⟩ := y
  exact ⟨Same.refl _, .int _⟩
end

section
variable {X : Cx} {G : Amb} {p pa pb pc : Bool} {l la lb fl : Lvl} {e a b c tg iter : Expr} {es : List Expr} {f fa fb fc : M D} {pos apos p' : Pos} {ta tb : M Bool} {fr m : M (List D)} {sf : Bool} {k : Nat} {x : Str} {st : Stmt} {rest : List Stmt} {s1 s2 : Sm} {t : Tg} {ts : List Tg}
theorem iter_list {pn : List (Addr × Obj)} {s : Shared} {σ : L2.St} {H : Hp} {a : Addr} {xs : List V} {R : It → Hp → Prop} (I : Inv X pn σ H s) (h : SqL X.K H a xs) (q : xs.length ≤ sizeLine → R (Itl X.K a) H) :
    wpAny (model X.prog X.w) X.A (pyIter (.ref a)) (PIE X pn σ tg R) X.xe s := by
  obtain ⟨us, rv, pl, hz⟩ := I.list h
  refine wpAny_pyIter_list pl.isList ⟨s.heap.objs.size, [s.heap.objs.size], _, _, H, rfl, ?_, turn_list a _, ?_, fun b hb => ?_, q hz⟩
  · exact I.kept (t' := s.toks) fun b o z => Heap.get?_push_of_some _ z
  · exact ⟨_, Heap.get?_push_size _ rfl, rfl, rfl⟩
  · obtain rfl : b = s.heap.objs.size := by simpa using hb
    exact I.fpOk (Nat.le_refl _) (I.hok.fresh (Nat.le_refl _))
theorem iter_tup {pn : List (Addr × Obj)} {s : Shared} {σ : L2.St} {H : Hp} {a : Addr} {xs : List V} {R : It → Hp → Prop} (I : Inv X pn σ H s) (h : SqT X.K H a xs) (q : xs.length ≤ sizeLine → R (Itt X.K a) H) :
    wpAny (model X.prog X.w) X.A (pyIter (.ref a)) (PIE X pn σ tg R) X.xe s := by
  obtain ⟨us, rv, pl, hz⟩ := I.tuple h
  refine wpAny_pyIter_tuple (show s.heap.IsTuple a us.toArray from pl) ⟨s.heap.objs.size, [s.heap.objs.size], _, _, H, rfl, ?_, turn_tuple a _, ?_, fun b hb => ?_, q hz⟩
  · exact I.kept (t' := s.toks) fun b o z => Heap.get?_push_of_some _ z
  · exact ⟨_, Heap.get?_push_size _ rfl, rfl, rfl⟩
  · obtain rfl : b = s.heap.objs.size := by simpa using hb
    exact I.fpOk (Nat.le_refl _) (I.hok.fresh (Nat.le_refl _))
/-- a list or a tuple -/
theorem ji_seq0 (h : J X G p l iter fa) (hl : (l.safe || !sf) = true := by rfl) : JI X G p sf tg iter (seqI0 fa) := ⟨fun pn s σ H R I ⟨env, S, q⟩ => by
  have h2 : tM X.K G p l fa σ H fun x H1 => ∃ a, x = V.ref a ∧ ((∃ xs, SqL X.K H1 a xs ∧ (xs.length ≤ sizeLine → R (Itl X.K a) H1)) ∨ ∃ xs, SqT X.K H1 a xs ∧ (xs.length ≤ sizeLine → R (Itt X.K a) H1)) := by
    refine ⟨env, S, (Ok.bind3 (p' := true) (by simp) q).mono fun d env1 H1 ⟨f1, q1⟩ v rv => ?_⟩
    have dom : ∀ a, G.R σ env1 a → ∃ o, H a = some o := fun a z => S.dom a (f1.sub a z)
    cases d with
    | list ds =>
      obtain ⟨a, xs, rfl, h1, h3, h4⟩ := list_at (sf := sf) dom hl rv
      have q2 := q1 H1 (.refl f1.st)
      exact ⟨a, rfl, .inl ⟨xs, h1, fun hz => q2 _ (itOk_lst h1 h4 h3 (by rw [← h3.length]; exact hz))⟩⟩
    | tuple ds =>
      obtain ⟨a, xs, rfl, h1, h3⟩ := (RpX.rpC dom rv).tuple
      have q2 := q1 H1 (.refl f1.st)
      exact ⟨a, rfl, .inr ⟨xs, h1, fun hz => q2 _ (itOk_tup' h1 h3 (by rw [← h3.length]; exact hz))⟩⟩
    | _ => exact q1.elim
  refine thn (h.run pn s σ H _ I h2) fun v s1 ⟨x, H1, I1, r1, a, e, q1⟩ => ?_
  subst e
  cases r1
  rcases q1 with ⟨xs, hx, q1⟩ | ⟨xs, hx, q1⟩
  · exact iter_list I1 hx q1
  · exact iter_tup I1 hx q1⟩
theorem itOk_str {K : PySem.W.Frag} {R1 : Addr → Prop} {H1 : Hp} {sf : Bool} {x : Str} (hz : x.cps.size ≤ sizeLine) (hs : (x.cps.toList.all fun c => PyData.strOk ⟨#[c]⟩) = true) : ItOk K sf R1 H1 (Its x) (chrD x) := by
  have hl : (chrD x).length = x.cps.size := by unfold chrD; rw [List.length_map, Array.length_toList]
  refine ⟨by rw [hl]; exact hz, fun H i d al e => ?_, fun H al => by rw [hl]; exact Nat.le_refl _⟩
  have hi : i < x.cps.size := by
    have := lt_of_some e
    rwa [hl] at this
  refine ⟨hi, fun v H' y => ?_⟩
  obtain ⟨rfl, c, hc, rfl⟩ := y
  refine ⟨Same.refl _, ?_⟩
  have e2 : (chrD x)[i]? = some (.str ⟨#[c]⟩) := by
    unfold chrD
    rw [List.getElem?_map, Array.getElem?_toList, hc]; rfl
  rw [e2] at e
  cases e
  refine .str _ (List.all_eq_true.mp hs c ?_)
  rw [← Array.getElem?_toList] at hc
  exact List.mem_of_getElem? hc
def isStrR : Res D → Bool
  | .ok (.str _) _ => true
  | _ => false
/-- a list, a tuple or a text -/
theorem ji_seq (h : J X G p l iter fa) (hl : (l.safe || !sf) = true := by rfl) : JI X G p sf tg iter (seqI fa) := ⟨fun pn s σ H R I ⟨env, S, q⟩ => by
  by_cases c : isStrR (fa env) = true
  · obtain ⟨x, e1, q2⟩ : ∃ x e1, fa env = .ok (.str x) e1 := by
      cases q2 : fa env with
      | ok d e1 =>
        rw [q2] at c
        cases d with
        | str x => exact ⟨x, e1, rfl⟩
        | _ => cases c
      | exc _ _ => rw [q2] at c; cases c
      | no => rw [q2] at c; cases c
    have q1 := Ok.bind3 (p := p) (p' := true) (by simp) q
    refine (pi_str h).run pn s σ H R I ⟨env, S, ?_⟩
    rw [q2] at q1 ⊢
    intro H1 f1
    obtain ⟨_, q1⟩ := q1 H1 f1
    intro v rv
    obtain ⟨ds, e, q3⟩ := q1.lft f1.st
    have dom : ∀ a, G.R σ e1 a → ∃ o, H a = some o := fun a z => S.dom a (f1.sub a z)
    have e2 : v = .str x := by
      cases RpX.rpC dom rv with
      | of z => cases z; rfl
    have e3 : (if (decide (x.cps.size ≤ sizeLine) && x.cps.toList.all fun c => PyData.strOk ⟨#[c]⟩) = true then some (chrD x) else none) = some ds := e
    by_cases c1 : (decide (x.cps.size ≤ sizeLine) && x.cps.toList.all fun c => PyData.strOk ⟨#[c]⟩) = true
    case neg => rw [if_neg c1] at e3; cases e3
    rw [if_pos c1] at e3
    cases e3
    obtain ⟨c2, c3⟩ := Bool.and_eq_true_iff.mp c1
    exact ⟨x, e2, q3 H1 (Same.refl _) _ (itOk_str (of_decide_eq_true c2) c3)⟩
  · refine (ji_seq0 (sf := sf) h hl).run pn s σ H R I ⟨env, S, ?_⟩
    have e : seqI0 fa env = seqI fa env := by
      unfold seqI0 seqI bnd
      cases q2 : fa env with
      | ok d e1 =>
        rw [q2] at c
        cases d with
        | str x => exact absurd rfl c
        | _ => rfl
      | exc _ _ => rfl
      | no => rfl
    rw [e]; exact q⟩
def rngD (lo hi : Int) : List D := (List.range (hi - lo).toNat).map fun i => PyData.int (lo + (i : Nat))
def rngOk (lo hi : Int) : Bool := decide (-(2 ^ 62) ≤ lo) && decide (lo < 2 ^ 62) && decide (-(2 ^ 62) ≤ hi) && decide (hi < 2 ^ 62) && decide ((hi - lo).toNat ≤ sizeLine)
theorem rngOk_iff {lo hi : Int} (h : rngOk lo hi = true) : -(2 ^ 62) ≤ lo ∧ lo < 2 ^ 62 ∧ -(2 ^ 62) ≤ hi ∧ hi < 2 ^ 62 ∧ (hi - lo).toNat ≤ sizeLine := by
  unfold rngOk at h
  simp only [Bool.and_eq_true, decide_eq_true_eq] at h
  exact ⟨h.1.1.1.1, h.1.1.1.2, h.1.1.2, h.1.2, h.2⟩
def rngA1 : List D → Option (List D)
  | [.int j] => if rngOk 0 j = true then some (rngD 0 j) else none
  | _ => none
def rngA2 : List D → Option (List D)
  | [.int i, .int j] => if rngOk i j = true then some (rngD i j) else none
  | _ => none
def rngI1 (m : M (List D)) : M (List D) := bnd m fun ds => lft (rngA1 ds)
def rngI2 (m : M (List D)) : M (List D) := bnd m fun ds => lft (rngA2 ds)
theorem ji_range1 (hg : Gl X "range") (hm : X.mg "range" = none) (ha : JA X G p true [a] fr) (hs : starEach [a] X.env = [(false, eval a X.env)] := by rfl) : JI X G p sf tg (.Call (.Name "range" p') [a] [] pos) (rngI1 fr) :=
  ⟨fun pn s σ H R I ⟨env, S, q⟩ => (pi_range1 hg hm ha hs).run pn s σ H R I (by
    refine ⟨env, S, (Ok.bind3 (p' := true) (by simp) q).mono fun ds env1 H1 ⟨f1, q1⟩ vs rvs => ?_⟩
    have r : RpAll X.K H1 (G.R σ env1) vs ds := rvs
    obtain ⟨is, e, q2⟩ := q1.lft f1.st
    match ds, e with
    | [.int j], e =>
      have e' : (if rngOk 0 j = true then some (rngD 0 j) else none) = some is := e
      by_cases z : rngOk 0 j = true
      · rw [if_pos z] at e'
        cases e'
        obtain ⟨z1, z2, z3, z4, z5⟩ := rngOk_iff z
        cases r with
        | cons r1 r2 =>
          cases r2
          rw [(RpC.of r1).int]
          refine ⟨j, rfl, z3, z4, q2 H1 (Same.refl _) _ ?_⟩
          have e0 : j - 0 = j := by omega
          unfold rngD
          rw [e0] at z5 ⊢
          exact itOk_rng z5
      · rw [if_neg z] at e'; cases e')⟩
theorem ji_range2 (hg : Gl X "range") (hm : X.mg "range" = none) (ha : JA X G p true [a, b] fr) (hs : starEach [a, b] X.env = [(false, eval a X.env), (false, eval b X.env)] := by rfl) (hs2 : starEach [b] X.env = [(false, eval b X.env)] := by rfl) :
    JI X G p sf tg (.Call (.Name "range" p') [a, b] [] pos) (rngI2 fr) :=
  ⟨fun pn s σ H R I ⟨env, S, q⟩ => (pi_range2 hg hm ha hs hs2).run pn s σ H R I (by
    refine ⟨env, S, (Ok.bind3 (p' := true) (by simp) q).mono fun ds env1 H1 ⟨f1, q1⟩ vs rvs => ?_⟩
    have r : RpAll X.K H1 (G.R σ env1) vs ds := rvs
    obtain ⟨is, e, q2⟩ := q1.lft f1.st
    match ds, e with
    | [.int i, .int j], e =>
      have e' : (if rngOk i j = true then some (rngD i j) else none) = some is := e
      by_cases z : rngOk i j = true
      · rw [if_pos z] at e'
        cases e'
        obtain ⟨z1, z2, z3, z4, z5⟩ := rngOk_iff z
        cases r with
        | cons r1 r2 =>
          cases r2 with
          | cons r2 r3 =>
            cases r3
            rw [(RpC.of r1).int, (RpC.of r2).int]
            exact ⟨i, j, rfl, ⟨z1, z2, z3, z4⟩, q2 H1 (Same.refl _) _ (itOk_rng z5)⟩
      · rw [if_neg z] at e'; cases e')⟩

/-! for, while -/
def frL (t : Tg) (dead : List Nat) (body : Sm) : List D → Sm
  | [], e => .nx (wip dead e)
  | d :: ds, e => match bindT t d (wip dead e) with
    | none => .no
    | some e1 => match body e1 with
      | .nx e2 => frL t dead body ds e2
      | .ct e2 => frL t dead body ds e2
      | .bk e2 => .nx (wip dead e2)
      | .rt d e2 => .rt d e2
      | .exc x e2 => .exc x e2
      | .no => .no
def frS (t : Tg) (dead : List Nat) (m : M (List D)) (body : Sm) : Sm := thenS m fun ds => frL t dead body ds
def okFx (G : Amb) (is : List Nat) : Bool := is.all fun i => !G.fx.contains i
theorem okFx_iff {is : List Nat} (h : okFx G is = true) : ∀ i ∈ is, i ∉ G.fx := fun i hi => not_fx (by
  have := List.all_eq_true.mp h i hi
  simpa using this)
theorem Stp.of_same {K : PySem.W.Frag} {σ : L2.St} {H H' : Hp} {env : EnvD} (S : StR K G σ H env) (s : Same H H') : Stp K G σ H env σ H' env := ⟨S.same s, .of_same s, fun _ z => .inl z⟩
theorem js_for {tb : Sm} {body : List Stmt} {dead : List Nat} (hp : PassesOwn (model X.prog X.w) X.A X.env X.xe) (hc : X.calm = true) (hi : JI X G p true tg iter m) (hg : JG X G tg t) (hb : JB X G fl body tb) (hd : okFx G dead = true := by rfl)
    (hs : ∀ x, foldedSetIterable iter X.env x = pure x := by intro _; rfl) : JS X G fl (.For tg iter body [] pos) (frS t dead m tb) := ps_mono (ps_for hp hc hi hg hb hs) fun Dn σ H ⟨env, S, q⟩ => by
  have hdx := okFx_iff hd
  refine ⟨env, S, (OkS.thenS p q).mono fun ds env1 H1 ⟨f1, q1⟩ J it => ?_⟩
  refine ⟨fun i m σ' H' => i + m = ds.length ∧ ∃ e', Stp X.K G σ H1 env1 σ' H' e' ∧ OkS X.K G fl σ H1 env1 (frL t dead tb (ds.drop i) e') Dn, ⟨ds.length, by omega, env1, .refl f1.st, by simpa using q1⟩, fun i m σ' H' hW => ?_⟩
  obtain ⟨em, e', st, qn⟩ := hW
  have al : Al true (G.R σ env1) H1 H' := st.keep
  have sw := Stp.wips st.st (is := dead) hdx
  by_cases hlt : i < ds.length
  · right
    have ed : ds[i]? = some ds[i] := List.getElem?_eq_getElem hlt
    obtain ⟨g1, g2⟩ := it.go H' i _ al ed
    rw [List.drop_eq_getElem_cons hlt] at qn
    unfold frL at qn
    cases eb : bindT t ds[i] (wip dead e') with
    | none => rw [eb] at qn; exact qn.elim
    | some e1 =>
      rw [eb] at qn
      simp only at qn
      refine ⟨g1, fun σ2 H2 => ∃ e2, Stp X.K G σ H1 env1 σ2 H2 e2 ∧ OkS X.K G fl σ H1 env1 (frL t dead tb (ds.drop (i + 1)) e2) Dn, fun σ2 H2 ⟨e2, h1, h2⟩ => ⟨m - 1, by omega, by omega, e2, h1, h2⟩, fun x H2 hy => ?_⟩
      obtain ⟨s2, r2⟩ := g2 x H2 hy
      have S2 : StR X.K G σ' H2 (wip dead e') := sw.st.same s2
      have t2 : Stp X.K G σ H1 env1 σ' H2 (wip dead e') := (st.trans sw).trans (.of_same sw.st s2)
      refine ⟨wip dead e', ds[i], e1, S2, r2.fwd (.sub_same (Same.refl _) t2.sub), eb, fun σ3 S3 sub3 _ _ => ⟨e1, S3, ?_⟩⟩
      have t3 : Stp X.K G σ H1 env1 σ3 H2 e1 := t2.trans ⟨S3, .refl _ _, fun a z => .inl (sub3 a z)⟩
      cases eo : tb e1 with
      | nx e2 =>
        rw [eo] at qn
        exact fun σ4 H4 t4 => ⟨e2, t3.trans t4, qn⟩
      | ct e2 =>
        rw [eo] at qn
        exact fun σ4 H4 t4 => ⟨e2, t3.trans t4, qn⟩
      | bk e2 =>
        rw [eo] at qn
        exact fun σ4 H4 t4 => qn σ4 H4 ((t3.trans t4).trans (.wips t4.st hdx))
      | rt d e2 =>
        rw [eo] at qn
        exact fun σ4 H4 v t4 r4 => qn σ4 H4 v (t3.trans t4) r4
      | exc y e2 =>
        rw [eo] at qn
        exact fun σ4 H4 c dd t4 r4 => qn σ4 H4 c dd (t3.trans t4) r4
      | no => rw [eo] at qn; exact qn.elim
  · left
    have ei : i = ds.length := by omega
    subst ei
    refine ⟨it.stop H' al, ?_⟩
    rw [List.drop_length] at qn
    exact qn σ' H' (st.trans sw)

def whL (t : M Bool) (dead : List Nat) (body : Sm) : Nat → Sm
  | 0, _ => .no
  | n + 1, e => match t (wip dead e) with
    | .no => .no
    | .exc x e1 => .exc x e1
    | .ok b e1 => if b = true then (match body e1 with
      | .nx e2 => whL t dead body n e2
      | .ct e2 => whL t dead body n e2
      | .bk e2 => .nx (wip dead e2)
      | .rt d e2 => .rt d e2
      | .exc x e2 => .exc x e2
      | .no => .no) else .nx e1
theorem js_while {tb : Sm} {body : List Stmt} {dead : List Nat} (n : Nat) (hp : PassesOwn (model X.prog X.w) X.A X.env X.xe) (hc : JT X G p e ta) (hb : JB X G fl body tb) (hd : okFx G dead = true := by rfl) :
    JS X G fl (.While e body [] pos) (whL ta dead tb n) := ps_mono (ps_while hp hc hb) fun Dn σ H ⟨env, S, q⟩ => by
  have hdx := okFx_iff hd
  refine ⟨fun m σ' H' => ∃ e', Stp X.K G σ H env σ' H' e' ∧ OkS X.K G fl σ H env (whL ta dead tb m e') Dn, ⟨n, env, .refl S, q⟩, fun m σ' H' ⟨e', st, qn⟩ => ?_⟩
  have sw := Stp.wips st.st (is := dead) hdx
  cases m with
  | zero => exact qn.elim
  | succ m =>
    unfold whL at qn
    refine ⟨wip dead e', sw.st, ?_⟩
    cases et : ta (wip dead e') with
    | no => rw [et] at qn; exact qn.elim
    | exc x e1 =>
      rw [et] at qn
      exact fun c d H2 f2 hx => qn σ' H2 c d ((st.trans sw).trans (.eff f2)) hx
    | ok b e1 =>
      rw [et] at qn
      simp only at qn
      intro H2 f2
      have t2 := (st.trans sw).trans (.eff f2)
      cases b with
      | false =>
        simp only [Bool.false_eq_true, if_false] at qn ⊢
        exact qn σ' H2 t2
      | true =>
        simp only [if_true] at qn ⊢
        refine ⟨fun σ3 H3 => ∃ e3, Stp X.K G σ H env σ3 H3 e3 ∧ OkS X.K G fl σ H env (whL ta dead tb m e3) Dn, fun σ3 H3 h => ⟨m, Nat.lt_succ_self m, h⟩, e1, f2.st, ?_⟩
        cases eo : tb e1 with
        | nx e2 =>
          rw [eo] at qn
          exact fun σ4 H4 t4 => ⟨e2, t2.trans t4, qn⟩
        | ct e2 =>
          rw [eo] at qn
          exact fun σ4 H4 t4 => ⟨e2, t2.trans t4, qn⟩
        | bk e2 =>
          rw [eo] at qn
          exact fun σ4 H4 t4 => qn σ4 H4 ((t2.trans t4).trans (.wips t4.st hdx))
        | rt d e2 =>
          rw [eo] at qn
          exact fun σ4 H4 v t4 r4 => qn σ4 H4 v (t2.trans t4) r4
        | exc y e2 =>
          rw [eo] at qn
          exact fun σ4 H4 c dd t4 r4 => qn σ4 H4 c dd (t2.trans t4) r4
        | no => rw [eo] at qn; exact qn.elim
end
end PV
namespace PV
open PySem PySem.Spec PyProof.Rows L2

/-! comprehensions -/
def lcL (t : Tg) (vs : List Nat) (tt : M Bool) (te : M D) : List D → List D → EnvD → Res (List D)
  | [], acc, e => .ok acc e
  | d :: ds, acc, e => match bindT t d e with
    | none => .no
    | some e1 => match tt e1 with
      | .ok b e2 => if b = true then (match te e2 with
          | .ok y e3 => lcL t vs tt te ds (acc ++ [y]) (wip vs e3)
          | _ => .no) else lcL t vs tt te ds acc (wip vs e2)
      | _ => .no
def noOwn (vs : List Nat) (e : EnvD) : Bool := vs.all fun i => match e[i]? with
  | some (.own _) => false
  | _ => true
def rst : List Nat → EnvD → EnvD → EnvD
  | [], _, e' => e'
  | i :: is, e, e' => rst is e (match e[i]? with
    | some c => e'.set i c
    | none => e')
def lcE (t : Tg) (vs : List Nat) (tt : M Bool) (te : M D) (m : M (List D)) : M D := bnd m fun ds => fun e => if noOwn vs e = true then (match lcL t vs tt te ds [] (wip vs e) with
  | .ok acc e' => .ok (.list acc) (rst vs e e')
  | _ => .no) else .no
def yesT : M Bool := ret true
/-- the context within, where D is the list that grows -/
def Amb.blk (G : Amb) (a : Addr) : Amb := { G with Z := fun b => G.Z b ∨ b = a, W := fun _ _ _ _ => False }

section
variable {K : PySem.W.Frag} {G : Amb} {σ σ' σ1 σ2 : L2.St} {H H' H1 H2 : Hp} {env env' env1 env2 : EnvD} {fl : Lvl} {a : Addr}
theorem R_blk (b : Addr) : (G.blk a).R σ env b ↔ (G.R σ env b ∨ b = a) := by
  unfold Amb.R Amb.blk
  constructor
  · rintro ((h | h | h) | h)
    · exact .inl (.inl (.inl h))
    · exact .inl (.inl (.inr h))
    · exact .inr h
    · exact .inl (.inr h)
  · rintro (((h | h) | h) | h)
    · exact .inl (.inl h)
    · exact .inl (.inr (.inl h))
    · exact .inr h
    · exact .inl (.inr (.inr h))
theorem wipe_mono {is : List Nat} {i : Nat} {v : V} (h : (wipe σ is)[i]? = some (some v)) : σ[i]? = some (some v) := (wipe_some h).1
theorem wipe_get {i : Nat} : ∀ {is : List Nat}, i ∉ is → (wipe σ is)[i]? = σ[i]?
  | [], _ => rfl
  | j :: is, h => by
    have hj : j ≠ i := fun z => h (by rw [z]; exact List.mem_cons_self)
    show ((wipe σ is).set j none)[i]? = σ[i]?
    rw [List.getElem?_set_ne hj]
    exact wipe_get fun z => h (List.mem_cons_of_mem _ z)
theorem wip_get {i : Nat} {c : PV.Cell} : ∀ {is : List Nat} {e : EnvD}, (wip is e)[i]? = some c → (i ∉ is ∧ e[i]? = some c) ∨ c = .emp
  | [], e, h => .inl ⟨by simp, h⟩
  | j :: is, e, h => by
    have h' : (wip is (e.set j .emp))[i]? = some c := h
    rcases wip_get h' with ⟨h1, h2⟩ | h1
    · by_cases hj : j = i
      · subst hj
        have hl := lt_of_some h2
        rw [List.length_set] at hl
        rw [List.getElem?_set_self hl] at h2
        cases h2
        exact .inr rfl
      · rw [List.getElem?_set_ne hj] at h2
        refine .inl ⟨fun z => ?_, h2⟩
        rcases List.mem_cons.mp z with w | w
        · exact hj w.symm
        · exact h1 w
    · exact .inr h1
theorem wip_length : ∀ {is : List Nat} {e : EnvD}, (wip is e).length = e.length
  | [], _ => rfl
  | j :: is, e => by
    show (wip is (e.set j .emp)).length = e.length
    rw [wip_length, List.length_set]
/-- into the block -/
theorem StR.toBlk (S : StR K G σ H env) {is : List Nat} (hi : ∀ i ∈ is, i ∉ G.fx) (hn : H a = none) : StR K (G.blk a) (wipe σ is) (upd H a (.lst [])) (wip is env) := by
  have s : Same H (upd H a (.lst [])) := same_new hn
  obtain ⟨S1, sub⟩ := S.wips hi
  have rr : ∀ {b}, rts (wipe σ is) (wip is env) b → rts σ (wip is env) b := fun {b} ⟨j, d, h1, h2⟩ => ⟨j, d, h1, wipe_mono h2⟩
  have sub2 : ∀ b, (G.blk a).R (wipe σ is) (wip is env) b → G.R σ (wip is env) b ∨ b = a := fun b z => by
    rcases (R_blk b).mp z with (z | z) | z
    · exact .inl (.inl z)
    · exact .inl (.inr (rr z))
    · exact .inr z
  have fw : Fwd K (G.R σ (wip is env)) ((G.blk a).R (wipe σ is) (wip is env)) H (upd H a (.lst [])) := ⟨fun b o e _ => s b o e, fun b o e _ => s b o e, fun b z n => by
    rcases sub2 b z with w | w
    · exact absurd w n
    · rw [w]; exact hn⟩
  have at_ : ∀ {j : Nat} {c : PV.Cell}, (wip is env)[j]? = some c → c ≠ .emp → (wipe σ is)[j]? = σ[j]? := fun {j c} h hc => by
    rcases wip_get h with ⟨h1, _⟩ | h1
    · exact wipe_get h1
    · exact absurd h1 hc
  refine ⟨by rw [wipe_length]; exact S1.len, S1.keep.trans (Keep.of_same (N := G.IO) s) fun _ _ h => h, fun j d h => ?_, fun j d h => ?_, fun j k d e b h1 h2 h3 h4 => S1.dis j k d e b h1 h2 (wipe_mono h3) (wipe_mono h4), fun b z => ?_, fun j hj => ?_⟩
  · obtain ⟨v, e1, r⟩ := S1.shr j d h
    exact ⟨v, (at_ h (by intro z; cases z)).trans e1, r.fwd fw⟩
  · obtain ⟨b, e1, r, o, nz⟩ := S1.own j d h
    obtain ⟨ob, hob, _⟩ := r.there
    have nb : b ≠ a := ne_of_none hob hn
    refine ⟨b, (at_ h (by intro z; cases z)).trans e1, r.at fw (upd_ne nb), o, fun z => ?_⟩
    rcases z with z | z
    · exact nz z
    · exact nb z
  · rcases z with z | z
    · obtain ⟨⟨o, e⟩, n⟩ := S1.zd b z
      exact ⟨⟨o, s _ _ e⟩, n⟩
    · rw [z]
      refine ⟨⟨_, upd_same⟩, ?_⟩
      show G.H0 a = none
      cases q : G.H0 a with
      | none => rfl
      | some o =>
        obtain ⟨o', w⟩ := S.keep.there ⟨o, q⟩
        rw [hn] at w; cases w
  · obtain ⟨h1, d, h2⟩ := S1.fix j hj
    exact ⟨(at_ h2 (by intro z; cases z)).trans h1, d, h2⟩
/-- out of the block -/
theorem StR.ofBlk {is : List Nat} (S : StR K (G.blk a) (wipe σ is) H env) (hl : env.length = σ.length) : StR K G σ H env ∧ ∀ b, rts σ env b ↔ rts (wipe σ is) env b := by
  have rr : ∀ {b}, rts σ env b → rts (wipe σ is) env b := fun {b} ⟨j, d, h1, h2⟩ => by
    obtain ⟨c, e1, _⟩ := S.own j d h1
    have e2 := wipe_mono e1
    rw [h2] at e2
    cases e2
    exact ⟨j, d, h1, e1⟩
  have rr2 : ∀ {b}, rts (wipe σ is) env b → rts σ env b := fun {b} ⟨j, d, h1, h2⟩ => ⟨j, d, h1, wipe_mono h2⟩
  have fw : Fwd K ((G.blk a).R (wipe σ is) env) (G.R σ env) H H := .sub_same (Same.refl H) fun b z => (R_blk b).mpr (.inl (z.imp id rr))
  refine ⟨⟨hl, S.keep, fun j d h => ?_, fun j d h => ?_, fun j k d e b h1 h2 h3 h4 => ?_, fun b z => S.zd b (.inl z), fun j hj => ?_⟩, fun b => ⟨rr, rr2⟩⟩
  · obtain ⟨v, e1, r⟩ := S.shr j d h
    exact ⟨v, wipe_mono e1, r.fwd fw⟩
  · obtain ⟨b, e1, r, o, nz⟩ := S.own j d h
    exact ⟨b, wipe_mono e1, r.at fw rfl, o, fun z => nz (.inl z)⟩
  · obtain ⟨b1, e1, _⟩ := S.own j d h1
    obtain ⟨b2, e2, _⟩ := S.own k e h2
    have q1 := wipe_mono e1
    have q2 := wipe_mono e2
    rw [h3] at q1; cases q1
    rw [h4] at q2; cases q2
    exact S.dis j k d e _ h1 h2 e1 e2
  · obtain ⟨h1, h2⟩ := S.fix j hj
    exact ⟨wipe_mono h1, h2⟩
end
theorem wipe_eq {σ σ2 : L2.St} {is : List Nat} (hl : σ2.length = σ.length) (h : ∀ j, j ∉ is → σ2[j]? = σ[j]?) : wipe σ2 is = wipe σ is := by
  apply List.ext_getElem?
  intro j
  by_cases hj : j ∈ is
  · have key : ∀ (τ : L2.St) (is : List Nat), j ∈ is → (wipe τ is)[j]? = if j < τ.length then some none else none := by
      intro τ is
      induction is with
      | nil => intro z; simp at z
      | cons i is ih =>
        intro z
        show ((wipe τ is).set i none)[j]? = _
        by_cases hij : i = j
        · subst hij
          by_cases hlt : i < τ.length
          · rw [List.getElem?_set_self (by rw [wipe_length]; exact hlt), if_pos hlt]
          · rw [List.getElem?_eq_none (by rw [List.length_set, wipe_length]; omega), if_neg hlt]
        · rw [List.getElem?_set_ne hij]
          exact ih ((List.mem_cons.mp z).resolve_left fun w => hij w.symm)
    rw [key σ2 is hj, key σ is hj, hl]
  · rw [wipe_get hj, wipe_get hj, h j hj]
section
variable {K : PySem.W.Frag} {G : Amb} {σ σ' σ1 σ2 : L2.St} {H H' H1 H2 : Hp} {env env' env1 env2 : EnvD} {fl : Lvl} {a : Addr}
theorem rst_length : ∀ {is : List Nat} {e e' : EnvD}, (rst is e e').length = e'.length
  | [], _, _ => rfl
  | i :: is, e, e' => by
    unfold rst
    rw [rst_length]
    cases e[i]? with
    | none => rfl
    | some c => exact List.length_set ..
theorem rst_get {j : Nat} : ∀ {is : List Nat} {e e' : EnvD}, e'.length = e.length → (rst is e e')[j]? = if j ∈ is then e[j]? else e'[j]?
  | [], e, e', _ => by simp [rst]
  | i :: is, e, e', hl => by
    unfold rst
    have hl2 : (match e[i]? with | some c => e'.set i c | none => e').length = e.length := by
      cases e[i]? with
      | none => exact hl
      | some c => rw [List.length_set]; exact hl
    rw [rst_get hl2]
    by_cases hm : j ∈ is
    · rw [if_pos hm, if_pos (List.mem_cons_of_mem _ hm)]
    · rw [if_neg hm]
      by_cases hj : j = i
      · subst hj
        rw [if_pos List.mem_cons_self]
        cases ec : e[j]? with
        | none =>
          simp only
          rw [List.getElem?_eq_none_iff] at ec ⊢
          omega
        | some c =>
          simp only
          have := lt_of_some ec
          rw [List.getElem?_set_self (by omega)]
      · rw [if_neg (by simp [hj, hm])]
        cases ec : e[i]? with
        | none => rfl
        | some c => simp only; rw [List.getElem?_set_ne (Ne.symm hj)]
theorem rst_wip {is : List Nat} {e : EnvD} : rst is e (wip is e) = e := by
  apply List.ext_getElem?
  intro j
  rw [rst_get wip_length]
  by_cases hj : j ∈ is
  · rw [if_pos hj]
  · rw [if_neg hj]
    have key : ∀ (is : List Nat) (e : EnvD), j ∉ is → (wip is e)[j]? = e[j]? := by
      intro is
      induction is with
      | nil => intro e _; rfl
      | cons i is ih =>
        intro e h
        show (wip is (e.set i .emp))[j]? = e[j]?
        rw [ih _ fun z => h (List.mem_cons_of_mem _ z), List.getElem?_set_ne fun z => h (by rw [z]; exact List.mem_cons_self)]
    exact key is e hj
theorem StR.rst (S : StR K G σ H env') {is : List Nat} {e : EnvD} (hl : env'.length = e.length) (hn : noOwn is e = true) (hi : ∀ i ∈ is, i ∉ G.fx)
    (h : ∀ j ∈ is, ∀ d, e[j]? = some (PV.Cell.shr d) → ∃ v, σ[j]? = some (some v) ∧ Rp K H (G.R σ env') v d) : StR K G σ H (PV.rst is e env') ∧ ∀ b, rts σ (PV.rst is e env') b → rts σ env' b := by
  have no : ∀ j ∈ is, ∀ d, e[j]? ≠ some (PV.Cell.own d) := fun j hj d z => by
    have := List.all_eq_true.mp hn j hj
    rw [z] at this
    cases this
  have ow : ∀ {j : Nat} {d : D}, (PV.rst is e env')[j]? = some (PV.Cell.own d) → env'[j]? = some (PV.Cell.own d) := fun {j d} z => by
    rw [rst_get hl] at z
    by_cases hj : j ∈ is
    · rw [if_pos hj] at z; exact absurd z (no j hj d)
    · rw [if_neg hj] at z; exact z
  have sub : ∀ b, rts σ (PV.rst is e env') b → rts σ env' b := fun b ⟨j, d, h1, h2⟩ => ⟨j, d, ow h1, h2⟩
  have fw : Fwd K (G.R σ env') (G.R σ (PV.rst is e env')) H H := .sub_same (Same.refl H) (R_of sub)
  refine ⟨⟨by rw [rst_length]; exact S.len, S.keep, fun j d z => ?_, fun j d z => ?_, fun j k d d2 b h1 h2 h3 h4 => S.dis j k d d2 b (ow h1) (ow h2) h3 h4, S.zd, fun j hj => ?_⟩, sub⟩
  · rw [rst_get hl] at z
    by_cases hj : j ∈ is
    · rw [if_pos hj] at z
      obtain ⟨v, e1, r⟩ := h j hj d z
      exact ⟨v, e1, r.fwd fw⟩
    · rw [if_neg hj] at z
      obtain ⟨v, e1, r⟩ := S.shr j d z
      exact ⟨v, e1, r.fwd fw⟩
  · obtain ⟨b, e1, r, o⟩ := S.own j d (ow z)
    exact ⟨b, e1, r.at fw rfl, o⟩
  · obtain ⟨h1, d, h2⟩ := S.fix j hj
    refine ⟨h1, d, ?_⟩
    rw [rst_get hl, if_neg fun z => hi j z hj]
    exact h2
theorem StR.zNot (S : StR K G σ H env) (z : G.Z a) : ¬ rts σ env a := fun ⟨j, d, h1, h2⟩ => by
  obtain ⟨b, e1, _, _, n⟩ := S.own j d h1
  rw [h2] at e1; cases e1
  exact n z
/-- the slots that are not forgotten stand alike -/
theorem StR.swap {is : List Nat} (S : StR K G σ1 H (wip is env)) (hl : σ1.length = σ2.length) (h : ∀ j, j ∉ is → σ1[j]? = σ2[j]?) : StR K G σ2 H (wip is env) ∧ ∀ b, rts σ2 (wip is env) b ↔ rts σ1 (wip is env) b := by
  have at_ : ∀ {j : Nat} {c : PV.Cell}, (wip is env)[j]? = some c → c ≠ .emp → σ1[j]? = σ2[j]? := fun {j c} z hc => by
    rcases wip_get z with ⟨h1, _⟩ | h1
    · exact h j h1
    · exact absurd h1 hc
  have rr : ∀ b, rts σ2 (wip is env) b ↔ rts σ1 (wip is env) b := fun b => by
    constructor
    · rintro ⟨j, d, h1, h2⟩
      exact ⟨j, d, h1, (at_ h1 (by intro z; cases z)).trans h2⟩
    · rintro ⟨j, d, h1, h2⟩
      exact ⟨j, d, h1, (at_ h1 (by intro z; cases z)).symm.trans h2⟩
  have fw : Fwd K (G.R σ1 (wip is env)) (G.R σ2 (wip is env)) H H := .sub_same (Same.refl H) fun b z => z.imp id (rr b).mp
  refine ⟨⟨S.len.trans hl, S.keep, fun j d z => ?_, fun j d z => ?_, fun j k d d2 b h1 h2 h3 h4 => ?_, S.zd, fun j hj => ?_⟩, rr⟩
  · obtain ⟨v, e1, r⟩ := S.shr j d z
    exact ⟨v, (at_ z (by intro z; cases z)).symm.trans e1, r.fwd fw⟩
  · obtain ⟨b, e1, r, o⟩ := S.own j d z
    exact ⟨b, (at_ z (by intro z; cases z)).symm.trans e1, r.at fw rfl, o⟩
  · exact S.dis j k d d2 b h1 h2 ((at_ h1 (by intro z; cases z)).trans h3) ((at_ h2 (by intro z; cases z)).trans h4)
  · obtain ⟨h1, d, h2⟩ := S.fix j hj
    exact ⟨(at_ h2 (by intro z; cases z)).symm.trans h1, d, h2⟩
/-- the growing list grows -/
theorem fwd_upd {N : Addr → Prop} {xs ys : List V} (hN : N a) (h : H a = some (.lst xs)) : Fwd K N N H (upd H a (.lst ys)) := by
  refine ⟨fun b o e n => ?_, fun b o e n => ?_, fun b z n => absurd z n⟩
  · rw [upd_ne fun z => n (by rw [z]; exact hN)]; exact e
  · rw [upd_ne fun z => ?_]; exact e
    subst z
    rw [h] at e; cases e
    exact n trivial
theorem StR.updZ (S : StR K G σ H env) (z : G.Z a) {xs ys : List V} (h : H a = some (.lst xs)) : StR K G σ (upd H a (.lst ys)) env := by
  have fw : Fwd K (G.R σ env) (G.R σ env) H (upd H a (.lst ys)) := fwd_upd (.inl (.inr z)) h
  refine ⟨S.len, fun b o e => ?_, fun j d w => ?_, fun j d w => ?_, S.dis, fun b w => ?_, S.fix⟩
  · have nb : b ≠ a := fun w => by
      subst w
      rw [(S.zd b z).2] at e; cases e
    rw [upd_ne nb]
    exact S.keep b o e
  · obtain ⟨v, e1, r⟩ := S.shr j d w
    exact ⟨v, e1, r.fwd fw⟩
  · obtain ⟨b, e1, r, o, nz⟩ := S.own j d w
    exact ⟨b, e1, r.at fw (upd_ne fun q => nz (by rw [q]; exact z)), o, nz⟩
  · refine ⟨?_, (S.zd b w).2⟩
    by_cases q : b = a
    · rw [q]; exact ⟨_, upd_same⟩
    · rw [upd_ne q]; exact (S.zd b w).1
end
end PV
namespace PV
open PySem PySem.Spec PyProof.Rows L2

theorem wip_at {j : Nat} : ∀ {is : List Nat} {e : EnvD}, (wip is e)[j]? = if j ∈ is then (if j < e.length then some PV.Cell.emp else none) else e[j]?
  | [], e => by simp [wip]
  | i :: is, e => by
    show (wip is (e.set i .emp))[j]? = _
    rw [wip_at, List.length_set]
    by_cases hm : j ∈ is
    · rw [if_pos hm, if_pos (List.mem_cons_of_mem _ hm)]
    · rw [if_neg hm]
      by_cases hj : j = i
      · subst hj
        rw [if_pos List.mem_cons_self]
        by_cases hl : j < e.length
        · rw [List.getElem?_set_self hl, if_pos hl]
        · rw [List.getElem?_eq_none (by rw [List.length_set]; omega), if_neg hl]
      · rw [if_neg (by simp [hj, hm]), List.getElem?_set_ne (Ne.symm hj)]
theorem wip_eq {is : List Nat} {e e' : EnvD} (hl : e'.length = e.length) (h : ∀ j, j ∉ is → e'[j]? = e[j]?) : wip is e' = wip is e := by
  apply List.ext_getElem?
  intro j
  rw [wip_at, wip_at, hl]
  by_cases hj : j ∈ is
  · rw [if_pos hj, if_pos hj]
  · rw [if_neg hj, if_neg hj, h j hj]
mutual
theorem bindT_keep : ∀ {t : Tg} {d : D} {e e' : EnvD}, bindT t d e = some e' → e'.length = e.length ∧ ∀ j, j ∉ slT t → e'[j]? = e[j]?
  | .nm i, d, e, e', h => by
    have e2 : e.set i (.shr d) = e' := Option.some.inj h
    subst e2
    refine ⟨List.length_set .., fun j hj => List.getElem?_set_ne fun z => hj (by rw [z]; exact List.mem_cons_self)⟩
  | .tp ts, .tuple ds, e, e', h => bindTs_keep (ts := ts) (ds := ds) h
  | .tp _, .none, _, _, h => by cases h
  | .tp _, .bool _, _, _, h => by cases h
  | .tp _, .int _, _, _, h => by cases h
  | .tp _, .str _, _, _, h => by cases h
  | .tp _, .list _, _, _, h => by cases h
  | .tp _, .dict _, _, _, h => by cases h
theorem bindTs_keep : ∀ {ts : List Tg} {ds : List D} {e e' : EnvD}, bindTs ts ds e = some e' → e'.length = e.length ∧ ∀ j, j ∉ slTs ts → e'[j]? = e[j]?
  | [], [], e, e', h => by
    have e2 : e = e' := Option.some.inj h
    subst e2
    exact ⟨rfl, fun _ _ => rfl⟩
  | [], _ :: _, _, _, h => by cases h
  | _ :: _, [], _, _, h => by cases h
  | t :: ts, d :: ds, e, e', h => by
    have h' : (match bindT t d e with | some e1 => bindTs ts ds e1 | none => none) = some e' := h
    cases e1 : bindT t d e with
    | none => rw [e1] at h'; cases h'
    | some e2 =>
      rw [e1] at h'
      obtain ⟨a1, a2⟩ := bindT_keep e1
      obtain ⟨b1, b2⟩ := bindTs_keep h'
      refine ⟨b1.trans a1, fun j hj => ?_⟩
      have hj' : j ∉ slT t ++ slTs ts := hj
      rw [b2 j fun z => hj' (List.mem_append_right _ z), a2 j fun z => hj' (List.mem_append_left _ z)]
end

section
variable {X : Cx} {G : Amb} {p pt pe : Bool} {l le : Lvl} {elt tg iter c : Expr} {fe : M D} {tt : M Bool} {m : M (List D)} {sf : Bool} {t : Tg} {pos : Pos} {ifs : List Expr}
def JPT (X : Cx) (G : Amb) (p : Bool) (ifs : List Expr) (f : M Bool) : Prop := PTs X ifs (tMT X.K G p f)
theorem jpt_nil : JPT X G true [] yesT := ⟨fun pn s σ H Q I h => (pts_nil (X := X)).run pn s σ H Q I (by
  obtain ⟨env, S, q⟩ := h
  exact q.ret S)⟩
theorem jpt_one (h : JT X G p c tt) : JPT X G p [c] tt := pts_one h

/-- what the block's parts are asked, whatever the list's place -/
def gB (K : PySem.W.Frag) (G : Amb) (t : Tg) : TG := fun v σ H Q => ∃ a, tTg K (G.blk a) t v σ H Q
def tB' (K : PySem.W.Frag) (G : Amb) (p : Bool) (tt : M Bool) : TT := fun σ H Q => ∃ a, tMT K (G.blk a) p tt σ H Q
def eB (K : PySem.W.Frag) (G : Amb) (p : Bool) (l : Lvl) (fe : M D) : TE := fun σ H Q => ∃ a, tM K (G.blk a) p l fe σ H Q
theorem lc_red {K : PySem.W.Frag} {vs : List Nat} (hle : le.safe = true) (hsf : (sf || (pt && pe)) = true) (hsl : (slT t).all (fun i => vs.contains i) = true) (hfx : okFx G vs = true) {σ : L2.St} {H : Hp} {Q : VK}
    (h : tM K G (p && (pt && pe)) .fre (lcE t vs tt fe m) σ H Q) : tLc (tIt K G p sf m) (gB K G t) (tB' K G pt tt) (eB K G pe le fe) vs σ H Q := by
  obtain ⟨env, S, q⟩ := h
  have hfx' := okFx_iff hfx
  refine ⟨env, S, (Ok.bind3 (p' := pt && pe) rfl q).mono fun ds env1 H1 ⟨f1, q1⟩ Jt it D0 hD => ?_⟩
  have S1 := f1.st
  by_cases hno : noOwn vs env1 = true
  · rw [if_pos hno] at q1
    cases hL : lcL t vs tt fe ds [] (wip vs env1) with
    | no => rw [hL] at q1; exact q1.elim
    | exc x e => rw [hL] at q1; exact q1.elim
    | ok accF eF =>
      rw [hL] at q1
      simp only at q1
      have S0 := S1.toBlk (a := D0) hfx' hD
      have l1 : env1.length = σ.length := S1.len
      have sub0 : ∀ b, rts (wipe σ vs) (wip vs env1) b → rts σ env1 b := fun b ⟨j, d, h1, h2⟩ => (S1.wips hfx').2 b ⟨j, d, h1, wipe_mono h2⟩
      have ND : ∀ {σ' : L2.St} {H' : Hp} {e' : EnvD}, StR K (G.blk D0) σ' H' e' → ¬ rts σ' e' D0 := fun S' => S'.zNot (.inr rfl)
      refine ⟨fun i mm H' => i + mm = ds.length ∧ ∃ acc accV ei, StR K (G.blk D0) (wipe σ vs) H' ei ∧ Keep (rts σ env1) H1 H' ∧ H' D0 = some (.lst accV) ∧ RpAll K H' ((G.blk D0).R (wipe σ vs) ei) accV acc ∧ acc.length ≤ i ∧
        (∀ b, rts (wipe σ vs) ei b → rts σ env1 b) ∧ ((pt && pe) = true → ei = wip vs env1 ∧ Same H1 H') ∧ lcL t vs tt fe (ds.drop i) acc ei = .ok accF eF,
        ⟨ds.length, by omega, [], [], wip vs env1, S0, .of_same (same_new hD), upd_same, .nil, Nat.zero_le _, sub0, fun _ => ⟨rfl, same_new hD⟩, by simpa using hL⟩, fun i mm H' hW => ?_⟩
      obtain ⟨em, acc, accV, ei, Si, ki, di, ri, li, si, pi, qi⟩ := hW
      have al : Al sf (G.R σ env1) H1 H' := by
        unfold Al
        cases sf with
        | true => simp only [if_true]; exact ki.mono fun _ z => .inr z
        | false =>
          simp only [Bool.false_eq_true, if_false]
          exact (pi (by simpa using hsf)).2
      by_cases hlt : i < ds.length
      · right
        have ed : ds[i]? = some ds[i] := List.getElem?_eq_getElem hlt
        obtain ⟨g1, g2⟩ := it.go H' i _ al ed
        rw [List.drop_eq_getElem_cons hlt] at qi
        unfold lcL at qi
        cases eb : bindT t ds[i] ei with
        | none => rw [eb] at qi; cases qi
        | some e1 =>
          rw [eb] at qi
          simp only at qi
          cases et : tt e1 with
          | no => rw [et] at qi; cases qi
          | exc x e => rw [et] at qi; cases qi
          | ok b e2 =>
            rw [et] at qi
            simp only at qi
            refine ⟨g1, fun H5 => ∃ acc accV ei, StR K (G.blk D0) (wipe σ vs) H5 ei ∧ Keep (rts σ env1) H1 H5 ∧ H5 D0 = some (.lst accV) ∧ RpAll K H5 ((G.blk D0).R (wipe σ vs) ei) accV acc ∧ acc.length ≤ i + 1 ∧
              (∀ b, rts (wipe σ vs) ei b → rts σ env1 b) ∧ ((pt && pe) = true → ei = wip vs env1 ∧ Same H1 H5) ∧ lcL t vs tt fe (ds.drop (i + 1)) acc ei = .ok accF eF,
              fun H5 h5 => ⟨mm - 1, by omega, by omega, h5⟩, fun x H2 hy => ?_⟩
            obtain ⟨s2, r2⟩ := g2 x H2 hy
            have S2 := Si.same s2
            have rx : Rp K H2 ((G.blk D0).R (wipe σ vs) ei) x ds[i] := r2.fwd (.sub_same (Same.refl _) fun b z => by
              rcases R_blk b |>.mp z with z | z
              · exact .inl (z.imp id (si b))
              · rw [z]; exact .inr hD)
            refine ⟨D0, ei, ds[i], e1, S2, rx, eb, fun σ2 S3 sub3 k3 l3 => ?_⟩
            have hin : ∀ j, j ∉ vs → σ2[j]? = (wipe σ vs)[j]? := fun j hj => k3 j fun z => hj (by
              have := List.all_eq_true.mp hsl j z
              exact List.contains_iff_mem.mp this)
            have lw : σ2.length = (wipe σ vs).length := l3
            have lw0 : (wipe σ vs).length = σ.length := wipe_length σ vs
            refine ⟨wipe_eq (by omega) fun j hj => (hin j hj).trans (wipe_get hj), D0, e1, S3, ?_⟩
            have k2 : Keep (rts σ env1) H1 H2 := ki.trans (Keep.of_same (N := rts σ env1) s2) fun _ _ h => h
            have kk : ∀ {e' : EnvD} {H3 : Hp}, Keep (rts σ2 e') H2 H3 → (∀ b, rts σ2 e' b → rts σ env1 b) → Keep (rts σ env1) H1 H3 := fun {e' H3} k h => k2.trans k fun b _ z => h b z
            have sub1 : ∀ b, rts σ2 e1 b → rts σ env1 b := fun b z => si b (sub3 b z)
            rw [et]
            intro H3 f3
            have k3' : Keep (rts σ env1) H1 H3 := kk f3.keepo sub1
            have d3 : H3 D0 = some (.lst accV) := f3.keepo.at (s2 _ _ di) (ND S3)
            have sub2 : ∀ b, rts σ2 e2 b → rts σ env1 b := fun b z => sub1 b (f3.subo b z)
            have fw3 : Fwd K ((G.blk D0).R (wipe σ vs) ei) ((G.blk D0).R σ2 e2) H' H3 := ⟨fun b o e n => f3.keep.at (s2 _ _ e) fun z => n (z.imp id (sub3 b)), fun b o e n => f3.keep.tup (s2 _ _ e) n, fun b z n => absurd (z.imp id fun z => sub3 b (f3.subo b z)) n⟩
            -- the next turn's state
            have nextS : ∀ {e3 : EnvD} {H4 : Hp}, StR K (G.blk D0) σ2 H4 e3 → StR K (G.blk D0) (wipe σ vs) H4 (wip vs e3) ∧ ∀ b, rts (wipe σ vs) (wip vs e3) b → rts σ2 e3 b := fun {e3 H4} S4 => by
              obtain ⟨A, B⟩ := S4.wips (is := vs) hfx'
              obtain ⟨A2, B2⟩ := A.swap lw hin
              exact ⟨A2, fun b z => B b ((B2 b).mp z)⟩
            have pure1 : (pt && pe) = true → wip vs e1 = wip vs env1 := fun hp => by
              have e0 := (pi hp).1
              subst e0
              obtain ⟨b1, b2⟩ := bindT_keep eb
              have h2 : wip vs e1 = wip vs (wip vs env1) := wip_eq b1 fun j hj => b2 j fun z => hj (by
                have := List.all_eq_true.mp hsl j z
                exact List.contains_iff_mem.mp this)
              rw [h2]
              exact wip_eq wip_length fun j hj => by rw [wip_at, if_neg hj]
            cases b with
            | false =>
              simp only [Bool.false_eq_true, if_false] at qi ⊢
              obtain ⟨A, B⟩ := nextS f3.st
              refine ⟨acc, accV, wip vs e2, A, k3', d3, ?_, by omega, fun b z => sub2 b (B b z), fun hp => ?_, qi⟩
              · exact ri.fwd ⟨fun b o e n => fw3.keep b o e n, fun b o e n => fw3.tup b o e n, fun b z n => fw3.sub b (z.imp id (B b)) n⟩
              · obtain ⟨e4, s4⟩ := f3.pure (by revert hp; cases pt <;> simp)
                exact ⟨by rw [e4]; exact pure1 hp, ((pi hp).2.trans s2).trans s4⟩
            | true =>
              simp only [if_true] at qi ⊢
              cases ee : fe e2 with
              | no => rw [ee] at qi; cases qi
              | exc x e => rw [ee] at qi; cases qi
              | ok y e3 =>
                rw [ee] at qi
                simp only at qi
                refine ⟨D0, e2, f3.st, ?_⟩
                rw [ee]
                intro H4 f4 yv ry
                have d4 : H4 D0 = some (.lst accV) := f4.keepo.at d3 (ND f3.st)
                have sub4 : ∀ b, rts σ2 e3 b → rts σ env1 b := fun b z => sub2 b (f4.subo b z)
                have k4 : Keep (rts σ env1) H1 H4 := k3'.trans f4.keepo fun b _ z => sub2 b z
                refine ⟨accV, d4, ?_, ?_⟩
                · have := it.len
                  rw [ri.length]
                  omega
                · obtain ⟨A, B⟩ := nextS f4.st
                  have zz : ∀ (σ' : L2.St) (e' : EnvD), (G.blk D0).R σ' e' D0 := fun σ' e' => .inl (.inr (.inr rfl))
                  have fu : Fwd K ((G.blk D0).R (wipe σ vs) (wip vs e3)) ((G.blk D0).R (wipe σ vs) (wip vs e3)) H4 (upd H4 D0 (.lst (accV ++ [yv]))) := fwd_upd (zz _ _) d4
                  refine ⟨acc ++ [y], accV ++ [yv], wip vs e3, A.updZ (.inr rfl) d4, ?_, upd_same, ?_, by rw [List.length_append]; simp; omega, fun b z => sub4 b (B b z), fun hp => ?_, qi⟩
                  · intro b o e
                    have nb : b ≠ D0 := fun z => by rw [z, hD] at e; cases e
                    rw [upd_ne nb]
                    exact k4 b o e
                  · refine RpAll.append ?_ (.cons ?_ .nil)
                    · have r4 : RpAll K H4 ((G.blk D0).R (wipe σ vs) (wip vs e3)) accV acc :=
                        (ri.fwd fw3).fwd ⟨fun b o e n => f4.keep.at e n, fun b o e n => f4.keep.tup e n, fun b z n => absurd (z.imp id fun z => f4.subo b (B b z)) n⟩
                      exact r4.fwd fu
                    · have ry1 : Rp K H4 ((G.blk D0).R σ2 e3) yv y := RpX.rp (fun b z => f3.st.dom b (f4.sub b z)) hle ry
                      exact (ry1.fwd (.sub_same (Same.refl _) fun b z => z.imp id (B b))).fwd fu
                  · obtain ⟨e4, s4⟩ := f3.pure (by revert hp; cases pt <;> simp)
                    obtain ⟨e5, s5⟩ := f4.pure (by revert hp; cases pe <;> simp)
                    refine ⟨by rw [e5, e4]; exact pure1 hp, fun b o e => ?_⟩
                    have nb : b ≠ D0 := fun z => by rw [z, hD] at e; cases e
                    rw [upd_ne nb]
                    exact s5 _ _ (s4 _ _ (s2 _ _ ((pi hp).2 _ _ e)))
      · left
        have ei' : i = ds.length := by omega
        subst ei'
        refine ⟨it.stop H' al, ?_⟩
        rw [List.drop_length] at qi
        have qi' : (Res.ok acc ei : Res (List D)) = .ok accF eF := qi
        cases qi'
        have hlen : eF.length = env1.length := by rw [Si.len, wipe_length]; exact l1.symm
        obtain ⟨So, rr⟩ := Si.ofBlk (by rw [hlen]; exact l1)
        have kR : Keep (G.R σ env1) H1 H' := ki.mono fun _ z => .inr z
        have subR : ∀ b, G.R σ eF b → G.R σ env1 b := fun b z => z.imp id fun z => si b ((rr b).mp z)
        obtain ⟨Sr, subr⟩ := So.rst (is := vs) (e := env1) hlen hno hfx' fun j _ d z => by
          obtain ⟨v, e1, r⟩ := S1.shr j d z
          exact ⟨v, e1, r.fwd (.of_keep kR subR)⟩
        refine q1 H' ⟨Sr, fun hp => ?_, ki, fun b z => si b ((rr b).mp (subr b z))⟩ (.ref D0) (f1.back (l := .fre) ?_)
        · obtain ⟨e4, s4⟩ := pi hp
          exact ⟨by rw [e4]; exact rst_wip, s4⟩
        · exact ⟨D0, accV, rfl, hD, di, ri.fwd (.sub_same (Same.refl _) fun b z => by
            refine (R_blk b).mpr (z.imp (fun z => z.imp id fun z => (rr b).mp (subr b z)) id))⟩
  · rw [if_neg hno] at q1
    exact q1.elim

theorem j_lc {scope : Scope} {own : List (Str × Nat)} (hc : X.calm = true) (hN : X.N.Nodup) (hi : JI X G p sf tg iter m) (ok : BlkOk X.N X.env.scope scope own)
    (hg : ∀ (s : Shared) (H : Hp) (C : Addr) (cl : List (Str × Addr)) (fp : List Addr) (a : Addr), JG (X.blk s H scope (compEnvC scope cl C X.env) fp) (G.blk a) tg t)
    (ht : ∀ (s : Shared) (H : Hp) (C : Addr) (cl : List (Str × Addr)) (fp : List Addr) (a : Addr), JPT (X.blk s H scope (compEnvC scope cl C X.env) fp) (G.blk a) pt ifs tt)
    (he : ∀ (s : Shared) (H : Hp) (C : Addr) (cl : List (Str × Addr)) (fp : List Addr) (a : Addr), J (X.blk s H scope (compEnvC scope cl C X.env) fp) (G.blk a) pe le elt fe)
    (hle : le.safe = true := by rfl) (hsf : (sf || (pt && pe)) = true := by rfl) (hsl : (slT t).all (fun i => (own.map (·.2)).contains i) = true := by rfl) (hfx : okFx G (own.map (·.2)) = true := by rfl)
    (hs : ∀ x, foldedSetIterable iter X.env x = pure x := by intro _; rfl) :
    J X G (p && (pt && pe)) .fre (.ListComp elt [⟨tg, iter, ifs, 0⟩] scope pos) (lcE t (own.map (·.2)) tt fe m) :=
  pe_mono (pe_lc hc hN hi ok (g := gB X.K G t) (tt := tB' X.K G pt tt) (te := eB X.K G pe le fe) (fun s H C cl fp => ⟨fun pn s1 σ1 H1 v u Q I r ⟨a, q⟩ => (hg s H C cl fp a).run pn s1 σ1 H1 v u Q I r q⟩)
    (fun s H C cl fp => ⟨fun pn s1 σ1 H1 Q I ⟨a, q⟩ => (ht s H C cl fp a).run pn s1 σ1 H1 Q I q⟩) (fun s H C cl fp => ⟨fun pn s1 σ1 H1 Q I ⟨a, q⟩ => (he s H C cl fp a).run pn s1 σ1 H1 Q I q⟩) hs)
    fun σ H Q h => lc_red hle hsf hsl hfx h
/-- y = [..] on one line, y a local: a shared thing -/
theorem js_setLc (i : Nat) {fl : Lvl} {y : Str} {py spos : Pos} {scope : Scope} {own : List (Str × Nat)} (hc : X.calm = true) (hN : X.N.Nodup) (hy : X.N[i]? = some y) (hyl : X.env.scope.names.lookup y = some .local)
    (hsw : swapsWith (.ListComp elt [⟨tg, iter, ifs, 0⟩] scope pos) (some (.Name y py)) spos.line X.env = pure true) (hi : JI X G p sf tg iter m) (ok : BlkOk X.N X.env.scope scope own)
    (hg : ∀ (s : Shared) (H : Hp) (C : Addr) (cl : List (Str × Addr)) (fp : List Addr) (a : Addr), JG (X.blk s H scope (compEnvC scope cl C X.env) fp) (G.blk a) tg t)
    (ht : ∀ (s : Shared) (H : Hp) (C : Addr) (cl : List (Str × Addr)) (fp : List Addr) (a : Addr), JPT (X.blk s H scope (compEnvC scope cl C X.env) fp) (G.blk a) pt ifs tt)
    (he : ∀ (s : Shared) (H : Hp) (C : Addr) (cl : List (Str × Addr)) (fp : List Addr) (a : Addr), J (X.blk s H scope (compEnvC scope cl C X.env) fp) (G.blk a) pe le elt fe)
    (hle : le.safe = true := by rfl) (hsf : (sf || (pt && pe)) = true := by rfl) (hsl : (slT t).all (fun i => (own.map (·.2)).contains i) = true := by rfl) (hfx : okFx G (own.map (·.2)) = true := by rfl)
    (hs : ∀ x, foldedSetIterable iter X.env x = pure x := by intro _; rfl) (hf : G.fx.contains i = false := by rfl) :
    JS X G fl (.Assign [.Name y py] (.ListComp elt [⟨tg, iter, ifs, 0⟩] scope pos) spos) (setS i (lcE t (own.map (·.2)) tt fe m)) :=
  ps_mono (ps_setLc hc hN hy hyl hsw hi ok (g := gB X.K G t) (tt := tB' X.K G pt tt) (te := eB X.K G pe le fe) (fun s H C cl fp => ⟨fun pn s1 σ1 H1 v u Q I r ⟨a, q⟩ => (hg s H C cl fp a).run pn s1 σ1 H1 v u Q I r q⟩)
    (fun s H C cl fp => ⟨fun pn s1 σ1 H1 Q I ⟨a, q⟩ => (ht s H C cl fp a).run pn s1 σ1 H1 Q I q⟩) (fun s H C cl fp => ⟨fun pn s1 σ1 H1 Q I ⟨a, q⟩ => (he s H C cl fp a).run pn s1 σ1 H1 Q I q⟩) hs)
    fun Dn σ H ⟨env, S, q⟩ => lc_red (p := p) hle hsf hsl hfx ⟨env, S, (OkS.thenS (p && (pt && pe)) q).mono fun d env1 H1 ⟨f1, q1⟩ v rv => by
      obtain ⟨S2, sub⟩ := f1.st.putS (i := i) (v := v) (d := d) (not_fx hf) (RpX.rp (fun a z => S.dom a (f1.sub a z)) (l := .fre) rfl rv)
      exact q1 _ H1 ⟨S2, .refl _ _, fun a z => .inl (sub a z)⟩⟩
/-- y = [..], to be changed in place -/
theorem js_setLcO (i : Nat) {fl : Lvl} {y : Str} {py spos : Pos} {scope : Scope} {own : List (Str × Nat)} (hc : X.calm = true) (hN : X.N.Nodup) (hy : X.N[i]? = some y) (hyl : X.env.scope.names.lookup y = some .local)
    (hsw : swapsWith (.ListComp elt [⟨tg, iter, ifs, 0⟩] scope pos) (some (.Name y py)) spos.line X.env = pure true) (hi : JI X G true sf tg iter m) (ok : BlkOk X.N X.env.scope scope own)
    (hg : ∀ (s : Shared) (H : Hp) (C : Addr) (cl : List (Str × Addr)) (fp : List Addr) (a : Addr), JG (X.blk s H scope (compEnvC scope cl C X.env) fp) (G.blk a) tg t)
    (ht : ∀ (s : Shared) (H : Hp) (C : Addr) (cl : List (Str × Addr)) (fp : List Addr) (a : Addr), JPT (X.blk s H scope (compEnvC scope cl C X.env) fp) (G.blk a) true ifs tt)
    (he : ∀ (s : Shared) (H : Hp) (C : Addr) (cl : List (Str × Addr)) (fp : List Addr) (a : Addr), J (X.blk s H scope (compEnvC scope cl C X.env) fp) (G.blk a) true le elt fe)
    (hle : le.safe = true := by rfl) (hsl : (slT t).all (fun i => (own.map (·.2)).contains i) = true := by rfl) (hfx : okFx G (own.map (·.2)) = true := by rfl)
    (hs : ∀ x, foldedSetIterable iter X.env x = pure x := by intro _; rfl) (hf : G.fx.contains i = false := by rfl) :
    JS X G fl (.Assign [.Name y py] (.ListComp elt [⟨tg, iter, ifs, 0⟩] scope pos) spos) (setO i (lcE t (own.map (·.2)) tt fe m)) :=
  ps_mono (ps_setLc hc hN hy hyl hsw hi ok (g := gB X.K G t) (tt := tB' X.K G true tt) (te := eB X.K G true le fe) (fun s H C cl fp => ⟨fun pn s1 σ1 H1 v u Q I r ⟨a, q⟩ => (hg s H C cl fp a).run pn s1 σ1 H1 v u Q I r q⟩)
    (fun s H C cl fp => ⟨fun pn s1 σ1 H1 Q I ⟨a, q⟩ => (ht s H C cl fp a).run pn s1 σ1 H1 Q I q⟩) (fun s H C cl fp => ⟨fun pn s1 σ1 H1 Q I ⟨a, q⟩ => (he s H C cl fp a).run pn s1 σ1 H1 Q I q⟩) hs)
    fun Dn σ H ⟨env, S, q⟩ => lc_red (p := true) (pt := true) (pe := true) hle (by cases sf <;> rfl) hsl hfx ⟨env, S, (OkS.thenS0 true q).mono fun d env1 H1 ⟨f1, q1⟩ v rv => by
      obtain ⟨e1, s⟩ := f1.pure rfl
      subst e1
      exact q1 _ H1 (putO_step (X := X) S (not_fx hf) s rv)⟩
end
end PV
namespace PV
open PySem PySem.Spec PyProof.Rows L2

/-! a def as a function of data -/
def startE : List Bool → List D → EnvD
  | io :: r, d :: ds => (if io = true then PV.Cell.own d else .shr d) :: startE r ds
  | _, _ => []
def fxOf : Nat → List Bool → List Nat
  | _, [] => []
  | k, true :: io => k :: fxOf (k + 1) io
  | k, false :: io => fxOf (k + 1) io
def iosOf : List Nat → EnvD → Option (List D)
  | [], _ => some []
  | i :: is, e => match e[i]? with
    | some (.own d) => (iosOf is e).map (d :: ·)
    | _ => none
def outF (ex : Bool) (fx : List Nat) : Out → FR
  | .rt d e => match iosOf fx e with
    | some ios => .ok d ios
    | none => .no
  | .nx e => match iosOf fx e with
    | some ios => .ok .none ios
    | none => .no
  | .exc x _ => if ex = true then .exc x else .no
  | _ => .no
def fnD (io : List Bool) (n : Nat) (b : Sm) : Fn := fun ds => if ds.length = io.length then outF false (fxOf 0 io) (b (startE io ds ++ List.replicate (n - ds.length) .emp)) else .no
structure AmbQ (fx : List Nat) (XR : XRT) where
  H0 : Hp
  N : Addr → Prop
  fa : Nat → Addr
  Z : Addr → Prop
  W : Value → Option Addr → L2.St → Hp → Prop
  nd : ∀ a, N a → ∃ o, H0 a = some o
  ion : ∀ i ∈ fx, N (fa i)
def AmbQ.G {fx : List Nat} {XR : XRT} (q : AmbQ fx XR) : Amb := { H0 := q.H0, N := q.N, fx := fx, fa := q.fa, Z := q.Z, W := q.W, XR := XR, nd := q.nd, ion := q.ion }

section
variable {K : PySem.W.Frag} {H H' : Hp} {N : Addr → Prop}
def vAd (v : Option V) : Addr := match v with
  | some (.ref a) => a
  | _ => 0
theorem startE_len : ∀ {io : List Bool} {vs : List V} {ds : List D}, RpIO K H N io vs ds → (startE io ds).length = vs.length
  | _, _, _, .nil => rfl
  | _, _, _, .val _ r => congrArg (· + 1) (startE_len r)
  | _, _, _, .ref _ r => congrArg (· + 1) (startE_len r)
theorem RpIO.lenD : ∀ {io : List Bool} {vs : List V} {ds : List D}, RpIO K H N io vs ds → ds.length = io.length
  | _, _, _, .nil => rfl
  | _, _, _, .val _ r => congrArg (· + 1) (RpIO.lenD r)
  | _, _, _, .ref _ r => congrArg (· + 1) (RpIO.lenD r)
theorem startE_shr : ∀ {io : List Bool} {vs : List V} {ds : List D} {i : Nat} {d : D}, RpIO K H N io vs ds → (startE io ds)[i]? = some (PV.Cell.shr d) → ∃ v, vs[i]? = some v ∧ Rp K H N v d
  | _, _, _, i, _, .nil, e => by simp [startE] at e
  | _, _, _, 0, _, .val h _, e => by
    have e' : PV.Cell.shr _ = PV.Cell.shr _ := Option.some.inj e
    cases e'
    exact ⟨_, rfl, h⟩
  | _, _, _, 0, _, .ref _ _, e => by
    have e' : PV.Cell.own _ = PV.Cell.shr _ := Option.some.inj e
    cases e'
  | _, _, _, i + 1, _, .val _ r, e => startE_shr (i := i) r e
  | _, _, _, i + 1, _, .ref _ r, e => startE_shr (i := i) r e
theorem startE_own : ∀ {io : List Bool} {vs : List V} {ds : List D} {i : Nat} {d : D}, RpIO K H N io vs ds → (startE io ds)[i]? = some (PV.Cell.own d) → ∃ a, vs[i]? = some (.ref a) ∧ Root K H N a d ∧ a ∈ ioR io vs
  | _, _, _, i, _, .nil, e => by simp [startE] at e
  | _, _, _, 0, _, .val h _, e => by
    have e' : PV.Cell.shr _ = PV.Cell.own _ := Option.some.inj e
    cases e'
  | _, _, _, 0, _, .ref h _, e => by
    have e' : PV.Cell.own _ = PV.Cell.own _ := Option.some.inj e
    cases e'
    exact ⟨_, rfl, h, List.mem_cons_self⟩
  | _, _, _, i + 1, _, .val (v := v) (io := io) (vs := vs) _ r, e => by
    obtain ⟨a, h1, h2, h3⟩ := startE_own (i := i) r e
    have z : ioR (false :: io) (v :: vs) = ioR io vs := by cases v <;> rfl
    exact ⟨a, h1, h2, by rw [z]; exact h3⟩
  | _, _, _, i + 1, _, .ref _ r, e => by
    obtain ⟨a, h1, h2, h3⟩ := startE_own (i := i) r e
    exact ⟨a, h1, h2, List.mem_cons_of_mem _ h3⟩
theorem startE_dis : ∀ {io : List Bool} {vs : List V} {ds : List D} {i j : Nat} {d d2 : D} {a : Addr}, RpIO K H N io vs ds → (ioR io vs).Nodup → (startE io ds)[i]? = some (PV.Cell.own d) → (startE io ds)[j]? = some (PV.Cell.own d2) → vs[i]? = some (.ref a) → vs[j]? = some (.ref a) → i = j
  | _, _, _, i, j, _, _, _, .nil, _, e, _, _, _ => by simp [startE] at e
  | _, _, _, 0, 0, _, _, _, _, _, _, _, _, _ => rfl
  | _, _, _, 0, j + 1, _, _, _, .val h _, _, e, _, _, _ => by
    have e' : PV.Cell.shr _ = PV.Cell.own _ := Option.some.inj e
    cases e'
  | _, _, _, i + 1, 0, _, _, _, .val h _, _, _, e, _, _ => by
    have e' : PV.Cell.shr _ = PV.Cell.own _ := Option.some.inj e
    cases e'
  | _, _, _, i + 1, j + 1, _, _, _, .val (v := v) (io := io) (vs := vs) _ r, nd, e1, e2, h1, h2 => by
    have z : ioR (false :: io) (v :: vs) = ioR io vs := by cases v <;> rfl
    exact congrArg (· + 1) (startE_dis (i := i) (j := j) r (z ▸ nd) e1 e2 h1 h2)
  | _, _, _, 0, j + 1, _, _, b, .ref (a := a) h r, nd, e1, e2, h1, h2 => by
    have e : V.ref a = V.ref b := Option.some.inj h1
    cases e
    obtain ⟨c, g1, _, g3⟩ := startE_own (i := j) r e2
    have h2' := (show _ = some (V.ref c) from g1).symm.trans h2
    cases h2'
    exact absurd g3 (List.nodup_cons.mp nd).1
  | _, _, _, i + 1, 0, _, _, b, .ref (a := a) h r, nd, e1, e2, h1, h2 => by
    have e : V.ref a = V.ref b := Option.some.inj h2
    cases e
    obtain ⟨c, g1, _, g3⟩ := startE_own (i := i) r e1
    have h2' := (show _ = some (V.ref c) from g1).symm.trans h1
    cases h2'
    exact absurd g3 (List.nodup_cons.mp nd).1
  | _, _, _, i + 1, j + 1, _, _, _, .ref _ r, nd, e1, e2, h1, h2 => congrArg (· + 1) (startE_dis (i := i) (j := j) r (List.nodup_cons.mp nd).2 e1 e2 h1 h2)
theorem fx_spec : ∀ {io : List Bool} {vs : List V} {ds : List D} {k i : Nat}, RpIO K H N io vs ds → i ∈ fxOf k io → ∃ j a d, i = k + j ∧ vs[j]? = some (.ref a) ∧ (startE io ds)[j]? = some (PV.Cell.own d) ∧ a ∈ ioR io vs
  | _, _, _, k, i, .nil, h => by simp [fxOf] at h
  | _, _, _, k, i, .val (v := v) (io := io) (vs := vs) _ r, h => by
    obtain ⟨j, a, d, h1, h2, h3, h4⟩ := fx_spec (k := k + 1) r h
    have z : ioR (false :: io) (v :: vs) = ioR io vs := by cases v <;> rfl
    exact ⟨j + 1, a, d, by omega, h2, h3, by rw [z]; exact h4⟩
  | _, _, _, k, i, .ref (a := a) (d := d) _ r, h => by
    rcases List.mem_cons.mp h with rfl | h
    · exact ⟨0, a, d, rfl, rfl, rfl, List.mem_cons_self⟩
    · obtain ⟨j, a, d, h1, h2, h3, h4⟩ := fx_spec (k := k + 1) r h
      exact ⟨j + 1, a, d, by omega, h2, h3, List.mem_cons_of_mem _ h4⟩
theorem fx_ioR : ∀ {io : List Bool} {vs : List V} {ds : List D} {k : Nat}, RpIO K H N io vs ds → ioR io vs = (fxOf k io).map fun i => vAd vs[i - k]?
  | _, _, _, k, .nil => rfl
  | _, _, _, k, .val (v := v) (io := io) (vs := vs) _ r => by
    have z : ioR (false :: io) (v :: vs) = ioR io vs := by cases v <;> rfl
    rw [z, fx_ioR (k := k + 1) r]
    apply List.map_congr_left
    intro i hi
    obtain ⟨j, _, _, h1, _⟩ := fx_spec (k := k + 1) r hi
    have e : i - k = (i - (k + 1)) + 1 := by omega
    show vAd vs[i - (k + 1)]? = vAd (v :: vs)[i - k]?
    rw [e]
    rfl
  | _, _, _, k, .ref (a := a) (io := io) (vs := vs) _ r => by
    show a :: ioR io vs = (k :: fxOf (k + 1) io).map fun i => vAd (V.ref a :: vs)[i - k]?
    rw [fx_ioR (k := k + 1) r, List.map_cons]
    congr 1
    · rw [Nat.sub_self]; rfl
    · apply List.map_congr_left
      intro i hi
      obtain ⟨j, _, _, h1, _⟩ := fx_spec (k := k + 1) r hi
      have e : i - k = (i - (k + 1)) + 1 := by omega
      show vAd vs[i - (k + 1)]? = vAd (V.ref a :: vs)[i - k]?
      rw [e]
      rfl
/-- the state at the entry -/
theorem start_ok {XR : XRT} {io : List Bool} {vs : List V} {ds : List D} {n : Nat} {W : Value → Option Addr → L2.St → Hp → Prop} (q : AmbQ (fxOf 0 io) XR) (h0 : q.H0 = H) (hN : q.N = N) (ha : q.fa = fun i => vAd vs[i]?) (hz : q.Z = fun _ => False)
    (r : RpIO K H N io vs ds) (nd : (ioR io vs).Nodup) (dom : ∀ a, N a → ∃ o, H a = some o) (inN : ∀ a ∈ ioR io vs, N a) :
    StR K q.G (vs.map some ++ List.replicate (n - vs.length) none) H (startE io ds ++ List.replicate (n - ds.length) .emp) := by
  have hl := startE_len r
  have hld : ds.length = vs.length := r.lenD.trans r.length.symm
  have lo : ∀ {i : Nat} {c : PV.Cell}, (startE io ds ++ List.replicate (n - ds.length) PV.Cell.emp)[i]? = some c → c ≠ .emp → (startE io ds)[i]? = some c ∧ ∀ v, vs[i]? = some v → (vs.map some ++ List.replicate (n - vs.length) (none : Option V))[i]? = some (some v) := fun {i c} h hc => by
    by_cases hi : i < (startE io ds).length
    · rw [List.getElem?_append_left hi] at h
      refine ⟨h, fun v hv => ?_⟩
      rw [List.getElem?_append_left (by rw [List.length_map, ← hl]; exact hi), List.getElem?_map, hv]
      rfl
    · rw [List.getElem?_append_right (by omega)] at h
      exact absurd (List.eq_of_mem_replicate (List.mem_of_getElem? h)) hc
  have upv : ∀ {i : Nat} {a : Addr}, (vs.map some ++ List.replicate (n - vs.length) (none : Option V))[i]? = some (some (V.ref a)) → vs[i]? = some (.ref a) := fun {i a} h => by
    by_cases hi : i < vs.length
    · rw [List.getElem?_append_left (by rw [List.length_map]; exact hi), List.getElem?_map] at h
      cases e : vs[i]? with
      | none => rw [e] at h; cases h
      | some v => rw [e] at h; cases h; rfl
    · rw [List.getElem?_append_right (by rw [List.length_map]; omega)] at h
      exact absurd (List.eq_of_mem_replicate (List.mem_of_getElem? h)) nofun
  have rsub : ∀ a, q.G.R (vs.map some ++ List.replicate (n - vs.length) none) (startE io ds ++ List.replicate (n - ds.length) .emp) a → N a := fun a h => by
    rcases h with (h | h) | ⟨i, d, h1, h2⟩
    · exact hN ▸ h
    · have : q.Z a := h
      rw [hz] at this
      exact this.elim
    · obtain ⟨g1, _⟩ := lo h1 (by intro z; cases z)
      obtain ⟨b, e1, _, e3⟩ := startE_own r g1
      rw [upv h2] at e1
      cases e1
      exact inN _ e3
  have fw : Fwd K N (q.G.R (vs.map some ++ List.replicate (n - vs.length) none) (startE io ds ++ List.replicate (n - ds.length) .emp)) H H := .sub_same (Same.refl H) rsub
  refine ⟨?_, ?_, fun i d h => ?_, fun i d h => ?_, fun i j d e a h1 h2 h3 h4 => ?_, fun a z => ?_, fun i hi => ?_⟩
  · rw [List.length_append, List.length_append, List.length_map, List.length_replicate, List.length_replicate, hl, hld]
  · have : q.G.H0 = H := h0
    rw [this]
    exact .refl _ _
  · obtain ⟨g1, g2⟩ := lo h (by intro z; cases z)
    obtain ⟨v, e1, e2⟩ := startE_shr r g1
    exact ⟨v, g2 v e1, e2.fwd fw⟩
  · obtain ⟨g1, g2⟩ := lo h (by intro z; cases z)
    obtain ⟨a, e1, e2, e3⟩ := startE_own r g1
    refine ⟨a, g2 _ e1, e2.at fw rfl, .inr ?_, fun z => ?_⟩
    · rw [fx_ioR (k := 0) r] at e3
      obtain ⟨j, h1, h2⟩ := List.mem_map.mp e3
      refine ⟨j, h1, ?_⟩
      show q.fa j = a
      rw [ha, ← h2]
      rfl
    · have : q.Z a := z
      rw [hz] at this
      exact this.elim
  · obtain ⟨g1, _⟩ := lo h1 (by intro z; cases z)
    obtain ⟨g2, _⟩ := lo h2 (by intro z; cases z)
    exact startE_dis r nd g1 g2 (upv h3) (upv h4)
  · have : q.Z a := z
    rw [hz] at this
    exact this.elim
  · obtain ⟨j, a, d, e1, e2, e3, _⟩ := fx_spec (k := 0) r (show i ∈ fxOf 0 io from hi)
    have ej : i = j := by omega
    subst ej
    have hil := lt_of_some e3
    refine ⟨?_, d, ?_⟩
    · rw [List.getElem?_append_left (by rw [List.length_map, ← hl]; exact hil), List.getElem?_map, e2]
      show some (some (V.ref a)) = some (some (V.ref (q.fa i)))
      rw [ha]
      show _ = some (some (V.ref (vAd vs[i]?)))
      rw [e2]
      rfl
    · rw [List.getElem?_append_left hil]
      exact e3
theorem ios_roots {XR : XRT} {G : Amb} {σ : L2.St} {e : EnvD} {N' : Addr → Prop} (sub : ∀ a, N' a → G.R σ e a) (S : StR K G σ H e) : ∀ {fx : List Nat} {ios : List D}, (∀ i ∈ fx, i ∈ G.fx) → iosOf fx e = some ios → Rts K H N' (fx.map G.fa) ios
  | [], ios, _, h => by cases h; exact .nil
  | i :: fx, ios, hi, h => by
    unfold iosOf at h
    obtain ⟨h1, d, h2⟩ := S.fix i (hi i List.mem_cons_self)
    rw [h2] at h
    simp only at h
    cases e1 : iosOf fx e with
    | none => rw [e1] at h; cases h
    | some r =>
      rw [e1] at h
      cases h
      obtain ⟨a, g1, g2, _⟩ := S.own i d h2
      rw [h1] at g1
      cases g1
      exact .cons (g2.same (Same.refl _) sub) (ios_roots (XR := XR) sub S (fun j hj => hi j (List.mem_cons_of_mem _ hj)) e1)
end

section
variable {P : Program} {w : World} {K : PySem.W.Frag} {mg : Str → Option Value} {base : Heap}
/-- a def that lets no exception out -/
theorem fn_ok0 {XR : XRT} {x : Str} {st : Stmt} {f : Addr} {fd : FuncData} {N ps : List Str} {k : Nat} {io : List Bool} {fl : Lvl} {b : Sm} (F : L2.Fun K x x st f fd) (S : FnScope N ps (defScope st)) (hn : ps.length = io.length)
    (hb : ∀ (cdv : Value) (A : Around) (outer : List Env) (s : Shared) (H : Hp) (E : XK) (q : AmbQ (fxOf 0 io) XR), NoRep A → Room k (A.deeper (envOfC x (defScope st) s.heap.objs.size f cdv)) →
      JB (cxOf CX0 P w K mg base N x (defScope st) f cdv A outer s H E).nox q.G fl (defBody st) b) :
    FnG P w K mg base CX0 (k + 1) f fd ps (spF K XR fl io (fnD io N.length b)) := by
  refine fnG_of F S (fun vs H Q E h => ?_) fun cdv A outer s H vs Q E hgd hr h => ?_
  · obtain ⟨N1, ds, _, r, _⟩ := h
    rw [r.length, hn]
  · obtain ⟨N1, ds, dom, r, nd, inN, h⟩ := h
    have hld := r.lenD
    have ion : ∀ i ∈ fxOf 0 io, N1 (vAd vs[i]?) := fun i hi => inN _ (by
      rw [fx_ioR (k := 0) r]
      exact List.mem_map.mpr ⟨i, hi, rfl⟩)
    let q : AmbQ (fxOf 0 io) XR := ⟨H, N1, fun i => vAd vs[i]?, fun _ => False, fun _ _ _ _ => False, dom, ion⟩
    refine ⟨_, hb cdv A outer s H E q hgd hr, ?_⟩
    have hq : fnD io N.length b ds = outF false (fxOf 0 io) (b (startE io ds ++ List.replicate (N.length - ds.length) .emp)) := by unfold fnD; rw [if_pos hld]
    rw [hq] at h
    have S0 : StR K q.G (start N vs) H (startE io ds ++ List.replicate (N.length - ds.length) .emp) := start_ok (W := fun _ _ _ _ => False) q rfl rfl rfl rfl r nd dom inN
    refine ⟨_, S0, ?_⟩
    have hio : ioR io vs = (fxOf 0 io).map q.G.fa := fx_ioR (k := 0) r
    have IOeq : ∀ a, q.G.IO a → a ∈ ioR io vs := fun a ⟨i, h1, h2⟩ => by
      rw [hio]
      exact List.mem_map.mpr ⟨i, h1, h2⟩
    have subN : ∀ {σ' : L2.St} {e : EnvD} (a : Addr), N1 a → q.G.R σ' e a := fun {σ' e} a z => .inl (.inl z)
    cases eo : b (startE io ds ++ List.replicate (N.length - ds.length) .emp) with
    | rt d e =>
      rw [eo] at h
      intro σ' H' v t rv
      unfold outF at h
      simp only at h
      cases ei : iosOf (fxOf 0 io) e with
      | none => rw [ei] at h; exact h.elim
      | some ios =>
        rw [ei] at h
        refine h v H' (t.st.keep.mono IOeq) rv ?_
        rw [hio]
        exact ios_roots (XR := XR) subN t.st (fun _ z => z) ei
    | nx e =>
      rw [eo] at h
      intro σ' H' t
      unfold outF at h
      simp only at h
      cases ei : iosOf (fxOf 0 io) e with
      | none => rw [ei] at h; exact h.elim
      | some ios =>
        rw [ei] at h
        refine h .non H' (t.st.keep.mono IOeq) ?_ ?_
        · cases fl with
          | bor => exact .of .non
          | saf => exact .non
          | fre => exact .non
        · rw [hio]
          exact ios_roots (XR := XR) subN t.st (fun _ z => z) ei
    | bk e => rw [eo] at h; exact h.elim
    | ct e => rw [eo] at h; exact h.elim
    | exc x e => rw [eo] at h; exact h.elim
    | no => rw [eo] at h; exact h.elim
theorem fn_ok {XR : XRT} {x : Str} {st : Stmt} {f : Addr} {fd : FuncData} {N ps : List Str} {k : Nat} {io : List Bool} {fl : Lvl} {b : Sm} (F : L2.Fun K x x st f fd) (hm : mg x = some (.ref f)) (hbd : Binds K fd ps []) (S : FnScope N ps (defScope st)) (hn : ps.length = io.length)
    (hb : ∀ (cdv : Value) (A : Around) (outer : List Env) (s : Shared) (H : Hp) (E : XK) (q : AmbQ (fxOf 0 io) XR), NoRep A → Room k (A.deeper (envOfC x (defScope st) s.heap.objs.size f cdv)) →
      JB (cxOf CX0 P w K mg base N x (defScope st) f cdv A outer s H E).nox q.G fl (defBody st) b) :
    FnI P w K mg base CX0 XR x (k + 1) fl io (fnD io N.length b) := ⟨⟨f, fd, ps, fn_ok0 F S hn hb, hm, F.kp, hbd⟩, fun ds h => by unfold fnD; rw [if_neg h]⟩
end
end PV
namespace PV
open PySem PySem.Spec PyProof.Rows L2

/-! ints and more: what the operators give -/
def addD : D → D → Option D
  | .int i, .int j => some (.int (i + j))
  | .str a, .str b => if a.length + b.length ≤ sizeLine then some (.str (a ++ b)) else none
  | .tuple a, .tuple b => if a.length + b.length ≤ sizeLine then some (.tuple (a ++ b)) else none
  | .list a, .list b => if a.length + b.length ≤ sizeLine then some (.list (a ++ b)) else none
  | _, _ => none
def subD : D → D → Option D
  | .int i, .int j => some (.int (i - j))
  | _, _ => none
def cMulB (i j : Int) : Bool := (decide (-(2 ^ 64) < i) && decide (i < 2 ^ 64)) || (decide (-(2 ^ 64) < j) && decide (j < 2 ^ 64))
def mulD : D → D → Option D
  | .int i, .int j => if cMulB i j = true then some (.int (i * j)) else none
  | _, _ => none
def fdivD : D → D → Option D
  | .int i, .int j => if decide (0 < j) && decide (j < 1073741824) then some (.int (i / j)) else none
  | _, _ => none
def modD : D → D → Option D
  | .int i, .int j => if decide (0 < j) then some (.int (i % j)) else none
  | _, _ => none
def cPowB (i j : Int) : Bool := decide (0 ≤ j) && decide (j ≤ 1000000) && decide (i.natAbs < 2 ^ 64)
def powD : D → D → Option D
  | .int i, .int j => if cPowB i j = true then some (.int (i ^ j.toNat)) else none
  | _, _ => none
def shlD : D → D → Option D
  | .int i, .int j => if cPowB i j = true then some (.int (i * 2 ^ j.toNat)) else none
  | _, _ => none
def shrD : D → D → Option D
  | .int i, .int j => if decide (0 ≤ j) then some (.int (i / 2 ^ j.toNat)) else none
  | _, _ => none
def andD : D → D → Option D
  | .int i, .int j => some (.int (Builtin.bitAnd i j))
  | _, _ => none
def orD : D → D → Option D
  | .int i, .int j => some (.int (Builtin.bitOr i j))
  | _, _ => none
def xorD : D → D → Option D
  | .int i, .int j => some (.int (Builtin.bitXor i j))
  | _, _ => none
def negD : D → Option D
  | .int i => some (.int (-i))
  | _ => none
def invD : D → Option D
  | .int i => some (.int (Builtin.bitNot i))
  | _ => none

section
variable {X : Cx}
theorem opr_mono {f : Value → Value → Sem Value} {r r' : R2} (h : OpR X f r) (m : ∀ x y H Q, r' x y H Q → r x y H Q) : OpR X f r' := fun pn s σ H x y v u Q I rx ry q => h pn s σ H x y v u Q I rx ry (m _ _ _ _ q)
theorem unr_mono {f : Value → Sem Value} {r r' : V → Hp → VK → Prop} (h : UnR X f r) (m : ∀ x H Q, r' x H Q → r x H Q) : UnR X f r' := fun pn s σ H x v Q I rx q => h pn s σ H x v Q I rx (m _ _ _ q)
theorem ixr_mono {r r' : R2} (h : IxR X r) (m : ∀ x y H Q, r' x y H Q → r x y H Q) : IxR X r' := fun vl sl pn s σ H x y v u Q I rx ry q hs => h vl sl pn s σ H x y v u Q I rx ry (m _ _ _ _ q) hs
theorem slr_mono {r r' : V → Option Int → Option Int → Hp → VK → Prop} (h : SlR X r) (m : ∀ x lo hi H Q, r' x lo hi H Q → r x lo hi H Q) : SlR X r' := fun pn s σ H x v vl vu lo hi sl Q I rx hs pl pu q => h pn s σ H x v vl vu lo hi sl Q I rx hs pl pu (m _ _ _ _ _ q)
theorem callr_mono {f : Value} {r r' : List V → Hp → VK → Prop} (h : CallR X f r) (m : ∀ x H Q, r' x H Q → r x H Q) : CallR X f r' := fun pn s σ H x v Q I rx q => h pn s σ H x v Q I rx (m _ _ _ q)
theorem mtr_mono {id : String} {r r' : V → List V → Hp → VK → Prop} (h : MtR X id r) (m : ∀ x xs H Q, r' x xs H Q → r x xs H Q) : MtR X id r' := fun pn s σ H x xs v us Q I rx rs q => h pn s σ H x xs v us Q I rx rs (m _ _ _ _ q)

/-- an operation on two ints -/
theorem o_int {f : Value → Value → Sem Value} {C : Int → Int → Prop} {g : Int → Int → V} {dg : D → D → Option D} (h : OpR X f (rI C g))
    (hd : ∀ a b d, dg a b = some d → ∃ i j, a = .int i ∧ b = .int j ∧ C i j ∧ ((∃ n, d = .int n ∧ g i j = .int n) ∨ ∃ k, d = .bool k ∧ g i j = .bl k)) : OpR X f (r2 X.K .fre dg) :=
  opr_mono h fun x y H Q ⟨N, da, db, d, dom, rx, ry, e, q⟩ => by
    obtain ⟨i, j, rfl, rfl, hc, hr⟩ := hd _ _ _ e
    refine ⟨i, j, rx.int, ry.int, hc, q _ H (Same.refl H) ?_⟩
    rcases hr with ⟨n, rfl, hg⟩ | ⟨k, rfl, hg⟩
    · rw [hg]; exact .int n
    · rw [hg]; exact .bl k
theorem o_int0 {f : Value → Value → Sem Value} {g : Int → Int → V} {dg : D → D → Option D} (h : OpR X f (rI0 g))
    (hd : ∀ a b d, dg a b = some d → ∃ i j, a = .int i ∧ b = .int j ∧ ((∃ n, d = .int n ∧ g i j = .int n) ∨ ∃ k, d = .bool k ∧ g i j = .bl k)) : OpR X f (r2 X.K .fre dg) :=
  o_int (C := fun _ _ => True) (opr_mono h fun x y H Q ⟨i, j, h1, h2, _, h3⟩ => ⟨i, j, h1, h2, h3⟩) (fun a b d e => let ⟨i, j, h1, h2, h3⟩ := hd a b d e; ⟨i, j, h1, h2, trivial, h3⟩)
theorem oo_sub : OpR X (binaryOp .Sub) (r2 X.K .fre subD) := o_int0 op_sub fun a b d e => by
  cases a <;> cases b <;> first | (cases e; exact ⟨_, _, rfl, rfl, .inl ⟨_, rfl, rfl⟩⟩) | cases e
theorem oo_and : OpR X (binaryOp .BitAnd) (r2 X.K .fre andD) := o_int0 op_and fun a b d e => by
  cases a <;> cases b <;> first | (cases e; exact ⟨_, _, rfl, rfl, .inl ⟨_, rfl, rfl⟩⟩) | cases e
theorem oo_or : OpR X (binaryOp .BitOr) (r2 X.K .fre orD) := o_int0 op_or fun a b d e => by
  cases a <;> cases b <;> first | (cases e; exact ⟨_, _, rfl, rfl, .inl ⟨_, rfl, rfl⟩⟩) | cases e
theorem oo_xor : OpR X (binaryOp .BitXor) (r2 X.K .fre xorD) := o_int0 op_xor fun a b d e => by
  cases a <;> cases b <;> first | (cases e; exact ⟨_, _, rfl, rfl, .inl ⟨_, rfl, rfl⟩⟩) | cases e
theorem if_some {α : Type} {c : Prop} [Decidable c] {x y : α} (h : (if c then some x else none) = some y) : c ∧ x = y := by
  by_cases z : c
  · rw [if_pos z] at h; exact ⟨z, Option.some.inj h⟩
  · rw [if_neg z] at h; cases h
theorem oo_fdiv : OpR X (binaryOp .FloorDiv) (r2 X.K .fre fdivD) := o_int op_fdiv fun a b d e => by
  cases a <;> cases b <;> first | (obtain ⟨c, rfl⟩ := if_some (show (if _ then some _ else none) = some d from e); simp only [Bool.and_eq_true, decide_eq_true_eq] at c; exact ⟨_, _, rfl, rfl, c, .inl ⟨_, rfl, rfl⟩⟩) | cases e
theorem oo_mod : OpR X (binaryOp .Mod) (r2 X.K .fre modD) := o_int op_mod fun a b d e => by
  cases a <;> cases b <;> first | (obtain ⟨c, rfl⟩ := if_some (show (if _ then some _ else none) = some d from e); simp only [Bool.and_eq_true, decide_eq_true_eq] at c; exact ⟨_, _, rfl, rfl, c, .inl ⟨_, rfl, rfl⟩⟩) | cases e
theorem cPow_of {i j : Int} (h : cPowB i j = true) : CPow i j := by
  unfold cPowB at h
  simp only [Bool.and_eq_true, decide_eq_true_eq] at h
  exact ⟨h.1.1, h.1.2, h.2⟩
theorem oo_pow : OpR X (binaryOp .Pow) (r2 X.K .fre powD) := o_int op_pow fun a b d e => by
  cases a <;> cases b <;> first | (obtain ⟨c, rfl⟩ := if_some (show (if _ then some _ else none) = some d from e); exact ⟨_, _, rfl, rfl, cPow_of c, .inl ⟨_, rfl, rfl⟩⟩) | cases e
theorem oo_shl : OpR X (binaryOp .LShift) (r2 X.K .fre shlD) := o_int op_shl fun a b d e => by
  cases a <;> cases b <;> first | (obtain ⟨c, rfl⟩ := if_some (show (if _ then some _ else none) = some d from e); exact ⟨_, _, rfl, rfl, cPow_of c, .inl ⟨_, rfl, rfl⟩⟩) | cases e
theorem oo_shr : OpR X (binaryOp .RShift) (r2 X.K .fre shrD) := o_int op_shr fun a b d e => by
  cases a <;> cases b <;> first | (obtain ⟨c, rfl⟩ := if_some (show (if _ then some _ else none) = some d from e); simp only [Bool.and_eq_true, decide_eq_true_eq] at c; exact ⟨_, _, rfl, rfl, c, .inl ⟨_, rfl, rfl⟩⟩) | cases e
theorem ou_neg : UnR X (unaryOp .USub) (r1 X.K .fre negD) := unr_mono un_neg fun x H Q ⟨N, da, d, dom, rx, e, q⟩ => by
  cases da <;> first | (cases e; exact ⟨_, rx.int, q _ H (Same.refl H) (.int _)⟩) | cases e
theorem ou_inv : UnR X (unaryOp .Invert) (r1 X.K .fre invD) := unr_mono un_inv fun x H Q ⟨N, da, d, dom, rx, e, q⟩ => by
  cases da <;> first | (cases e; exact ⟨_, rx.int, q _ H (Same.refl H) (.int _)⟩) | cases e

/-! + of texts, tuples, lists -/
theorem strOk_iff {x : Str} : PyData.strOk x = true ↔ ∀ c ∈ x.cps.toList, c < 0x110000 := by
  unfold PyData.strOk
  rw [Array.all_eq_true']
  simp
theorem strOk_append {x y : Str} (hx : PyData.strOk x = true) (hy : PyData.strOk y = true) : PyData.strOk (x ++ y) = true := by
  rw [strOk_iff] at *
  intro c hc
  have e : (x ++ y).cps.toList = x.cps.toList ++ y.cps.toList := TL.tl_append x y
  rw [e] at hc
  exact (List.mem_append.mp hc).elim (hx c) (hy c)
theorem lst_at {pn : List (Addr × Obj)} {σ : L2.St} {H : Hp} {s : Shared} {a : Addr} {xs : List V} (I : Inv X pn σ H s) (h : Rd H a (.lst xs)) :
    xs.length ≤ sizeLine ∧ ∃ (its : List Value) (n : Nat), Vals xs its ∧ xs.length = its.length ∧ s.heap.get? a = some { cls := .type "list", data := .seq its.toArray n } := by
  obtain ⟨z, its, n, r, e⟩ := h.ok I.hok
  exact ⟨z, its, n, r, r.length, e⟩
def rCatL : R2 := fun x y H Q => ∃ l b xs zs, x = .ref l ∧ y = .ref b ∧ Rd H l (.lst xs) ∧ Rd H b (.lst zs) ∧ xs.length + zs.length ≤ sizeLine ∧ ∀ p, H p = none → Q (.ref p) (upd H p (.lst (xs ++ zs)))
theorem op_catL : OpR X (binaryOp .Add) rCatL := by
  intro pn s σ H x y v u Q I rx ry h
  obtain ⟨l, b, xs, zs, rfl, rfl, h1, h2, hz, q⟩ := h
  cases rx
  cases ry
  obtain ⟨_, i1, n1, r1, l1, e1⟩ := lst_at I h1
  obtain ⟨_, i2, n2, r2, l2, e2⟩ := lst_at I h2
  refine PySem.P.add_list e1 e2 ?_ (by simp only [List.size_toArray]; omega)
  rw [show i1.toArray ++ i2.toArray = (i1 ++ i2).toArray by simp]
  refine ⟨.ref _, _, I.lnew (t' := s.toks) (r1.append r2) (by rw [List.length_append]; omega), rfl, q _ I.fresh⟩
theorem oo_add : OpR X (binaryOp .Add) (r2 X.K .fre addD) :=
  opr_mono (op_add.or (op_add_str.or (op_catA.or op_catL))) fun x y H Q ⟨N, da, db, d, dom, rx, ry, e, q⟩ => by
    cases da <;> cases db <;> first | (exact nomatch (show none = some d from e)) | skip
    · cases e
      exact .inl ⟨_, _, rx.int, ry.int, q _ H (Same.refl H) (.int _)⟩
    · obtain ⟨c, rfl⟩ := if_some (show (if _ then some _ else none) = some d from e)
      exact .inr (.inl ⟨_, _, rx.str, ry.str, c, q _ H (Same.refl H) (.str _ (strOk_append rx.strOk ry.strOk))⟩)
    · obtain ⟨c, rfl⟩ := if_some (show (if _ then some _ else none) = some d from e)
      obtain ⟨a, xs, rfl, h1, h2⟩ := rx.list
      obtain ⟨b, ys, rfl, h3, h4⟩ := ry.list
      refine .inr (.inr (.inr ⟨a, b, xs, ys, rfl, rfl, h1, h3, by rw [h2.length, h4.length]; exact c, fun p hn => q _ _ (same_new hn) ?_⟩))
      exact ⟨p, _, rfl, hn, upd_same, (h2.append h4).new hn⟩
    · obtain ⟨c, rfl⟩ := if_some (show (if _ then some _ else none) = some d from e)
      obtain ⟨a, xs, rfl, h1, h2⟩ := rx.tuple
      obtain ⟨b, ys, rfl, h3, h4⟩ := ry.tuple
      refine .inr (.inr (.inl ⟨a, b, xs, ys, rfl, rfl, h1, h3, by rw [h2.length, h4.length]; exact c, fun z => q _ H (Same.refl H) ?_, fun _ z => q _ H (Same.refl H) ?_, fun _ _ p hn => q _ _ (same_new hn) (.tup (SqT.of upd_same) ((h2.append h4).fwd (.of_same (same_new hn))))⟩))
      · subst z
        cases h2
        exact .tup h3 h4
      · subst z
        cases h4
        rw [List.append_nil]
        exact .tup h1 h2
theorem oo_mul : OpR X (binaryOp .Mult) (r2 X.K .fre mulD) := o_int op_mul fun a b d e => by
  cases a <;> cases b <;> first | (obtain ⟨c, rfl⟩ := if_some (show (if _ then some _ else none) = some d from e); refine ⟨_, _, rfl, rfl, ?_, .inl ⟨_, rfl, rfl⟩⟩; unfold cMulB at c; simp only [Bool.or_eq_true, Bool.and_eq_true, decide_eq_true_eq] at c; exact c) | cases e

/-! comparisons -/
mutual
/-- data without dicts -/
def noDict : D → Bool
  | .dict _ => false
  | .list ds => noDicts ds
  | .tuple ds => noDicts ds
  | _ => true
def noDicts : List D → Bool
  | [] => true
  | d :: ds => noDict d && noDicts ds
end
mutual
theorem Rp.dp {K : PySem.W.Frag} {H : Hp} {N : Addr → Prop} : ∀ {v : V} {d : D}, Rp K H N v d → noDict d = true → Dp K H v d
  | _, _, .non, _ => .non
  | _, _, .bl b, _ => .bl b
  | _, _, .int i, _ => .int i
  | _, _, .str x _, _ => .str x
  | _, _, .tup h r, n => .tup h (RpAll.dp r (by simpa [noDict] using n))
  | _, _, .lst h _ r, n => .lst (.inl h) (RpAll.dp r (by simpa [noDict] using n))
  | _, _, .dct _ _ _, n => by simp [noDict] at n
theorem RpAll.dp {K : PySem.W.Frag} {H : Hp} {N : Addr → Prop} : ∀ {v : List V} {d : List D}, RpAll K H N v d → noDicts d = true → DpAll K H v d
  | _, _, .nil, _ => .nil
  | _, _, .cons h r, n => by
    have n' := Bool.and_eq_true_iff.mp (show (noDict _ && noDicts _) = true from n)
    exact .cons (Rp.dp h n'.1) (RpAll.dp r n'.2)
end
mutual
theorem Rp.lay {K : PySem.W.Frag} {H : Hp} {N : Addr → Prop} : ∀ {v : V} {d : D}, Rp K H N v d → noDict d = true → d.canLay0 = true
  | _, _, .non, _ => by simp [PyData.canLay0]
  | _, _, .bl b, _ => by simp [PyData.canLay0]
  | _, _, .int i, _ => by simp [PyData.canLay0]
  | _, _, .str x h, _ => by simpa [PyData.canLay0] using h
  | _, _, .tup h r, n => by
    have := RpAll.lay r (by simpa [noDict] using n)
    simpa [PyData.canLay0] using this
  | _, _, .lst h _ r, n => by
    have := RpAll.lay r (by simpa [noDict] using n)
    simpa [PyData.canLay0] using this
  | _, _, .dct _ _ _, n => by simp [noDict] at n
theorem RpAll.lay {K : PySem.W.Frag} {H : Hp} {N : Addr → Prop} : ∀ {v : List V} {d : List D}, RpAll K H N v d → noDicts d = true → PyData.canLayAll0 d = true
  | _, _, .nil, _ => by simp [PyData.canLayAll0]
  | _, _, .cons h r, n => by
    have n' := Bool.and_eq_true_iff.mp (show (noDict _ && noDicts _) = true from n)
    rw [PyData.canLayAll0, Bool.and_eq_true]
    exact ⟨Rp.lay h n'.1, RpAll.lay r n'.2⟩
end
theorem RpC.lay {K : PySem.W.Frag} {H : Hp} {N : Addr → Prop} {v : V} {d : D} (r : RpC K H N v d) (n : noDict d = true) : d.canLay0 = true := by
  cases r with
  | of h => exact h.lay n
  | lst h r =>
    have := r.lay (by simpa [noDict] using n)
    simpa [PyData.canLay0] using this
  | dct _ _ => simp [noDict] at n
theorem RpC.dp {K : PySem.W.Frag} {H : Hp} {N : Addr → Prop} {v : V} {d : D} (r : RpC K H N v d) (n : noDict d = true) : Dp K H v d := by
  cases r with
  | of h => exact h.dp n
  | lst h r => exact .lst (.inl h) (r.dp (by simpa [noDict] using n))
  | dct _ _ => simp [noDict] at n
end
end PV
namespace PV
open PySem PySem.Spec PyProof.Rows L2

/-! == and in, of data at any depth -/
def eqOk (a b : D) : Bool := noDict a && noDict b && decide (min a.depth b.depth ≤ 64)
def eqD (a b : D) : Option D := if eqOk a b = true then some (.bool (PyData.eqv a b)) else none
def neD (a b : D) : Option D := if eqOk a b = true then some (.bool (!PyData.eqv a b)) else none
def lookD (es : List (D × D)) (k : D) : Option D := (es.find? fun e => PyData.eqv e.1 k).map (·.2)
def isKey : D → Bool
  | .int _ => true
  | .str _ => true
  | _ => false
def subS (y z : Str) : Bool := !(Builtin.Str.occurrences z y 0 z.length 1).isEmpty
def inB (x c : D) : Option Bool := match c with
  | .list ds => if (noDict x && noDicts ds && decide (min (PyData.depthAll ds) x.depth ≤ 60)) = true then some (ds.any fun z => PyData.eqv z x) else none
  | .tuple ds => if (noDict x && noDicts ds && decide (min (PyData.depthAll ds) x.depth ≤ 60)) = true then some (ds.any fun z => PyData.eqv z x) else none
  | .str z => match x with
    | .str y => some (subS y z)
    | _ => none
  | .dict es => if isKey x = true then some (lookD es x).isSome else none
  | _ => none
def inD (x c : D) : Option D := (inB x c).map fun k => .bool k
def ninD (x c : D) : Option D := (inB x c).map fun k => .bool (!k)

section
variable {X : Cx}
theorem oo_eq (hu : X.A.units + 64 < cLine) : OpR X (compareOp .Eq) (r2 X.K .fre eqD) := by
  intro pn s σ H x y v u Q I rx ry h
  obtain ⟨N, da, db, d, dom, cx, cy, e, q⟩ := h
  obtain ⟨c, rfl⟩ := if_some (show (if _ then some _ else none) = some d from e)
  unfold eqOk at c
  simp only [Bool.and_eq_true, decide_eq_true_eq] at c
  obtain ⟨as, g1⟩ := Dp.reads I da x v (cx.dp c.1.1) rx
  obtain ⟨bs, g2⟩ := Dp.reads I db y u (cy.dp c.1.2) ry
  exact SeqAt.compareEq_reads g1 g2 (cx.lay c.1.1) (cy.lay c.1.2) (by omega) ⟨.bl _, H, I, rfl, q _ H (Same.refl H) (.bl _)⟩
theorem oo_ne (hu : X.A.units + 64 < cLine) : OpR X (compareOp .NotEq) (r2 X.K .fre neD) := by
  intro pn s σ H x y v u Q I rx ry h
  obtain ⟨N, da, db, d, dom, cx, cy, e, q⟩ := h
  obtain ⟨c, rfl⟩ := if_some (show (if _ then some _ else none) = some d from e)
  unfold eqOk at c
  simp only [Bool.and_eq_true, decide_eq_true_eq] at c
  obtain ⟨as, g1⟩ := Dp.reads I da x v (cx.dp c.1.1) rx
  obtain ⟨bs, g2⟩ := Dp.reads I db y u (cy.dp c.1.2) ry
  exact SeqAt.compareNe_reads g1 g2 (cx.lay c.1.1) (cy.lay c.1.2) (by omega) ⟨.bl _, H, I, rfl, q _ H (Same.refl H) (.bl _)⟩
/-- what a dict with these entries holds -/
theorem eqv_key (a b : Key) : PyData.eqv (keyD a) (keyD b) = decide (a = b) := by
  cases a with
  | inl i =>
    cases b with
    | inl j =>
      show (i == j) = _
      by_cases h : i = j
      · subst h; simp
      · rw [decide_eq_false fun z => h (Sum.inl.inj z)]; simpa using h
    | inr y =>
      show PyData.eqv (.int i) (.str y) = _
      rw [decide_eq_false (by intro z; cases z)]; simp [PyData.eqv]
  | inr x =>
    cases b with
    | inl j =>
      show PyData.eqv (.str x) (.int j) = _
      rw [decide_eq_false (by intro z; cases z)]; simp [PyData.eqv]
    | inr y =>
      show PyData.eqv (.str x) (.str y) = _
      rw [PyData.eqv]
      by_cases h : x = y
      · subst h; simp
      · rw [decide_eq_false fun z => h (Sum.inr.inj z)]; simpa using h
theorem look_rel {K : PySem.W.Frag} {H : Hp} {N : Addr → Prop} (k : Key) : ∀ {kvs : List (Key × V)} {es : List (D × D)}, RpKV K H N kvs es → (valV kvs k = none ∧ lookD es (keyD k) = none) ∨ ∃ v d, valV kvs k = some v ∧ lookD es (keyD k) = some d ∧ Rp K H N v d
  | _, _, .nil => .inl ⟨rfl, rfl⟩
  | _, _, .cons (k := k1) (v := v) (kvs := kvs) (d := d) (es := es) h r => by
    by_cases e : k1 = k
    · subst e
      refine .inr ⟨v, d, valV_pos (p := (k1, v)) rfl, ?_, h⟩
      unfold lookD
      rw [List.find?_cons_of_pos (by rw [eqv_key]; simp)]
      rfl
    · have e2 : lookD ((keyD k1, d) :: es) (keyD k) = lookD es (keyD k) := by
        unfold lookD
        rw [List.find?_cons_of_neg (by rw [eqv_key]; simpa using e)]
      rw [valV_neg (p := (k1, v)) e, e2]
      exact look_rel k r
theorem key_of_D {K : PySem.W.Frag} {H : Hp} {N : Addr → Prop} {x : V} {d : D} (r : RpC K H N x d) (h : isKey d = true) : ∃ k : Key, d = keyD k ∧ x = kV k := by
  cases d with
  | int i => exact ⟨.inl i, rfl, r.int⟩
  | str s => exact ⟨.inr s, rfl, r.str⟩
  | _ => cases h
theorem in_any (hu : X.A.units + 64 < cLine) (hu1 : X.A.units + 1 < cLine) {pn : List (Addr × Obj)} {s : Shared} {σ : L2.St} {H : Hp} {x y : V} {v u : Value} {Q : Value → Shared → Prop} {N : Addr → Prop} {da db : D} {k : Bool} (I : Inv X pn σ H s) (rx : RelV x v) (ry : RelV y u)
    (cx : RpC X.K H N x da) (cy : RpC X.K H N y db) (e : inB da db = some k) (q : ∀ s', Inv X pn σ H s' → Q (.bool k) s') : wpAny (model X.prog X.w) X.A (compareOp .In v u) Q X.xe s := by
  cases db with
  | list ds =>
    obtain ⟨c, rfl⟩ := if_some (show (if _ then some _ else none) = some k from e)
    simp only [Bool.and_eq_true, decide_eq_true_eq] at c
    have nd : noDict (.list ds) = true := c.1.2
    obtain ⟨as, g1⟩ := Dp.reads I da x v (cx.dp c.1.1) rx
    obtain ⟨bs, g2⟩ := Dp.reads I (.list ds) y u (cy.dp nd) ry
    exact SeqAt.in_list_reads g2 g1 (by simpa [PyData.canLay0] using cy.lay nd) (cx.lay c.1.1) (by omega) (q _ I)
  | tuple ds =>
    obtain ⟨c, rfl⟩ := if_some (show (if _ then some _ else none) = some k from e)
    simp only [Bool.and_eq_true, decide_eq_true_eq] at c
    have nd : noDict (.tuple ds) = true := c.1.2
    obtain ⟨as, g1⟩ := Dp.reads I da x v (cx.dp c.1.1) rx
    obtain ⟨bs, g2⟩ := Dp.reads I (.tuple ds) y u (cy.dp nd) ry
    exact SeqAt.in_tuple_reads g2 g1 (by simpa [PyData.canLay0] using cy.lay nd) (cx.lay c.1.1) (by omega) (q _ I)
  | str z =>
    cases da with
    | str w =>
      cases e
      have e1 := cx.str
      have e2 := cy.str
      subst e1 e2
      obtain ⟨t, rfl⟩ := rx
      obtain ⟨t', rfl⟩ := ry
      exact PyProof.Rows.in_str (q _ I)
    | _ => exact nomatch (show none = some k from e)
  | dict es =>
    obtain ⟨c, rfl⟩ := if_some (show (if _ then some _ else none) = some k from e)
    obtain ⟨k1, rfl, rfl⟩ := key_of_D cx c
    obtain ⟨a, kvs, rfl, h1, h2⟩ := cy.dict
    cases ry
    have eo : (lookD es (keyD k1)).isSome = (valV kvs k1).isSome := by
      rcases look_rel k1 h2 with ⟨g1, g2⟩ | ⟨_, _, g1, g2, _⟩ <;> rw [g1, g2] <;> rfl
    rw [eo] at q
    exact d_in hu1 I (.inl ⟨_, _, h1, rfl, rfl⟩) rx q
  | _ => exact nomatch (show none = some k from e)
theorem notIn_any (hu : X.A.units + 64 < cLine) (hu1 : X.A.units + 1 < cLine) {pn : List (Addr × Obj)} {s : Shared} {σ : L2.St} {H : Hp} {x y : V} {v u : Value} {Q : Value → Shared → Prop} {N : Addr → Prop} {da db : D} {k : Bool} (I : Inv X pn σ H s) (rx : RelV x v) (ry : RelV y u)
    (cx : RpC X.K H N x da) (cy : RpC X.K H N y db) (e : inB da db = some k) (q : ∀ s', Inv X pn σ H s' → Q (.bool (!k)) s') : wpAny (model X.prog X.w) X.A (compareOp .NotIn v u) Q X.xe s := by
  cases db with
  | list ds =>
    obtain ⟨c, rfl⟩ := if_some (show (if _ then some _ else none) = some k from e)
    simp only [Bool.and_eq_true, decide_eq_true_eq] at c
    have nd : noDict (.list ds) = true := c.1.2
    obtain ⟨as, g1⟩ := Dp.reads I da x v (cx.dp c.1.1) rx
    obtain ⟨bs, g2⟩ := Dp.reads I (.list ds) y u (cy.dp nd) ry
    exact SeqAt.notIn_list_reads g2 g1 (by simpa [PyData.canLay0] using cy.lay nd) (cx.lay c.1.1) (by omega) (q _ I)
  | tuple ds =>
    obtain ⟨c, rfl⟩ := if_some (show (if _ then some _ else none) = some k from e)
    simp only [Bool.and_eq_true, decide_eq_true_eq] at c
    have nd : noDict (.tuple ds) = true := c.1.2
    obtain ⟨as, g1⟩ := Dp.reads I da x v (cx.dp c.1.1) rx
    obtain ⟨bs, g2⟩ := Dp.reads I (.tuple ds) y u (cy.dp nd) ry
    exact SeqAt.notIn_tuple_reads g2 g1 (by simpa [PyData.canLay0] using cy.lay nd) (cx.lay c.1.1) (by omega) (q _ I)
  | str z =>
    cases da with
    | str w =>
      cases e
      have e1 := cx.str
      have e2 := cy.str
      subst e1 e2
      obtain ⟨t, rfl⟩ := rx
      obtain ⟨t', rfl⟩ := ry
      exact PyProof.Rows.notIn_str (q _ I)
    | _ => exact nomatch (show none = some k from e)
  | dict es =>
    obtain ⟨c, rfl⟩ := if_some (show (if _ then some _ else none) = some k from e)
    obtain ⟨k1, rfl, rfl⟩ := key_of_D cx c
    obtain ⟨a, kvs, rfl, h1, h2⟩ := cy.dict
    cases ry
    have eo : (lookD es (keyD k1)).isSome = (valV kvs k1).isSome := by
      rcases look_rel k1 h2 with ⟨g1, g2⟩ | ⟨_, _, g1, g2, _⟩ <;> rw [g1, g2] <;> rfl
    rw [eo] at q
    exact d_notIn hu1 I (.inl ⟨_, _, h1, rfl, rfl⟩) rx q
  | _ => exact nomatch (show none = some k from e)
theorem oo_in (hu : X.A.units + 64 < cLine) : OpR X (compareOp .In) (r2 X.K .fre inD) := by
  intro pn s σ H x y v u Q I rx ry ⟨N, da, db, d, dom, cx, cy, e, q⟩
  unfold inD at e
  cases ek : inB da db with
  | none => rw [ek] at e; cases e
  | some k =>
    rw [ek] at e
    cases e
    exact in_any hu (by omega) I rx ry cx cy ek fun s' I' => ⟨.bl k, H, I', rfl, q _ H (Same.refl H) (.bl _)⟩
theorem oo_nin (hu : X.A.units + 64 < cLine) : OpR X (compareOp .NotIn) (r2 X.K .fre ninD) := by
  intro pn s σ H x y v u Q I rx ry ⟨N, da, db, d, dom, cx, cy, e, q⟩
  unfold ninD at e
  cases ek : inB da db with
  | none => rw [ek] at e; cases e
  | some k =>
    rw [ek] at e
    cases e
    exact notIn_any hu (by omega) I rx ry cx cy ek fun s' I' => ⟨.bl (!k), H, I', rfl, q _ H (Same.refl H) (.bl _)⟩

/-! is -/
def isNone : D → Bool
  | .none => true
  | _ => false
def isD (a b : D) : Option D := match b with
  | .none => some (.bool (isNone a))
  | .bool y => match a with
    | .bool x => some (.bool (decide (x = y)))
    | _ => none
  | _ => none
def notD (a b : D) : Option D := match b with
  | .none => some (.bool (!isNone a))
  | .bool y => match a with
    | .bool x => some (.bool (!decide (x = y)))
    | _ => none
  | _ => none
theorem non_iff {K : PySem.W.Frag} {H : Hp} {N : Addr → Prop} {v : V} {d : D} (r : RpC K H N v d) : decide (v = .non) = isNone d := by
  cases d with
  | none => rw [r.none]; rfl
  | bool _ => rw [r.bool]; rfl
  | int _ => rw [r.int]; rfl
  | str _ => rw [r.str]; rfl
  | list _ => obtain ⟨a, _, rfl, _⟩ := r.list; rfl
  | tuple _ => obtain ⟨a, _, rfl, _⟩ := r.tuple; rfl
  | dict _ => obtain ⟨a, _, rfl, _⟩ := r.dict; rfl
theorem oo_is : OpR X (compareOp .Is) (r2 X.K .fre isD) := opr_mono (op_isN.or op_isBl) fun x y H Q ⟨N, da, db, d, dom, cx, cy, e, q⟩ => by
  cases db with
  | none =>
    cases e
    refine .inl ⟨cy.none, ?_⟩
    rw [non_iff cx]
    exact q _ H (Same.refl H) (.bl _)
  | bool k =>
    cases da with
    | bool j =>
      cases e
      exact .inr ⟨j, k, cx.bool, cy.bool, q _ H (Same.refl H) (.bl _)⟩
    | _ => exact nomatch (show none = some d from e)
  | _ => exact nomatch (show none = some d from e)
theorem oo_isnot : OpR X (compareOp .IsNot) (r2 X.K .fre notD) := opr_mono (op_notN.or op_notBl) fun x y H Q ⟨N, da, db, d, dom, cx, cy, e, q⟩ => by
  cases db with
  | none =>
    cases e
    refine .inl ⟨cy.none, ?_⟩
    rw [non_iff cx]
    exact q _ H (Same.refl H) (.bl _)
  | bool k =>
    cases da with
    | bool j =>
      cases e
      exact .inr ⟨j, k, cx.bool, cy.bool, q _ H (Same.refl H) (.bl _)⟩
    | _ => exact nomatch (show none = some d from e)
  | _ => exact nomatch (show none = some d from e)

/-! order -/
def ltD : D → D → Option D
  | .int i, .int j => some (.bool (decide (i < j)))
  | .str a, .str b => some (.bool (decide (a.cps.toList < b.cps.toList)))
  | .tuple a, .tuple b => if (noDicts a && noDicts b && PySem.W.alikeAll a b && decide (min (PyData.depthAll a) (PyData.depthAll b) ≤ 60)) = true then some (.bool (PySem.W.dataLt (.tuple a) (.tuple b))) else none
  | _, _ => none
def leD : D → D → Option D
  | .int i, .int j => some (.bool (decide (i ≤ j)))
  | .str a, .str b => some (.bool (!decide (b.cps.toList < a.cps.toList)))
  | _, _ => none
def gtD : D → D → Option D
  | .int i, .int j => some (.bool (decide (j < i)))
  | .str a, .str b => some (.bool (decide (b.cps.toList < a.cps.toList)))
  | _, _ => none
def geD : D → D → Option D
  | .int i, .int j => some (.bool (decide (j ≤ i)))
  | .str a, .str b => some (.bool (!decide (a.cps.toList < b.cps.toList)))
  | _, _ => none
theorem oo_ltT (hu : X.A.units + 64 < cLine) : OpR X (compareOp .Lt) (fun x y H Q => ∃ N a b, RpC X.K H N x (.tuple a) ∧ RpC X.K H N y (.tuple b) ∧ (noDicts a && noDicts b && PySem.W.alikeAll a b && decide (min (PyData.depthAll a) (PyData.depthAll b) ≤ 60)) = true ∧ Q (.bl (PySem.W.dataLt (.tuple a) (.tuple b))) H) := by
  intro pn s σ H x y v u Q I rx ry ⟨N, a, b, cx, cy, c, q⟩
  simp only [Bool.and_eq_true, decide_eq_true_eq] at c
  obtain ⟨as, g1⟩ := Dp.reads I (.tuple a) x v (cx.dp c.1.1.1) rx
  obtain ⟨bs, g2⟩ := Dp.reads I (.tuple b) y u (cy.dp c.1.1.2) ry
  exact (PySem.W.rcLt_alike (.tuple a) (.tuple b) X.A s v u as bs g1 g2 (by simpa [PySem.W.alike] using c.1.2) (by intro z; cases z) (by simp only [PyData.depth]; omega)) _ _ _ _ ⟨.bl _, H, I, rfl, q⟩
theorem oo_lt (hu : X.A.units + 64 < cLine) : OpR X (compareOp .Lt) (r2 X.K .fre ltD) := opr_mono (op_lt.or (op_lt_str.or (oo_ltT hu))) fun x y H Q ⟨N, da, db, d, dom, cx, cy, e, q⟩ => by
  cases da <;> cases db <;> first | (exact nomatch (show none = some d from e)) | skip
  · cases e
    exact .inl ⟨_, _, cx.int, cy.int, q _ H (Same.refl H) (.bl _)⟩
  · cases e
    exact .inr (.inl ⟨_, _, cx.str, cy.str, q _ H (Same.refl H) (.bl _)⟩)
  · obtain ⟨c, rfl⟩ := if_some (show (if _ then some _ else none) = some d from e)
    exact .inr (.inr ⟨N, _, _, cx, cy, c, q _ H (Same.refl H) (.bl _)⟩)
theorem oo_le : OpR X (compareOp .LtE) (r2 X.K .fre leD) := opr_mono (op_le.or op_le_str) fun x y H Q ⟨N, da, db, d, dom, cx, cy, e, q⟩ => by
  cases da <;> cases db <;> first | (exact nomatch (show none = some d from e)) | skip
  · cases e
    exact .inl ⟨_, _, cx.int, cy.int, q _ H (Same.refl H) (.bl _)⟩
  · cases e
    exact .inr ⟨_, _, cx.str, cy.str, q _ H (Same.refl H) (.bl _)⟩
theorem oo_gt : OpR X (compareOp .Gt) (r2 X.K .fre gtD) := opr_mono (op_gt.or op_gt_str) fun x y H Q ⟨N, da, db, d, dom, cx, cy, e, q⟩ => by
  cases da <;> cases db <;> first | (exact nomatch (show none = some d from e)) | skip
  · cases e
    exact .inl ⟨_, _, cx.int, cy.int, q _ H (Same.refl H) (.bl _)⟩
  · cases e
    exact .inr ⟨_, _, cx.str, cy.str, q _ H (Same.refl H) (.bl _)⟩
theorem oo_ge : OpR X (compareOp .GtE) (r2 X.K .fre geD) := opr_mono (op_ge.or op_ge_str) fun x y H Q ⟨N, da, db, d, dom, cx, cy, e, q⟩ => by
  cases da <;> cases db <;> first | (exact nomatch (show none = some d from e)) | skip
  · cases e
    exact .inl ⟨_, _, cx.int, cy.int, q _ H (Same.refl H) (.bl _)⟩
  · cases e
    exact .inr ⟨_, _, cx.str, cy.str, q _ H (Same.refl H) (.bl _)⟩
end
end PV
namespace PV
open PySem PySem.Spec PyProof.Rows L2

/-! subscripts -/
def sgn (c : Nat) : Str := ⟨#[c]⟩
def ixD (d i : D) : Option D := match d with
  | .list ds => match i with
    | .int k => atI ds k
    | _ => none
  | .tuple ds => match i with
    | .int k => atI ds k
    | _ => none
  | .str z => match i with
    | .int k => if z.length ≤ sizeLine then (atI z.cps.toList k).map fun c => .str (sgn c) else none
    | _ => none
  | .dict es => if isKey i = true then lookD es i else none
  | _ => none
theorem ixN_lt {n : Nat} {i : Int} {j : Nat} (h : ixN n i = some j) : j < n := (ixN_seq h).2.1
theorem atI_rp {K : PySem.W.Frag} {H : Hp} {N : Addr → Prop} {xs : List V} {ds : List D} {i : Int} {d : D} (r : RpAll K H N xs ds) (h : atI ds i = some d) : ∃ v, atI xs i = some v ∧ Rp K H N v d := by
  unfold atI at h ⊢
  rw [r.length]
  cases e : ixN ds.length i with
  | none => rw [e] at h; cases h
  | some j =>
    rw [e] at h
    exact r.get h
section
variable {X : Cx}
theorem ix_dict (hu : X.A.units + 1 < cLine) : IxR X (fun x y H Q => ∃ a v, x = .ref a ∧ DGet H a y (some v) ∧ Q v H) := by
  intro value slice pn s σ H x y v u Q I rx ry ⟨a, r, e, g, q⟩ hs
  subst e
  obtain rfl : v = Value.ref a := rx
  exact tail_any (dict_typeIs I g) PySem.F.slot_dict_getitem.lookup (d_getItem hu I g ry fun w' s3 I3 rw' => ⟨r, H, I3, rw', q⟩) hs
theorem oi_ix (hu : X.A.units + 1 < cLine) : IxR X (r2 X.K .saf ixD) := ixr_mono (ix_list.or (ix_tup.or (ix_str.or (ix_dict hu)))) fun x y H Q ⟨N, da, db, d, dom, cx, cy, e, q⟩ => by
  cases da with
  | list ds =>
    cases db with
    | int i =>
      obtain ⟨a, xs, rfl, h1, h2⟩ := cx.list
      obtain ⟨v, e1, e2⟩ := atI_rp h2 (show atI ds i = some d from e)
      exact .inl ⟨a, xs, i, v, rfl, cy.int, .inl h1, e1, q v H (Same.refl H) e2⟩
    | _ => exact nomatch (show none = some d from e)
  | tuple ds =>
    cases db with
    | int i =>
      obtain ⟨a, xs, rfl, h1, h2⟩ := cx.tuple
      obtain ⟨v, e1, e2⟩ := atI_rp h2 (show atI ds i = some d from e)
      exact .inr (.inl ⟨a, xs, i, v, rfl, cy.int, h1, e1, q v H (Same.refl H) e2⟩)
    | _ => exact nomatch (show none = some d from e)
  | str z =>
    cases db with
    | int i =>
      have e' : (if z.length ≤ sizeLine then (atI z.cps.toList i).map fun c => PyData.str (sgn c) else none) = some d := e
      by_cases hz : z.length ≤ sizeLine
      · rw [if_pos hz] at e'
        cases ec : atI z.cps.toList i with
        | none => rw [ec] at e'; cases e'
        | some c =>
          rw [ec] at e'
          cases e'
          have hc : PyData.strOk (sgn c) = true := by
            rw [strOk_iff]
            intro c' hm
            have e1 : c' = c := by simpa [sgn] using hm
            subst e1
            obtain ⟨j, _, h2, _⟩ := atI_get ec
            exact strOk_iff.mp cx.strOk c' (List.mem_of_getElem? h2)
          exact .inr (.inr (.inl ⟨z, i, c, cx.str, cy.int, hz, ec, q _ H (Same.refl H) (.str _ hc)⟩))
      · rw [if_neg hz] at e'; cases e'
    | _ => exact nomatch (show none = some d from e)
  | dict es =>
    have e' : (if isKey db = true then lookD es db else none) = some d := e
    by_cases hk : isKey db = true
    · rw [if_pos hk] at e'
      obtain ⟨k, rfl, rfl⟩ := key_of_D cy hk
      obtain ⟨a, kvs, rfl, h1, h2⟩ := cx.dict
      rcases look_rel k h2 with ⟨_, g2⟩ | ⟨v, d', g1, g2, g3⟩
      · rw [g2] at e'; cases e'
      · rw [g2] at e'
        cases e'
        exact .inr (.inr (.inr ⟨a, v, rfl, by rw [← g1]; exact .inl ⟨_, _, h1, rfl, rfl⟩, q v H (Same.refl H) g3⟩))
    · rw [if_neg hk] at e'; cases e'
  | _ => exact nomatch (show none = some d from e)

/-! slices -/
def cutD (ds : List D) (lo hi : Option Int) : List D := (ds.drop (HT.sIx ds.length 0 lo)).take (HT.sIx ds.length ds.length hi - HT.sIx ds.length 0 lo)
def slD : D → Option Int → Option Int → Option D
  | .list ds, lo, hi => some (.list (cutD ds lo hi))
  | .tuple ds, lo, hi => some (.tuple (cutD ds lo hi))
  | .str z, lo, hi => if z.length ≤ sizeLine then some (.str (cutS z lo hi)) else none
  | _, _, _ => none
theorem cut_rp {K : PySem.W.Frag} {H : Hp} {N : Addr → Prop} {xs : List V} {ds : List D} {lo hi : Option Int} (r : RpAll K H N xs ds) : RpAll K H N (cutV xs lo hi) (cutD ds lo hi) := by
  unfold cutV cutD
  rw [r.length]
  exact (r.drop _).take _
theorem cutS_mem {z : Str} {lo hi : Option Int} {c : Nat} (h : c ∈ (cutS z lo hi).cps.toList) : c ∈ z.cps.toList := by
  unfold cutS at h
  have h' : c ∈ (z.cps.toList.drop (HT.sIx z.length 0 lo)).take (HT.sIx z.length z.length hi - HT.sIx z.length 0 lo) := by simpa using h
  exact List.mem_of_mem_drop (List.mem_of_mem_take h')
theorem os_sl : SlR X (rSl3 X.K .fre slD) := slr_mono (sl_list.or (sl_tupA.or sl_str)) fun x lo hi H Q ⟨N, da, d, dom, cx, e, q⟩ => by
  cases da with
  | list ds =>
    obtain ⟨a, xs, rfl, h1, h2⟩ := cx.list
    cases e
    exact .inl ⟨a, xs, rfl, .inl h1, fun p hn => q _ _ (same_new hn) ⟨p, _, rfl, hn, upd_same, (cut_rp h2).new hn⟩⟩
  | tuple ds =>
    obtain ⟨a, xs, rfl, h1, h2⟩ := cx.tuple
    cases e
    refine .inr (.inl ⟨a, xs, rfl, h1, fun hw => q _ _ (Same.refl H) ?_, fun _ p hn => q _ _ (same_new hn) (.tup (SqT.of upd_same) ((cut_rp h2).fwd (.of_same (same_new hn))))⟩)
    have ec : cutD ds lo hi = ds := by
      unfold cutD
      rw [← h2.length, hw.1, hw.2]
      simp [h2.length]
    rw [ec]
    exact .tup h1 h2
  | str z =>
    obtain ⟨c, rfl⟩ := if_some (show (if _ then some _ else none) = some d from e)
    exact .inr (.inr ⟨z, cx.str, c, q _ H (Same.refl H) (.str _ (strOk_iff.mpr fun c hc => strOk_iff.mp cx.strOk c (cutS_mem hc)))⟩)
  | _ => exact nomatch (show none = some d from e)
end
end PV
namespace PV
open PySem PySem.Spec PyProof.Rows L2

section
variable {K : PySem.W.Frag} {G : Amb} {σ : L2.St} {H : Hp} {env : EnvD}
/-- a thing of one's own is changed in place -/
theorem StR.mut (S : StR K G σ H env) {k : Nat} {a : Addr} {d d' : D} {o o' : HO} (hk : env[k]? = some (PV.Cell.own d)) (hs : σ[k]? = some (some (V.ref a))) (ho : H a = some o) (mo : Mu o) (mo' : Mu o')
    (r : Root K (upd H a o') (G.R σ env) a d') : Stp K G σ H env σ (upd H a o') (env.set k (.own d')) := by
  have hl := lt_of_some hk
  have ra : rts σ env a := ⟨k, d, hk, hs⟩
  have own_ : ∀ {j : Nat} {c : D}, (env.set k (.own d'))[j]? = some (PV.Cell.own c) → ∃ c', env[j]? = some (PV.Cell.own c') := fun {j c} h => by
    by_cases hj : k = j
    · subst hj; exact ⟨d, hk⟩
    · rw [List.getElem?_set_ne hj] at h; exact ⟨c, h⟩
  have rr : ∀ b, rts σ (env.set k (.own d')) b ↔ rts σ env b := fun b => by
    constructor
    · rintro ⟨j, c, h1, h2⟩
      obtain ⟨c', h3⟩ := own_ h1
      exact ⟨j, c', h3, h2⟩
    · rintro ⟨j, c, h1, h2⟩
      by_cases hj : k = j
      · subst hj
        exact ⟨k, d', List.getElem?_set_self hl, h2⟩
      · exact ⟨j, c, by rw [List.getElem?_set_ne hj]; exact h1, h2⟩
  have keep : Keep (rts σ env) H (upd H a o') := fun b u e => by
    by_cases hb : b = a
    · subst hb
      rw [ho] at e
      cases e
      exact .inr ⟨ra, mo, o', upd_same, mo'⟩
    · exact .inl (by rw [upd_ne hb]; exact e)
  have fw : Fwd K (G.R σ env) (G.R σ (env.set k (.own d'))) H (upd H a o') := .of_keep (keep.mono fun _ z => .inr z) fun b z => z.imp id (rr b).mp
  obtain ⟨a0, e0, _, oo, nz⟩ := S.own k d hk
  rw [hs] at e0
  cases e0
  refine ⟨⟨by rw [List.length_set]; exact S.len, ?_, fun j c h => ?_, fun j c h => ?_, fun i j c c2 b h1 h2 h3 h4 => ?_, fun b z => ⟨keep.there (S.zd b z).1, (S.zd b z).2⟩, fun j hj => ?_⟩, keep, fun b z => .inl ((rr b).mp z)⟩
  · refine S.keep.trans (N' := fun b => b = a) (fun b u e => ?_) fun b hx hb => ?_
    · by_cases hb : b = a
      · subst hb
        rw [ho] at e
        cases e
        exact .inr ⟨rfl, mo, o', upd_same, mo'⟩
      · exact .inl (by rw [upd_ne hb]; exact e)
    · subst hb
      rcases oo with z | z
      · obtain ⟨u, w⟩ := hx
        rw [z] at w; cases w
      · exact z
  · have hj : k ≠ j := fun z => by
      subst z
      rw [List.getElem?_set_self hl] at h; cases h
    rw [List.getElem?_set_ne hj] at h
    obtain ⟨v, e1, e2⟩ := S.shr j c h
    exact ⟨v, e1, e2.fwd fw⟩
  · by_cases hj : k = j
    · subst hj
      rw [List.getElem?_set_self hl] at h
      cases h
      exact ⟨a, hs, r.same (Same.refl _) fun b z => z.imp id (rr b).mp, oo, nz⟩
    · rw [List.getElem?_set_ne hj] at h
      obtain ⟨b, e1, e2, e3⟩ := S.own j c h
      refine ⟨b, e1, e2.at fw (upd_ne fun z => ?_), e3⟩
      subst z
      exact hj (S.dis k j d c b hk h hs e1)
  · obtain ⟨c', g1⟩ := own_ h1
    obtain ⟨c'', g2⟩ := own_ h2
    exact S.dis i j c' c'' b g1 g2 h3 h4
  · obtain ⟨h1, c, h2⟩ := S.fix j hj
    refine ⟨h1, ?_⟩
    by_cases hjk : k = j
    · subst hjk
      exact ⟨d', List.getElem?_set_self hl⟩
    · exact ⟨c, by rw [List.getElem?_set_ne hjk]; exact h2⟩
theorem fwdM {a : Addr} {o o' : HO} {N : Addr → Prop} (hN : N a) (h : H a = some o) (m : Mu o) : Fwd K N N H (upd H a o') := by
  refine ⟨fun b u e n => ?_, fun b u e n => ?_, fun b z n => absurd z n⟩
  · rw [upd_ne fun z => n (by rw [z]; exact hN)]; exact e
  · rw [upd_ne fun z => ?_]; exact e
    subst z
    rw [h] at e
    cases e
    exact n m
end

/-! entries stored -/
def putE (es : List (D × D)) (k v : D) : List (D × D) := if (es.any fun e => PyData.eqv e.1 k) = true then es.map (fun e => if PyData.eqv e.1 k = true then (e.1, v) else e) else es ++ [(k, v)]
theorem RpKV.length {K : PySem.W.Frag} {H : Hp} {N : Addr → Prop} : ∀ {kvs : List (Key × V)} {es : List (D × D)}, RpKV K H N kvs es → kvs.length = es.length
  | _, _, .nil => rfl
  | _, _, .cons _ r => congrArg (· + 1) (RpKV.length r)
theorem RpKV.any {K : PySem.W.Frag} {H : Hp} {N : Addr → Prop} (k : Key) : ∀ {kvs : List (Key × V)} {es : List (D × D)}, RpKV K H N kvs es → (kvs.any fun kv => decide (kv.1 = k)) = es.any fun e => PyData.eqv e.1 (keyD k)
  | _, _, .nil => rfl
  | _, _, .cons _ r => by
    rw [List.any_cons, List.any_cons, RpKV.any k r, eqv_key]
theorem RpKV.snoc {K : PySem.W.Frag} {H : Hp} {N : Addr → Prop} {k : Key} {v : V} {d : D} (h : Rp K H N v d) : ∀ {kvs : List (Key × V)} {es : List (D × D)}, RpKV K H N kvs es → RpKV K H N (kvs ++ [(k, v)]) (es ++ [(keyD k, d)])
  | _, _, .nil => .cons h .nil
  | _, _, .cons q r => .cons q (RpKV.snoc h r)
theorem RpKV.repl {K : PySem.W.Frag} {H : Hp} {N : Addr → Prop} {k : Key} {v : V} {d : D} (h : Rp K H N v d) : ∀ {kvs : List (Key × V)} {es : List (D × D)}, RpKV K H N kvs es →
    RpKV K H N (kvs.map fun kv => if kv.1 = k then (kv.1, v) else kv) (es.map fun e => if PyData.eqv e.1 (keyD k) = true then (e.1, d) else e)
  | _, _, .nil => .nil
  | _, _, .cons (k := k1) (v := v1) (d := d1) q r => by
    rw [List.map_cons, List.map_cons]
    simp only [eqv_key, decide_eq_true_eq]
    by_cases e : k1 = k
    · rw [if_pos e, if_pos e]
      exact .cons h (RpKV.repl (k := k) h r)
    · rw [if_neg e, if_neg e]
      exact .cons q (RpKV.repl (k := k) h r)
theorem RpKV.put {K : PySem.W.Frag} {H : Hp} {N : Addr → Prop} {k : Key} {v : V} {d : D} {kvs : List (Key × V)} {es : List (D × D)} (r : RpKV K H N kvs es) (h : Rp K H N v d) : RpKV K H N (putK kvs k v) (putE es (keyD k) d) := by
  unfold putK putE
  rw [r.any k]
  by_cases c : (es.any fun e => PyData.eqv e.1 (keyD k)) = true
  · rw [if_pos c, if_pos c]
    exact r.repl h
  · rw [if_neg c, if_neg c]
    exact r.snoc h

/-- o[i] = v -/
def putD (o i v : D) : Option D := match o with
  | .list ds => match i with
    | .int k => (ixN ds.length k).map fun j => .list (ds.set j v)
    | _ => none
  | .dict es => if (isKey i && decide (es.length < sizeLine)) = true then some (.dict (putE es i v)) else none
  | _ => none
theorem PSet_or {X : Cx} {t t' : TSet} (h : PSet X t) (h' : PSet X t') : PSet X (fun o i v H Q => t o i v H Q ∨ t' o i v H Q) := fun pn s σ H o i v ov iv u Q I r1 r2 r3 q => by
  rcases q with q | q
  · exact h pn s σ H o i v ov iv u Q I r1 r2 r3 q
  · exact h' pn s σ H o i v ov iv u Q I r1 r2 r3 q
/-- the store, by data: the root a -/
theorem put_at {K : PySem.W.Frag} {H : Hp} {N : Addr → Prop} {a : Addr} {o i v d' : D} {iv vv : V} (hN : N a) (r : Root K H N a o) (hi : RpC K H N iv i) (hv : Rp K H N vv v) (e : putD o i v = some d') :
    ∃ ob ob', H a = some ob ∧ Mu ob ∧ Mu ob' ∧ Root K (upd H a ob') N a d' ∧ ∀ Q : Hp → Prop, Q (upd H a ob') → (rSetL (.ref a) iv vv H Q ∨ rSetD (.ref a) iv vv H Q) := by
  cases r with
  | lst h1 h2 =>
    rename_i xs ds
    cases i with
    | int k =>
      have e' : ((ixN ds.length k).map fun j => PyData.list (ds.set j v)) = some d' := e
      cases ej : ixN ds.length k with
      | none => rw [ej] at e'; cases e'
      | some j =>
        rw [ej] at e'
        cases e'
        refine ⟨.lst xs, .lst (xs.set j vv), h1, trivial, trivial, .lst upd_same ((RpAll.set hv j h2).fwd (fwdM hN h1 trivial)), fun Q q => .inl ⟨a, xs, k, j, rfl, hi.int, h1, by rw [h2.length]; exact ej, q⟩⟩
    | _ => exact nomatch (show none = some d' from e)
  | dct h1 h2 =>
    rename_i kvs es
    obtain ⟨c, rfl⟩ := if_some (show (if _ then some _ else none) = some d' from e)
    simp only [Bool.and_eq_true, decide_eq_true_eq] at c
    obtain ⟨k, rfl, rfl⟩ := key_of_D hi c.1
    exact ⟨.dK kvs, .dK (putK kvs k vv), h1, trivial, trivial, .dct upd_same ((h2.put hv).fwd (fwdM hN h1 trivial)), fun Q q => .inr ⟨a, _, rfl, DPut.k (k := k) h1 (by rw [h2.length]; exact c.2), q⟩⟩
def putS (k : Nat) (mi mv : M D) : Sm := thenS mv fun v => fun e0 => match e0[k]? with
  | some (.own _) => thenS mi (fun i => fun e => match e[k]? with
    | some (.own o) => match putD o i v with
      | some o' => .nx (e.set k (.own o'))
      | none => .no
    | _ => .no) e0
  | _ => .no
/-- o[i] op= v -/
def augS (g : D → D → Option D) (k : Nat) (mi mv : M D) : Sm := fun e0 => match e0[k]? with
  | some (.own _) => thenS mi (fun i => fun e => match e[k]? with
    | some (.own o) => match ixD o i with
      | some x => thenS mv (fun y => fun e2 => match e2[k]? with
        | some (.own o2) => match g x y with
          | some z => match putD o2 i z with
            | some o3 => .nx (e2.set k (.own o3))
            | none => .no
          | none => .no
        | _ => .no) e
      | none => .no
    | _ => .no) e0
  | _ => .no
/-- x.append(v) -/
def appS (k : Nat) (mv : M D) : Sm := fun e0 => match e0[k]? with
  | some (.own (.list _)) => thenS mv (fun v => fun e => match e[k]? with
    | some (.own (.list ds)) => if ds.length < sizeLine then .nx (e.set k (.own (.list (ds ++ [v])))) else .no
    | _ => .no) e0
  | _ => .no
/-- x.extend(v), v a list -/
def extS (k : Nat) (mv : M D) : Sm := fun e0 => match e0[k]? with
  | some (.own (.list _)) => thenS mv (fun v => fun e => match e[k]? with
    | some (.own (.list ds)) => match v with
      | .list zs => if ds.length + zs.length ≤ sizeLine then .nx (e.set k (.own (.list (ds ++ zs)))) else .no
      | _ => .no
    | _ => .no) e0
  | _ => .no

section
variable {X : Cx} {G : Amb} {p pa pb pc : Bool} {l la lb fl : Lvl} {e a b c : Expr} {es : List Expr} {f fa fb fc : M D} {pos apos p' p2 : Pos} {x : Str}
theorem own_case {α : Type} {o : Option PV.Cell} {f : D → Out} {K : PySem.W.Frag} {σ : L2.St} {H : Hp} {env : EnvD} {Dn : Ends} (h : OkS K G fl σ H env (match o with | some (.own d) => f d | _ => .no) Dn) : ∃ d, o = some (.own d) ∧ OkS K G fl σ H env (f d) Dn := by
  cases o with
  | none => exact h.elim
  | some c =>
    cases c with
    | emp => exact h.elim
    | shr d => exact h.elim
    | own d => exact ⟨d, rfl, h⟩
theorem js_put (k : Nat) (hu : X.A.units + 1 < cLine) (ho : PE X (.Name x p') (tVar k)) (hi : J X G pa la a fa) (hv : J X G pb lb b fb) (hl : lb.safe = true := by rfl) (hs : swapsWithSole [.Subscript (.Name x p') a p2] b pos.line X.env = pure false := by rfl)
    (hw : swappedStores [.Subscript (.Name x p') a p2] b X.env = pure none := by rfl) (h1 : (assignEach [.Subscript (.Name x p') a p2] X.env).map (·.2) = [assign (.Subscript (.Name x p') a p2) X.env] := by rfl)
    (hg : PG X (.Subscript (.Name x p') a p2) (gSub (tVar k) (tM X.K G pa la fa) fun o i v H Q => rSetL o i v H Q ∨ rSetD o i v H Q)) : JS X G fl (.Assign [.Subscript (.Name x p') a p2] b pos) (putS k fa fb) :=
    ps_mono (ps_asg hv hg hs hw h1) fun Dn σ H ⟨env, S, q⟩ => by
  refine ⟨env, S, (OkS.thenS pb q).mono fun v env1 H1 ⟨f1, q1⟩ vv rv => ?_⟩
  have rv1 : Rp X.K H1 (G.R σ env1) vv v := RpX.rp (fun a z => S.dom a (f1.sub a z)) hl rv
  obtain ⟨d0, e0, q2⟩ := own_case (α := D) q1
  obtain ⟨a0, s0, _⟩ := f1.st.own k d0 e0
  refine ⟨.ref a0, s0, env1, f1.st, (OkS.thenS pa q2).mono fun i env2 H2 ⟨f2, q3⟩ iv ri => ?_⟩
  obtain ⟨d1, e1, q4⟩ := own_case (α := D) q3
  cases e2 : putD d1 i v with
  | none => rw [e2] at q4; exact q4.elim
  | some d2 =>
  rw [e2] at q4
  obtain ⟨a1, s1, r1, _⟩ := f2.st.own k d1 e1
  rw [s0] at s1
  cases s1
  have ra : G.R σ env2 a0 := .inr ⟨k, d1, e1, s0⟩
  obtain ⟨ob, ob', g1, g2, g3, g4, g5⟩ := put_at ra r1 (RpX.rpC (fun a z => f1.st.dom a (f2.sub a z)) ri) (rv1.fwd (.of_keep f2.keep f2.sub)) e2
  exact g5 _ (q4 σ _ (f2.st.mut e1 s0 g1 g2 g3 g4))
theorem j_app (k : Nat) (ho : PE X (.Name x p') (tVar k)) (hv : J X G pa la a fa) (hl : la.safe = true := by rfl) (hbase : attributeBase (.Name x p') "append" X.env (eval (.Name x p') X.env) = eval (.Name x p') X.env := by rfl)
    (hfew : ((backTo p2 (starEach [a] X.env)).all (fun x => !x.1) && (backToKw p2 (keywordEach [] X.env)).all (fun x => x.1.isSome)
      && decide (([a] : List Expr).length + ([] : List Keyword).length + (if ([] : List Keyword).isEmpty then 0 else 1) < 30)) = true := by rfl)
    (hline : (apos.endLine == p2.line) = true := by rfl) (hst : starEach [a] X.env = (false, eval a X.env) :: starEach [] X.env := by rfl) (hplain : (backTo p2 (starEach [] X.env)).any (·.1) = false := by rfl)
    (hs : swapsWith (.Call (.Attribute (.Name x p') "append" apos) [a] [] p2) none pos.line X.env = pure false := by rfl) :
    JS X G fl (.Expr (.Call (.Attribute (.Name x p') "append" apos) [a] [] p2) pos) (appS k fa) :=
    ps_mono (ps_expr (pe_bm PySem.F.plainAttrs_list PySem.F.slot_list_append PySem.F.type_list_append mt_append ho (pa_cons hv pa_nil hst) hbase hfew hline hst hplain) hs) fun Dn σ H ⟨env, S, q⟩ => by
  unfold appS at q
  cases ec : env[k]? with
  | none => rw [ec] at q; exact q.elim
  | some cc =>
    rw [ec] at q
    cases cc with
    | emp => exact q.elim
    | shr d => exact q.elim
    | own d =>
      cases d with
      | list ds0 =>
        simp only at q
        obtain ⟨a0, s0, r0, _⟩ := S.own k _ ec
        have hty : tyV X.K "list" (.ref a0) H := by
          cases r0 with
          | lst h _ => exact .inl ⟨rfl, _, .inl (.inl h)⟩
        refine ⟨.ref a0, s0, hty, env, S, (OkS.thenS pa q).mono fun v env1 H1 ⟨f1, q1⟩ vv rv => ?_⟩
        have rv1 : Rp X.K H1 (G.R σ env1) vv v := RpX.rp (fun a z => S.dom a (f1.sub a z)) hl rv
        cases e1 : env1[k]? with
        | none => rw [e1] at q1; exact q1.elim
        | some c1 =>
          rw [e1] at q1
          cases c1 with
          | emp => exact q1.elim
          | shr d => exact q1.elim
          | own d1 =>
            cases d1 with
            | list ds =>
              simp only at q1
              by_cases hlen : ds.length < sizeLine
              · rw [if_pos hlen] at q1
                obtain ⟨a1, s1, r1, _⟩ := f1.st.own k _ e1
                rw [s0] at s1
                cases s1
                cases r1 with
                | lst h1 h2 =>
                  have ra : G.R σ env1 a0 := .inr ⟨k, _, e1, s0⟩
                  refine ⟨a0, _, vv, rfl, rfl, h1, by rw [h2.length]; exact hlen, q1 σ _ (f1.st.mut e1 s0 h1 trivial trivial (.lst upd_same ?_))⟩
                  exact (h2.append (.cons rv1 .nil)).fwd (fwdM ra h1 trivial)
              · rw [if_neg hlen] at q1; exact q1.elim
            | _ => exact q1.elim
      | _ => exact q.elim
def rExtR : V → List V → Hp → VK → Prop := fun x vs H Q => ∃ l b xs zs, x = .ref l ∧ vs = [.ref b] ∧ H l = some (.lst xs) ∧ Rd H b (.lst zs) ∧ xs.length + zs.length ≤ sizeLine ∧ Q .non (upd H l (.lst (xs ++ zs)))
theorem mt_extR : MtM X "list.extend" rExtR := by
  intro pn s σ H x vs v us Q I rx rv h
  obtain ⟨l, b, xs, zs, rfl, rfl, hH, hB, hz, q⟩ := h
  cases rx
  obtain ⟨u, rfl, ru⟩ := rv.one
  cases ru
  obtain ⟨_, i1, n1, r1, l1, e1⟩ := lst_at I (.inl hH)
  obtain ⟨_, i2, n2, r2, l2, e2⟩ := lst_at I hB
  have hz2 : i1.toArray.size + i2.toArray.size ≤ sizeLine := by simp only [List.size_toArray]; omega
  have hno : ¬ (!i1.toArray.isEmpty && Builtin.List.listTooLong (i1.toArray.size + i2.toArray.size)) = true := by
    rw [notLongL hz2, Bool.and_false]
    simp
  refine call_meets PySem.F.slot_list_extend ⟨_, e1, rfl⟩ PySem.F.entry_list_extend (PySem.F.args_list_extend_2 _ _)
    (PySem.AutoSeq1.list_extend_list_list_0 l i1.toArray n1 b i2.toArray n2 hno (by simp only [List.size_toArray] at *; omega) (by omega)) ⟨e1, e2, .non, _, ?_, rfl, q⟩
  exact I.lset (its' := i1 ++ i2) hH e1 (by simp) (r1.append r2) (by rw [List.length_append]; omega)
theorem j_ext (k : Nat) (ho : PE X (.Name x p') (tVar k)) (hv : J X G pa la a fa) (hl : la.safe = true := by rfl) (hbase : attributeBase (.Name x p') "extend" X.env (eval (.Name x p') X.env) = eval (.Name x p') X.env := by rfl)
    (hfew : ((backTo p2 (starEach [a] X.env)).all (fun x => !x.1) && (backToKw p2 (keywordEach [] X.env)).all (fun x => x.1.isSome)
      && decide (([a] : List Expr).length + ([] : List Keyword).length + (if ([] : List Keyword).isEmpty then 0 else 1) < 30)) = true := by rfl)
    (hline : (apos.endLine == p2.line) = true := by rfl) (hst : starEach [a] X.env = (false, eval a X.env) :: starEach [] X.env := by rfl) (hplain : (backTo p2 (starEach [] X.env)).any (·.1) = false := by rfl)
    (hs : swapsWith (.Call (.Attribute (.Name x p') "extend" apos) [a] [] p2) none pos.line X.env = pure false := by rfl) :
    JS X G fl (.Expr (.Call (.Attribute (.Name x p') "extend" apos) [a] [] p2) pos) (extS k fa) :=
    ps_mono (ps_expr (pe_bm PySem.F.plainAttrs_list PySem.F.slot_list_extend PySem.F.type_list_extend mt_extR ho (pa_cons hv pa_nil hst) hbase hfew hline hst hplain) hs) fun Dn σ H ⟨env, S, q⟩ => by
  unfold extS at q
  cases ec : env[k]? with
  | none => rw [ec] at q; exact q.elim
  | some cc =>
    rw [ec] at q
    cases cc with
    | emp => exact q.elim
    | shr d => exact q.elim
    | own d =>
      cases d with
      | list ds0 =>
        simp only at q
        obtain ⟨a0, s0, r0, _⟩ := S.own k _ ec
        have hty : tyV X.K "list" (.ref a0) H := by
          cases r0 with
          | lst h _ => exact .inl ⟨rfl, _, .inl (.inl h)⟩
        refine ⟨.ref a0, s0, hty, env, S, (OkS.thenS pa q).mono fun v env1 H1 ⟨f1, q1⟩ vv rv => ?_⟩
        have rv1 : Rp X.K H1 (G.R σ env1) vv v := RpX.rp (fun a z => S.dom a (f1.sub a z)) hl rv
        cases e1 : env1[k]? with
        | none => rw [e1] at q1; exact q1.elim
        | some c1 =>
          rw [e1] at q1
          cases c1 with
          | emp => exact q1.elim
          | shr d => exact q1.elim
          | own d1 =>
            cases d1 with
            | list ds =>
              cases v with
              | list zs =>
                simp only at q1
                by_cases hlen : ds.length + zs.length ≤ sizeLine
                · rw [if_pos hlen] at q1
                  obtain ⟨a1, s1, r1, _⟩ := f1.st.own k _ e1
                  rw [s0] at s1
                  cases s1
                  obtain ⟨b, ys, rfl, h3, h4⟩ := (RpC.of rv1).list
                  cases r1 with
                  | lst h1 h2 =>
                    have ra : G.R σ env1 a0 := .inr ⟨k, _, e1, s0⟩
                    refine ⟨a0, b, _, ys, rfl, rfl, h1, h3, by rw [h2.length, h4.length]; exact hlen, q1 σ _ (f1.st.mut e1 s0 h1 trivial trivial (.lst upd_same ?_))⟩
                    exact (h2.append h4).fwd (fwdM ra h1 trivial)
                · rw [if_neg hlen] at q1; exact q1.elim
              | _ => exact q1.elim
            | _ => exact q1.elim
      | _ => exact q.elim
end
end PV
namespace PV
open PySem PySem.Spec PyProof.Rows L2

/-! op= -/
def iaddD : D → D → Option D
  | .int i, .int j => some (.int (i + j))
  | .str a, .str b => if a.length + b.length ≤ sizeLine then some (.str (a ++ b)) else none
  | _, _ => none
def augN (g : D → D → Option D) (i : Nat) (m : M D) : Sm := fun e0 => match e0[i]? with
  | some (.shr a) => thenS m (fun b => fun e => match g a b with
    | some d => .nx (e.set i (.shr d))
    | none => .no) e0
  | _ => .no
section
variable {X : Cx} {G : Amb} {p pa pb pc : Bool} {l la lb fl : Lvl} {e a b c : Expr} {es : List Expr} {f fa fb fc : M D} {pos apos p' p2 : Pos} {x : Str}
theorem oa_add : OpR X (inplaceOp .Add) (r2 X.K .fre iaddD) := opr_mono (iop_add.or iop_add_str) fun x y H Q ⟨N, da, db, d, dom, cx, cy, e, q⟩ => by
  cases da <;> cases db <;> first | (exact nomatch (show none = some d from e)) | skip
  · cases e
    exact .inl ⟨_, _, cx.int, cy.int, q _ H (Same.refl H) (.int _)⟩
  · obtain ⟨c, rfl⟩ := if_some (show (if _ then some _ else none) = some d from e)
    exact .inr ⟨_, _, cx.str, cy.str, c, q _ H (Same.refl H) (.str _ (strOk_append cx.strOk cy.strOk))⟩
theorem oa_sub : OpR X (inplaceOp .Sub) (r2 X.K .fre subD) := o_int0 iop_sub fun a b d e => by
  cases a <;> cases b <;> first | (cases e; exact ⟨_, _, rfl, rfl, .inl ⟨_, rfl, rfl⟩⟩) | cases e
theorem oa_and : OpR X (inplaceOp .BitAnd) (r2 X.K .fre andD) := o_int0 iop_and fun a b d e => by
  cases a <;> cases b <;> first | (cases e; exact ⟨_, _, rfl, rfl, .inl ⟨_, rfl, rfl⟩⟩) | cases e
theorem oa_or : OpR X (inplaceOp .BitOr) (r2 X.K .fre orD) := o_int0 iop_or fun a b d e => by
  cases a <;> cases b <;> first | (cases e; exact ⟨_, _, rfl, rfl, .inl ⟨_, rfl, rfl⟩⟩) | cases e
theorem oa_xor : OpR X (inplaceOp .BitXor) (r2 X.K .fre xorD) := o_int0 iop_xor fun a b d e => by
  cases a <;> cases b <;> first | (cases e; exact ⟨_, _, rfl, rfl, .inl ⟨_, rfl, rfl⟩⟩) | cases e
theorem oa_fdiv : OpR X (inplaceOp .FloorDiv) (r2 X.K .fre fdivD) := o_int iop_fdiv fun a b d e => by
  cases a <;> cases b <;> first | (obtain ⟨c, rfl⟩ := if_some (show (if _ then some _ else none) = some d from e); simp only [Bool.and_eq_true, decide_eq_true_eq] at c; exact ⟨_, _, rfl, rfl, c, .inl ⟨_, rfl, rfl⟩⟩) | cases e
theorem oa_mod : OpR X (inplaceOp .Mod) (r2 X.K .fre modD) := o_int iop_mod fun a b d e => by
  cases a <;> cases b <;> first | (obtain ⟨c, rfl⟩ := if_some (show (if _ then some _ else none) = some d from e); simp only [Bool.and_eq_true, decide_eq_true_eq] at c; exact ⟨_, _, rfl, rfl, c, .inl ⟨_, rfl, rfl⟩⟩) | cases e
theorem oa_mul : OpR X (inplaceOp .Mult) (r2 X.K .fre mulD) := o_int iop_mul fun a b d e => by
  cases a <;> cases b <;> first | (obtain ⟨c, rfl⟩ := if_some (show (if _ then some _ else none) = some d from e); refine ⟨_, _, rfl, rfl, ?_, .inl ⟨_, rfl, rfl⟩⟩; unfold cMulB at c; simp only [Bool.or_eq_true, Bool.and_eq_true, decide_eq_true_eq] at c; exact c) | cases e
theorem oa_shl : OpR X (inplaceOp .LShift) (r2 X.K .fre shlD) := o_int iop_shl fun a b d e => by
  cases a <;> cases b <;> first | (obtain ⟨c, rfl⟩ := if_some (show (if _ then some _ else none) = some d from e); exact ⟨_, _, rfl, rfl, cPow_of c, .inl ⟨_, rfl, rfl⟩⟩) | cases e
theorem oa_shr : OpR X (inplaceOp .RShift) (r2 X.K .fre shrD) := o_int iop_shr fun a b d e => by
  cases a <;> cases b <;> first | (obtain ⟨c, rfl⟩ := if_some (show (if _ then some _ else none) = some d from e); simp only [Bool.and_eq_true, decide_eq_true_eq] at c; exact ⟨_, _, rfl, rfl, c, .inl ⟨_, rfl, rfl⟩⟩) | cases e
theorem js_augN {op : Operator} {g : D → D → Option D} (i : Nat) (hN : X.N.Nodup) (hi : X.N[i]? = some x) (hx : Loc X.env.scope x) (he : J X G p l e fa) (ho : OpR X (inplaceOp op) (r2 X.K .fre g)) (hf : G.fx.contains i = false := by rfl)
    (hfn : X.fn x = true ∨ X.env.scope.names.lookup x = some .local := by first | exact .inl rfl | exact .inr rfl | assumption) : JS X G fl (.AugAssign (.Name x p') op e pos) (augN g i fa) :=
    ps_mono (ps_aug hN hi hx he ho hfn) fun Dn σ H ⟨env, S, q⟩ => by
  unfold augN at q
  cases ec : env[i]? with
  | none => rw [ec] at q; exact q.elim
  | some cc =>
    rw [ec] at q
    cases cc with
    | emp => exact q.elim
    | own d => exact q.elim
    | shr d0 =>
      simp only at q
      obtain ⟨v, s0, r0⟩ := S.shr i d0 ec
      refine ⟨v, s0, env, S, (OkS.thenS0 p q).mono fun db env1 H1 ⟨f1, q1⟩ w rw' => ?_⟩
      cases eg : g d0 db with
      | none => rw [eg] at q1; exact q1.elim
      | some d =>
        rw [eg] at q1
        have r1' : Rp X.K H1 (G.R σ env1) v d0 := r0.fwd (.of_keep f1.keep f1.sub)
        refine ⟨G.R σ env1, d0, db, d, f1.st.dom, .of r1', RpX.rpC (fun a z => S.dom a (f1.sub a z)) rw', eg, fun u H2 s2 ru => ?_⟩
        have S1 := f1.st.same s2
        obtain ⟨S2, sub⟩ := S1.putS (i := i) (v := u) (d := d) (not_fx hf) (RpX.rp f1.st.dom (l := .fre) rfl ru)
        exact q1 _ H2 (((Stp.eff f1).trans (.of_same f1.st s2)).trans ⟨S2, .refl _ _, fun a z => .inl (sub a z)⟩)
theorem get_any (hu : X.A.units + 1 < cLine) : PGet X (fun x y H Q => ∃ (N : Addr → Prop) (a : Addr) (o i d : D), (∀ a, N a → ∃ u, H a = some u) ∧ x = .ref a ∧ Root X.K H N a o ∧ RpC X.K H N y i ∧ ixD o i = some d ∧ ∀ v, Rp X.K H N v d → Q v H) := by
  intro pn s σ H x y ov iv Q I rx ry ⟨N, a, o, i, d, dom, ex, r, ci, e, q⟩
  subst ex
  obtain rfl : ov = Value.ref a := rx
  cases r with
  | lst h1 h2 =>
    rename_i xs ds
    cases i with
    | int k =>
      obtain ⟨t, rfl⟩ : ∃ t, iv = Value.int k t := by
        have := ci.int
        subst this
        exact ry
      obtain ⟨v, e1, e2⟩ := atI_rp h2 (show atI ds k = some d from e)
      obtain ⟨hz, its, n, rv, hl, eo⟩ := lst_at I (.inl h1)
      obtain ⟨j, g1, g2, g3, g4, g5⟩ := atI_get e1
      obtain ⟨w, ew, rw'⟩ := rv.get g2
      have hn := line63
      have pl : s.heap.IsList a its.toArray := ⟨_, eo, rfl, n, rfl⟩
      by_cases h0 : 0 ≤ k
      · have hj : k.toNat = j := by
          rw [seqIndex_of h0 g5] at g1
          exact Option.some.inj g1
        exact wpAny_getItem_list pl h0 (by omega) (by rw [hj]; simpa using ew) ⟨v, H, I, rw', q v e2⟩
      · have hj : (k + (its.toArray.size : Int)).toNat = j := by
          rw [seqIndex_neg (by omega) g4] at g1
          rw [List.size_toArray, ← hl]
          exact Option.some.inj g1
        exact wpAny_getItem_list_neg pl (by omega) (by rw [List.size_toArray] <;> omega) (by omega) (by rw [hj]; simpa using ew) ⟨v, H, I, rw', q v e2⟩
    | _ => exact nomatch (show none = some d from e)
  | dct h1 h2 =>
    rename_i kvs es
    have e' : (if isKey i = true then lookD es i else none) = some d := e
    by_cases hk : isKey i = true
    · rw [if_pos hk] at e'
      obtain ⟨k, rfl, rfl⟩ := key_of_D ci hk
      rcases look_rel k h2 with ⟨_, g2⟩ | ⟨v, d', g1, g2, g3⟩
      · rw [g2] at e'; cases e'
      · rw [g2] at e'
        cases e'
        exact d_getItem hu I (by rw [← g1]; exact .k h1) ry fun w' s' I' rw' => ⟨v, H, I', rw', q v g3⟩
    · rw [if_neg hk] at e'; cases e'
theorem js_augI {op : Operator} {g : D → D → Option D} (k : Nat) (hu : X.A.units + 1 < cLine) (ho : PE X (.Name x p') (tVar k)) (hi : J X G pa la a fa) (hv : J X G pb lb b fb) (hop : OpR X (inplaceOp op) (r2 X.K .fre g)) (hli : la.safe = true := by rfl)
    (hlb : (la.safe || pb) = true := by rfl) (ha : ∀ ov iv new, augStore a ov iv new = (do holding [new, ov, iv] (setItem ov iv new); release [new, ov, iv] []; pure .next) := by intros; rfl) :
    JS X G fl (.AugAssign (.Subscript (.Name x p') a p2) op b pos) (augS g k fa fb) :=
    ps_mono (ps_augS ho hi (get_any hu) hv hop (PSet_or set_list (set_dict hu)) ha) fun Dn σ H ⟨env, S, q⟩ => by
  unfold augS at q
  obtain ⟨d0, e0, q0⟩ := own_case (α := D) q
  obtain ⟨a0, s0, _⟩ := S.own k d0 e0
  refine ⟨.ref a0, s0, env, S, (OkS.thenS pa q0).mono fun i env1 H1 ⟨f1, q1⟩ iv ri => ?_⟩
  obtain ⟨o1, e1, q2⟩ := own_case (α := D) q1
  obtain ⟨a1, s1, r1, _⟩ := f1.st.own k o1 e1
  rw [s0] at s1
  cases s1
  cases ex : ixD o1 i with
  | none => rw [ex] at q2; exact q2.elim
  | some x1 =>
    rw [ex] at q2
    simp only at q2
    have dom1 : ∀ a, G.R σ env1 a → ∃ o, H a = some o := fun a z => S.dom a (f1.sub a z)
    have ri1 : Rp X.K H1 (G.R σ env1) iv i := RpX.rp dom1 hli ri
    refine ⟨G.R σ env1, a0, o1, i, x1, f1.st.dom, rfl, r1, .of ri1, ex, fun xv rx => ?_⟩
    refine ⟨env1, f1.st, (OkS.thenS pb q2).mono fun y env2 H2 ⟨f2, q3⟩ yv ry => ?_⟩
    obtain ⟨o2, e2, q4⟩ := own_case (α := D) q3
    cases eg : g x1 y with
    | none => rw [eg] at q4; exact q4.elim
    | some z =>
      rw [eg] at q4
      simp only at q4
      cases ep : putD o2 i z with
      | none => rw [ep] at q4; exact q4.elim
      | some o3 =>
        rw [ep] at q4
        simp only at q4
        refine ⟨G.R σ env2, x1, y, z, f2.st.dom, .of (rx.fwd (.of_keep f2.keep f2.sub)), RpX.rpC (fun a z => f1.st.dom a (f2.sub a z)) ry, eg, fun zv H3 s3 rz => ?_⟩
        have S3 := f2.st.same s3
        obtain ⟨a2, s2, r2', _⟩ := S3.own k o2 e2
        rw [s0] at s2
        cases s2
        have ra : G.R σ env2 a0 := .inr ⟨k, o2, e2, s0⟩
        obtain ⟨ob, ob', g1, g2, g3, g4, g5⟩ := put_at ra r2' (.of ((ri1.fwd (.of_keep f2.keep f2.sub)).fwd (.of_same s3))) (RpX.rp f2.st.dom (l := .fre) rfl rz) ep
        exact g5 _ (q4 σ _ ((Stp.of_same f2.st s3).trans (S3.mut e2 s0 g1 g2 g3 g4)))
end
end PV
namespace PV
open PySem PySem.Spec PyProof.Rows L2

/-! builtins -/
def lenD : List D → Option D
  | [.str y] => if y.length ≤ sizeLine then some (.int y.length) else none
  | [.list ds] => some (.int ds.length)
  | [.tuple ds] => some (.int ds.length)
  | [.dict es] => some (.int es.length)
  | _ => none
def absD : List D → Option D
  | [.int i] => some (.int (if i < 0 then -i else i))
  | _ => none
def intD : List D → Option D
  | [.int i] => some (.int i)
  | [.bool k] => some (.int (if k = true then 1 else 0))
  | _ => none
def tupD : List D → Option D
  | [.list ds] => some (.tuple ds)
  | [.tuple ds] => some (.tuple ds)
  | _ => none
def lisD : List D → Option D
  | [.list ds] => some (.list ds)
  | [.tuple ds] => some (.list ds)
  | _ => none
def intsD : List D → Option (List Int)
  | [] => some []
  | .int i :: r => (intsD r).map (i :: ·)
  | _ :: _ => none
def boolsD : List D → Option (List Bool)
  | [] => some []
  | .bool i :: r => (boolsD r).map (i :: ·)
  | _ :: _ => none
def sumD : List D → Option D
  | [.list ds] => (intsD ds).map fun ns => .int ns.sum
  | _ => none
def allD : List D → Option D
  | [.list ds] => (boolsD ds).map fun bs => .bool (bs.all id)
  | _ => none
def anyD : List D → Option D
  | [.list ds] => (boolsD ds).map fun bs => .bool (bs.any id)
  | _ => none
def maxI : Int → List Int → Int
  | a, [] => a
  | a, b :: r => maxI (if b > a then b else a) r
def minI : Int → List Int → Int
  | a, [] => a
  | a, b :: r => minI (if b < a then b else a) r
def maxD : List D → Option D
  | [.int i, .int j] => some (.int (if j > i then j else i))
  | [.list ds] => match intsD ds with
    | some (a :: r) => some (.int (maxI a r))
    | _ => none
  | _ => none
def minD : List D → Option D
  | [.int i, .int j] => some (.int (if j < i then j else i))
  | [.list ds] => match intsD ds with
    | some (a :: r) => some (.int (minI a r))
    | _ => none
  | _ => none
theorem ints_rp {K : PySem.W.Frag} {H : Hp} {N : Addr → Prop} : ∀ {vs : List V} {ds : List D} {ns : List Int}, RpAll K H N vs ds → intsD ds = some ns → vs = ns.map V.int
  | _, _, _, .nil, e => by cases e; rfl
  | _, d :: ds, ns, .cons h r, e => by
    cases d with
    | int i =>
      have e' : (intsD ds).map (i :: ·) = some ns := e
      cases e2 : intsD ds with
      | none => rw [e2] at e'; cases e'
      | some ms =>
        rw [e2] at e'
        cases e'
        rw [ints_rp r e2, (RpC.of h).int]
        rfl
    | _ => exact nomatch (show none = some ns from e)
theorem bools_rp {K : PySem.W.Frag} {H : Hp} {N : Addr → Prop} : ∀ {vs : List V} {ds : List D} {ns : List Bool}, RpAll K H N vs ds → boolsD ds = some ns → vs = ns.map V.bl
  | _, _, _, .nil, e => by cases e; rfl
  | _, d :: ds, ns, .cons h r, e => by
    cases d with
    | bool i =>
      have e' : (boolsD ds).map (i :: ·) = some ns := e
      cases e2 : boolsD ds with
      | none => rw [e2] at e'; cases e'
      | some ms =>
        rw [e2] at e'
        cases e'
        rw [bools_rp r e2, (RpC.of h).bool]
        rfl
    | _ => exact nomatch (show none = some ns from e)
theorem RpCAll.one {K : PySem.W.Frag} {H : Hp} {N : Addr → Prop} {xs : List V} {d : D} (r : RpCAll K H N xs [d]) : ∃ v, xs = [v] ∧ RpC K H N v d := by
  cases r with
  | cons h r => cases r; exact ⟨_, rfl, h⟩
theorem RpCAll.two {K : PySem.W.Frag} {H : Hp} {N : Addr → Prop} {xs : List V} {d e : D} (r : RpCAll K H N xs [d, e]) : ∃ v u, xs = [v, u] ∧ RpC K H N v d ∧ RpC K H N u e := by
  cases r with
  | cons h r =>
    cases r with
    | cons h2 r => cases r; exact ⟨_, _, rfl, h, h2⟩
section
variable {X : Cx}
theorem callr_or {f : Value} {r r' : List V → Hp → VK → Prop} (h : CallR X f r) (h' : CallR X f r') : CallR X f (fun xs H Q => r xs H Q ∨ r' xs H Q) := h.or h'
theorem call_lenDct : CallR X (.builtin "len") (fun xs H Q => ∃ a kvs, xs = [.ref a] ∧ Rd H a (.dK kvs) ∧ Q (.int (kvs.length : Nat)) H) := by
  intro pn s σ H xs us Q I r ⟨a, kvs, e, h, q⟩
  subst e
  obtain ⟨u, rfl, rx⟩ := vals1 r
  cases rx
  exact d_len I h fun t s' I' => ⟨.int (kvs.length : Nat), H, I', ⟨t, rfl⟩, q⟩
theorem oc_len : CallR X (.builtin "len") (rC X.K .fre lenD) := callr_mono (call_len.or call_lenDct) fun xs H Q ⟨N, ds, d, dom, r, e, q⟩ => by
  match ds, e with
  | [.str y], e =>
    obtain ⟨v, rfl, c⟩ := r.one
    obtain ⟨c1, rfl⟩ := if_some (show (if _ then some _ else none) = some d from e)
    refine .inl ⟨v, y.length, rfl, ?_, q _ H (Same.refl H) (.int _)⟩
    rw [c.str]
    exact ⟨c1, rfl⟩
  | [.list ds], e =>
    obtain ⟨v, rfl, c⟩ := r.one
    cases e
    obtain ⟨a, ys, rfl, h1, h2⟩ := c.list
    exact .inl ⟨_, ds.length, rfl, .inl ⟨ys, .inl h1, h2.length.symm⟩, q _ H (Same.refl H) (.int _)⟩
  | [.tuple ds], e =>
    obtain ⟨v, rfl, c⟩ := r.one
    cases e
    obtain ⟨a, ys, rfl, h1, h2⟩ := c.tuple
    exact .inl ⟨_, ds.length, rfl, .inr ⟨ys, h1, h2.length.symm⟩, q _ H (Same.refl H) (.int _)⟩
  | [.dict es], e =>
    obtain ⟨v, rfl, c⟩ := r.one
    cases e
    obtain ⟨a, kvs, rfl, h1, h2⟩ := c.dict
    refine .inr ⟨a, kvs, rfl, h1, ?_⟩
    rw [h2.length]
    exact q _ H (Same.refl H) (.int _)
theorem oc_abs : CallR X (.builtin "abs") (rC X.K .fre absD) := callr_mono call_abs fun xs H Q ⟨N, ds, d, dom, r, e, q⟩ => by
  match ds, e with
  | [.int i], e =>
    obtain ⟨v, rfl, c⟩ := r.one
    cases e
    exact ⟨i, by rw [c.int], q _ H (Same.refl H) (.int _)⟩
theorem oc_int : CallR X (.type "int") (rC X.K .fre intD) := callr_mono call_int1 fun xs H Q ⟨N, ds, d, dom, r, e, q⟩ => by
  match ds, e with
  | [.int i], e =>
    obtain ⟨v, rfl, c⟩ := r.one
    cases e
    exact .inl ⟨i, by rw [c.int], q _ H (Same.refl H) (.int _)⟩
  | [.bool i], e =>
    obtain ⟨v, rfl, c⟩ := r.one
    cases e
    exact .inr ⟨i, by rw [c.bool], q _ H (Same.refl H) (.int _)⟩
theorem oc_tuple : CallR X (.type "tuple") (rC X.K .fre tupD) := callr_mono call_tuple_of fun xs H Q ⟨N, ds, d, dom, r, e, q⟩ => by
  match ds, e with
  | [.list ds], e =>
    obtain ⟨v, rfl, c⟩ := r.one
    cases e
    obtain ⟨a, ys, rfl, h1, h2⟩ := c.list
    exact ⟨a, ys, rfl, .inl ⟨.inl h1, fun p hn => q _ _ (same_new hn) (.tup (SqT.of upd_same) (h2.fwd (.of_same (same_new hn))))⟩⟩
  | [.tuple ds], e =>
    obtain ⟨v, rfl, c⟩ := r.one
    cases e
    obtain ⟨a, ys, rfl, h1, h2⟩ := c.tuple
    exact ⟨a, ys, rfl, .inr ⟨h1, q _ _ (Same.refl H) (.tup h1 h2)⟩⟩
theorem oc_list : CallR X (.type "list") (rC X.K .fre lisD) := callr_mono call_list_of fun xs H Q ⟨N, ds, d, dom, r, e, q⟩ => by
  match ds, e with
  | [.list ds], e =>
    obtain ⟨v, rfl, c⟩ := r.one
    cases e
    obtain ⟨a, ys, rfl, h1, h2⟩ := c.list
    exact ⟨a, ys, rfl, .inl (.inl h1), fun p hn => q _ _ (same_new hn) ⟨p, _, rfl, hn, upd_same, h2.new hn⟩⟩
  | [.tuple ds], e =>
    obtain ⟨v, rfl, c⟩ := r.one
    cases e
    obtain ⟨a, ys, rfl, h1, h2⟩ := c.tuple
    exact ⟨a, ys, rfl, .inr h1, fun p hn => q _ _ (same_new hn) ⟨p, _, rfl, hn, upd_same, h2.new hn⟩⟩
theorem oc_sum (hc : X.calm = true) : CallR X (.builtin "sum") (rC X.K .fre sumD) := callr_mono (cr_sum hc) fun xs H Q ⟨N, ds, d, dom, r, e, q⟩ => by
  match ds, e with
  | [.list ds], e =>
    obtain ⟨v, rfl, c⟩ := r.one
    obtain ⟨a, ys, rfl, h1, h2⟩ := c.list
    have e' : (intsD ds).map (fun ns => PyData.int ns.sum) = some d := e
    cases e2 : intsD ds with
    | none => rw [e2] at e'; cases e'
    | some ns =>
      rw [e2] at e'
      cases e'
      exact ⟨a, ns, rfl, by rw [← ints_rp h2 e2]; exact .inl h1, q _ H (Same.refl H) (.int _)⟩
theorem oc_all (hc : X.calm = true) : CallR X (.builtin "all") (rC X.K .fre allD) := callr_mono (cr_all hc) fun xs H Q ⟨N, ds, d, dom, r, e, q⟩ => by
  match ds, e with
  | [.list ds], e =>
    obtain ⟨v, rfl, c⟩ := r.one
    obtain ⟨a, ys, rfl, h1, h2⟩ := c.list
    have e' : (boolsD ds).map (fun bs => PyData.bool (bs.all id)) = some d := e
    cases e2 : boolsD ds with
    | none => rw [e2] at e'; cases e'
    | some ns =>
      rw [e2] at e'
      cases e'
      exact ⟨a, ns, rfl, by rw [← bools_rp h2 e2]; exact .inl h1, q _ H (Same.refl H) (.bl _)⟩
theorem oc_any (hc : X.calm = true) : CallR X (.builtin "any") (rC X.K .fre anyD) := callr_mono (cr_any hc) fun xs H Q ⟨N, ds, d, dom, r, e, q⟩ => by
  match ds, e with
  | [.list ds], e =>
    obtain ⟨v, rfl, c⟩ := r.one
    obtain ⟨a, ys, rfl, h1, h2⟩ := c.list
    have e' : (boolsD ds).map (fun bs => PyData.bool (bs.any id)) = some d := e
    cases e2 : boolsD ds with
    | none => rw [e2] at e'; cases e'
    | some ns =>
      rw [e2] at e'
      cases e'
      exact ⟨a, ns, rfl, by rw [← bools_rp h2 e2]; exact .inl h1, q _ H (Same.refl H) (.bl _)⟩
theorem maxI_mem : ∀ (a : Int) (r : List Int), maxI a r ∈ a :: r ∧ ∀ y ∈ a :: r, y ≤ maxI a r
  | a, [] => by simp [maxI]
  | a, b :: r => by
    obtain ⟨h1, h2⟩ := maxI_mem (if b > a then b else a) r
    unfold maxI
    constructor
    · rcases List.mem_cons.mp h1 with e | e
      · rw [e]
        by_cases c : b > a
        · rw [if_pos c]; simp
        · rw [if_neg c]; simp
      · simp [e]
    · intro y hy
      have h3 := h2 (if b > a then b else a) List.mem_cons_self
      rcases List.mem_cons.mp hy with e | e
      · subst e
        by_cases c : b > y
        · rw [if_pos c] at h3 ⊢; omega
        · rw [if_neg c] at h3 ⊢; omega
      · rcases List.mem_cons.mp e with e | e
        · subst e
          by_cases c : y > a
          · rw [if_pos c] at h3 ⊢; omega
          · rw [if_neg c] at h3 ⊢; omega
        · exact h2 y (List.mem_cons_of_mem _ e)
theorem minI_mem : ∀ (a : Int) (r : List Int), minI a r ∈ a :: r ∧ ∀ y ∈ a :: r, minI a r ≤ y
  | a, [] => by simp [minI]
  | a, b :: r => by
    obtain ⟨h1, h2⟩ := minI_mem (if b < a then b else a) r
    unfold minI
    constructor
    · rcases List.mem_cons.mp h1 with e | e
      · rw [e]
        by_cases c : b < a
        · rw [if_pos c]; simp
        · rw [if_neg c]; simp
      · simp [e]
    · intro y hy
      have h3 := h2 (if b < a then b else a) List.mem_cons_self
      rcases List.mem_cons.mp hy with e | e
      · subst e
        by_cases c : b < y
        · rw [if_pos c] at h3 ⊢; omega
        · rw [if_neg c] at h3 ⊢; omega
      · rcases List.mem_cons.mp e with e | e
        · subst e
          by_cases c : y < a
          · rw [if_pos c] at h3 ⊢; omega
          · rw [if_neg c] at h3 ⊢; omega
        · exact h2 y (List.mem_cons_of_mem _ e)
theorem oc_max (hc : X.calm = true) : CallR X (.builtin "max") (rC X.K .fre maxD) := callr_mono ((call_max2 hc).or (cr_max hc)) fun xs H Q ⟨N, ds, d, dom, r, e, q⟩ => by
  match ds, e with
  | [.int i, .int j], e =>
    obtain ⟨v, u, rfl, c1, c2⟩ := r.two
    cases e
    exact .inl ⟨i, j, by rw [c1.int, c2.int], q _ H (Same.refl H) (.int _)⟩
  | [.list ds], e =>
    obtain ⟨v, rfl, c⟩ := r.one
    obtain ⟨a, ys, rfl, h1, h2⟩ := c.list
    have e' : (match intsD ds with | some (a :: r) => some (PyData.int (maxI a r)) | _ => none) = some d := e
    cases e2 : intsD ds with
    | none => rw [e2] at e'; cases e'
    | some ns =>
      rw [e2] at e'
      cases ns with
      | nil => cases e'
      | cons b r =>
        cases e'
        obtain ⟨m1, m2⟩ := maxI_mem b r
        refine .inr ⟨a, b :: r, rfl, by rw [← ints_rp h2 e2]; exact .inl h1, by simp, fun m hm hy => ?_⟩
        have : m = maxI b r := Int.le_antisymm (m2 m hm) (hy _ m1)
        rw [this]
        exact q _ H (Same.refl H) (.int _)
theorem oc_min (hc : X.calm = true) : CallR X (.builtin "min") (rC X.K .fre minD) := callr_mono ((call_min2 hc).or (cr_min hc)) fun xs H Q ⟨N, ds, d, dom, r, e, q⟩ => by
  match ds, e with
  | [.int i, .int j], e =>
    obtain ⟨v, u, rfl, c1, c2⟩ := r.two
    cases e
    exact .inl ⟨i, j, by rw [c1.int, c2.int], q _ H (Same.refl H) (.int _)⟩
  | [.list ds], e =>
    obtain ⟨v, rfl, c⟩ := r.one
    obtain ⟨a, ys, rfl, h1, h2⟩ := c.list
    have e' : (match intsD ds with | some (a :: r) => some (PyData.int (minI a r)) | _ => none) = some d := e
    cases e2 : intsD ds with
    | none => rw [e2] at e'; cases e'
    | some ns =>
      rw [e2] at e'
      cases ns with
      | nil => cases e'
      | cons b r =>
        cases e'
        obtain ⟨m1, m2⟩ := minI_mem b r
        refine .inr ⟨a, b :: r, rfl, by rw [← ints_rp h2 e2]; exact .inl h1, by simp, fun m hm hy => ?_⟩
        have : m = minI b r := Int.le_antisymm (hy _ m1) (m2 m hm)
        rw [this]
        exact q _ H (Same.refl H) (.int _)
end
end PV
namespace PV
open PySem PySem.Spec PyProof.Rows L2

/-! isinstance -/
def tyD : D → String
  | .none => "NoneType"
  | .bool _ => "bool"
  | .int _ => "int"
  | .str _ => "str"
  | .list _ => "list"
  | .tuple _ => "tuple"
  | .dict _ => "dict"
/-- whether things of the type are of T -/
def isT (T : String) (d : D) : Bool := match kitB (tyD d) T with
  | some b => b
  | none => false
def isiE (T : String) (m : M D) : M D := bnd m fun d => ret (.bool (isT T d))
/-- the classes that may be asked for -/
def askT (T : String) : Bool := (kitB "NoneType" T).isSome && (kitB "bool" T).isSome && (kitB "int" T).isSome && (kitB "str" T).isSome && (kitB "list" T).isSome && (kitB "tuple" T).isSome && (kitB "dict" T).isSome
theorem kit_at {T : String} (h : askT T = true) (d : D) : kitB (tyD d) T = some (isT T d) := by
  unfold askT at h
  simp only [Bool.and_eq_true] at h
  obtain ⟨⟨⟨⟨⟨⟨h1, h2⟩, h3⟩, h4⟩, h5⟩, h6⟩, h7⟩ := h
  have key : ∀ s, (kitB s T).isSome = true → kitB s T = some (match kitB s T with | some b => b | none => false) := fun s q => by
    cases e : kitB s T with
    | none => rw [e] at q; cases q
    | some b => rfl
  unfold isT
  cases d <;> exact key _ (by assumption)
theorem tyX_of {K : PySem.W.Frag} {H : Hp} {N : Addr → Prop} {v : V} {d : D} (r : RpC K H N v d) : TyX K H v (.type (tyD d)) := by
  cases d with
  | none => rw [r.none]; exact .base .non
  | bool b => rw [r.bool]; exact .base (.bl b)
  | int b => rw [r.int]; exact .base (.int b)
  | str b => rw [r.str]; exact .base (.str b)
  | list ds =>
    obtain ⟨a, xs, rfl, h, _⟩ := r.list
    rcases h with h | ⟨o, h⟩
    · exact .base (.lst h)
    · exact .base (.frz h)
  | tuple ds =>
    obtain ⟨a, xs, rfl, h, _⟩ := r.tuple
    rcases h with (h | ⟨o, h⟩) | ⟨o, its, n, h, hc, _⟩
    · exact .base (.tup h)
    · exact .fTuple h
    · exact .kTuple h hc
  | dict es =>
    obtain ⟨a, kvs, rfl, h, _⟩ := r.dict
    rcases h with h | ⟨o, h⟩
    · exact .base (.dK h)
    · exact .fDict h

def dispE : List (M D × M D) → M (List (D × D))
  | [] => ret []
  | (k, v) :: r => bnd k fun x => bnd v fun y => bnd (dispE r) fun ps => ret ((x, y) :: ps)
def mergeE (es more : List (D × D)) : List (D × D) := more.foldl (fun acc kv => putE acc kv.1 kv.2) es
def dicE (ps : List (M D × M D)) : M D := fun e => match dispE ps e with
  | .ok es e' => if (es.all (fun e => isKey e.1) && decide (es.length ≤ 15)) = true then .ok (.dict (mergeE [] es)) e' else .no
  | _ => .no
def revD : D → Option D
  | .list ds => some (.list ds.reverse)
  | _ => none
/-- a < b < c -/
def chE (g g' : D → D → Option D) (a b c : M D) : M D := bnd a fun x => bnd b fun y => bnd (lft (g x y)) fun z => bnd (lft (bolD z)) fun k => if k = true then (bnd c fun u => lft (g' y u)) else ret (.bool false)

section
variable {X : Cx} {G : Amb} {p pa pb pc : Bool} {l la lb lc fl : Lvl} {e a b c : Expr} {es : List Expr} {f fa fb fc : M D} {pos apos p' p2 p3 : Pos} {x y : Str} {fr : M (List D)}
theorem j_isi {T : String} {tn : Str} (ha : J X G p la a fa) (hT : askT T = true) (hg : Gl X "isinstance") (hm : X.mg "isinstance" = none) (hv : bootBuiltins "isinstance" = some (.builtin "isinstance")) (hgT : Gl X tn) (hmT : X.mg tn = none) (hvT : bootBuiltins tn = some (.type T))
    (hnT : tn ≠ "__name__" := by decide) (hdT : (tn == ("__debug__" : Str)) = false := by decide)
    (h1 : starEach [a, .Name tn p2] X.env = (false, eval a X.env) :: starEach [.Name tn p2] X.env := by rfl) (h2 : starEach [.Name tn p2] X.env = (false, eval (.Name tn p2) X.env) :: starEach [] X.env := by rfl) (hpl : (backTo pos (starEach [.Name tn p2] X.env)).any (·.1) = false := by rfl) :
    J X G p .fre (.Call (.Name "isinstance" p') [a, .Name tn p2] [] pos) (isiE T fa) :=
  pe_mono (pe_callB call_isi hg hm hv (pa_cons ha (pa_cons (pe_bltn (v := .ty T) hgT hmT hvT rfl hnT hdT) pa_nil h2) h1) (by decide) (by decide) h1 hpl) fun σ H Q ⟨env, S, q⟩ => by
    refine ⟨env, S, (Ok.bind3 (p' := true) (by simp) q).mono fun d env1 H1 ⟨f1, q1⟩ v rv => ?_⟩
    have rc := RpX.rpC (fun a z => S.dom a (f1.sub a z)) rv
    exact ⟨v, .ty T, .type (tyD d), .type T, isT T d, rfl, .ty T, tyX_of rc, kit_ty (kit_at hT d), q1.ret f1.st _ (.bl _)⟩
theorem j_rev {k : Nat} {p4 : Pos} (ha : J X G p la a fa) : J X G p .fre (.Subscript a (.Slice none none (some (.UnaryOp .USub (.Constant (.int 1) k p2) p3)) p4) pos) (op1 revD fa) := pe_mono (pe_revL ha) fun σ H Q ⟨env, S, q⟩ => by
  refine ⟨env, S, (Ok.bind3 (p' := true) (by simp) q).mono fun da env1 H1 ⟨f1, q1⟩ v rv => ?_⟩
  obtain ⟨d, e, q2⟩ := q1.lft f1.st
  have rc := RpX.rpC (fun a z => S.dom a (f1.sub a z)) rv
  cases da with
  | list ds =>
    cases e
    obtain ⟨a, xs, rfl, h1, h2⟩ := rc.list
    exact ⟨a, xs, rfl, .inl h1, fun p hn => q2 _ (same_new hn) _ (f1.back (l := .fre) ⟨p, _, rfl, hn, upd_same, h2.reverse.new hn⟩)⟩
  | _ => cases e
theorem j_chain {op op' : CmpOp} {g g' : D → D → Option D} (ho : OpR X (compareOp op) (r2 X.K .fre g)) (ho' : OpR X (compareOp op') (r2 X.K .fre g')) (ha : J X G pa la a fa) (hb : J X G pb lb b fb) (hc : J X G pc lc c fc)
    (hm : lastMarks [op, op'] [b, c] = false := by with_unfolding_all rfl) (hs : (la.safe || pb) = true := by rfl) (hs2 : (lb.safe || pc) = true := by rfl) : J X G (pa && (pb && pc)) .fre (.Compare a [op, op'] [b, c] pos) (chE g g' fa fb fc) :=
  pe_mono (pe_chain ho ho' ha hb hc hm) fun σ H Q ⟨env, S, q⟩ => by
    refine ⟨env, S, (Ok.bind3 (p' := pb && pc) rfl q).mono fun da env1 H1 ⟨f1, q1⟩ v rv => ?_⟩
    refine ⟨env1, f1.st, (Ok.bind3 (p' := pc) rfl q1).mono fun db env2 H2 ⟨f2, q2⟩ u ru => ?_⟩
    have ca := f2.carry f1.st rv (fun a z => S.dom a (f1.sub a z)) hs
    have cb := RpX.rpC (fun a z => f1.st.dom a (f2.sub a z)) ru
    cases eg : g da db with
    | none => rw [eg] at q2; exact q2.elim
    | some z =>
      rw [eg] at q2
      have q3 : Ok X.K G pc σ H2 env2 (bnd (lft (bolD z)) (fun k => if k = true then (bnd fc fun u => lft (g' db u)) else ret (.bool false)) env2) _ := q2
      cases ez : bolD z with
      | none => rw [ez] at q3; exact q3.elim
      | some k =>
        rw [ez] at q3
        have q4 : Ok X.K G pc σ H2 env2 ((if k = true then (bnd fc fun u => lft (g' db u)) else ret (.bool false)) env2) _ := q3
        refine ⟨G.R σ env2, da, db, z, f2.st.dom, ca.1, cb, eg, fun zv H3 s3 rz => ?_⟩
        cases z with
        | bool k' =>
          cases ez
          have ezv := (RpC.of (show Rp X.K H3 (G.R σ env2) zv (.bool k) from rz)).bool
          subst ezv
          refine ⟨k, rfl, ?_⟩
          have S3 := f2.st.same s3
          have e3 : Eff X.K G true σ H2 env2 H3 env2 := .of_same f2.st s3
          cases k with
          | true =>
            simp only [if_true] at q4 ⊢
            refine ⟨env2, S3, ?_⟩
            have q5 : Ok X.K G pc σ H3 env2 (bnd fc (fun u => lft (g' db u)) env2) fun d env' H' => ∀ v, RpX .fre X.K H H' (G.R σ env') v d → Q v H' := by
              revert q4
              unfold Ok
              cases bnd fc (fun u => lft (g' db u)) env2 with
              | no => exact id
              | exc x e => exact fun q c d H' f hx => q c d H' ((e3.trans f).weak (by simp)) hx
              | ok d e => exact fun q H' f => q H' ((e3.trans f).weak (by simp))
            refine (Ok.bind3 (p' := true) (by simp) q5).mono fun dc env4 H4 ⟨f4, q6⟩ w rw' => ?_
            obtain ⟨d, ed, q7⟩ := q6.lft f4.st
            have cb3 : RpC X.K H4 (G.R σ env4) u db := by
              have ru3 : RpX lb X.K H1 H3 (G.R σ env2) u db := by
                revert ru
                cases lb with
                | bor => exact fun ru => RpC.same s3 (fun _ z => z) ru
                | saf => exact fun ru => Rp.fwd (.of_same s3) ru
                | fre =>
                  intro ru
                  cases db with
                  | list ds =>
                    obtain ⟨a, xs, e, h1, h2, h3⟩ := ru
                    exact ⟨a, xs, e, h1, s3 _ _ h2, h3.fwd (.of_same s3)⟩
                  | dict ds =>
                    obtain ⟨a, xs, e, h1, h2, h3⟩ := ru
                    exact ⟨a, xs, e, h1, s3 _ _ h2, h3.fwd (.of_same s3)⟩
                  | none => exact Rp.fwd (.of_same s3) ru
                  | bool _ => exact Rp.fwd (.of_same s3) ru
                  | int _ => exact Rp.fwd (.of_same s3) ru
                  | str _ => exact Rp.fwd (.of_same s3) ru
                  | tuple _ => exact Rp.fwd (.of_same s3) ru
              exact (f4.carry S3 ru3 (fun a z => f1.st.dom a (f2.sub a z)) hs2).1
            refine ⟨G.R σ env4, db, dc, d, f4.st.dom, cb3, RpX.rpC (fun a z => S3.dom a (f4.sub a z)) rw', ed, fun v' H' s r => q7 H' s v' (f1.back (f2.back ?_))⟩
            have z4 := f4.back (l := .fre) r
            exact (Eff.back (K := X.K) (G := G) (p := true) e3 (l := .fre) z4)
          | false =>
            simp only [Bool.false_eq_true, if_false] at q4 ⊢
            have q5 : Ok X.K G pc σ H2 env2 (ret (PyData.bool false) env2) fun d env' H' => ∀ v, RpX .fre X.K H H' (G.R σ env') v d → Q v H' := q4
            exact q5 H3 (.of_same f2.st s3) _ (.bl false)
        | _ => cases ez

/-! dict displays -/
def JP (X : Cx) (G : Amb) (p : Bool) (pos : Pos) (keys : List (Option Expr)) (values : List Expr) (prs : List (M D × M D)) : Prop := ∃ trs, PPs X pos keys values trs ∧
  ∀ a σ H (Q : List (V × V) → Hp → Prop), (∃ env, StR X.K (G.blk a) σ H env ∧ Ok X.K (G.blk a) p σ H env (dispE prs env) fun es env' H' => ∀ ps, Eff X.K (G.blk a) p σ H env H' env' → Paired (fun (q : V × V) (e : D × D) => Rp X.K H' ((G.blk a).R σ env') q.1 e.1 ∧ Rp X.K H' ((G.blk a).R σ env') q.2 e.2) ps es → Q ps H') → tPairs trs σ H Q
theorem jp_nil : JP X G true pos [] [] [] := ⟨[], pps_nil, fun a σ H Q ⟨env, S, q⟩ => q.ret S [] (.refl S) .nil⟩
theorem jp_cons {k v : Expr} {ks : List (Option Expr)} {vs : List Expr} {prs : List (M D × M D)} (hk : ∀ a, J X (G.blk a) pa la k fa) (hv : ∀ a, J X (G.blk a) pb lb v fb) (hr : JP X G pc pos ks vs prs) (h1 : la.safe = true := by rfl) (h2 : lb.safe = true := by rfl) :
    JP X G (pa && (pb && pc)) pos (some k :: ks) (v :: vs) ((fa, fb) :: prs) := by
  obtain ⟨trs, h3, h4⟩ := hr
  have hk' : PE X k (eB X.K G pa la fa) := ⟨fun pn s σ H Q I ⟨a, q⟩ => (hk a).run pn s σ H Q I q⟩
  have hv' : PE X v (eB X.K G pb lb fb) := ⟨fun pn s σ H Q I ⟨a, q⟩ => (hv a).run pn s σ H Q I q⟩
  refine ⟨_, pps_cons hk' hv' h3, fun a0 σ H Q ⟨env, S, q⟩ => ?_⟩
  refine ⟨a0, env, S, (Ok.bind3 (p' := pb && pc) rfl q).mono fun da env1 H1 ⟨f1, q1⟩ v rv => ?_⟩
  refine ⟨a0, env1, f1.st, (Ok.bind3 (p' := pc) rfl q1).mono fun db env2 H2 ⟨f2, q2⟩ u ru => ?_⟩
  refine h4 a0 σ H2 _ ⟨env2, f2.st, (Ok.bind3 (p' := true) (by simp) q2).mono fun es env3 H3 ⟨f3, q3⟩ ps f3' rps => q3.ret f3.st _ (f1.trans (f2.trans f3')) (.cons ⟨?_, ?_⟩ rps)⟩
  · exact ((f2.trans f3).carry f1.st rv (fun a z => S.dom a (f1.sub a z)) (by rw [h1]; rfl)).2 h1
  · exact (f3.carry f2.st ru (fun a z => f1.st.dom a (f2.sub a z)) (by rw [h2]; rfl)).2 h2
theorem merge_rp {K : PySem.W.Frag} {H : Hp} {N : Addr → Prop} : ∀ {more : List (Key × V)} {es : List (D × D)} {kvs : List (Key × V)} {fs : List (D × D)}, RpKV K H N more es → RpKV K H N kvs fs → RpKV K H N (mergeK kvs more) (mergeE fs es)
  | _, _, _, _, .nil, r => r
  | _, _, kvs, fs, .cons (k := k) (v := v) (d := d) h r, r0 => by
    show RpKV K H N (mergeK (putK kvs k v) _) (mergeE (putE fs (keyD k) d) _)
    exact merge_rp r (r0.put (k := k) h)
theorem pairs_rp {K : PySem.W.Frag} {H : Hp} {N : Addr → Prop} : ∀ {ps : List (V × V)} {es : List (D × D)}, Paired (fun (q : V × V) (e : D × D) => Rp K H N q.1 e.1 ∧ Rp K H N q.2 e.2) ps es → es.all (fun e => isKey e.1) = true →
    ∃ kvs : List (Key × V), ps = kvs.map (fun kv => (kV kv.1, kv.2)) ∧ RpKV K H N kvs es
  | _, _, .nil, _ => ⟨[], rfl, .nil⟩
  | (k, v) :: ps, (x, y) :: es, .cons h r, a => by
    have a' := Bool.and_eq_true_iff.mp (show (isKey x && es.all (fun e => isKey e.1)) = true from a)
    obtain ⟨kvs, e1, e2⟩ := pairs_rp r a'.2
    obtain ⟨k1, rfl, e3⟩ := key_of_D (RpC.of h.1) a'.1
    exact ⟨(k1, v) :: kvs, by rw [e1, List.map_cons]; simp only at e3; rw [e3], .cons h.2 e2⟩
theorem j_dict0 : J X G true .fre (.Dict [] [] pos) (dicE []) := pe_mono pe_dnewK fun σ H Q ⟨env, S, q⟩ a hn => q _ (.of_same S (same_new hn)) _ ⟨a, [], rfl, hn, upd_same, .nil⟩
theorem StR.toZ {K : PySem.W.Frag} {σ : L2.St} {H : Hp} {env : EnvD} {a : Addr} {o : HO} (S : StR K G σ H env) (hn : H a = none) : StR K (G.blk a) σ (upd H a o) env := by
  have s : Same H (upd H a o) := same_new hn
  have fw : Fwd K (G.R σ env) ((G.blk a).R σ env) H (upd H a o) := ⟨fun b o e _ => s b o e, fun b o e _ => s b o e, fun b z n => by
    rcases (R_blk b).mp z with w | w
    · exact absurd w n
    · rw [w]; exact hn⟩
  refine ⟨S.len, S.keep.trans (Keep.of_same (N := G.IO) s) fun _ _ h => h, fun j d h => ?_, fun j d h => ?_, S.dis, fun b z => ?_, S.fix⟩
  · obtain ⟨v, e1, r⟩ := S.shr j d h
    exact ⟨v, e1, r.fwd fw⟩
  · obtain ⟨b, e1, r, oo, nz⟩ := S.own j d h
    obtain ⟨ob, hob, _⟩ := r.there
    have nb : b ≠ a := ne_of_none hob hn
    exact ⟨b, e1, r.at fw (upd_ne nb), oo, fun z => z.elim nz nb⟩
  · rcases z with z | z
    · obtain ⟨⟨u, e⟩, n⟩ := S.zd b z
      exact ⟨⟨u, s _ _ e⟩, n⟩
    · rw [z]
      refine ⟨⟨_, upd_same⟩, ?_⟩
      show G.H0 a = none
      cases q : G.H0 a with
      | none => rfl
      | some u =>
        obtain ⟨u', w⟩ := S.keep.there ⟨u, q⟩
        rw [hn] at w; cases w
theorem StR.ofZ {K : PySem.W.Frag} {σ : L2.St} {H : Hp} {env : EnvD} {a : Addr} (S : StR K (G.blk a) σ H env) : StR K G σ H env := by
  have fw : Fwd K ((G.blk a).R σ env) (G.R σ env) H H := .sub_same (Same.refl H) fun b z => (R_blk b).mpr (.inl z)
  refine ⟨S.len, S.keep, fun j d h => ?_, fun j d h => ?_, S.dis, fun b z => S.zd b (.inl z), S.fix⟩
  · obtain ⟨v, e1, r⟩ := S.shr j d h
    exact ⟨v, e1, r.fwd fw⟩
  · obtain ⟨b, e1, r, oo, nz⟩ := S.own j d h
    exact ⟨b, e1, r.at fw rfl, oo, fun z => nz (.inl z)⟩
theorem StR.updM {K : PySem.W.Frag} {σ : L2.St} {H : Hp} {env : EnvD} {a : Addr} {o o' : HO} (S : StR K G σ H env) (z : G.Z a) (h : H a = some o) (m : Mu o) : StR K G σ (upd H a o') env := by
  have fw : Fwd K (G.R σ env) (G.R σ env) H (upd H a o') := fwdM (.inl (.inr z)) h m
  refine ⟨S.len, fun b u e => ?_, fun j d w => ?_, fun j d w => ?_, S.dis, fun b w => ?_, S.fix⟩
  · have nb : b ≠ a := fun w => by
      subst w
      rw [(S.zd b z).2] at e; cases e
    rw [upd_ne nb]
    exact S.keep b u e
  · obtain ⟨v, e1, r⟩ := S.shr j d w
    exact ⟨v, e1, r.fwd fw⟩
  · obtain ⟨b, e1, r, oo, nz⟩ := S.own j d w
    exact ⟨b, e1, r.at fw (upd_ne fun q => nz (by rw [q]; exact z)), oo, nz⟩
  · refine ⟨?_, (S.zd b w).2⟩
    by_cases q : b = a
    · rw [q]; exact ⟨_, upd_same⟩
    · rw [upd_ne q]; exact (S.zd b w).1
theorem j_dict {keys : List (Option Expr)} {values : List Expr} {prs : List (M D × M D)} (h : JP X G p pos keys values prs) (hall : keys.all (·.isSome) = true := by rfl) (hl : keys.length = values.length := by rfl) (h0 : keys ≠ [] := by simp) (h15 : keys.length ≤ 15 := by decide) :
    J X G p .fre (.Dict keys values pos) (dicE prs) := by
  obtain ⟨trs, h1, h2⟩ := h
  refine pe_mono (pe_disp h1 hall hl h0 h15) fun σ H Q ⟨env, S, q⟩ a hn => h2 a σ _ _ ?_
  have S0 : StR X.K (G.blk a) σ (upd H a (.dK [])) env := S.toZ hn
  refine ⟨env, S0, ?_⟩
  have conv : ∀ {H' : Hp} {env' : EnvD}, Eff X.K (G.blk a) p σ (upd H a (.dK [])) env H' env' → ∀ {o' : HO}, Eff X.K G p σ H env (upd H' a o') env' ∧ Eff X.K G p σ H env H' env' ∧ H' a = some (.dK []) := fun {H' env'} f {o'} => by
    have ha : H' a = some (.dK []) := f.keepo.at upd_same (S0.zNot (.inr rfl))
    have k0 : Keep (rts σ env) H H' := (Keep.of_same (N := rts σ env) (same_new hn)).trans f.keepo fun _ _ z => z
    have e1 : Eff X.K G p σ H env H' env' := ⟨f.st.ofZ, fun hp => ⟨(f.pure hp).1, (same_new hn).trans (f.pure hp).2⟩, k0, f.subo⟩
    refine ⟨⟨(f.st.updM (.inr rfl) ha trivial).ofZ, fun hp => ⟨(f.pure hp).1, fun b u e => ?_⟩, fun b u e => ?_, f.subo⟩, e1, ha⟩
    · rw [upd_ne (ne_of_none e hn)]
      exact (e1.pure hp).2 b u e
    · have nb : b ≠ a := ne_of_none e hn
      rcases k0 b u e with z | ⟨z1, z2, u', z3, z4⟩
      · exact .inl (by rw [upd_ne nb]; exact z)
      · exact .inr ⟨z1, z2, u', by rw [upd_ne nb]; exact z3, z4⟩
  unfold dicE at q
  unfold Ok at q ⊢
  cases e : dispE prs env with
  | no => rw [e] at q; exact q
  | exc x env' =>
    rw [e] at q
    exact False.elim q
  | ok es env' =>
    rw [e] at q
    intro H' f ps f' rps
    obtain ⟨f2, f3, ha⟩ := conv f (o' := .dK [])
    simp only at q
    by_cases c : (es.all (fun e => isKey e.1) && decide (es.length ≤ 15)) = true
    · rw [if_pos c] at q
      simp only at q
      have c' := Bool.and_eq_true_iff.mp c
      obtain ⟨kvs, e1, e2⟩ := pairs_rp rps c'.1
      refine ⟨ha, kvs, e1, ?_, ?_⟩
      · rw [e2.length]; simpa using c'.2
      · refine q _ (conv f).1 (.ref a) ⟨a, mergeK [] kvs, rfl, hn, upd_same, ?_⟩
        have := merge_rp e2 .nil
        refine (this.fwd (fwdM (a := a) (o := .dK []) ?_ ha trivial)).fwd (.sub_same (Same.refl _) fun b z => (R_blk b).mpr z)
        exact (R_blk a).mpr (.inr rfl)
    · rw [if_neg c] at q
      exact False.elim q
end
end PV
namespace PV
open PySem PySem.Spec PyProof.Rows L2

def scaD : D → Bool
  | .none => true
  | .bool _ => true
  | .int _ => true
  | .str _ => true
  | _ => false
def flatF : D → Bool
  | .list ds => ds.all scaD
  | .dict es => es.all (fun e => scaD e.2)
  | .tuple _ => false
  | _ => true
/-- x, y = a, b -/
def parS (i j : Nat) (a b : M D) : Sm := thenS (consA a (consA b nilA)) fun ds => fun e => match ds with
  | [x, y] => .nx ((e.set i (.shr x)).set j (.shr y))
  | _ => .no
def parSO (i j : Nat) (a b : M D) : Sm := thenS a fun x => thenS b fun y => fun e => .nx ((e.set i (.shr x)).set j (ownC y))
def parOO (i j : Nat) (a b : M D) : Sm := thenS a fun x => thenS b fun y => fun e => if flatF y = true then .nx ((e.set i (ownC x)).set j (ownC y)) else .no
def par3S (i j k : Nat) (a b c : M D) : Sm := thenS (consA a (consA b (consA c nilA))) fun ds => fun e => match ds with
  | [x, y, z] => .nx (((e.set i (.shr x)).set j (.shr y)).set k (.shr z))
  | _ => .no
theorem sca_rp {K : PySem.W.Frag} {H H' : Hp} {N N' : Addr → Prop} {v : V} {d : D} (h : scaD d = true) (r : Rp K H N v d) : Rp K H' N' v d := by
  cases d with
  | none => cases r; exact .non
  | bool b => cases r; exact .bl _
  | int b => cases r; exact .int _
  | str b => cases r; exact .str _ ‹_›
  | list _ => cases h
  | tuple _ => cases h
  | dict _ => cases h
theorem sca_all {K : PySem.W.Frag} {H H' : Hp} {N N' : Addr → Prop} : ∀ {vs : List V} {ds : List D}, ds.all scaD = true → RpAll K H N vs ds → RpAll K H' N' vs ds
  | _, _, _, .nil => .nil
  | _, _, h, .cons r s => by
    have h' := Bool.and_eq_true_iff.mp (show (scaD _ && List.all _ scaD) = true from h)
    exact .cons (sca_rp h'.1 r) (sca_all h'.2 s)
theorem sca_kv {K : PySem.W.Frag} {H H' : Hp} {N N' : Addr → Prop} : ∀ {vs : List (Key × V)} {ds : List (D × D)}, ds.all (fun e => scaD e.2) = true → RpKV K H N vs ds → RpKV K H' N' vs ds
  | _, _, _, .nil => .nil
  | _, _, h, .cons r s => by
    simp only [List.all_cons, Bool.and_eq_true] at h
    have h' := h
    exact .cons (sca_rp h'.1 r) (sca_kv h'.2 s)
theorem RpF.subN {K : PySem.W.Frag} {H H' : Hp} {N N' : Addr → Prop} {v : V} {d : D} (sub : ∀ a, N' a → N a) (r : RpF K H H' N v d) : RpF K H H' N' v d := by
  have s2 : ∀ x a, (N' a ∨ a = x) → (N a ∨ a = x) := fun x a z => z.imp (sub a) id
  cases d with
  | list ds =>
    obtain ⟨a, xs, e, h1, h2, h3⟩ := r
    exact ⟨a, xs, e, h1, h2, h3.fwd (.sub_same (Same.refl _) (s2 a))⟩
  | dict ds =>
    obtain ⟨a, xs, e, h1, h2, h3⟩ := r
    exact ⟨a, xs, e, h1, h2, h3.fwd (.sub_same (Same.refl _) (s2 a))⟩
  | none => exact Rp.fwd (.sub_same (Same.refl _) sub) r
  | bool _ => exact Rp.fwd (.sub_same (Same.refl _) sub) r
  | int _ => exact Rp.fwd (.sub_same (Same.refl _) sub) r
  | str _ => exact Rp.fwd (.sub_same (Same.refl _) sub) r
  | tuple _ => exact Rp.fwd (.sub_same (Same.refl _) sub) r
theorem OkS.thenS1 {K : PySem.W.Frag} {G : Amb} {σ : L2.St} {H H1 : Hp} {env : EnvD} {fl : Lvl} {α : Type} {m : M α} {k : α → Sm} {Dn : Ends} (p : Bool) {p0 : Bool} (f0 : Eff K G p0 σ H env H1 env) (h : OkS K G fl σ H env (PV.thenS m k env) Dn) :
    Ok K G p σ H1 env (m env) fun a env1 H2 => Eff K G p σ H1 env H2 env1 ∧ OkS K G fl σ H env (k a env1) Dn := by
  unfold PV.thenS at h
  unfold Ok
  cases e : m env with
  | no => rw [e] at h; exact h
  | exc x env1 =>
    rw [e] at h
    exact fun c d H2 f hx => h σ H2 c d (.eff (f0.trans f)) hx
  | ok a env1 =>
    rw [e] at h
    exact fun H2 f => ⟨f, h⟩
theorem flat_rpF {K : PySem.W.Frag} {H H' : Hp} {N N' : Addr → Prop} {v : V} {d : D} (h : flatF d = true) (r : RpF K H H' N v d) : RpF K H H' N' v d := by
  cases d with
  | none => exact sca_rp (d := .none) rfl r
  | bool b => exact sca_rp (d := .bool b) rfl r
  | int b => exact sca_rp (d := .int b) rfl r
  | str b => exact sca_rp (d := .str b) rfl r
  | list ds =>
    obtain ⟨a, xs, e, h1, h2, h3⟩ := r
    exact ⟨a, xs, e, h1, h2, sca_all h h3⟩
  | tuple _ => cases h
  | dict ds =>
    obtain ⟨a, xs, e, h1, h2, h3⟩ := r
    exact ⟨a, xs, e, h1, h2, sca_kv h h3⟩
section
variable {X : Cx} {G : Amb} {p pa pb pc : Bool} {l la lb lc fl : Lvl} {e a b c : Expr} {es : List Expr} {f fa fb fc : M D} {pos px py pz pt pt2 : Pos} {x y z : Str} {kt k2 : _}
theorem js_par (i j : Nat) (hc : X.calm = true) (hN : X.N.Nodup) (hi : X.N[i]? = some x) (hj : X.N[j]? = some y) (hij : i ≠ j)
    (hx : X.env.scope.names.lookup x = some .local) (hy : X.env.scope.names.lookup y = some .local) (ha : JA X G p true [a, b] (consA fa (consA fb nilA)))
    (hw : swappedStores [.Tuple [.Name x px, .Name y py] kt pt] (.Tuple [a, b] k2 pt2) X.env = pure (some [x, y])) (hf : G.fx.contains i = false := by rfl) (hf2 : G.fx.contains j = false := by rfl)
    (hs : swapsWithSole [.Tuple [.Name x px, .Name y py] kt pt] (.Tuple [a, b] k2 pt2) pos.line X.env = pure false := by rfl) :
    JS X G fl (.Assign [.Tuple [.Name x px, .Name y py] kt pt] (.Tuple [a, b] k2 pt2) pos) (parS i j fa fb) := ps_mono (ps_par hc hN hi hj hij hx hy ha hw hs) fun Dn σ H ⟨env, S, q⟩ => by
  refine ⟨env, S, (OkS.thenS p q).mono fun ds env1 H1 ⟨f1, q1⟩ vs rv => ?_⟩
  cases rv with
  | nil => exact q1.elim
  | cons r1 rv =>
    cases rv with
    | nil => exact q1.elim
    | cons r2 rv =>
      cases rv with
      | cons _ _ => exact q1.elim
      | nil =>
        refine ⟨_, _, rfl, q1 _ H1 ?_⟩
        obtain ⟨S2, sub⟩ := f1.st.putS (i := i) (not_fx hf) r1
        obtain ⟨S3, sub3⟩ := S2.putS (i := j) (not_fx hf2) (r2.fwd (.sub_same (Same.refl _) (R_of sub)))
        exact ⟨S3, .refl _ _, fun a z => .inl (sub a (sub3 a z))⟩
theorem js_par3 (i j k : Nat) (hc : X.calm = true) (hN : X.N.Nodup) (hi : X.N[i]? = some x) (hj : X.N[j]? = some y) (hk : X.N[k]? = some z) (hij : i ≠ j) (hik : i ≠ k) (hjk : j ≠ k)
    (hx : X.env.scope.names.lookup x = some .local) (hy : X.env.scope.names.lookup y = some .local) (hz : X.env.scope.names.lookup z = some .local) (ha : JA X G p true [a, b, c] (consA fa (consA fb (consA fc nilA))))
    (hw : swappedStores [.Tuple [.Name x px, .Name y py, .Name z pz] kt pt] (.Tuple [a, b, c] k2 pt2) X.env = pure (some [x, y, z])) (hf : G.fx.contains i = false := by rfl) (hf2 : G.fx.contains j = false := by rfl) (hf3 : G.fx.contains k = false := by rfl)
    (hs : swapsWithSole [.Tuple [.Name x px, .Name y py, .Name z pz] kt pt] (.Tuple [a, b, c] k2 pt2) pos.line X.env = pure false := by rfl) :
    JS X G fl (.Assign [.Tuple [.Name x px, .Name y py, .Name z pz] kt pt] (.Tuple [a, b, c] k2 pt2) pos) (par3S i j k fa fb fc) := ps_mono (ps_par3 hc hN hi hj hk hij hik hjk hx hy hz ha hw hs) fun Dn σ H ⟨env, S, q⟩ => by
  refine ⟨env, S, (OkS.thenS p q).mono fun ds env1 H1 ⟨f1, q1⟩ vs rv => ?_⟩
  cases rv with
  | nil => exact q1.elim
  | cons r1 rv =>
    cases rv with
    | nil => exact q1.elim
    | cons r2 rv =>
      cases rv with
      | nil => exact q1.elim
      | cons r3 rv =>
        cases rv with
        | cons _ _ => exact q1.elim
        | nil =>
          refine ⟨_, _, _, rfl, q1 _ H1 ?_⟩
          obtain ⟨S2, sub⟩ := f1.st.putS (i := i) (not_fx hf) r1
          obtain ⟨S3, sub3⟩ := S2.putS (i := j) (not_fx hf2) (r2.fwd (.sub_same (Same.refl _) (R_of sub)))
          obtain ⟨S4, sub4⟩ := S3.putS (i := k) (not_fx hf3) (r3.fwd (.sub_same (Same.refl _) (R_of fun a z => sub a (sub3 a z))))
          exact ⟨S4, .refl _ _, fun a z => .inl (sub a (sub3 a (sub4 a z)))⟩
theorem js_parSO (i j : Nat) (hc : X.calm = true) (hN : X.N.Nodup) (hi : X.N[i]? = some x) (hj : X.N[j]? = some y) (hij : i ≠ j)
    (hx : X.env.scope.names.lookup x = some .local) (hy : X.env.scope.names.lookup y = some .local) (ha : J X G pa la a fa) (hb : J X G true .fre b fb)
    (h1 : starEach [a, b] X.env = (false, eval a X.env) :: starEach [b] X.env) (h2 : starEach [b] X.env = (false, eval b X.env) :: starEach [] X.env)
    (hw : swappedStores [.Tuple [.Name x px, .Name y py] kt pt] (.Tuple [a, b] k2 pt2) X.env = pure (some [x, y])) (hl : la.safe = true := by rfl) (hf : G.fx.contains i = false := by rfl) (hf2 : G.fx.contains j = false := by rfl)
    (hs : swapsWithSole [.Tuple [.Name x px, .Name y py] kt pt] (.Tuple [a, b] k2 pt2) pos.line X.env = pure false := by rfl) :
    JS X G fl (.Assign [.Tuple [.Name x px, .Name y py] kt pt] (.Tuple [a, b] k2 pt2) pos) (parSO i j fa fb) := ps_mono (ps_par hc hN hi hj hij hx hy (pa_cons ha (pa_cons hb pa_nil h2) h1) hw hs) fun Dn σ H ⟨env, S, q⟩ => by
  refine ⟨env, S, (OkS.thenS pa q).mono fun da env1 H1 ⟨f1, q1⟩ v rv => ?_⟩
  refine ⟨env1, f1.st, (OkS.thenS0 true q1).mono fun db env2 H2 ⟨f2, q2⟩ u ru => ⟨_, _, rfl, q2 _ H2 ?_⟩⟩
  obtain ⟨e1, s⟩ := f2.pure rfl
  subst e1
  obtain ⟨S2, sub⟩ := f1.st.putS (i := i) (not_fx hf) (RpX.rp (fun a z => S.dom a (f1.sub a z)) hl rv)
  have t := putO_step S2 (not_fx hf2) s (RpF.subN (R_of sub) ru)
  exact (Stp.trans ⟨S2, .refl _ _, fun a z => .inl (sub a z)⟩ t)
theorem js_parOO (i j : Nat) (hc : X.calm = true) (hN : X.N.Nodup) (hi : X.N[i]? = some x) (hj : X.N[j]? = some y) (hij : i ≠ j)
    (hx : X.env.scope.names.lookup x = some .local) (hy : X.env.scope.names.lookup y = some .local) (ha : J X G true .fre a fa) (hb : J X G true .fre b fb)
    (h1 : starEach [a, b] X.env = (false, eval a X.env) :: starEach [b] X.env) (h2 : starEach [b] X.env = (false, eval b X.env) :: starEach [] X.env)
    (hw : swappedStores [.Tuple [.Name x px, .Name y py] kt pt] (.Tuple [a, b] k2 pt2) X.env = pure (some [x, y])) (hf : G.fx.contains i = false := by rfl) (hf2 : G.fx.contains j = false := by rfl)
    (hs : swapsWithSole [.Tuple [.Name x px, .Name y py] kt pt] (.Tuple [a, b] k2 pt2) pos.line X.env = pure false := by rfl) :
    JS X G fl (.Assign [.Tuple [.Name x px, .Name y py] kt pt] (.Tuple [a, b] k2 pt2) pos) (parOO i j fa fb) := ps_mono (ps_par hc hN hi hj hij hx hy (pa_cons ha (pa_cons hb pa_nil h2) h1) hw hs) fun Dn σ H ⟨env, S, q⟩ => by
  refine ⟨env, S, (OkS.thenS0 true q).mono fun da env1 H1 ⟨f1, q1⟩ v rv => ?_⟩
  obtain ⟨e1, s1⟩ := f1.pure rfl
  subst e1
  refine ⟨env1, f1.st, (OkS.thenS1 true f1 q1).mono fun db env2 H2 ⟨f2, q2⟩ u ru => ⟨_, _, rfl, ?_⟩⟩
  obtain ⟨e2, s2⟩ := f2.pure rfl
  subst e2
  by_cases c : flatF db = true
  · rw [if_pos c] at q2
    refine q2 _ H2 ?_
    have t1 := putO_step S (not_fx hf) s1 rv
    have t2 := putO_step t1.st (not_fx hf2) s2 (flat_rpF c ru)
    exact t1.trans t2
  · rw [if_neg c] at q2
    exact q2.elim
end
end PV
namespace PV
open PySem PySem.Spec PyProof.Rows L2

/-! the head: no list stands in what the top has written -/
def isLst (o : Obj) : Bool := match o.cls with
  | .type c => decide (c = "list")
  | _ => false
def noLst (K : PySem.W.Frag) : Bool := K.all fun p => !isLst p.2
theorem noLst_at : ∀ {K : PySem.W.Frag} {a : Addr} {o : Obj}, noLst K = true → K.lookup a = some o → o.cls ≠ .type "list"
  | [], _, _, _, e => by cases e
  | (b, ob) :: r, a, o, h, e => by
    have h' := Bool.and_eq_true_iff.mp (show ((!isLst ob) && noLst r) = true from h)
    have e2 : (match a == b with | true => some ob | false => r.lookup a) = some o := e
    cases q : (a == b) with
    | true =>
      rw [q] at e2
      cases e2
      intro z
      have : isLst ob = true := by unfold isLst; rw [z]; rfl
      rw [this] at h'
      cases h'.1
    | false =>
      rw [q] at e2
      exact noLst_at h'.2 e2
/-- constants of the top -/
inductive Cst where
  | int (x : Str) (i : Int)
  | str (x z : Str)
  | tup (x : Str) (vs : List Str)
def Cst.ok (K : PySem.W.Frag) : Cst → Bool
  | .int x i => (He.Fa.int x i).ok K
  | .str x z => (He.Fa.str x z).ok K
  | .tup x vs => (He.Fa.glo x).ok K && He.tupB K x (vs.map He.Dv.str)
abbrev AlP : Type := He.AlD × (Bool × Bool)
def obsP (n : Nat) (fa : List He.Fa) (fn : List He.DefD) (cs : List Cst) (g : Addr → Option Obj) : AlP := (He.obsDG n fa fn g, (noLst (He.frG g (He.asD g n)), cs.all fun c => c.ok (He.frG g (He.asD g n))))
def valP (fn : List He.DefD) : AlP := (He.valD fn, (true, true))
def SaysP (fa : List He.Fa) (fn : List He.DefD) (cs : List Cst) (K : PySem.W.Frag) : Prop := He.SaysD fa fn K ∧ noLst K = true ∧ (cs.all fun c => c.ok K) = true
def hookP (n : Nat) (fa : List He.Fa) (fn : List He.DefD) (cs : List Cst) : PySem.W.Hook where
  α := AlP
  obs := fun s => obsP n fa fn cs s.heap.get?
  val := fun _ => valP fn
  says := fun _ h => ∃ K : PySem.W.Frag, K.In h ∧ SaysP fa fn cs K
  of := fun _ _ e => ⟨_, He.frG_in, congrArg Prod.fst e, congrArg (fun z => z.2.1) e, congrArg (fun z => z.2.2) e⟩
  keeps := fun _ _ _ ⟨K, hK, c⟩ k => ⟨K, PySem.W.Frag.In.keeps hK k, c⟩
theorem obsP_eq {n : Nat} {fa : List He.Fa} {fn : List He.DefD} {cs : List Cst} {g : Addr → Option Obj} {s : Shared} (h : ∀ a, g a = s.heap.get? a) : obsP n fa fn cs g = (hookP n fa fn cs).obs s := by
  have e : g = s.heap.get? := funext h
  rw [e] <;> rfl
theorem fun_ofD {K : PySem.W.Frag} {x : Str} {st : Stmt} {f : Addr} {fd : FuncData} (F : FunD K x x (defArgs st) (defBody st) (defScope st) [] [] f fd) : L2.Fun K x x st f fd := by
  obtain ⟨oc, od, dV, kV, doc, pm, an, cdv, ct, osl, rfl, lk, hcd, hD, _⟩ := F.ex
  rcases hD with ⟨_, rfl⟩ | ⟨e, _⟩
  · exact ⟨⟨oc, od, kV, doc, pm, an, cdv, ct, osl, rfl, lk, hcd⟩, F.kp⟩
  · exact absurd rfl e
/-- a def of the top, as the head tells it -/
def dOf (x : Str) (st : Stmt) : He.DefD := ⟨(x, none), x, x, defArgs st, defBody st, defScope st, [], []⟩
theorem law_sp {K : PySem.W.Frag} {XR : XRT} {fl : Lvl} {g : Fn} (hg : ∀ ns : List Int, ns.length ≤ 63 → g [.list (ns.map .int)] = .ok (.bool true) []) (hK : noLst K = true) {H : Hp} {a : Addr} {ns : List Int} (hl : ns.length ≤ 63) (hS : SqL K H a (ns.map V.int)) :
    spF K XR fl [false] g [.ref a] H (fun v _ => v = .bl true) fun _ _ _ => False := by
  have hr : Rd H a (.lst (ns.map V.int)) := hS.resolve_right fun ⟨o, its, n, h1, h2, _⟩ => noLst_at hK h1 h2
  have all : ∀ l : List Int, RpAll K H (fun _ => False) (l.map V.int) (l.map PyData.int) := fun l => by
    induction l with
    | nil => exact .nil
    | cons x r ih => exact .cons (.int x) ih
  refine ⟨fun _ => False, [.list (ns.map .int)], fun _ z => z.elim, .val (.lst hr (fun z => z) (all ns)) .nil, List.nodup_nil, fun _ z => (by cases z), ?_⟩
  rw [hg ns hl]
  intro v H' _ r _
  cases fl with
  | bor => exact (show RpC K H' (fun _ => False) v (.bool true) from r).bool
  | saf => exact (RpC.of (show Rp K H' (fun _ => False) v (.bool true) from r)).bool
  | fre => exact (RpC.of (show Rp K H' (fun _ => False) v (.bool true) from r)).bool

/-! what the head tells, in one -/
structure Fx (fa : List He.Fa) (fn : List He.DefD) (cs : List Cst) (K : PySem.W.Frag) (mg : Str → Option Value) : Prop where
  says : SaysP fa fn cs K
  there : ∃ h : Heap, K.In h ∧ h.Ns mainGlobals mg
section
variable {fa : List He.Fa} {fn : List He.DefD} {cs : List Cst} {K : PySem.W.Frag} {mg : Str → Option Value}
theorem Fx.def_ (Z : Fx fa fn cs K mg) (i j : Nat) {x : Str} {st : Stmt} (h : fn[i]? = some (dOf x st)) (hg : fa[j]? = some (.glo x)) : ∃ f fd, L2.Fun K x x st f fd ∧ mg x = some (.ref f) := by
  obtain ⟨fd, F⟩ := Z.says.1.def_ i h
  obtain ⟨hp, X, N⟩ := Z.there
  exact ⟨_, fd, fun_ofD F, He.glo_ok X N (Z.says.1.fact j hg)⟩
theorem Fx.free (Z : Fx fa fn cs K mg) (j : Nat) {x : Str} (h : fa[j]? = some (.free x)) : mg x = none := by
  obtain ⟨hp, X, N⟩ := Z.there
  exact He.free_ok X N (Z.says.1.fact j h)
theorem Fx.cint (Z : Fx fa fn cs K mg) (j : Nat) {x : Str} {i : Int} (h : cs[j]? = some (.int x i)) : ∃ t, mg x = some (.int i t) := by
  obtain ⟨hp, X, N⟩ := Z.there
  exact He.int_ok X N (List.all_eq_true.mp Z.says.2.2 _ (List.mem_of_getElem? h))
theorem Fx.cstr (Z : Fx fa fn cs K mg) (j : Nat) {x z : Str} (h : cs[j]? = some (.str x z)) : ∃ t, mg x = some (.str z t) := by
  obtain ⟨hp, X, N⟩ := Z.there
  exact He.str_ok X N (List.all_eq_true.mp Z.says.2.2 _ (List.mem_of_getElem? h))
theorem Fx.ctup (Z : Fx fa fn cs K mg) (j : Nat) {x : Str} {vs : List Str} (h : cs[j]? = some (.tup x vs)) : ∃ a, mg x = some (.ref a) ∧ ∀ H, SqT K H a (vs.map V.str) := by
  obtain ⟨hp, X, N⟩ := Z.there
  obtain ⟨h1, h2⟩ := Bool.and_eq_true_iff.mp (List.all_eq_true.mp Z.says.2.2 _ (List.mem_of_getElem? h))
  refine ⟨_, He.glo_ok X N h1, fun H => ?_⟩
  have := He.tupB_ok h2 H
  rwa [List.map_map] at this
end
section
variable {X : Cx} {G : Amb} {pos : Pos}
theorem j_glI {x : Str} {i : Int} (hg : Gl X x) (hm : ∃ t, X.mg x = some (.int i t)) (hd : (x == ("__debug__" : Str)) = false := by decide) : J X G true .fre (.Name x pos) (ret (.int i)) := by
  obtain ⟨t, h⟩ := hm
  exact j_cst (pe_glob hg h (v := .int i) ⟨t, rfl⟩ hd) fun _ _ => .int i
theorem j_glS {x z : Str} (hg : Gl X x) (hm : ∃ t, X.mg x = some (.str z t)) (hz : PyData.strOk z = true) (hd : (x == ("__debug__" : Str)) = false := by decide) : J X G true .fre (.Name x pos) (ret (.str z)) := by
  obtain ⟨t, h⟩ := hm
  exact j_cst (pe_glob hg h (v := .str z) ⟨t, rfl⟩ hd) fun _ _ => .str z hz
theorem strs_rp {K : PySem.W.Frag} {H : Hp} {N : Addr → Prop} : ∀ {vs : List Str}, vs.all PyData.strOk = true → RpAll K H N (vs.map V.str) (vs.map PyData.str)
  | [], _ => .nil
  | _ :: _, h => by
    have h' := Bool.and_eq_true_iff.mp h
    exact .cons (.str _ h'.1) (strs_rp h'.2)
theorem j_glT {x : Str} {vs : List Str} (hg : Gl X x) (hm : ∃ a, X.mg x = some (.ref a) ∧ ∀ H, SqT X.K H a (vs.map V.str)) (hz : vs.all PyData.strOk = true) (hd : (x == ("__debug__" : Str)) = false := by decide) : J X G true .fre (.Name x pos) (ret (.tuple (vs.map PyData.str))) := by
  obtain ⟨a, h, hs⟩ := hm
  exact j_cst (pe_glob hg h (v := .ref a) rfl hd) fun H _ => .tup (hs H) (strs_rp hz)
end
section
variable {P : Program} {w : World} {K : PySem.W.Frag} {mg : Str → Option Value} {base : Heap}
theorem fn_bot {XR : XRT} {x : Str} {st : Stmt} {f : Addr} {fd : FuncData} {N ps : List Str} {k : Nat} {io : List Bool} {fl : Lvl} (F : L2.Fun K x x st f fd) (hm : mg x = some (.ref f)) (hbd : Binds K fd ps []) (S : FnScope N ps (defScope st)) (hn : ps.length = io.length) :
    FnI P w K mg base CX0 XR x (k + 1) fl io (fun _ => .no) := by
  refine ⟨⟨f, fd, ps, fnG_of F S (fun vs H Q E h => ?_) fun cdv A outer s H vs Q E hgd hr h => ?_, hm, F.kp, hbd⟩, fun _ _ => rfl⟩
  · obtain ⟨N1, ds, _, r, _⟩ := h
    rw [r.length, hn]
  · obtain ⟨N1, ds, _, _, _, _, h⟩ := h
    exact h.elim
end
def tcm (m : M D) : M Bool := bnd m fun d => lft (bolD d)
section
variable {X : Cx} {G : Amb} {pa pb : Bool} {la lb fl : Lvl} {a b : Expr} {fa fb : M D} {pos p' p2 : Pos} {x : Str}
theorem js_putG (k : Nat) (hu : X.A.units + 1 < cLine) (ho : PE X (.Name x p') (tVar k)) (hi : J X G pa la a fa) (hv : J X G pb lb b fb) (hl : lb.safe = true := by rfl) (hs : swapsWithSole [.Subscript (.Name x p') a p2] b pos.line X.env = pure false := by rfl)
    (hw : swappedStores [.Subscript (.Name x p') a p2] b X.env = pure none := by rfl) (h1 : (assignEach [.Subscript (.Name x p') a p2] X.env).map (·.2) = [assign (.Subscript (.Name x p') a p2) X.env] := by rfl)
    (ha : ∀ v, assign (.Subscript (.Name x p') a p2) X.env v = (do
      let ov ← holding [v] (eval (.Name x p') X.env)
      let iv ← holding [v, ov] (eval a X.env)
      standAt p2
      holding [v, ov, iv] (setItem ov iv v)
      release [v, ov, iv] []) := by intro _; rfl) : JS X G fl (.Assign [.Subscript (.Name x p') a p2] b pos) (putS k fa fb) :=
  js_put k hu ho hi hv hl hs hw h1 (pg_sub ho hi (PSet_or set_list (set_dict hu)) ha)
end
/-- the law's end -/
theorem law_walk {l : PySem.W.OpenLaw} {q : Program} {loose : List Str} {XP : (Str → Option Value) → Heap → Prop} {d : DefRec} {fa : List He.Fa} {fn : List He.DefD} {cs : List Cst} {XR : XRT} {fl : Lvl} {g : Fn} {k i j : Nat} {st : Stmt}
    (hn : l.most = some 63) (hdf : d.params.defaults = []) (hname : d.name = ("law" : Str)) (hr : Room k callerA)
    (hfn : fn[i]? = some (dOf "law" st)) (hfa : fa[j]? = some (.glo "law"))
    (hbd : ∀ (kV doc pm : Value) (an : Option Addr) (cdv ct : Value) (us : List Value), us.length = 1 → bindArgs (PySem.W.fnOf "law" "law" (defArgs st) (defBody st) (defScope st) .none kV doc pm an cdv ct) ⟨us, []⟩ = pure ((["script"] : List Str).zip us))
    (F : ∀ (w : World) (K : PySem.W.Frag) (mg : Str → Option Value) (base : Heap), Fx fa fn cs K mg → ∀ (f : Addr) (fd : FuncData), L2.Fun K "law" "law" st f fd → FnG l.prog w K mg base CX0 k f fd ["script"] (spF K XR fl [false] g))
    (hg : ∀ ns : List Int, ns.length ≤ 63 → g [.list (ns.map .int)] = .ok (.bool true) []) : PySem.W.WalkO q loose XP (hookP 4 fa fn cs).says l.row.toRowW d [] (fun f vs => PySem.call f vs) := by
  refine Att.attach_call hn hdf fun w s0 s1 mg mb a o pm0 cd doc0 b vs ns T Y ho hd hcd hmg0 hobj hints hlen gz => ?_
  obtain ⟨K, KX, c⟩ := Y
  rw [hname] at hmg0
  have Z : Fx fa fn cs K mg := ⟨c, s1.heap, KX, T.T.g⟩
  obtain ⟨f, fd, F1, hm⟩ := Z.def_ i j hfn hfa
  have e : f = a := by
    rw [hm] at hmg0
    cases hmg0; rfl
  subst e
  obtain ⟨oc, od, kV, doc, pm, an, cdv, ct, osl, e2, lk, hcd⟩ := F1.ex
  refine lawG KX T.T.g T.T.b T.T.builtins T.T.nolimit gz hobj hints (Nat.le_trans hlen (by decide)) hr (fun base _ _ => F w K mg base Z f fd F1) (fun s u => ?_) fun H hO hS => law_sp hg c.2.1 hlen hS
  subst e2
  exact .of_eq (hbd kV doc pm an cdv ct [u] rfl)
end PV
namespace PV
open PySem PySem.Spec

/-! the machine of data, step by step -/
section
variable {α β : Type} {e e1 e2 : EnvD} {i j k : Nat} {m a b c : M D} {d x y z : D} {f g : Sm} {r r1 : M (List D)} {ds es : List D} {t ta tb : M Bool} {kb : Bool}
theorem sq_nx (h : f e = .nx e1) : sq f g e = g e1 := by unfold sq; rw [h]
theorem sq_rt (h : f e = .rt d e1) : sq f g e = .rt d e1 := by unfold sq; rw [h]
theorem thenS_ok {α : Type} {m : M α} {x : α} {k : α → Sm} (h : m e = .ok x e1) : thenS m k e = k x e1 := by unfold thenS; rw [h]
theorem bnd_ok {m : M α} {x : α} {k : α → M β} (h : m e = .ok x e1) : bnd m k e = k x e1 := by unfold bnd; rw [h]
theorem rdS_ok (h : e[i]? = some (.shr d)) : rdS i e = .ok d e := by unfold rdS; rw [h]
theorem rdB_ok (h : e[i]? = some (.own d)) : rdB i e = .ok d e := by unfold rdB; rw [h]
theorem rdF_ok (h : e[i]? = some (.own d)) : rdF i e = .ok d (e.set i (.shr d)) := by unfold rdF; rw [h]
theorem op1_ok {g : D → Option D} (h : m e = .ok x e1) (hg : g x = some z) : op1 g m e = .ok z e1 := by unfold op1; rw [bnd_ok h, hg]; rfl
theorem op2_ok {g : D → D → Option D} (h : a e = .ok x e1) (h2 : b e1 = .ok y e2) (hg : g x y = some z) : op2 g a b e = .ok z e2 := by unfold op2; rw [bnd_ok h, bnd_ok h2, hg]; rfl
theorem ifE_t {a b : M α} (h : t e = .ok true e1) : ifE t a b e = a e1 := by unfold ifE; rw [bnd_ok h]; rfl
theorem ifE_f {a b : M α} (h : t e = .ok false e1) : ifE t a b e = b e1 := by unfold ifE; rw [bnd_ok h]; rfl
theorem ifS_t (h : t e = .ok true e1) : ifS t f g e = f e1 := by unfold ifS; rw [thenS_ok h]; rfl
theorem ifS_f (h : t e = .ok false e1) : ifS t f g e = g e1 := by unfold ifS; rw [thenS_ok h]; rfl
theorem tcm_ok (h : m e = .ok (.bool kb) e1) : tcm m e = .ok kb e1 := by unfold tcm; rw [bnd_ok h]; rfl
theorem tru_ok (h : m e = .ok d e1) (hd : truD d = some kb) : tru m e = .ok kb e1 := by unfold tru; rw [bnd_ok h, hd]; rfl
theorem notT_ok (h : t e = .ok kb e1) : notT t e = .ok (!kb) e1 := by unfold notT; rw [bnd_ok h]; rfl
theorem andT_t (h : ta e = .ok true e1) : andT ta tb e = tb e1 := by unfold andT; rw [bnd_ok h]; rfl
theorem andT_f (h : ta e = .ok false e1) : andT ta tb e = .ok false e1 := by unfold andT; rw [bnd_ok h]; rfl
theorem orT_t (h : ta e = .ok true e1) : orT ta tb e = .ok true e1 := by unfold orT; rw [bnd_ok h]; rfl
theorem orT_f (h : ta e = .ok false e1) : orT ta tb e = tb e1 := by unfold orT; rw [bnd_ok h]; rfl
theorem andV_t (h : a e = .ok (.bool true) e1) : andV a b e = b e1 := by unfold andV; rw [bnd_ok h]; rfl
theorem andV_f (h : a e = .ok (.bool false) e1) : andV a b e = .ok (.bool false) e1 := by unfold andV; rw [bnd_ok h]; rfl
theorem orV_t (h : a e = .ok (.bool true) e1) : orV a b e = .ok (.bool true) e1 := by unfold orV; rw [bnd_ok h]; rfl
theorem orV_f (h : a e = .ok (.bool false) e1) : orV a b e = b e1 := by unfold orV; rw [bnd_ok h]; rfl
theorem consA_ok (h : a e = .ok x e1) (h2 : r e1 = .ok ds e2) : consA a r e = .ok (x :: ds) e2 := by unfold consA; rw [bnd_ok h, bnd_ok h2]; rfl
theorem nilA_ok : nilA e = .ok [] e := rfl
theorem tupE_ok (h : r e = .ok ds e1) (hl : ds.length ≤ sizeLine) : tupE r e = .ok (.tuple ds) e1 := by unfold tupE; rw [bnd_ok h, if_pos hl]; rfl
theorem lstE_ok (h : r e = .ok ds e1) (hl : ds.length ≤ sizeLine) : lstE r e = .ok (.list ds) e1 := by unfold lstE; rw [bnd_ok h, if_pos hl]; rfl
theorem callD_ok {g : List D → Option D} (h : r e = .ok ds e1) (hg : g ds = some z) : callD g r e = .ok z e1 := by unfold callD; rw [bnd_ok h, hg]; rfl
theorem cal_ok {g : Fn} {ios : List D} (h : r e = .ok ds e1) (hg : g ds = .ok z ios) : cal g r e = .ok z e1 := by unfold cal; rw [bnd_ok h]; unfold frM; rw [hg]
theorem setS_ok (h : m e = .ok d e1) : setS i m e = .nx (e1.set i (.shr d)) := by unfold setS; rw [thenS_ok h]
theorem setO_ok (h : m e = .ok d e1) : setO i m e = .nx (e1.set i (ownC d)) := by unfold setO; rw [thenS_ok h]
theorem rtn_ok (h : m e = .ok d e1) : rtn m e = .rt d e1 := by unfold rtn; rw [thenS_ok h]
/-- f(w, e): w handed on, the i-th slot -/
theorem calH1_ok {g : Fn} {w w' : D} (h : e[i]? = some (.own w)) (ha : r e = .ok ds e1) (h1 : e1[i]? = some (.own w)) (hj : ∀ e, fillH (ds.map fun _ => none) ds e = some ds) (hg : g (w :: ds) = .ok z [w']) (hp : ∀ e, putH (ds.map fun _ => none) [] e = some e) :
    calH g (some i :: ds.map fun _ => none) (holeA i r) e = .ok z (e1.set i (.own w')) := by
  unfold calH
  have h2 : holeA i r e = .ok (.none :: ds) e1 := by
    unfold holeA
    rw [h]
    show bnd r (fun ds => PV.ret (PyData.none :: ds)) e = _
    rw [bnd_ok ha]; rfl
  rw [bnd_ok h2]
  have h3 : fillH (some i :: ds.map fun _ => none) (.none :: ds) e1 = some (w :: ds) := by
    show (match e1[i]? with | some (.own d) => (fillH (ds.map fun _ => none) ds e1).map (d :: ·) | _ => none) = _
    rw [h1]
    show (fillH (ds.map fun _ => none) ds e1).map (w :: ·) = _
    rw [hj]; rfl
  simp only [h3, hg]
  have h4 : putH (some i :: ds.map fun _ => none) [w'] e1 = some (e1.set i (.own w')) := hp _
  rw [h4]
end

/-! loops -/
section
variable {t : Tg} {dead vs : List Nat} {body : Sm} {m : M (List D)} {e e1 : EnvD} {ds : List D} {tt : M Bool} {te : M D}
theorem frL_ind (Inv : Nat → EnvD → Prop) (Q : Out → Prop) (hs : ∀ (i : Nat) (d : D) (e : EnvD), ds[i]? = some d → Inv i e → ∃ e2, bindT t d (wip dead e) = some e2 ∧ (match body e2 with
      | .nx e3 => Inv (i + 1) e3
      | .ct e3 => Inv (i + 1) e3
      | .bk e3 => Q (.nx (wip dead e3))
      | .rt d e3 => Q (.rt d e3)
      | .exc x e3 => Q (.exc x e3)
      | .no => False)) (hz : ∀ e, Inv ds.length e → Q (.nx (wip dead e))) : ∀ (e : EnvD), Inv 0 e → Q (frL t dead body ds e) := by
  have key : ∀ (n : Nat) (i : Nat) (e : EnvD), ds.length - i = n → i ≤ ds.length → Inv i e → Q (frL t dead body (ds.drop i) e) := by
    intro n
    induction n with
    | zero =>
      intro i e h1 h2 h3
      have : i = ds.length := by omega
      subst this
      rw [List.drop_length]
      exact hz e h3
    | succ n ih =>
      intro i e h1 h2 h3
      have hi : i < ds.length := by omega
      rw [List.drop_eq_getElem_cons hi]
      obtain ⟨e2, q1, q2⟩ := hs i ds[i] e (List.getElem?_eq_getElem hi) h3
      unfold frL
      rw [q1]
      simp only
      cases eb : body e2 with
      | nx e3 => rw [eb] at q2; exact ih (i + 1) e3 (by omega) (by omega) q2
      | ct e3 => rw [eb] at q2; exact ih (i + 1) e3 (by omega) (by omega) q2
      | bk e3 => rw [eb] at q2; exact q2
      | rt d e3 => rw [eb] at q2; exact q2
      | exc x e3 => rw [eb] at q2; exact q2
      | no => rw [eb] at q2; exact q2.elim
  intro e h
  have := key ds.length 0 e (by omega) (by omega) h
  rwa [List.drop_zero] at this
/-- a loop that runs to its end -/
theorem frS_nx (Inv : Nat → EnvD → Prop) (hm : m e = .ok ds e1) (h0 : Inv 0 e1) (hs : ∀ (i : Nat) (d : D) (e : EnvD), ds[i]? = some d → Inv i e → ∃ e2 e3, bindT t d (wip dead e) = some e2 ∧ body e2 = .nx e3 ∧ Inv (i + 1) e3) :
    ∃ e2, frS t dead m body e = .nx (wip dead e2) ∧ Inv ds.length e2 := by
  unfold frS
  rw [thenS_ok hm]
  exact frL_ind (t := t) (dead := dead) (body := body) (ds := ds) Inv (fun o => ∃ e2, o = .nx (wip dead e2) ∧ Inv ds.length e2) (fun i d e h q => by
    obtain ⟨e2, e3, h1, h2, h3⟩ := hs i d e h q
    exact ⟨e2, h1, by rw [h2]; exact h3⟩) (fun e q => ⟨e, rfl, q⟩) e1 h0
theorem lcL_map {ds : List D} {acc : List D} {e0 : EnvD} (p : D → Bool) (f : D → D) (h : ∀ d ∈ ds, ∃ e2, bindT t d e0 = some e2 ∧ tt e2 = .ok (p d) e2 ∧ (p d = true → te e2 = .ok (f d) e2) ∧ wip vs e2 = e0) :
    lcL t vs tt te ds acc e0 = .ok (acc ++ (ds.filter p).map f) e0 := by
  induction ds generalizing acc with
  | nil => simp [lcL]
  | cons d ds ih =>
    obtain ⟨e2, h1, h2, h3, h4⟩ := h d List.mem_cons_self
    unfold lcL
    rw [h1]
    simp only [h2]
    cases hp : p d with
    | true =>
      simp only [if_true, h3 hp]
      rw [h4, ih fun d hd => h d (List.mem_cons_of_mem _ hd)]
      simp [List.filter_cons, hp]
    | false =>
      simp only [Bool.false_eq_true, if_false]
      rw [h4, ih fun d hd => h d (List.mem_cons_of_mem _ hd)]
      simp [List.filter_cons, hp]
/-- [f x for x in ds if p x], nothing changed -/
theorem lcE_map (p : D → Bool) (f : D → D) (hm : m e = .ok ds e1) (hno : noOwn vs e1 = true) (hr : rst vs e1 (wip vs e1) = e1) (h : ∀ d ∈ ds, ∃ e2, bindT t d (wip vs e1) = some e2 ∧ tt e2 = .ok (p d) e2 ∧ (p d = true → te e2 = .ok (f d) e2) ∧ wip vs e2 = wip vs e1) :
    lcE t vs tt te m e = .ok (.list ((ds.filter p).map f)) e1 := by
  unfold lcE
  rw [bnd_ok hm]
  simp only [hno, if_true]
  rw [lcL_map p f h]
  simp only [List.nil_append]
  rw [hr]
theorem lcE_all (f : D → D) (hm : m e = .ok ds e1) (hno : noOwn vs e1 = true) (hr : rst vs e1 (wip vs e1) = e1) (h : ∀ d ∈ ds, ∃ e2, bindT t d (wip vs e1) = some e2 ∧ te e2 = .ok (f d) e2 ∧ wip vs e2 = wip vs e1) :
    lcE t vs yesT te m e = .ok (.list (ds.map f)) e1 := by
  have := lcE_map (t := t) (vs := vs) (tt := yesT) (te := te) (fun _ => true) f hm hno hr fun d hd => by
    obtain ⟨e2, h1, h2, h3⟩ := h d hd
    exact ⟨e2, h1, rfl, fun _ => h2, h3⟩
  rw [this]
  have e3 : ds.filter (fun _ => true) = ds := List.filter_eq_self.mpr fun _ _ => rfl
  rw [e3]
end
section
variable {t : Tg} {dead vs : List Nat} {body : Sm} {m : M (List D)} {e e1 : EnvD} {ds : List D} {tt : M Bool} {te : M D}
theorem lcL_inv {ds : List D} {acc : List D} {e0 : EnvD} (Inv : EnvD → Prop) (P : D → Prop) (h0 : Inv e0) (hs : ∀ d ∈ ds, ∀ e, Inv e → ∃ e2 y e3, bindT t d e = some e2 ∧ te e2 = .ok y e3 ∧ P y ∧ Inv (wip vs e3)) :
    ∃ out e', lcL t vs yesT te ds acc e0 = .ok (acc ++ out) e' ∧ Inv e' ∧ (∀ y ∈ out, P y) ∧ out.length = ds.length := by
  induction ds generalizing acc e0 with
  | nil => exact ⟨[], e0, by simp [lcL], h0, by simp, rfl⟩
  | cons d ds ih =>
    obtain ⟨e2, y, e3, h1, h2, h3, h4⟩ := hs d List.mem_cons_self e0 h0
    obtain ⟨out, e', g1, g2, g3, g4⟩ := ih (acc := acc ++ [y]) h4 fun d hd => hs d (List.mem_cons_of_mem _ hd)
    refine ⟨y :: out, e', ?_, g2, fun z hz => ?_, by rw [List.length_cons, g4, List.length_cons]⟩
    · unfold lcL
      rw [h1]
      simp only [yesT, PV.ret, if_true, h2]
      show lcL t vs yesT te ds (acc ++ [y]) (wip vs e3) = _
      rw [g1, List.append_assoc]; rfl
    · rcases List.mem_cons.mp hz with q | q
      · rw [q]; exact h3
      · exact g3 z q
/-- [e for x in ds], where e changes things -/
theorem lcE_inv (Inv : EnvD → Prop) (P : D → Prop) (hm : m e = .ok ds e1) (hno : noOwn vs e1 = true) (h0 : Inv (wip vs e1)) (hs : ∀ d ∈ ds, ∀ e, Inv e → ∃ e2 y e3, bindT t d e = some e2 ∧ te e2 = .ok y e3 ∧ P y ∧ Inv (wip vs e3)) :
    ∃ out e', lcE t vs yesT te m e = .ok (.list out) (rst vs e1 e') ∧ Inv e' ∧ (∀ y ∈ out, P y) ∧ out.length = ds.length := by
  obtain ⟨out, e', g1, g2, g3, g4⟩ := lcL_inv (t := t) (vs := vs) (te := te) (acc := []) Inv P h0 hs
  refine ⟨out, e', ?_, g2, g3, g4⟩
  unfold lcE
  rw [bnd_ok hm]
  simp only [hno, if_true, g1, List.nil_append]
end
theorem rngOk_of {lo hi : Int} (h1 : -4611686018427387904 ≤ lo) (h2 : lo < 4611686018427387904) (h3 : -4611686018427387904 ≤ hi) (h4 : hi < 4611686018427387904) (h5 : hi - lo ≤ 16777216) : rngOk lo hi = true := by
  unfold rngOk sizeLine
  simp only [Bool.and_eq_true, decide_eq_true_eq]
  refine ⟨⟨⟨⟨?_, ?_⟩, ?_⟩, ?_⟩, ?_⟩ <;> omega
theorem rngI1_ok {r : M (List D)} {e e1 : EnvD} {n : Int} (h : r e = .ok [.int n] e1) (h1 : -4611686018427387904 ≤ n) (h2 : n ≤ 16777216) : rngI1 r e = .ok (rngD 0 n) e1 := by
  unfold rngI1
  rw [bnd_ok h]
  have := rngOk_of (lo := 0) (hi := n) (by omega) (by omega) h1 (by omega) (by omega)
  unfold rngA1
  simp only [this, if_true]
  rfl
theorem rngI2_ok {r : M (List D)} {e e1 : EnvD} {l n : Int} (h : r e = .ok [.int l, .int n] e1) (h0 : -16777216 ≤ l) (h0' : l < 4611686018427387904) (h1 : -4611686018427387904 ≤ n) (h2 : n ≤ 0 ∨ n ≤ 16777216 + l) (h3 : n < 4611686018427387904) : rngI2 r e = .ok (rngD l n) e1 := by
  unfold rngI2
  rw [bnd_ok h]
  have := rngOk_of (lo := l) (hi := n) (by omega) (by omega) h1 (by omega) (by omega)
  unfold rngA2
  simp only [this, if_true]
  rfl
theorem rngD_nat (n : Nat) : rngD 0 (n : Int) = (List.range n).map fun (i : Nat) => PyData.int (i : Int) := by
  unfold rngD
  have : ((n : Int) - 0).toNat = n := by omega
  rw [this]
  apply List.map_congr_left
  intro i _
  simp
theorem rngD_at {lo hi : Int} {i : Nat} {d : D} (h : (rngD lo hi)[i]? = some d) : d = .int (lo + i) ∧ lo + i < hi := by
  unfold rngD at h
  rw [List.getElem?_map] at h
  cases q : (List.range (hi - lo).toNat)[i]? with
  | none => rw [q] at h; cases h
  | some j =>
    rw [q] at h
    have hj := List.getElem?_eq_some_iff.mp q
    obtain ⟨h1, h2⟩ := hj
    rw [List.getElem_range] at h2
    subst h2
    rw [List.length_range] at h1
    refine ⟨(Option.some.inj h).symm, by omega⟩
theorem rngD_len (lo hi : Int) : (rngD lo hi).length = (hi - lo).toNat := by unfold rngD; rw [List.length_map, List.length_range]
theorem rngD_mem {lo hi : Int} {d : D} (h : d ∈ rngD lo hi) : ∃ i : Int, d = .int i ∧ lo ≤ i ∧ i < hi := by
  obtain ⟨i, hi⟩ := List.getElem?_of_mem h
  obtain ⟨h1, h2⟩ := rngD_at hi
  exact ⟨_, h1, by omega, h2⟩
end PV
namespace PV
open PySem PySem.Spec PyProof.Rows L2
/-! defs that many laws have, as functions of data (printed by gen.py) -/
def q__law_draws_1 : Sm :=
 setO 2 (lstE (nilA))
def q__law_draws_2 : Sm :=
 setS 3 (ret (.int 7))
def q__law_draws_4 : Sm :=
 setS 5 (callD absD (consA (callD intD (consA (op2 ixD (rdS 0) (rdS 4)) (nilA))) (nilA)))
def q__law_draws_5 : Sm :=
 setS 3 (op2 modD (callD intD (consA (op2 addD (op2 addD (op2 mulD (rdS 3) (ret (.int 48271))) (op2 modD (rdS 5) (ret (.int 1000003)))) (rdS 4)) (nilA))) (ret (.int 65537)))
def q__law_draws_6 : Sm :=
 setS 6 (ret (.int 0))
def q__law_draws_8 : Sm :=
 setS 6 (rdS 5)
def q__law_draws_9 : Sm :=
 appS 2 (op2 modD (callD intD (consA (rdS 5) (nilA))) (ret (.int 997)))
def q__law_draws_10 : Sm :=
 appS 2 (op2 modD (op2 modD (callD intD (consA (op2 addD (op2 mulD (rdS 3) (ret (.int 69621))) (ret (.int 5))) (nilA))) (ret (.int 65521))) (ret (.int 997)))
def q__law_draws_7 : Sm :=
 ifS (tcm (op2 geD (rdS 5) (op2 powD (ret (.int 10)) (ret (.int 18)))))
 (q__law_draws_8)
 (sq (q__law_draws_9) (q__law_draws_10))
def q__law_draws_13 : Sm :=
 appS 2 (op2 modD (callD intD (consA (rdS 6) (nilA))) (ret (.int 997)))
def q__law_draws_14 : Sm :=
 setS 6 (op2 fdivD (rdS 6) (ret (.int 997)))
def q__law_draws_12 : Sm :=
 ifS (tcm (op2 gtD (rdS 6) (ret (.int 0))))
 (sq (q__law_draws_13) (q__law_draws_14))
 (nxt)
def q__law_draws_11 : Sm :=
 frS (.nm 7) [7] (rngI1 (consA (ret (.int 60)) (nilA)))
 (q__law_draws_12)
def q__law_draws_3 : Sm :=
 frS (.nm 4) [4, 5, 6, 7] (rngI1 (consA (callD lenD (consA (rdS 0) (nilA))) (nilA)))
 (sq (q__law_draws_4) (sq (q__law_draws_5) (sq (q__law_draws_6) (sq (q__law_draws_7) (q__law_draws_11)))))
def q__law_draws_16 : Sm :=
 setS 3 (op2 modD (callD intD (consA (op2 addD (op2 addD (op2 mulD (rdS 3) (ret (.int 16807))) (rdS 4)) (ret (.int 1))) (nilA))) (ret (.int 65537)))
def q__law_draws_17 : Sm :=
 appS 2 (op2 modD (callD intD (consA (rdS 3) (nilA))) (ret (.int 997)))
def q__law_draws_15 : Sm :=
 frS (.nm 4) [4] (rngI1 (consA (rdS 1) (nilA)))
 (sq (q__law_draws_16) (q__law_draws_17))
def q__law_draws_18 : Sm :=
 rtn (slE slD (rdB 2) (none) (some (rdS 1)))
def d__law_draws : Sm := sq (q__law_draws_1) (sq (q__law_draws_2) (sq (q__law_draws_3) (sq (q__law_draws_15) (q__law_draws_18))))
def f__law_draws : Fn := fnD [false, false] 8 d__law_draws
def q__law_next_1 : Sm :=
 augS iaddD 0 (ret (.str "at")) (ret (.int 1))
def q__law_next_3 : Sm :=
 rtn (ret (.int 0))
def q__law_next_2 : Sm :=
 ifS (tcm (op2 gtD (op2 ixD (rdB 0) (ret (.str "at"))) (callD lenD (consA (op2 ixD (rdB 0) (ret (.str "draws"))) (nilA)))))
 (q__law_next_3)
 (nxt)
def q__law_next_4 : Sm :=
 rtn (op2 modD (callD intD (consA (op2 ixD (op2 ixD (rdB 0) (ret (.str "draws"))) (op2 subD (op2 ixD (rdB 0) (ret (.str "at"))) (ret (.int 1)))) (nilA))) (rdS 1))
def d__law_next : Sm := sq (q__law_next_1) (sq (q__law_next_2) (q__law_next_4))
def f__law_next : Fn := fnD [true, false] 2 d__law_next
def q__law_pick_1 : Sm :=
 rtn (op2 ixD (rdS 1) (calH (f__law_next) [some 0, none] (holeA 0 (consA (callD lenD (consA (rdS 1) (nilA))) (nilA)))))
def d__law_pick : Sm := q__law_pick_1
def f__law_pick : Fn := fnD [true, false] 2 d__law_pick
def q__law_alike_3 (r__law_alike : Fn) : Sm :=
 rtn (ret (.bool false))
def q__law_alike_2 (r__law_alike : Fn) : Sm :=
 ifS (orT (notT (tru (isiE "tuple" (rdS 0)))) (tcm (op2 neD (callD lenD (consA (rdS 0) (nilA))) (callD lenD (consA (rdS 1) (nilA))))))
 (q__law_alike_3 r__law_alike)
 (nxt)
def q__law_alike_4 (r__law_alike : Fn) : Sm :=
 rtn (op2 eqD (lcE (.nm 2) [2] (notT (tru (cal (r__law_alike) (consA (op2 ixD (rdS 0) (rdS 2)) (consA (op2 ixD (rdS 1) (rdS 2)) (nilA)))))) (rdS 2) (rngI1 (consA (callD lenD (consA (rdS 1) (nilA))) (nilA)))) (lstE (nilA)))
def q__law_alike_1 (r__law_alike : Fn) : Sm :=
 ifS (tru (isiE "tuple" (rdS 1)))
 (sq (q__law_alike_2 r__law_alike) (q__law_alike_4 r__law_alike))
 (nxt)
def q__law_alike_6 (r__law_alike : Fn) : Sm :=
 rtn (op2 isD (rdS 0) (ret .none))
def q__law_alike_5 (r__law_alike : Fn) : Sm :=
 ifS (tcm (op2 isD (rdS 1) (ret .none)))
 (q__law_alike_6 r__law_alike)
 (nxt)
def q__law_alike_8 (r__law_alike : Fn) : Sm :=
 rtn (andV (isiE "bool" (rdS 0)) (op2 eqD (rdS 0) (rdS 1)))
def q__law_alike_7 (r__law_alike : Fn) : Sm :=
 ifS (tru (isiE "bool" (rdS 1)))
 (q__law_alike_8 r__law_alike)
 (nxt)
def q__law_alike_10 (r__law_alike : Fn) : Sm :=
 rtn (andV (isiE "int" (rdS 0)) (andV (notV (isiE "bool" (rdS 0))) (op2 eqD (rdS 0) (rdS 1))))
def q__law_alike_9 (r__law_alike : Fn) : Sm :=
 ifS (tru (isiE "int" (rdS 1)))
 (q__law_alike_10 r__law_alike)
 (nxt)
def q__law_alike_11 (r__law_alike : Fn) : Sm :=
 rtn (andV (isiE "str" (rdS 0)) (op2 eqD (rdS 0) (rdS 1)))
def d__law_alike (r__law_alike : Fn) : Sm := sq (q__law_alike_1 r__law_alike) (sq (q__law_alike_5 r__law_alike) (sq (q__law_alike_7 r__law_alike) (sq (q__law_alike_9 r__law_alike) (q__law_alike_11 r__law_alike))))
def f__law_alike : Nat → Fn
  | 0 => fun _ => .no
  | n + 1 => fnD [false, false] 3 (d__law_alike (f__law_alike n))
end PV
namespace PV
open PySem PySem.Spec PyProof.Rows

theorem fnD_ok {io : List Bool} {n : Nat} {b : Sm} {ds : List D} (h : ds.length = io.length) : fnD io n b ds = outF false (fxOf 0 io) (b (startE io ds ++ List.replicate (n - ds.length) .emp)) := by unfold fnD; rw [if_pos h]

/-! calls that hand w on -/
section
variable {e e1 : EnvD} {i : Nat} {g : Fn} {w w' x y z u : D} {m m2 m3 : M D}
theorem calH1 (h : e[i]? = some (.own w)) (hg : g [w] = .ok z [w']) : calH g [some i] (holeA i nilA) e = .ok z (e.set i (.own w')) := by
  unfold calH holeA
  simp only [bnd, h, nilA, PV.ret, fillH, Option.map_some, hg, putH]
theorem calH2 (h : e[i]? = some (.own w)) (ha : m e = .ok x e1) (h1 : e1[i]? = some (.own u)) (hg : g [u, x] = .ok z [w']) : calH g [some i, none] (holeA i (consA m nilA)) e = .ok z (e1.set i (.own w')) := by
  unfold calH holeA consA
  simp only [bnd, h, nilA, PV.ret, ha, fillH, h1, Option.map_some, hg, putH]
theorem calH3 {e2 : EnvD} (h : e[i]? = some (.own w)) (ha : m e = .ok x e1) (hb : m2 e1 = .ok y e2) (h1 : e2[i]? = some (.own u)) (hg : g [u, x, y] = .ok z [w']) : calH g [some i, none, none] (holeA i (consA m (consA m2 nilA))) e = .ok z (e2.set i (.own w')) := by
  unfold calH holeA consA
  simp only [bnd, h, nilA, PV.ret, ha, hb, fillH, h1, Option.map_some, hg, putH]
end

/-! the law's draws -/
def mkW (ds : List Int) (a : Int) : D := .dict [(.str "draws", .list (ds.map .int)), (.str "at", .int a)]
def WD (W : D) : Prop := ∃ (ds : List Int) (a : Int), W = mkW ds a ∧ (∀ x ∈ ds, 0 ≤ x) ∧ 0 ≤ a
theorem nx_1 (ds : List Int) (a : Int) (m : D) : q__law_next_1 [.own (mkW ds a), .shr m] = .nx [.own (mkW ds (a + 1)), .shr m] := by kernel_rfl
theorem nx_2 (ds : List Int) (a : Int) (m : D) : op2 ixD (rdB 0) (ret (.str "at")) [.own (mkW ds a), .shr m] = .ok (.int a) [.own (mkW ds a), .shr m] := by kernel_rfl
theorem nx_3 (ds : List Int) (a : Int) (m : D) : op2 ixD (rdB 0) (ret (.str "draws")) [.own (mkW ds a), .shr m] = .ok (.list (ds.map .int)) [.own (mkW ds a), .shr m] := by kernel_rfl
theorem next_ok {W : D} (h : WD W) {m : Int} (hm : 0 < m) : ∃ (r : Int) (W' : D), f__law_next [W, .int m] = .ok (.int r) [W'] ∧ WD W' ∧ 0 ≤ r ∧ r < m := by
  obtain ⟨ds, a, rfl, hd, ha⟩ := h
  have hw : WD (mkW ds (a + 1)) := ⟨ds, a + 1, rfl, hd, by omega⟩
  have e1 : f__law_next [mkW ds a, .int m] = outF false [0] (d__law_next [.own (mkW ds a), .shr (.int m)]) := rfl
  rw [e1]
  unfold d__law_next
  rw [sq_nx (nx_1 ds a _)]
  have hl : callD lenD (consA (op2 ixD (rdB 0) (ret (.str "draws"))) nilA) [.own (mkW ds (a + 1)), .shr (.int m)] = .ok (.int (ds.length : Int)) [.own (mkW ds (a + 1)), .shr (.int m)] :=
    callD_ok (consA_ok (nx_3 ds (a + 1) _) nilA_ok) (by show some (PyData.int (((ds.map PyData.int).length : Nat) : Int)) = _; rw [List.length_map])
  by_cases c : a + 1 > ds.length
  · refine ⟨0, _, ?_, hw, by omega, hm⟩
    unfold q__law_next_2
    rw [sq_rt (d := .int 0) (e1 := [.own (mkW ds (a + 1)), .shr (.int m)])]
    · rfl
    · rw [ifS_t (e1 := [.own (mkW ds (a + 1)), .shr (.int m)])]
      · rfl
      · exact tcm_ok (op2_ok (nx_2 ds (a + 1) _) hl (by show some (PyData.bool (decide ((ds.length : Int) < a + 1))) = _; rw [decide_eq_true c]))
  · have hi : a.toNat < ds.length := by omega
    refine ⟨ds[a.toNat] % m, _, ?_, hw, Int.emod_nonneg _ (by omega), Int.emod_lt_of_pos _ hm⟩
    unfold q__law_next_2
    rw [sq_nx (e1 := [.own (mkW ds (a + 1)), .shr (.int m)])]
    · unfold q__law_next_4
      rw [rtn_ok (d := .int (ds[a.toNat] % m)) (e1 := [.own (mkW ds (a + 1)), .shr (.int m)])]
      · rfl
      · refine op2_ok (callD_ok (consA_ok (op2_ok (nx_3 ds (a + 1) _) (op2_ok (nx_2 ds (a + 1) _) rfl (z := .int a) (by show some (PyData.int (a + 1 - 1)) = _; rw [Int.add_sub_cancel])) (z := .int ds[a.toNat]) ?_) nilA_ok) rfl) (rdS_ok rfl) ?_
        · show L2.atI (ds.map PyData.int) a = _
          have h3 : (ds.map PyData.int)[a.toNat]? = some (.int ds[a.toNat]) := by rw [List.getElem?_map, List.getElem?_eq_getElem hi]; rfl
          have h4 := L2.atI_nat h3
          rwa [Int.toNat_of_nonneg ha] at h4
        · show (if decide (0 < m) = true then some (PyData.int (ds[a.toNat] % m)) else none) = _
          rw [decide_eq_true hm]; rfl
    · rw [ifS_f (e1 := [.own (mkW ds (a + 1)), .shr (.int m)])]
      · rfl
      · exact tcm_ok (op2_ok (nx_2 ds (a + 1) _) hl (by show some (PyData.bool (decide ((ds.length : Int) < a + 1))) = _; rw [decide_eq_false (by omega)]))

theorem appS_ok {e : EnvD} {k : Nat} {m : M D} {ds : List D} {v : D} (h : e[k]? = some (.own (.list ds))) (hm : m e = .ok v e) (hl : ds.length < sizeLine) : appS k m e = .nx (e.set k (.own (.list (ds ++ [v])))) := by
  unfold appS
  rw [h]
  simp only
  rw [thenS_ok hm, h]
  simp only [hl, if_true]
theorem mul_ok {a b : Int} (h : -(2 ^ 64) < a ∧ a < 2 ^ 64 ∨ -(2 ^ 64) < b ∧ b < 2 ^ 64) : mulD (.int a) (.int b) = some (.int (a * b)) := by
  show (if cMulB a b = true then some (PyData.int (a * b)) else none) = _
  rw [if_pos]
  unfold cMulB
  simp only [Bool.or_eq_true, Bool.and_eq_true, decide_eq_true_eq]
  exact h
theorem mod_ok {a b : Int} (h : 0 < b) : modD (.int a) (.int b) = some (.int (a % b)) := by show (if decide (0 < b) = true then some (PyData.int (a % b)) else none) = _; rw [decide_eq_true h]; rfl
/-- the draws: no matter which, none is below 0 -/
theorem draws_ok (ns : List Int) (h : ns.length ≤ 63) (many : Int) (h0 : 0 ≤ many) (hm : many ≤ 1000) : ∃ ds : List Int, f__law_draws [.list (ns.map .int), .int many] = .ok (.list (ds.map .int)) [] ∧ ∀ x ∈ ds, 0 ≤ x := by
  have e1 : f__law_draws [.list (ns.map .int), .int many] = outF false [] (d__law_draws [.shr (.list (ns.map .int)), .shr (.int many), .emp, .emp, .emp, .emp, .emp, .emp]) := by
    unfold f__law_draws
    rw [fnD_ok (by rfl)]
    rfl
  rw [e1]
  unfold d__law_draws
  generalize hS : PyData.list (ns.map PyData.int) = S
  rw [sq_nx (show q__law_draws_1 [.shr S, .shr (.int many), .emp, .emp, .emp, .emp, .emp, .emp] = .nx [.shr S, .shr (.int many), .own (.list []), .emp, .emp, .emp, .emp, .emp] from rfl), sq_nx (show q__law_draws_2 [.shr S, .shr (.int many), .own (.list []), .emp, .emp, .emp, .emp, .emp] = .nx [.shr S, .shr (.int many), .own (.list []), .shr (.int 7), .emp, .emp, .emp, .emp] from rfl)]
  -- what stands between the rounds
  let Inv : Nat → EnvD → Prop := fun i e => ∃ (ds : List Int) (mixed : Int) (c4 c5 c6 c7 : PV.Cell), e = [.shr S, .shr (.int many), .own (.list (ds.map .int)), .shr (.int mixed), c4, c5, c6, c7] ∧ (∀ x ∈ ds, 0 ≤ x) ∧ ds.length ≤ 64 * i ∧ 0 ≤ mixed ∧ mixed < 65537
  have app : ∀ {ds : List Int} {x : Int}, (ds.map PyData.int) ++ [PyData.int x] = (ds ++ [x]).map PyData.int := fun {ds x} => by rw [List.map_append]; rfl
  have all1 : ∀ {ds : List Int} {x : Int}, (∀ y ∈ ds, 0 ≤ y) → 0 ≤ x → ∀ y ∈ ds ++ [x], 0 ≤ y := fun {ds x} h hx y hy => by
    rcases List.mem_append.mp hy with q | q
    · exact h y q
    · rw [List.mem_singleton] at q; rw [q]; exact hx
  have loop1 : ∃ e2, q__law_draws_3 [.shr S, .shr (.int many), .own (.list []), .shr (.int 7), .emp, .emp, .emp, .emp] = .nx (wip [4, 5, 6, 7] e2) ∧ Inv (rngD 0 ns.length).length e2 := by
    refine frS_nx (t := .nm 4) (dead := [4, 5, 6, 7]) Inv (ds := rngD 0 ns.length) (rngI1_ok (consA_ok (callD_ok (consA_ok (rdS_ok rfl) nilA_ok) (z := .int ns.length) ?_) nilA_ok) (by omega) (by omega)) ⟨[], 7, _, _, _, _, rfl, by simp, by simp, by omega, by omega⟩ fun i d e hd hI => ?_
    · rw [← hS]; show some (PyData.int (((ns.map PyData.int).length : Nat) : Int)) = _; rw [List.length_map]
    · obtain ⟨ds, mixed, c4, c5, c6, c7, rfl, a1, a2, a3, a4⟩ := hI
      obtain ⟨rfl, hi⟩ := rngD_at hd
      have hi' : i < ns.length := by omega
      refine ⟨[.shr S, .shr (.int many), .own (.list (ds.map .int)), .shr (.int mixed), .shr (.int (0 + i)), .emp, .emp, .emp], ?_⟩
      -- cell, mixed, rest
      have s4 : q__law_draws_4 [.shr S, .shr (.int many), .own (.list (ds.map .int)), .shr (.int mixed), .shr (.int (0 + i)), .emp, .emp, .emp] = .nx [.shr S, .shr (.int many), .own (.list (ds.map .int)), .shr (.int mixed), .shr (.int (0 + i)), .shr (.int (if ns[i] < 0 then -ns[i] else ns[i])), .emp, .emp] := by
        refine setS_ok (callD_ok (consA_ok (callD_ok (consA_ok (op2_ok (rdS_ok rfl) (rdS_ok rfl) (z := .int ns[i]) ?_) nilA_ok) rfl) nilA_ok) rfl)
        rw [← hS]
        show L2.atI (ns.map PyData.int) (0 + (i : Int)) = _
        rw [Int.zero_add]
        exact L2.atI_nat (by rw [List.getElem?_map, List.getElem?_eq_getElem hi']; rfl)
      generalize hc : (if ns[i] < 0 then -ns[i] else ns[i]) = cell at s4
      have hc0 : 0 ≤ cell := by rw [← hc]; split <;> omega
      have s5 : q__law_draws_5 [.shr S, .shr (.int many), .own (.list (ds.map .int)), .shr (.int mixed), .shr (.int (0 + i)), .shr (.int cell), .emp, .emp] = .nx [.shr S, .shr (.int many), .own (.list (ds.map .int)), .shr (.int ((mixed * 48271 + cell % 1000003 + (0 + i)) % 65537)), .shr (.int (0 + i)), .shr (.int cell), .emp, .emp] :=
        setS_ok (op2_ok (callD_ok (consA_ok (op2_ok (op2_ok (op2_ok (rdS_ok rfl) rfl (mul_ok (.inl (by omega)))) (op2_ok (rdS_ok rfl) rfl (mod_ok (by omega))) rfl) (rdS_ok rfl) rfl) nilA_ok) rfl) rfl (mod_ok (by omega)))
      generalize hmx : (mixed * 48271 + cell % 1000003 + (0 + (i : Int))) % 65537 = mx at s5
      have hm0 : 0 ≤ mx ∧ mx < 65537 := by rw [← hmx]; omega
      -- behind the if: draws, rest
      have s7 : ∃ (ds2 : List Int) (rest : Int), q__law_draws_7 [.shr S, .shr (.int many), .own (.list (ds.map .int)), .shr (.int mx), .shr (.int (0 + i)), .shr (.int cell), .shr (.int 0), .emp] = .nx [.shr S, .shr (.int many), .own (.list (ds2.map .int)), .shr (.int mx), .shr (.int (0 + i)), .shr (.int cell), .shr (.int rest), .emp] ∧ (∀ x ∈ ds2, 0 ≤ x) ∧ ds2.length ≤ ds.length + 2 ∧ 0 ≤ rest := by
        by_cases cc : (1000000000000000000 : Int) ≤ cell
        · refine ⟨ds, cell, ?_, a1, by omega, hc0⟩
          unfold q__law_draws_7
          refine Eq.trans (ifS_t (tcm_ok (op2_ok (rdS_ok rfl) (op2_ok rfl rfl (z := .int 1000000000000000000) (by kernel_rfl)) (by show some (PyData.bool (decide _)) = _; rw [decide_eq_true cc])))) ?_
          rfl
        · have b1 : 0 ≤ cell % 997 := by omega
          have b2 : 0 ≤ (mx * 69621 + 5) % 65521 % 997 := by omega
          refine ⟨ds ++ [cell % 997] ++ [(mx * 69621 + 5) % 65521 % 997], 0, ?_, all1 (all1 a1 b1) b2, by simp, by omega⟩
          unfold q__law_draws_7
          refine Eq.trans (ifS_f (tcm_ok (op2_ok (rdS_ok rfl) (op2_ok rfl rfl (z := .int 1000000000000000000) (by kernel_rfl)) (by show some (PyData.bool (decide _)) = _; rw [decide_eq_false cc])))) ?_
          have l1 : ds.length + 2 < sizeLine := by unfold sizeLine; omega
          refine Eq.trans (sq_nx (appS_ok (ds := ds.map .int) rfl (op2_ok (callD_ok (consA_ok (rdS_ok rfl) nilA_ok) rfl) rfl (mod_ok (by omega))) (by rw [List.length_map]; omega))) ?_
          rw [app]
          unfold q__law_draws_10
          refine Eq.trans (appS_ok (ds := (ds ++ [cell % 997]).map .int) rfl (op2_ok (op2_ok (callD_ok (consA_ok (op2_ok (op2_ok (rdS_ok rfl) rfl (mul_ok (.inl (by omega)))) rfl rfl) nilA_ok) rfl) rfl (mod_ok (by omega))) rfl (mod_ok (by omega))) (by rw [List.length_map, List.length_append]; show ds.length + 1 < _; omega)) ?_
          rw [app]
          rfl
      obtain ⟨ds2, rest, s7, b1, b2, b3⟩ := s7
      have loop2 : ∃ e2, q__law_draws_11 [.shr S, .shr (.int many), .own (.list (ds2.map .int)), .shr (.int mx), .shr (.int (0 + i)), .shr (.int cell), .shr (.int rest), .emp] = .nx (wip [7] e2) ∧
          ∃ (ds3 : List Int) (r : Int) (c : PV.Cell), e2 = [.shr S, .shr (.int many), .own (.list (ds3.map .int)), .shr (.int mx), .shr (.int (0 + i)), .shr (.int cell), .shr (.int r), c] ∧ (∀ x ∈ ds3, 0 ≤ x) ∧ ds3.length ≤ ds2.length + (rngD 0 60).length ∧ 0 ≤ r := by
        refine frS_nx (t := .nm 7) (dead := [7]) (fun j e2 => ∃ (ds3 : List Int) (r : Int) (c : PV.Cell), e2 = [.shr S, .shr (.int many), .own (.list (ds3.map .int)), .shr (.int mx), .shr (.int (0 + i)), .shr (.int cell), .shr (.int r), c] ∧ (∀ x ∈ ds3, 0 ≤ x) ∧ ds3.length ≤ ds2.length + j ∧ 0 ≤ r)
          (ds := rngD 0 60) (rngI1_ok (consA_ok rfl nilA_ok) (by omega) (by omega)) ⟨ds2, rest, _, rfl, b1, by omega, b3⟩ fun j d e hd hI => ?_
        obtain ⟨ds3, r, c, rfl, d1, d2, d3⟩ := hI
        obtain ⟨rfl, hj⟩ := rngD_at hd
        by_cases cr : 0 < r
        · refine ⟨_, [.shr S, .shr (.int many), .own (.list ((ds3 ++ [r % 997]).map .int)), .shr (.int mx), .shr (.int (0 + i)), .shr (.int cell), .shr (.int (r / 997)), .shr (.int (0 + j))], rfl, ?_, ds3 ++ [r % 997], r / 997, _, rfl, all1 d1 (by omega), by rw [List.length_append]; show ds3.length + 1 ≤ _; omega, by omega⟩
          unfold q__law_draws_12
          have l1 : ds3.length < sizeLine := by unfold sizeLine; omega
          refine Eq.trans (ifS_t (e1 := [.shr S, .shr (.int many), .own (.list (ds3.map .int)), .shr (.int mx), .shr (.int (0 + i)), .shr (.int cell), .shr (.int r), .shr (.int (0 + j))]) (tcm_ok (op2_ok (rdS_ok rfl) rfl (by show some (PyData.bool (decide _)) = _; rw [decide_eq_true cr])))) ?_
          refine Eq.trans (sq_nx (appS_ok (ds := ds3.map .int) rfl (op2_ok (callD_ok (consA_ok (rdS_ok rfl) nilA_ok) rfl) rfl (mod_ok (by omega))) (by rw [List.length_map]; omega))) ?_
          rw [app]
          rfl
        · refine ⟨_, [.shr S, .shr (.int many), .own (.list (ds3.map .int)), .shr (.int mx), .shr (.int (0 + i)), .shr (.int cell), .shr (.int r), .shr (.int (0 + j))], rfl, ?_, ds3, r, _, rfl, d1, by omega, d3⟩
          unfold q__law_draws_12
          refine Eq.trans (ifS_f (e1 := [.shr S, .shr (.int many), .own (.list (ds3.map .int)), .shr (.int mx), .shr (.int (0 + i)), .shr (.int cell), .shr (.int r), .shr (.int (0 + j))]) (tcm_ok (op2_ok (rdS_ok rfl) rfl (by show some (PyData.bool (decide _)) = _; rw [decide_eq_false cr])))) ?_
          rfl
      obtain ⟨e3, l2, ds3, r, c, rfl, d1, d2, d3⟩ := loop2
      refine ⟨wip [7] [.shr S, .shr (.int many), .own (.list (ds3.map .int)), .shr (.int mx), .shr (.int (0 + i)), .shr (.int cell), .shr (.int r), c], rfl, ?_, ds3, mx, _, _, _, _, rfl, d1, ?_, hm0.1, hm0.2⟩
      · rw [sq_nx s4, sq_nx s5, sq_nx (show q__law_draws_6 [.shr S, .shr (.int many), .own (.list (ds.map .int)), .shr (.int mx), .shr (.int (0 + i)), .shr (.int cell), .emp, .emp] = .nx [.shr S, .shr (.int many), .own (.list (ds.map .int)), .shr (.int mx), .shr (.int (0 + i)), .shr (.int cell), .shr (.int 0), .emp] from rfl), sq_nx s7]
        exact l2
      · rw [rngD_len] at d2
        omega
  obtain ⟨e2, l1, ds, mixed, c4, c5, c6, c7, rfl, a1, a2, a3, a4⟩ := loop1
  rw [sq_nx l1]
  rw [rngD_len] at a2
  have loop3 : ∃ e2, q__law_draws_15 [.shr S, .shr (.int many), .own (.list (ds.map .int)), .shr (.int mixed), .emp, .emp, .emp, .emp] = .nx (wip [4] e2) ∧
      ∃ (ds3 : List Int) (r : Int) (c : PV.Cell), e2 = [.shr S, .shr (.int many), .own (.list (ds3.map .int)), .shr (.int r), c, .emp, .emp, .emp] ∧ (∀ x ∈ ds3, 0 ≤ x) ∧ ds3.length ≤ ds.length + (rngD 0 many).length ∧ 0 ≤ r ∧ r < 65537 := by
    refine frS_nx (t := .nm 4) (dead := [4]) (fun j e2 => ∃ (ds3 : List Int) (r : Int) (c : PV.Cell), e2 = [.shr S, .shr (.int many), .own (.list (ds3.map .int)), .shr (.int r), c, .emp, .emp, .emp] ∧ (∀ x ∈ ds3, 0 ≤ x) ∧ ds3.length ≤ ds.length + j ∧ 0 ≤ r ∧ r < 65537)
      (ds := rngD 0 many) (rngI1_ok (consA_ok (rdS_ok rfl) nilA_ok) (by omega) (by omega)) ⟨ds, mixed, _, rfl, a1, by omega, a3, a4⟩ fun j d e hd hI => ?_
    obtain ⟨ds3, r, c, rfl, d1, d2, d3, d4⟩ := hI
    obtain ⟨rfl, hj⟩ := rngD_at hd
    generalize hmx : (r * 16807 + (0 + (j : Int)) + 1) % 65537 = mx
    have hm0 : 0 ≤ mx ∧ mx < 65537 := by rw [← hmx]; omega
    refine ⟨_, [.shr S, .shr (.int many), .own (.list ((ds3 ++ [mx % 997]).map .int)), .shr (.int mx), .shr (.int (0 + j)), .emp, .emp, .emp], rfl, ?_, ds3 ++ [mx % 997], mx, _, rfl, all1 d1 (by omega), by rw [List.length_append]; show ds3.length + 1 ≤ _; omega, hm0⟩
    have l1 : ds3.length < sizeLine := by unfold sizeLine; omega
    rw [sq_nx (e1 := [.shr S, .shr (.int many), .own (.list (ds3.map .int)), .shr (.int mx), .shr (.int (0 + j)), .emp, .emp, .emp])]
    · rw [← app]
      exact appS_ok (ds := ds3.map .int) rfl (op2_ok (callD_ok (consA_ok (rdS_ok rfl) nilA_ok) rfl) rfl (mod_ok (by omega))) (by rw [List.length_map]; omega)
    · rw [← hmx]
      exact setS_ok (op2_ok (callD_ok (consA_ok (op2_ok (op2_ok (op2_ok (rdS_ok rfl) rfl (mul_ok (.inl (by omega)))) (rdS_ok rfl) rfl) rfl rfl) nilA_ok) rfl) rfl (mod_ok (by omega)))
  obtain ⟨e4, l3, ds3, r, c, rfl, d1, d2, d3, d4⟩ := loop3
  rw [sq_nx (f := q__law_draws_15) (e := wip [4, 5, 6, 7] [.shr S, .shr (.int many), .own (.list (ds.map .int)), .shr (.int mixed), c4, c5, c6, c7]) l3]
  refine ⟨ds3.take (HT.sIx ds3.length ds3.length (some many)), ?_, fun x hx => d1 x (List.mem_of_mem_take hx)⟩
  show outF false [] (.rt (.list (cutD (ds3.map .int) none (some many))) _) = _
  have e5 : cutD (ds3.map PyData.int) none (some many) = (ds3.take (HT.sIx ds3.length ds3.length (some many))).map .int := by
    unfold cutD
    rw [List.length_map, List.map_take]
    rfl
  rw [e5]
  rfl

/-- one of the rows -/
theorem pick_ok {W : D} (h : WD W) {rows : List D} (h0 : rows ≠ []) : ∃ (i : Nat) (d : D) (W' : D), f__law_pick [W, .list rows] = .ok d [W'] ∧ WD W' ∧ rows[i]? = some d := by
  have hl : 0 < rows.length := List.length_pos_iff.mpr h0
  obtain ⟨r, W', h1, h2, h3, h4⟩ := next_ok h (m := (rows.length : Int)) (by omega)
  have hr : r.toNat < rows.length := by omega
  refine ⟨r.toNat, rows[r.toNat], W', ?_, h2, List.getElem?_eq_getElem hr⟩
  have e1 : f__law_pick [W, .list rows] = outF false [0] (d__law_pick [.own W, .shr (.list rows)]) := by
    unfold f__law_pick
    rw [fnD_ok (by rfl)]
    rfl
  rw [e1]
  have e2 : d__law_pick [.own W, .shr (.list rows)] = .rt rows[r.toNat] [.own W', .shr (.list rows)] := by
    refine rtn_ok (op2_ok (rdS_ok rfl) (calH2 rfl (callD_ok (consA_ok (rdS_ok rfl) nilA_ok) rfl) rfl h1) ?_)
    show L2.atI rows r = _
    have := L2.atI_nat (List.getElem?_eq_getElem hr)
    rwa [Int.toNat_of_nonneg h3] at this
  rw [e2]
  rfl

/-! alike -/
def plainD : Nat → D → Bool
  | 0, _ => false
  | n + 1, d => match d with
    | .none => true
    | .bool _ => true
    | .int _ => true
    | .str _ => true
    | .tuple ds => decide (ds.length ≤ 16777216) && ds.all (plainD n)
    | _ => false
theorem eqD_int (a b : Int) : eqD (.int a) (.int b) = some (.bool (a == b)) := rfl
theorem eqD_str (a b : Str) : eqD (.str a) (.str b) = some (.bool (a == b)) := rfl
theorem eqD_bool (a b : Bool) : eqD (.bool a) (.bool b) = some (.bool (a == b)) := rfl
theorem eqD_nil : eqD (.list []) (.list []) = some (.bool true) := rfl
theorem alike_refl : ∀ (n : Nat) (d : D), plainD n d = true → f__law_alike n [d, d] = .ok (.bool true) []
  | 0, _, h => by cases h
  | n + 1, d, h => by
    have e1 : f__law_alike (n + 1) [d, d] = outF false [] (d__law_alike (f__law_alike n) [.shr d, .shr d, .emp]) := rfl
    rw [e1]
    generalize hf : f__law_alike n = f
    unfold d__law_alike
    cases d with
    | none => rfl
    | bool b => 
      have : d__law_alike f [.shr (.bool b), .shr (.bool b), .emp] = .rt (.bool true) [.shr (.bool b), .shr (.bool b), .emp] := by cases b <;> rfl
      unfold d__law_alike at this
      rw [this]; rfl
    | int b =>
      have : d__law_alike f [.shr (.int b), .shr (.int b), .emp] = .rt (.bool (b == b)) [.shr (.int b), .shr (.int b), .emp] := rfl
      unfold d__law_alike at this
      rw [this, beq_self_eq_true]; rfl
    | str b =>
      have : d__law_alike f [.shr (.str b), .shr (.str b), .emp] = .rt (.bool (b == b)) [.shr (.str b), .shr (.str b), .emp] := rfl
      unfold d__law_alike at this
      rw [this, beq_self_eq_true]; rfl
    | list _ => cases h
    | dict _ => cases h
    | tuple ds =>
      have h' := Bool.and_eq_true_iff.mp (show (decide (ds.length ≤ 16777216) && ds.all (plainD n)) = true from h)
      have hl : ds.length ≤ 16777216 := of_decide_eq_true h'.1
      refine Eq.trans (congrArg _ (sq_rt (d := .bool true) (e1 := [.shr (.tuple ds), .shr (.tuple ds), .emp]) ?_)) rfl
      unfold q__law_alike_1
      refine Eq.trans (ifS_t (e1 := [.shr (.tuple ds), .shr (.tuple ds), .emp]) rfl) ?_
      have c1 : orT (notT (tru (isiE "tuple" (rdS 0)))) (tcm (op2 neD (callD lenD (consA (rdS 0) (nilA))) (callD lenD (consA (rdS 1) (nilA))))) [.shr (.tuple ds), .shr (.tuple ds), .emp] = .ok (!(((ds.length : Int)) == (ds.length : Int))) [.shr (.tuple ds), .shr (.tuple ds), .emp] := rfl
      rw [beq_self_eq_true] at c1
      refine Eq.trans (sq_nx (e1 := [.shr (.tuple ds), .shr (.tuple ds), .emp]) (ifS_f c1)) ?_
      refine rtn_ok (op2_ok (lcE_map (fun _ => false) id (ds := rngD 0 ds.length) (e1 := [.shr (.tuple ds), .shr (.tuple ds), .emp]) (rngI1_ok (consA_ok (callD_ok (consA_ok (rdS_ok rfl) nilA_ok) rfl) nilA_ok) (by omega) (by omega)) rfl rfl ?_) rfl (e2 := [.shr (.tuple ds), .shr (.tuple ds), .emp]) (y := .list []) ?_)
      · intro d hd
        obtain ⟨i, rfl, i1, i2⟩ := rngD_mem hd
        have hi : i.toNat < ds.length := by omega
        have g : ixD (.tuple ds) (.int i) = some ds[i.toNat] := by
          have := L2.atI_nat (List.getElem?_eq_getElem hi)
          rw [Int.toNat_of_nonneg i1] at this
          exact this
        refine ⟨[.shr (.tuple ds), .shr (.tuple ds), .shr (.int i)], rfl, ?_, nofun, rfl⟩
        have : f [ds[i.toNat], ds[i.toNat]] = .ok (.bool true) [] := by
          rw [← hf]
          exact alike_refl n _ (List.all_eq_true.mp h'.2 _ (List.getElem_mem hi))
        exact notT_ok (tru_ok (cal_ok (consA_ok (op2_ok (rdS_ok rfl) (rdS_ok rfl) g) (consA_ok (op2_ok (rdS_ok rfl) (rdS_ok rfl) g) nilA_ok)) this) rfl)
      · have : (rngD 0 (ds.length : Int)).filter (fun _ => false) = [] := List.filter_eq_nil_iff.mpr fun _ _ z => by cases z
        rw [this]
        rfl

/-! beside the empty list, the empty tuple -/
theorem noDicts_map {α : Type} {f : α → D} (h : ∀ x, noDict (f x) = true) : ∀ l : List α, noDicts (l.map f) = true
  | [] => rfl
  | x :: r => Bool.and_eq_true_iff.mpr ⟨h x, noDicts_map h r⟩
theorem noDicts_iff : ∀ {l : List D}, noDicts l = true ↔ ∀ d ∈ l, noDict d = true
  | [] => by simp [noDicts]
  | x :: r => by
    have := noDicts_iff (l := r)
    simp [noDicts, this]
theorem eqvAll_nil (ds : List D) : PyData.eqvAll ds [] = ds.isEmpty := by cases ds <;> rfl
theorem eqD_t0 {ds : List D} (h : noDicts ds = true) : eqD (.tuple ds) (.tuple []) = some (.bool ds.isEmpty) := by
  have : eqOk (.tuple ds) (.tuple []) = true := by
    show (noDicts ds && true && decide (min (PyData.tuple ds).depth (PyData.tuple []).depth ≤ 64)) = true
    rw [h, decide_eq_true (Nat.le_trans (Nat.min_le_right _ _) (by decide))]; rfl
  unfold eqD
  rw [if_pos this]
  show some (PyData.bool (PyData.eqvAll ds [])) = _
  rw [eqvAll_nil]
theorem neD_t0 {ds : List D} (h : noDicts ds = true) : neD (.tuple ds) (.tuple []) = some (.bool (!ds.isEmpty)) := by
  have : eqOk (.tuple ds) (.tuple []) = true := by
    show (noDicts ds && true && decide (min (PyData.tuple ds).depth (PyData.tuple []).depth ≤ 64)) = true
    rw [h, decide_eq_true (Nat.le_trans (Nat.min_le_right _ _) (by decide))]; rfl
  unfold neD
  rw [if_pos this]
  show some (PyData.bool (!PyData.eqvAll ds [])) = _
  rw [eqvAll_nil]
theorem eqD_l0 {ds : List D} (h : noDicts ds = true) : eqD (.list ds) (.list []) = some (.bool ds.isEmpty) := by
  have : eqOk (.list ds) (.list []) = true := by
    show (noDicts ds && true && decide (min (PyData.list ds).depth (PyData.list []).depth ≤ 64)) = true
    rw [h, decide_eq_true (Nat.le_trans (Nat.min_le_right _ _) (by decide))]; rfl
  unfold eqD
  rw [if_pos this]
  show some (PyData.bool (PyData.eqvAll ds [])) = _
  rw [eqvAll_nil]
theorem neD_l0 {ds : List D} (h : noDicts ds = true) : neD (.list ds) (.list []) = some (.bool (!ds.isEmpty)) := by
  have : eqOk (.list ds) (.list []) = true := by
    show (noDicts ds && true && decide (min (PyData.list ds).depth (PyData.list []).depth ≤ 64)) = true
    rw [h, decide_eq_true (Nat.le_trans (Nat.min_le_right _ _) (by decide))]; rfl
  unfold neD
  rw [if_pos this]
  show some (PyData.bool (!PyData.eqvAll ds [])) = _
  rw [eqvAll_nil]
theorem atI_neg1 {α : Type} {xs : List α} (h : xs ≠ []) : L2.atI xs (-1) = xs[xs.length - 1]? := by
  have hl : 0 < xs.length := List.length_pos_iff.mpr h
  unfold L2.atI L2.ixN
  rw [if_neg (by omega), if_pos (by omega)]
  show xs[_]? = _
  congr 1
  omega
theorem atI_map {α β : Type} (f : α → β) (xs : List α) (i : Int) : L2.atI (xs.map f) i = (L2.atI xs i).map f := by
  unfold L2.atI
  rw [List.length_map]
  cases L2.ixN xs.length i with
  | none => rfl
  | some j => show (xs.map f)[j]? = (xs[j]?).map f; rw [List.getElem?_map]
theorem cutD_map {α : Type} (f : α → D) (xs : List α) (lo hi : Option Int) : ∃ ys : List α, cutD (xs.map f) lo hi = ys.map f ∧ (∀ y ∈ ys, y ∈ xs) ∧ ys.length ≤ xs.length := by
  unfold cutD
  rw [List.length_map, ← List.map_drop, ← List.map_take]
  refine ⟨_, rfl, fun y hy => List.mem_of_mem_drop (List.mem_of_mem_take hy), ?_⟩
  rw [List.length_take, List.length_drop]; omega

theorem asgS_ok {t : Tg} {m : M D} {e e1 e2 : EnvD} {d : D} (h : m e = .ok d e1) (hb : bindT t d e1 = some e2) : asgS t m e = .nx e2 := by unfold asgS; rw [thenS_ok h, hb]
theorem dispE_cons {k v : M D} {r : List (M D × M D)} {e e1 e2 e3 : EnvD} {x y : D} {ps : List (D × D)} (hk : k e = .ok x e1) (hv : v e1 = .ok y e2) (hr : dispE r e2 = .ok ps e3) : dispE ((k, v) :: r) e = .ok ((x, y) :: ps) e3 := by
  unfold dispE
  rw [bnd_ok hk, bnd_ok hv, bnd_ok hr]
  rfl
theorem dicE_ok {prs : List (M D × M D)} {e e1 : EnvD} {es : List (D × D)} (h : dispE prs e = .ok es e1) (c : (es.all (fun e => isKey e.1) && decide (es.length ≤ 15)) = true) : dicE prs e = .ok (.dict (mergeE [] es)) e1 := by
  unfold dicE
  rw [h]
  simp only [c, if_true]
/-- w = {'draws': .., 'at': 0} -/
theorem w0_ok {m : M D} {e : EnvD} {ds : List Int} (h : m e = .ok (.list (ds.map .int)) e) : dicE [(ret (.str "draws"), m), (ret (.str "at"), ret (.int 0))] e = .ok (mkW ds 0) e :=
  Eq.trans (dicE_ok (dispE_cons rfl h (dispE_cons rfl rfl rfl)) rfl) rfl
end PV
namespace PV
open PySem PySem.Spec PyProof.Rows

/-! evaluation by simp -/
section
variable {α β : Type} (e : EnvD) (i j k : Nat) (m a b c : M D) (d x y z : D) (f g : Sm) (r r1 : M (List D)) (t ta tb : M Bool)
@[simp] theorem ev_ret (x : α) : ret x e = .ok x e := rfl
@[simp] theorem ev_bnd (m : M α) (k : α → M β) : bnd m k e = (match m e with
  | .ok a e1 => k a e1
  | .exc x e1 => .exc x e1
  | .no => .no) := rfl
@[simp] theorem ev_lft_some (x : α) : lft (some x) e = .ok x e := rfl
@[simp] theorem ev_rdS : rdS i e = (match e[i]? with
  | some (PV.Cell.shr d) => .ok d e
  | _ => .no) := rfl
@[simp] theorem ev_rdB : rdB i e = (match e[i]? with
  | some (PV.Cell.shr d) => .ok d e
  | some (PV.Cell.own d) => .ok d e
  | _ => .no) := rfl
@[simp] theorem ev_rdF : rdF i e = (match e[i]? with
  | some (PV.Cell.shr d) => .ok d e
  | some (PV.Cell.own d) => .ok d (e.set i (.shr d))
  | _ => .no) := rfl
@[simp] theorem ev_op1 (g : D → Option D) : op1 g m e = (match m e with
  | .ok a e1 => lft (g a) e1
  | .exc x e1 => .exc x e1
  | .no => .no) := by
  unfold op1 bnd; cases m e <;> rfl
@[simp] theorem ev_op2 (g : D → D → Option D) : op2 g a b e = (match a e with
  | .ok x e1 => (match b e1 with
    | .ok y e2 => lft (g x y) e2
    | .exc x e1 => .exc x e1
    | .no => .no)
  | .exc x e1 => .exc x e1
  | .no => .no) := by
  unfold op2 bnd; cases a e with
  | ok x e1 => first | (simp only []; done) | (simp only []; cases b e1 <;> rfl)
  | exc _ _ => rfl
  | no => rfl
@[simp] theorem ev_ifE (a b : M α) : ifE t a b e = (match t e with
  | .ok c e1 => if c = true then a e1 else b e1
  | .exc x e1 => .exc x e1
  | .no => .no) := by unfold ifE bnd; cases t e with | ok c e1 => cases c <;> rfl | exc _ _ => rfl | no => rfl
@[simp] theorem ev_nilA : nilA e = .ok [] e := rfl
@[simp] theorem ev_consA : consA a r e = (match a e with
  | .ok x e1 => (match r e1 with
    | .ok xs e2 => .ok (x :: xs) e2
    | .exc x e1 => .exc x e1
    | .no => .no)
  | .exc x e1 => .exc x e1
  | .no => .no) := by
  unfold consA bnd; cases a e with
  | ok x e1 => first | (simp only []; done) | (simp only []; cases r e1 <;> rfl)
  | exc _ _ => rfl
  | no => rfl
@[simp] theorem ev_tupE : tupE r e = (match r e with
  | .ok ds e1 => if ds.length ≤ sizeLine then .ok (.tuple ds) e1 else .no
  | .exc x e1 => .exc x e1
  | .no => .no) := by unfold tupE bnd; cases r e with
    | ok ds e1 => by_cases h : ds.length ≤ sizeLine <;> simp [h, lft]
    | exc _ _ => rfl
    | no => rfl
@[simp] theorem ev_lstE : lstE r e = (match r e with
  | .ok ds e1 => if ds.length ≤ sizeLine then .ok (.list ds) e1 else .no
  | .exc x e1 => .exc x e1
  | .no => .no) := by unfold lstE bnd; cases r e with
    | ok ds e1 => by_cases h : ds.length ≤ sizeLine <;> simp [h, lft]
    | exc _ _ => rfl
    | no => rfl
@[simp] theorem ev_callD (g : List D → Option D) : callD g r e = (match r e with
  | .ok ds e1 => lft (g ds) e1
  | .exc x e1 => .exc x e1
  | .no => .no) := by
  unfold callD bnd; cases r e <;> rfl
@[simp] theorem ev_cal (g : Fn) : cal g r e = (match r e with
  | .ok ds e1 => (match g ds with
    | .ok d _ => .ok d e1
    | .exc x => .exc x e1
    | .no => .no)
  | .exc x e1 => .exc x e1
  | .no => .no) := by
  unfold cal bnd frM; cases r e with
  | ok x e1 => first | (simp only []; done) | (simp only []; cases g x <;> rfl)
  | exc _ _ => rfl
  | no => rfl
@[simp] theorem ev_holeA : holeA i r e = (match e[i]? with
  | some (PV.Cell.own _) => (match r e with
    | .ok ds e1 => .ok (.none :: ds) e1
    | .exc x e1 => .exc x e1
    | .no => .no)
  | _ => .no) := by
  unfold holeA bnd; cases e[i]? with
  | none => rfl
  | some c => cases c with
    | own d => first | (simp only []; done) | (simp only []; cases r e <;> rfl)
    | _ => rfl
@[simp] theorem ev_calH (g : Fn) (js : List (Option Nat)) : calH g js r e = (match r e with
  | .ok ds e1 => (match fillH js ds e1 with
    | none => .no
    | some ds' => match g ds' with
      | .ok d ios => (match putH js ios e1 with
        | some e' => .ok d e'
        | none => .no)
      | _ => .no)
  | .exc x e1 => .exc x e1
  | .no => .no) := by
  unfold calH bnd; cases r e with
  | ok x e1 => first | (simp only []; done) | (simp only []; cases fillH js x e1 with
    | none => rfl
    | some y => first | (simp only []; done) | (simp only []; cases g y with
      | ok d ios => first | (simp only []; done) | (simp only []; cases putH js ios e1 <;> rfl)
      | exc _ => rfl
      | no => rfl))
  | exc _ _ => rfl
  | no => rfl
@[simp] theorem ev_tcm : tcm m e = (match m e with
  | .ok (.bool k) e1 => .ok k e1
  | .exc x e1 => .exc x e1
  | _ => .no) := by unfold tcm bnd; cases m e with
    | ok d e1 => cases d <;> rfl
    | exc _ _ => rfl
    | no => rfl
@[simp] theorem ev_tru : tru m e = (match m e with
  | .ok d e1 => lft (truD d) e1
  | .exc x e1 => .exc x e1
  | .no => .no) := by
  unfold tru bnd; cases m e <;> rfl
@[simp] theorem ev_notT : notT t e = (match t e with
  | .ok k e1 => .ok (!k) e1
  | .exc x e1 => .exc x e1
  | .no => .no) := by
  unfold notT bnd; cases t e <;> rfl
@[simp] theorem ev_andT : andT ta tb e = (match ta e with
  | .ok k e1 => if k = true then tb e1 else .ok false e1
  | .exc x e1 => .exc x e1
  | .no => .no) := by unfold andT bnd; cases ta e with | ok c e1 => cases c <;> rfl | exc _ _ => rfl | no => rfl
@[simp] theorem ev_orT : orT ta tb e = (match ta e with
  | .ok k e1 => if k = true then .ok true e1 else tb e1
  | .exc x e1 => .exc x e1
  | .no => .no) := by unfold orT bnd; cases ta e with | ok c e1 => cases c <;> rfl | exc _ _ => rfl | no => rfl
@[simp] theorem ev_andV : andV a b e = (match a e with
  | .ok (.bool k) e1 => if k = true then b e1 else .ok (.bool false) e1
  | .exc x e1 => .exc x e1
  | _ => .no) := by
  unfold andV bnd
  cases a e with
  | ok d e1 => cases d with
    | bool k => cases k <;> rfl
    | _ => rfl
  | exc _ _ => rfl
  | no => rfl
@[simp] theorem ev_orV : orV a b e = (match a e with
  | .ok (.bool k) e1 => if k = true then .ok (.bool true) e1 else b e1
  | .exc x e1 => .exc x e1
  | _ => .no) := by
  unfold orV bnd
  cases a e with
  | ok d e1 => cases d with
    | bool k => cases k <;> rfl
    | _ => rfl
  | exc _ _ => rfl
  | no => rfl
@[simp] theorem ev_notV : notV a e = (match a e with
  | .ok (.bool k) e1 => .ok (.bool (!k)) e1
  | .exc x e1 => .exc x e1
  | _ => .no) := by
  unfold notV bnd
  cases a e with
  | ok d e1 => cases d <;> rfl
  | exc _ _ => rfl
  | no => rfl
@[simp] theorem ev_isiE (T : String) : isiE T m e = (match m e with
  | .ok d e1 => .ok (.bool (isT T d)) e1
  | .exc x e1 => .exc x e1
  | .no => .no) := by
  unfold isiE bnd; cases m e <;> rfl
@[simp] theorem ev_setS : setS i m e = (match m e with
  | .ok d e1 => .nx (e1.set i (.shr d))
  | .exc x e1 => .exc x e1
  | .no => .no) := by
  unfold setS thenS; cases m e <;> rfl
@[simp] theorem ev_setO : setO i m e = (match m e with
  | .ok d e1 => .nx (e1.set i (ownC d))
  | .exc x e1 => .exc x e1
  | .no => .no) := by
  unfold setO thenS; cases m e <;> rfl
@[simp] theorem ev_rtn : rtn m e = (match m e with
  | .ok d e1 => .rt d e1
  | .exc x e1 => .exc x e1
  | .no => .no) := by
  unfold rtn thenS; cases m e <;> rfl
@[simp] theorem ev_nxt : nxt e = .nx e := rfl
@[simp] theorem ev_sq : sq f g e = (match f e with
  | .nx e1 => g e1
  | o => o) := by
  unfold sq; cases f e <;> rfl
@[simp] theorem ev_ifS : ifS t f g e = (match t e with
  | .ok k e1 => if k = true then f e1 else g e1
  | .exc x e1 => .exc x e1
  | .no => .no) := by unfold ifS thenS; cases t e with | ok c e1 => cases c <;> rfl | exc _ _ => rfl | no => rfl
@[simp] theorem ev_asgS (tg : Tg) : asgS tg m e = (match m e with
  | .ok d e1 => (match bindT tg d e1 with
    | some e2 => .nx e2
    | none => .no)
  | .exc x e1 => .exc x e1
  | .no => .no) := by
  unfold asgS thenS; cases m e with
  | ok d e1 => first | (simp only []; done) | (simp only []; cases bindT tg d e1 <;> rfl)
  | exc _ _ => rfl
  | no => rfl
@[simp] theorem isT_tuple (ds : List D) : isT "tuple" (.tuple ds) = true := rfl
end
section
variable (a b : Int) (d v : D) (ds es : List D) (i : Nat) (is : List Nat) (t : Tg) (ts : List Tg) (e : EnvD) (x y : Str) (p q : Bool) (js : List (Option Nat))
@[simp] theorem ev_addI : addD (.int a) (.int b) = some (.int (a + b)) := rfl
@[simp] theorem ev_subI : subD (.int a) (.int b) = some (.int (a - b)) := rfl
@[simp] theorem ev_negI : negD (.int a) = some (.int (-a)) := rfl
@[simp] theorem ev_invI : invD (.int a) = some (.int (Builtin.bitNot a)) := rfl
@[simp] theorem ev_xorI : xorD (.int a) (.int b) = some (.int (Builtin.bitXor a b)) := rfl
@[simp] theorem ev_andI : andD (.int a) (.int b) = some (.int (Builtin.bitAnd a b)) := rfl
@[simp] theorem ev_orI : orD (.int a) (.int b) = some (.int (Builtin.bitOr a b)) := rfl
@[simp] theorem ev_bindN : bindT (.nm i) d e = some (e.set i (.shr d)) := rfl
@[simp] theorem ev_bindP : bindT (.tp ts) (.tuple ds) e = bindTs ts ds e := rfl
@[simp] theorem ev_bindT0 : bindTs [] [] e = some e := rfl
@[simp] theorem ev_bindT1 : bindTs (t :: ts) (d :: ds) e = (match bindT t d e with
  | some e1 => bindTs ts ds e1
  | none => none) := rfl
@[simp] theorem ev_fill0 : fillH [] [] e = some [] := rfl
@[simp] theorem ev_fillN : fillH (none :: js) (d :: ds) e = (fillH js ds e).map (d :: ·) := rfl
@[simp] theorem ev_fillS : fillH (some i :: js) (d :: ds) e = (match e[i]? with
  | some (PV.Cell.own d) => (fillH js ds e).map (d :: ·)
  | _ => none) := rfl
@[simp] theorem ev_put0 : putH [] [] e = some e := rfl
@[simp] theorem ev_putN : putH (none :: js) ds e = putH js ds e := by cases ds <;> rfl
@[simp] theorem ev_putS : putH (some i :: js) (d :: ds) e = putH js ds (e.set i (.own d)) := rfl
@[simp] theorem ev_wip0 : wip [] e = e := rfl
@[simp] theorem ev_wip1 : wip (i :: is) e = wip is (e.set i .emp) := rfl
@[simp] theorem ev_eqI : eqD (.int a) (.int b) = some (.bool (a == b)) := rfl
@[simp] theorem ev_neI : neD (.int a) (.int b) = some (.bool (!(a == b))) := rfl
@[simp] theorem ev_eqS : eqD (.str x) (.str y) = some (.bool (x == y)) := rfl
@[simp] theorem ev_neS : neD (.str x) (.str y) = some (.bool (!(x == y))) := rfl
@[simp] theorem ev_eqB : eqD (.bool p) (.bool q) = some (.bool (p == q)) := rfl
@[simp] theorem ev_ltI : ltD (.int a) (.int b) = some (.bool (decide (a < b))) := rfl
@[simp] theorem ev_leI : leD (.int a) (.int b) = some (.bool (decide (a ≤ b))) := rfl
@[simp] theorem ev_gtI : gtD (.int a) (.int b) = some (.bool (decide (b < a))) := rfl
@[simp] theorem ev_geI : geD (.int a) (.int b) = some (.bool (decide (b ≤ a))) := rfl
@[simp] theorem ev_isN : isD d .none = some (.bool (isNone d)) := rfl
@[simp] theorem ev_notN : notD d .none = some (.bool (!isNone d)) := rfl
@[simp] theorem ev_isNone : isNone .none = true := rfl
@[simp] theorem ev_isNoneI : isNone (.int a) = false := rfl
@[simp] theorem ev_isNoneT : isNone (.tuple ds) = false := rfl
@[simp] theorem ev_isNoneS : isNone (.str x) = false := rfl
@[simp] theorem ev_truB : truD (.bool p) = some p := rfl
@[simp] theorem ev_lenT : lenD [.tuple ds] = some (.int ds.length) := rfl
@[simp] theorem ev_lenL : lenD [.list ds] = some (.int ds.length) := rfl
@[simp] theorem ev_intI : intD [.int a] = some (.int a) := rfl
@[simp] theorem ev_tupL : tupD [.list ds] = some (.tuple ds) := rfl
@[simp] theorem ev_tupT : tupD [.tuple ds] = some (.tuple ds) := rfl
@[simp] theorem ev_lisL : lisD [.list ds] = some (.list ds) := rfl
@[simp] theorem ev_lisT : lisD [.tuple ds] = some (.list ds) := rfl
@[simp] theorem ev_ixT : ixD (.tuple ds) (.int a) = L2.atI ds a := rfl
@[simp] theorem ev_ixL : ixD (.list ds) (.int a) = L2.atI ds a := rfl
@[simp] theorem ev_atI0 : L2.atI (d :: ds) 0 = some d := L2.atI_nat (j := 0) rfl
@[simp] theorem ev_atI1 : L2.atI (v :: d :: ds) 1 = some d := L2.atI_nat (j := 1) rfl
end
theorem lift_list {α : Type} {enc : α → D} {Q : α → Prop} : ∀ {out : List D}, (∀ y ∈ out, ∃ x, y = enc x ∧ Q x) → ∃ l : List α, out = l.map enc ∧ l.length = out.length ∧ ∀ x ∈ l, Q x
  | [], _ => ⟨[], rfl, rfl, fun _ z => by cases z⟩
  | y :: r, h => by
    obtain ⟨x, rfl, hx⟩ := h y List.mem_cons_self
    obtain ⟨l, rfl, h2, h3⟩ := lift_list (enc := enc) (Q := Q) (out := r) fun z hz => h z (List.mem_cons_of_mem _ hz)
    refine ⟨x :: l, rfl, by rw [List.length_cons, h2, List.length_cons], fun z hz => ?_⟩
    rcases List.mem_cons.mp hz with q | q
    · rw [q]; exact hx
    · exact h3 z q
theorem rst_wip1 (i : Nat) (e : EnvD) : rst [i] e (wip [i] e) = e := by
  unfold rst wip
  cases h : e[i]? with
  | none =>
    simp only [wip, rst]
    exact List.set_eq_of_length_le (by have := List.getElem?_eq_none_iff.mp h; omega)
  | some c =>
    simp only [wip, rst]
    rw [List.set_set]
    apply List.ext_getElem?
    intro j
    by_cases hj : i = j
    · subst hj
      have hl := lt_of_some h
      rw [List.getElem?_set_self hl, h]
    · rw [List.getElem?_set_ne hj]
section
variable {i : Nat} {te : M D} {tt : M Bool} {m : M (List D)} {e e1 : EnvD} {ds : List D}
/-- [f d for d in ds if p d], by one name, nothing changed -/
theorem lc1f (p : D → Bool) (f : D → D) (hm : m e = .ok ds e1) (hno : noOwn [i] e1 = true) (h : ∀ d ∈ ds, tt (e1.set i (.shr d)) = .ok (p d) (e1.set i (.shr d)) ∧ (p d = true → te (e1.set i (.shr d)) = .ok (f d) (e1.set i (.shr d)))) :
    lcE (.nm i) [i] tt te m e = .ok (.list ((ds.filter p).map f)) e1 :=
  lcE_map p f hm hno (rst_wip1 i e1) fun d hd => ⟨e1.set i (.shr d), by show some ((e1.set i .emp).set i (.shr d)) = _; rw [List.set_set], (h d hd).1, (h d hd).2, by show (e1.set i (.shr d)).set i .emp = e1.set i .emp; rw [List.set_set]⟩
theorem lc1 (f : D → D) (hm : m e = .ok ds e1) (hno : noOwn [i] e1 = true) (h : ∀ d ∈ ds, te (e1.set i (.shr d)) = .ok (f d) (e1.set i (.shr d))) :
    lcE (.nm i) [i] yesT te m e = .ok (.list (ds.map f)) e1 :=
  lcE_all f hm hno (rst_wip1 i e1) fun d hd => ⟨e1.set i (.shr d), by show some ((e1.set i .emp).set i (.shr d)) = _; rw [List.set_set], h d hd, by show (e1.set i (.shr d)).set i .emp = e1.set i .emp; rw [List.set_set]⟩
theorem bools_map (p : D → Bool) : ∀ l : List D, boolsD (l.map fun d => .bool (p d)) = some (l.map p)
  | [] => rfl
  | x :: r => by show (boolsD (r.map fun d => PyData.bool (p d))).map (p x :: ·) = _; rw [bools_map p r]; rfl
theorem allD_map (p : D → Bool) (l : List D) : allD [.list (l.map fun d => .bool (p d))] = some (.bool (l.all p)) := by
  show (boolsD (l.map fun d => PyData.bool (p d))).map (fun bs => PyData.bool (bs.all id)) = _
  rw [bools_map, Option.map_some, List.all_map]; rfl
theorem anyD_map (p : D → Bool) (l : List D) : anyD [.list (l.map fun d => .bool (p d))] = some (.bool (l.any p)) := by
  show (boolsD (l.map fun d => PyData.bool (p d))).map (fun bs => PyData.bool (bs.any id)) = _
  rw [bools_map, Option.map_some, List.any_map]; rfl
/-- all([p d for d in ds]) -/
theorem all1 (p : D → Bool) (hm : m e = .ok ds e1) (hno : noOwn [i] e1 = true) (h : ∀ d ∈ ds, te (e1.set i (.shr d)) = .ok (.bool (p d)) (e1.set i (.shr d))) :
    callD allD (consA (lcE (.nm i) [i] yesT te m) nilA) e = .ok (.bool (ds.all p)) e1 := callD_ok (consA_ok (lc1 (fun d => .bool (p d)) hm hno h) nilA_ok) (allD_map p ds)
theorem any1 (p : D → Bool) (hm : m e = .ok ds e1) (hno : noOwn [i] e1 = true) (h : ∀ d ∈ ds, te (e1.set i (.shr d)) = .ok (.bool (p d)) (e1.set i (.shr d))) :
    callD anyD (consA (lcE (.nm i) [i] yesT te m) nilA) e = .ok (.bool (ds.any p)) e1 := callD_ok (consA_ok (lc1 (fun d => .bool (p d)) hm hno h) nilA_ok) (anyD_map p ds)
/-- a loop whose outcome is known step by step: a step goes on, or the whole returns -/
theorem frS_all {i : Nat} {dead : List Nat} {m : M (List D)} {body : Sm} {e0 e1 : EnvD} {ds : List D} (p : D → Bool) (r : D) (hm : m e0 = .ok ds e1) (hw : wip dead e1 = e1) (hi : i ∈ dead) (h : ∀ d ∈ ds, (p d = true → ∃ e2, body (e1.set i (.shr d)) = .nx e2 ∧ wip dead e2 = e1) ∧ (p d = false → ∃ e2, body (e1.set i (.shr d)) = .rt r e2)) :
    (ds.all p = true → frS (.nm i) dead m body e0 = .nx e1) ∧ (ds.all p = false → ∃ e2, frS (.nm i) dead m body e0 = .rt r e2) := by
  unfold frS
  rw [thenS_ok hm]
  have key : ∀ (ds : List D) (e : EnvD), wip dead e = e1 → (∀ d ∈ ds, (p d = true → ∃ e2, body (e1.set i (.shr d)) = .nx e2 ∧ wip dead e2 = e1) ∧ (p d = false → ∃ e2, body (e1.set i (.shr d)) = .rt r e2)) →
      (ds.all p = true → frL (.nm i) dead body ds e = .nx e1) ∧ (ds.all p = false → ∃ e2, frL (.nm i) dead body ds e = .rt r e2) := by
    intro ds
    induction ds with
    | nil => exact fun e he _ => ⟨fun _ => (by unfold frL; rw [he]), nofun⟩
    | cons d ds ih =>
      intro e he h
      obtain ⟨h1, h2⟩ := h d List.mem_cons_self
      have hb : bindT (.nm i) d (wip dead e) = some (e1.set i (.shr d)) := by rw [he]; rfl
      cases hp : p d with
      | true =>
        obtain ⟨e2, g1, g2⟩ := h1 hp
        have := ih e2 g2 fun d hd => h d (List.mem_cons_of_mem _ hd)
        unfold frL
        rw [hb]
        simp only [g1, List.all_cons, hp, Bool.true_and]
        exact this
      | false =>
        obtain ⟨e2, g1⟩ := h2 hp
        unfold frL
        rw [hb]
        simp only [g1, List.all_cons, hp, Bool.false_and]
        exact ⟨nofun, fun _ => ⟨e2, rfl⟩⟩
  exact key ds e1 hw h
end
theorem eqD_n0 {d : D} (h : noDict d = true) : eqD d (.tuple []) = some (.bool (match d with
    | .tuple ds => ds.isEmpty
    | _ => false)) := by
  have : eqOk d (.tuple []) = true := by
    unfold eqOk
    rw [h, decide_eq_true (Nat.le_trans (Nat.min_le_right _ _) (by decide))]; rfl
  unfold eqD
  rw [if_pos this]
  cases d with
  | tuple ds => show some (PyData.bool (PyData.eqvAll ds [])) = _; rw [eqvAll_nil]
  | _ => rfl
theorem neD_n0 {d : D} (h : noDict d = true) : neD d (.tuple []) = some (.bool (match d with
    | .tuple ds => !ds.isEmpty
    | _ => true)) := by
  have : eqOk d (.tuple []) = true := by
    unfold eqOk
    rw [h, decide_eq_true (Nat.le_trans (Nat.min_le_right _ _) (by decide))]; rfl
  unfold neD
  rw [if_pos this]
  cases d with
  | tuple ds => show some (PyData.bool (!PyData.eqvAll ds [])) = _; rw [eqvAll_nil]
  | _ => rfl
end PV
namespace PV
open PySem PySem.Spec PyProof.Rows L2

/-! sorted -/
def neTup : D → Bool
  | .tuple (_ :: _) => true
  | _ => false
def noTup : D → Bool
  | .tuple _ => false
  | .none => false
  | _ => true
def sortOk (ds : List D) : Bool := noDicts ds && ((ds.all fun a => ds.all fun b => PySem.W.alike a b) && ((ds.all neTup || ds.all noTup) && (ds.all (fun d => decide (d.depth ≤ 60)))))
def dLe (a b : D) : Bool := PySem.W.dataLe false (fun d : D => d) a b
def insD (x : D) : List D → List D
  | [] => [x]
  | y :: r => if dLe x y = true then x :: y :: r else y :: insD x r
def srtD : List D → List D
  | [] => []
  | x :: r => insD x (srtD r)
def seqOf : List D → Option (List D)
  | [.list ds] => some ds
  | [.tuple ds] => some ds
  | _ => none
def sorD (as : List D) : Option D := (seqOf as).bind fun ds => if sortOk ds = true then some (.list (ds.mergeSort dLe)) else none
theorem sortable_of {ds : List D} (h : (ds.all neTup || ds.all noTup) = true) : PySem.W.Sortable ds := by
  rcases Bool.or_eq_true_iff.mp h with h | h
  · refine .inl fun d hd => ?_
    have := List.all_eq_true.mp h d hd
    cases d with
    | tuple xs => cases xs with
      | nil => cases this
      | cons x r => exact ⟨x, r, rfl⟩
    | _ => cases this
  · refine .inr fun d hd => ?_
    have := List.all_eq_true.mp h d hd
    refine ⟨fun e => ?_, fun xs e => ?_⟩
    · subst e; cases this
    · subst e; cases this
section
variable {K : PySem.W.Frag} {H : Hp} {N : Addr → Prop}
theorem each_of {R : Value → V × D → Prop} : ∀ {xs : List V} {ds : List D} {its : List Value}, Vals xs its → RpAll K H N xs ds → (∀ x v d, d ∈ ds → RelV x v → Rp K H N x d → R v (x, d)) → PySem.W.EachIs R its (xs.zip ds)
  | [], [], _, .nil, .nil, _ => .nil
  | _ :: _, _ :: _, _, .cons r rs, .cons h hs, g => .cons (g _ _ _ List.mem_cons_self r h) (each_of rs hs fun x v d hd r h => g x v d (List.mem_cons_of_mem _ hd) r h)
theorem each_back : ∀ {ps : List (V × D)} {out : List Value}, PySem.W.EachIs (fun v (b : V × D) => RelV b.1 v ∧ Rp K H N b.1 b.2) out ps → Vals (ps.map (·.1)) out ∧ RpAll K H N (ps.map (·.1)) (ps.map (·.2))
  | [], _, .nil => ⟨.nil, .nil⟩
  | _ :: _, _, .cons h r => ⟨.cons h.1 (each_back r).1, .cons h.2 (each_back r).2⟩
theorem zip_snd : ∀ {xs : List V} {ds : List D}, RpAll K H N xs ds → (xs.zip ds).map (·.2) = ds
  | _, _, .nil => rfl
  | _, _, .cons _ r => congrArg (_ :: ·) (zip_snd r)
theorem RpAll.len : ∀ {xs : List V} {ds : List D}, RpAll K H N xs ds → xs.length = ds.length
  | _, _, .nil => rfl
  | _, _, .cons _ r => congrArg (· + 1) (RpAll.len r)
end
end PV
namespace PV
open PySem PySem.Calls PySem.Spec PyProof.Rows L2

/-! sorted over a tuple -/
section
variable {prog : Program} {w : World} {A : Around} {E : Value → Shared → Prop} {s : Shared}
/-- what the shell of sorted gathers from a tuple, an object of kind T -/
theorem gather_tup {l : Addr} {vs : List Value} {Q : List Value → Shared → Prop} {o : Obj} {n : Nat} (ho : s.heap.get? l = some o) (hc : o.cls = .type "tuple") (hd : o.data = .seq vs.toArray n) (hz : vs.length ≤ sizeLine)
    (h : Q vs { s with heap := (s.heap.push (seqObj "list" #[] 0)).update s.heap.objs.size (Obj.mapSeq (· ++ vs.toArray)) }) : wpAny (model prog w) A (collect (.ref l)) Q E s := by
  unfold collect; refine wpAny_bind (wpAny_runValue (codeAny_builtin entry_proto_collect' ?_))
  show wpAny _ _ (do again (.builtin "list.__iadd__" ⟨[← newList [], .ref l], []⟩)) _ _ _
  refine wpAny_bind (wpAny_newList (wpAny_pure ⟨Code.quiet_builtin _ (by decide +kernel), codeAny_builtin entry_list_iadd' ?_⟩)); show wpAny _ _ (Builtin.List.listExtendWith (.ref s.heap.objs.size) (.ref l) (.ref s.heap.objs.size)) _ _ _
  unfold Builtin.List.listExtendWith; have hb : (s.heap.push (seqObj "list" #[] 0)).get? l = some o := Heap.get?_push_of_some _ ho
  refine wpAny_bind (wpAny_typeOf (T := "tuple") ⟨o, hb, hc⟩ ?_); have hq : (Value.type "tuple" == Value.type "tuple") = true := by rfl
  rw [if_pos (by rw [hq]; simp)]; refine wpAny_bind (listItems_at hb hd ?_); refine wpAny_bind (listItems_at (xs := #[]) (n := 0) (Heap.get?_push_size _ rfl) rfl ?_)
  rw [if_neg (by simp)]; refine wpAny_bind (listUpdate_at (xs := #[]) (n := 0) (Heap.get?_push_size _ rfl) rfl ?_ (Nat.zero_le _) (by show (#[] ++ vs.toArray).size ≤ sizeLine + 1; simp only [Array.size_append, List.size_toArray, List.length_nil]; omega)); refine wpAny_pure ?_
  show wpAny (model prog w) A (do let o ← load s.heap.objs.size; match o.data with | .seq xs _ => pure xs.toList | _ => unsupported "internal:collect") Q E _
  refine wpAny_bind (wpAny_load (get?_update_seq (Heap.get?_push_size _ rfl) _) ?_); show wpAny _ _ (pure ((#[] : Array Value) ++ vs.toArray).toList) Q E _
  rw [show ((#[] : Array Value) ++ vs.toArray).toList = vs by simp]; exact wpAny_pure h
/-- sorted of what the shell gathers as vs, data -/
theorem sorted_gath {β : Type} {vs : List Value} {bs : List β} {enc : β → PyData} {R : Value → β → Prop} {l : Addr} {Q : Value → Shared → Prop}
    (col : ∀ (A : Around) (E : Value → Shared → Prop) (Q : List Value → Shared → Prop), Q vs { s with heap := (s.heap.push (seqObj "list" #[] 0)).update s.heap.objs.size (Obj.mapSeq (· ++ vs.toArray)) } → wpAny (model prog w) A (collect (.ref l)) Q E s)
    (e : PySem.W.EachIs R vs bs) (er : PySem.W.EachIs (fun v b => ∃ as, Reads s.heap v (enc b) as) vs bs) (hal : PySem.W.AllAlike (bs.map enc)) (hk : PySem.W.Sortable (bs.map enc)) (hL : bs.length ≤ sizeLine) (hu : ∀ b, b ∈ bs → A.units + 2 + (enc b).depth < cLine)
    (h : ∀ out, out.length = bs.length → PySem.W.EachIs R out (bs.mergeSort (PySem.W.dataLe false enc)) → Q (.ref (s.heap.objs.size + 1)) { s with heap := sortedAll s.heap vs (List.toArray out) }) : wpAny (model prog w) A (call (.builtin "sorted") [.ref l]) Q E s := by
  have hv : vs.length ≤ sizeLine := by rw [e.length]; exact hL
  have er2 : PySem.W.EachIs (fun v b => ∃ as, Reads (PySem.W.sortingHeap (PySem.W.copyHeap s.heap vs) (s.heap.objs.size + 1) vs) v (enc b) as) vs bs := er.mono fun _ _ ⟨as, r⟩ => ⟨as, PyProof.Rows.Reads.keeps (fun _ _ => PySem.W.sorting_copy_old) r⟩
  refine call_function_entry_kw kind_sorted plain_sorted entry_sorted (args_sorted1 _) ?_; unfold Builtin.«sorted»
  refine wpAny_bind (m := checkCount "sorted" 1 1 _) (wpAny_pure (wpAny_bind (col _ _ _ (wpAny_bind (wpAny_newList ?_ hv)))))
  have z1 : ((s.heap.push (seqObj "list" #[] 0)).update s.heap.objs.size (Obj.mapSeq (· ++ vs.toArray))).objs.size = s.heap.objs.size + 1 := by rw [Heap.size_update, size_push']
  show wpAny _ _ _ _ _ { s with heap := PySem.W.copyHeap s.heap vs }; rw [z1]
  refine wpAny_bind (wpAny_holding (wpAny_call_entry_kw slot_list_sort ⟨_, PySem.W.copyHeap_at s.heap vs, rfl⟩ entry_list_sort ?_ (args_list_sort _))); show wpAny (model prog w) A.in1.in1 (Builtin.«list.sort» ⟨[.ref (s.heap.objs.size + 1)], []⟩) _ _ _
  refine PySem.W.list_sort_vals (s := { s with heap := PySem.W.copyHeap s.heap vs }) (PySem.W.copyHeap_at s.heap vs) (PySem.W.SortsAt.data (s := { s with heap := PySem.W.sortingHeap (PySem.W.copyHeap s.heap vs) (s.heap.objs.size + 1) vs }) (PySem.W.each_map (R := fun v d => ∃ as, Reads (PySem.W.sortingHeap (PySem.W.copyHeap s.heap vs) (s.heap.objs.size + 1) vs) v d as) enc er2) hal hk (PySem.W.bound_map hu)) hv ?_
  exact ⟨_, rfl, wpAny_pure ⟨_, rfl, h _ (by rw [PySem.W.sortVals_length false rfl]; exact e.length) (PySem.W.sortVals_data false e er2 hal)⟩⟩
end
section
variable {X : Cx}
theorem oc_sorted (hu : X.A.units + 64 < cLine) : CallR X (.builtin "sorted") (rC X.K .fre sorD) := by
  intro pins s σ H vs us Q I r ⟨N, as, d, dom, rr, e, q⟩
  have key : ∀ (ds : List D) (a : Addr) (xs : List V) (its : List Value), vs = [.ref a] → RpAll X.K H N xs ds → Vals xs its → xs.length ≤ sizeLine →
      (∀ (A : Around) (E : Value → Shared → Prop) (Q : List Value → Shared → Prop), Q its { s with heap := (s.heap.push (seqObj "list" #[] 0)).update s.heap.objs.size (Obj.mapSeq (· ++ its.toArray)) } → wpAny (model X.prog X.w) A (collect (.ref a)) Q E s) →
      (if sortOk ds = true then some (PyData.list (ds.mergeSort dLe)) else none) = some d → wpAny (model X.prog X.w) X.A (call (.builtin "sorted") us) (fun v s' => EP X pins σ Q v s') X.xe s := by
    intro ds a xs its hvs h2 rv hz col e
    subst hvs
    obtain ⟨c, rfl⟩ := if_some e
    unfold sortOk at c
    simp only [Bool.and_eq_true] at c
    obtain ⟨c1, c2, c3, c4⟩ := c
    rw [Vals.ref1 r]
    have nd := noDicts_iff.mp c1
    have e1 : PySem.W.EachIs (fun v (b : V × D) => RelV b.1 v ∧ Rp X.K H N b.1 b.2) its (xs.zip ds) := each_of rv h2 fun x v d _ r h => ⟨r, h⟩
    have e2 : PySem.W.EachIs (fun v (b : V × D) => ∃ as, Reads s.heap v b.2 as) its (xs.zip ds) := each_of rv h2 fun x v d hd r h => Dp.reads I d x v ((RpC.of h).dp (nd d hd)) r
    have es := zip_snd h2
    have hl : (xs.zip ds).length ≤ sizeLine := by rw [← List.length_map (f := fun b : V × D => b.2), es, ← RpAll.len h2]; exact hz
    refine sorted_gath (enc := fun b : V × D => b.2) (bs := xs.zip ds) col e1 e2 ?_ ?_ hl ?_ fun out ho hout => ?_
    · rw [es]
      exact fun d hd d' hd' => List.all_eq_true.mp (List.all_eq_true.mp c2 d hd) d' hd'
    · rw [es]; exact sortable_of c3
    · intro b hb
      have hm : b.2 ∈ ds := by rw [← es]; exact List.mem_map_of_mem hb
      have := of_decide_eq_true (List.all_eq_true.mp c4 _ hm)
      omega
    · obtain ⟨k1, k2⟩ := each_back hout
      have em : (((xs.zip ds).mergeSort (PySem.W.dataLe false fun b : V × D => b.2)).map (·.2)) = ds.mergeSort dLe := by
        refine (List.map_mergeSort (r := PySem.W.dataLe false fun b : V × D => b.2) (s := dLe) (f := fun b : V × D => b.2) (fun a _ b _ => rfl)).trans ?_
        rw [es]
      rw [em] at k2
      obtain ⟨ep, he'⟩ := PyProof.Rows.sortedAll_at s.heap its out.toArray
      have hlen : (((xs.zip ds).mergeSort (PySem.W.dataLe false fun b : V × D => b.2)).map (·.1)).length ≤ sizeLine := by
        rw [List.length_map, List.length_mergeSort]; exact hl
      have hn : H (s.heap.objs.size + 1) = none := I.hok.fresh (Nat.le_succ _)
      exact ⟨.ref _, upd H (s.heap.objs.size + 1) (.lst _), I.laid (t' := s.toks) (fun _ _ => PyProof.Rows.sortedAll_old) (Nat.le_succ _) ⟨hlen, out, ep, k1, he'⟩, rfl,
        q _ _ (same_new hn) ⟨_, _, rfl, hn, upd_same, k2.new hn⟩⟩
  match as, e with
  | [.list ds], e =>
    obtain ⟨v, rfl, cl⟩ := rr.one
    obtain ⟨a, xs, rfl, h1, h2⟩ := cl.list
    obtain ⟨its, rv, hl, hz⟩ := I.list (.inl h1)
    exact key ds a xs its rfl h2 rv hz (fun A E Q h => collect_list hl.isList h (by rw [← rv.length]; exact hz)) e
  | [.tuple ds], e =>
    obtain ⟨v, rfl, cl⟩ := rr.one
    obtain ⟨a, xs, rfl, h1, h2⟩ := cl.tuple
    obtain ⟨its, rv, hl, hz⟩ := I.tuple h1
    obtain ⟨o, ho, hc, n, hd⟩ := hl
    exact key ds a xs its rfl h2 rv hz (fun A E Q h => gather_tup ho hc hd (by rw [← rv.length]; exact hz) h) e
end
end PV
namespace PV
open PySem PySem.Spec PyProof.Rows L2

/-! dict(pairs), dict(d) -/
def pairD : D → Option (D × D)
  | .tuple [k, v] => if isKey k = true then some (k, v) else none
  | _ => none
def pairsD : List D → Option (List (D × D))
  | [] => some []
  | d :: r => (pairD d).bind fun p => (pairsD r).map (p :: ·)
def dicD : List D → Option D
  | [.list ps] => (pairsD ps).map fun es => .dict (mergeE [] es)
  | [.dict es] => some (.dict es)
  | _ => none
section
variable {K : PySem.W.Frag} {H : Hp} {N : Addr → Prop}
theorem pairs_of : ∀ {xs : List V} {ps : List D} {es : List (D × D)}, RpAll K H N xs ps → pairsD ps = some es → ∃ (as : List Addr) (kvs : List (Key × V)), xs = as.map V.ref ∧ Paired (fun p (kv : Key × V) => SqT K H p [kV kv.1, kv.2]) as kvs ∧ RpKV K H N kvs es
  | _, _, _, .nil, e => by cases e; exact ⟨[], [], rfl, .nil, .nil⟩
  | _, d :: ps, es, .cons h r, e => by
    have e1 : ((pairD d).bind fun p => (pairsD ps).map (p :: ·)) = some es := e
    cases q : pairD d with
    | none => rw [q] at e1; cases e1
    | some p =>
      rw [q] at e1
      cases q2 : pairsD ps with
      | none => rw [q2] at e1; cases e1
      | some rs =>
        rw [q2] at e1
        cases e1
        obtain ⟨as, kvs, rfl, g1, g2⟩ := pairs_of r q2
        cases d with
        | tuple ds =>
          match ds, q with
          | [k, v], q =>
            obtain ⟨c, rfl⟩ := if_some (show (if isKey k = true then some (k, v) else none) = some p from q)
            cases h with
            | tup h1 h2 =>
              cases h2 with
              | cons ha hb =>
                cases hb with
                | cons hb hc =>
                  cases hc
                  obtain ⟨k1, rfl, rfl⟩ := key_of_D (RpC.of ha) c
                  exact ⟨_ :: as, (k1, _) :: kvs, rfl, .cons h1 g1, .cons hb g2⟩
        | _ => cases q
end
theorem RpKV.new {K : PySem.W.Frag} {H : Hp} {N : Addr → Prop} {a : Addr} {o : HO} {kvs : List (Key × V)} {es : List (D × D)} (h : RpKV K H N kvs es) (hn : H a = none) : RpKV K (upd H a o) (fun b => N b ∨ b = a) kvs es := by
  have s : Same H (upd H a o) := same_new hn
  refine h.fwd ⟨fun b x e _ => s b x e, fun b x e _ => s b x e, fun b z n => ?_⟩
  rcases z with z | z
  · exact absurd z n
  · rw [z]; exact hn
variable {X : Cx}
theorem oc_dict (hc : X.calm = true) : CallR X (.type "dict") (rC X.K .fre dicD) := callr_mono ((call_dictP hc).or call_dictD) fun xs H Q ⟨N, as, d, dom, rr, e, q⟩ => by
  match as, e with
  | [.list ps], e =>
    obtain ⟨v, rfl, cl⟩ := rr.one
    obtain ⟨a, ys, rfl, h1, h2⟩ := cl.list
    have e1 : ((pairsD ps).map fun es => PyData.dict (mergeE [] es)) = some d := e
    cases q2 : pairsD ps with
    | none => rw [q2] at e1; cases e1
    | some es =>
      rw [q2] at e1
      cases e1
      obtain ⟨rs, kvs, rfl, g1, g2⟩ := pairs_of h2 q2
      refine .inl ⟨a, rs, kvs, rfl, .inl h1, g1, fun p hn => q _ _ (same_new hn) ⟨p, _, rfl, hn, upd_same, ?_⟩⟩
      exact (merge_rp (g2.new hn) .nil)
  | [.dict es], e =>
    obtain ⟨v, rfl, cl⟩ := rr.one
    cases e
    obtain ⟨a, kvs, rfl, h1, h2⟩ := cl.dict
    exact .inr ⟨a, kvs, rfl, h1, fun p hn => q _ _ (same_new hn) ⟨p, _, rfl, hn, upd_same, h2.new hn⟩⟩
end PV
namespace PV
open PySem PySem.Calls PySem.Spec PyProof.Rows L2

/-! sets of keys of one kind, walked -/
theorem each_perm {α β : Type} {R : α → β → Prop} {as as' : List α} {bs : List β} (h : PySem.W.EachIs R as bs) (p : as'.Perm as) : ∃ bs' : List β, bs'.Perm bs ∧ PySem.W.EachIs R as' bs' := by
  induction p generalizing bs with
  | nil => exact ⟨bs, .refl _, h⟩
  | cons x p ih =>
    cases h with
    | cons h1 h2 =>
      obtain ⟨bs', g1, g2⟩ := ih h2
      exact ⟨_ :: bs', g1.cons _, .cons h1 g2⟩
  | swap x y l =>
    cases h with
    | cons h1 h2 => cases h2 with
      | cons h3 h4 => exact ⟨_ :: _ :: _, List.Perm.swap .., .cons h3 (.cons h1 h4)⟩
  | trans p q ih1 ih2 =>
    obtain ⟨b1, g1, g2⟩ := ih2 h
    obtain ⟨b2, g3, g4⟩ := ih1 g2
    exact ⟨b2, g3.trans g1, g4⟩
section
variable {P : Program} {w : World} {κ : Type} [DecidableEq κ] (knd : KeyKind P w κ)
/-- an entry stands for a key -/
def EnK (e : Int × Value) (k : κ) : Prop := knd.is k e.2 = true ∧ e.1 = knd.hash k ∧ e.2.scannable = true
/-- the set at a has the keys ks, each once; its table rises and can be walked -/
def SetK (h : Heap) (a : Addr) (ks : List κ) : Prop :=
  ∃ o es ep t, h.get? a = some o ∧ o.ExactSet ∧ o.data = .set es ep t ∧ PySem.W.EachIs (EnK knd) es.toList ks ∧ ks.Nodup ∧ es.size < scanBound ∧ t.fits es.size = true ∧ Ris t.place.toList ∧ (w.params.followText "set-order" = true ∨ t.led = true)
variable {knd} {A : Around} {E : Value → Shared → Prop} {s : Shared} {a : Addr} {ks : List κ}
theorem SetK.at {h h' : Heap} (R : SetK knd h a ks) (k : ∀ o, h.get? a = some o → h'.get? a = some o) : SetK knd h' a ks := by
  obtain ⟨o, es, ep, t, ho, r⟩ := R
  exact ⟨o, es, ep, t, k o ho, r⟩
theorem enk_elems {es : List (Int × Value)} (g : PySem.W.EachIs (EnK knd) es ks) : ElemsOf knd es := fun e he => by
  obtain ⟨k, _, h1, h2, h3⟩ := g.left e he
  exact ⟨⟨k, h1, h2⟩, h3⟩
theorem enk_mem : ∀ {es : List (Int × Value)} {ks : List κ}, PySem.W.EachIs (EnK knd) es ks → ∀ k, k ∈ ks ↔ ∃ e ∈ es, knd.is k e.2 = true
  | _, _, .nil, k => by simp
  | _, _, .cons (a := e) (b := k0) h r, k => by
    rw [List.mem_cons, enk_mem r k]
    constructor
    · rintro (rfl | ⟨e', h1, h2⟩)
      · exact ⟨e, List.mem_cons_self, h.1⟩
      · exact ⟨e', List.mem_cons_of_mem _ h1, h2⟩
    · rintro ⟨e', h1, h2⟩
      rcases List.mem_cons.mp h1 with q | q
      · subst q; exact .inl (knd.inj _ _ _ h2 h.1)
      · exact .inr ⟨e', q, h2⟩
theorem setK_tail {g : Bool → Sem Unit} (hg : ∀ (b : Bool) (s₁ : Shared) (Q' : Unit → Shared → Prop), Q' () s₁ → wpAny (model P w) A (g b) Q' E s₁) {o : Obj} {es es1 : Array (Int × Value)} {ep : Nat} {t t2 : SetTable} {wasDummy : Bool} {R : Option Bool → Shared → Prop}
    (ho : s.heap.get? a = some o) (hex : o.ExactSet) (hd : o.data = .set es ep t) (g1 : PySem.W.EachIs (EnK knd) es1.toList ks) (nd1 : ks.Nodup) (hb1 : es1.size < scanBound) (hf2 : t2.fits es1.size = true) (hr : Ris t2.place.toList) (hl : w.params.followText "set-order" = true ∨ t2.led = true)
    (hR : ∀ h' ks', Heap.SameBut a s.heap h' → SetK knd h' a ks' → ks'.Perm ks → R (some true) { s with heap := h' }) :
    wpAny (model P w) A (do storeSet a es1 t2; if (!wasDummy && t2.tooFull) = true then (do g (relayAll t2 es1 (SetTable.grown es1.size)).2.2; storeSet a (relayAll t2 es1 (SetTable.grown es1.size)).1 (relayAll t2 es1 (SetTable.grown es1.size)).2.1; pure (some true)) else pure (some true)) R E s := by
  refine wpAny_bind (wpAny_storeSet_of ho hd ?_ (fits_of_scanBound hb1)); have ho1 := store_at (es' := es1) (t' := t2) ho hd
  have sb1 := Heap.SameBut.update s.heap a (Obj.putSet es1 t2)
  split
  · have pm := relayAll_perm t2 es1 (SetTable.grown es1.size); have hf3 := relayAll_fits t2 es1 (SetTable.grown es1.size)
    have hr3 := relayAll_ris t2 es1 (SetTable.grown es1.size); have hl3 := relayAll_led t2 es1 (SetTable.grown es1.size)
    generalize relayAll t2 es1 (SetTable.grown es1.size) = Z at pm hf3 hr3 hl3 ⊢
    obtain ⟨es2, t3, gave⟩ := Z
    simp only at pm hf3 hr3 hl3 ⊢
    have hz : es2.size = es1.size := by rw [← Array.length_toList, pm.length_eq, Array.length_toList]
    obtain ⟨ks', p1, p2⟩ := each_perm g1 pm
    refine wpAny_bind (hg _ _ _ (wpAny_bind (wpAny_storeSet_of ho1 rfl ?_ (fits_of_scanBound (by rw [hz]; exact hb1)))))
    refine wpAny_pure (hR _ ks' (sb1.trans (Heap.SameBut.update _ a _)) ⟨_, es2, _, t3, store_at (es' := es2) (t' := t3) ho1 rfl, hex, rfl, p2, p1.nodup_iff.mpr nd1, by rw [hz]; exact hb1, hf3, hr3, hl.imp id fun z => by rw [hl3]; exact z⟩ p1)
  · exact wpAny_pure (hR _ ks sb1 ⟨_, es1, _, t2, ho1, hex, rfl, g1, nd1, hb1, hf2, hr, hl⟩ (.refl _))
/-- one more key -/
theorem setK_add {k : κ} {x : Value} {Q : Bool → Shared → Prop} (hkey : knd.is k x = true) (hsc : x.scannable = true) (R : SetK knd s.heap a ks) (room : ks.length + 1 < scanBound)
    (hQ : ∀ h' ks' b, Heap.SameBut a s.heap h' → SetK knd h' a ks' → (∀ j, j ∈ ks' ↔ j ∈ ks ∨ j = k) → ks'.length ≤ ks.length + 1 → Q b { s with heap := h' }) : wpAny (model P w) A (setAddHashed a x (knd.hash k)) Q E s := by
  obtain ⟨o, es, ep, t, ho, hex, hd, g, nd, hb, hf, hr, hl⟩ := R
  have hel : ElemsOf knd es.toList := enk_elems g
  unfold setAddHashed setAddHashedIn; refine wpAny_holding (wpAny_bind (wpAny_setState_of ho hd hf ?_))
  dsimp only; rw [byScan_of hsc hb hel]
  simp only [↓reduceIte]; unfold setAddByScan
  refine wpAny_bind (wpAny_bind (wpAny_rule (wpAny_bind (wpAny_setScan_of hkey ho hd hf hel ?_))))
  cases hfi : List.findIdx? (fun e => knd.is k e.2) es.toList with
  | some j =>
    dsimp only
    obtain ⟨hj, pj, _⟩ := List.findIdx?_eq_some_iff_getElem.mp hfi
    have hk : k ∈ ks := (enk_mem g k).2 ⟨es.toList[j], List.getElem_mem hj, pj⟩
    refine wpAny_pure (wpAny_pure (hQ s.heap ks _ (Heap.SameBut.refl a s.heap) ⟨o, es, ep, t, ho, hex, hd, g, nd, hb, hf, hr, hl⟩ (fun i => ⟨.inl, fun z => z.elim id fun e => e ▸ hk⟩) (Nat.le_succ _)))
  | none =>
    dsimp only
    have hnk : k ∉ ks := fun z => by
      obtain ⟨e, he, q⟩ := (enk_mem g k).1 z
      have c := List.findIdx?_eq_none_iff.mp hfi e he
      rw [q] at c; cases c
    have hgw : ∀ (b : Bool) {s₁ : Shared} {Q' : Unit → Shared → Prop}, Q' () s₁ → wpAny (model P w) A (match b with | true => rule "set.scan.the-table-gave-way" | false => pure ()) Q' E s₁ := fun b _ _ q => by
      cases b <;> first | exact wpAny_pure q | exact wpAny_rule q
    have pm := layNew_perm t es (knd.hash k) x; have hf1 := layNew_fits t es (knd.hash k) x
    have hr1 := layNew_ris t es (knd.hash k) x hr; have hl1 := layNew_led t es (knd.hash k) x
    generalize layNew t es (knd.hash k) x = Z at pm hf1 hr1 hl1 ⊢
    obtain ⟨es1, t1, wasDummy, gave⟩ := Z
    simp only at pm hf1 hr1 hl1 ⊢
    rw [Array.toList_push] at pm
    obtain ⟨k1, p1, p2⟩ := each_perm (.cons ⟨hkey, rfl, hsc⟩ g : PySem.W.EachIs (EnK knd) ((knd.hash k, x) :: es.toList) (k :: ks)) (pm.trans (List.perm_append_singleton _ _))
    have nd1 : k1.Nodup := p1.nodup_iff.mpr (List.nodup_cons.mpr ⟨hnk, nd⟩)
    have l1 : k1.length = ks.length + 1 := by rw [p1.length_eq, List.length_cons]
    have z1 : es1.size = ks.length + 1 := by rw [← Array.length_toList, p2.length, l1]
    have hb1 : es1.size < scanBound := by rw [z1]; exact room
    have hled : w.params.followText "set-order" = true ∨ t1.led = true := hl.imp id fun z => by rw [hl1]; exact z
    have fin : ∀ h' ks' b, Heap.SameBut a s.heap h' → SetK knd h' a ks' → ks'.Perm k1 → Q b { s with heap := h' } := fun h' ks' b sb r p => hQ h' ks' b sb r (fun j => by rw [p.mem_iff, p1.mem_iff, List.mem_cons]; exact Or.comm) (by rw [p.length_eq, l1]; exact Nat.le_refl _)
    refine wpAny_bind (hgw _ ?_)
    split
    · refine wpAny_bind ?_; rw [hashByValue_scannable 8 hsc]; refine wpAny_pure ?_
      refine setK_tail ?_ ho hex hd p2 nd1 hb1 ?_ ?_ ?_ ?_
      · intro b s₁ Q' q; cases b <;> first | exact wpAny_pure q | exact wpAny_rule q
      · first | (split <;> first | exact hf1 | exact SetTable.fits_plain_off hf1) | exact hf1
      · first | (split <;> exact hr1) | exact hr1
      · first | (split <;> exact hled) | exact hled
      · intro h' ks' sb r p; dsimp only; exact wpAny_pure (fin h' ks' _ sb r p)
    · refine wpAny_bind (wpAny_pure ?_); simp only [↓reduceIte]
      refine setK_tail ?_ ho hex hd p2 nd1 hb1 hf1 hr1 hled ?_
      · intro b s₁ Q' q; cases b <;> first | exact wpAny_pure q | exact wpAny_rule q
      · intro h' ks' sb r p; dsimp only; exact wpAny_pure (fin h' ks' _ sb r p)
theorem setK_new {h : Heap} (ho : h.get? a = some { cls := .type "set", dict := none, data := .set #[] 0 (.fresh 0 0 (!w.params.followText "set-order")) }) : SetK knd h a [] :=
  ⟨_, #[], 0, _, ho, ⟨rfl, rfl, rfl⟩, rfl, .nil, List.nodup_nil, by decide, by rfl, List.Pairwise.nil, by
    show _ ∨ (!w.params.followText "set-order") = true
    cases w.params.followText "set-order" <;> simp⟩
/-- the loop behind set(xs) -/
theorem setK_loop {I : Addr} {fp wr : List Addr} {G : Array GenState → Array GenState → Prop} {n : Nat} {Pv : Nat → Value → Prop} {St : Nat → Shared → Prop} {R : Result → Shared → Prop} (W : WalksS P w A.in1 I fp wr G n Pv St) (S : Addr) (hSf : S ∉ fp) (ns : List κ) (hn : n = ns.length) (hb : ns.length + 1 < scanBound)
    (hval : ∀ i v, Pv i v → ∃ k, ns[i]? = some k ∧ knd.is k v = true ∧ v.scannable = true) : ∀ (m i : Nat) (s : Shared), n - i = m → i ≤ n → St i s → (∃ L, SetK knd s.heap S L ∧ (∀ j, j ∈ L ↔ j ∈ ns.take i) ∧ L.length ≤ i) →
      (∀ s' L, Moved (S :: wr) G s s' → SetK knd s'.heap S L → (∀ j, j ∈ L ↔ j ∈ ns) → L.length ≤ n → R (.ok (.ret .none)) s') → codeAny (model P w) A (.builtin "set.update.loop" ⟨[.ref S, .ref I], []⟩) R s := by
  have hSw : S ∉ wr := fun h => hSf (W.sub _ h)
  have hsub : ∀ b ∈ wr, b ∈ S :: wr := fun b hb => .tail _ hb
  intro m
  induction m with
  | zero =>
    intro i s hk hi hst ⟨L, hS, hm, hc⟩ hR
    obtain rfl : i = n := by omega
    refine codeAny_builtin F.entry_set_update_loop ?_; rw [Around.under_plainId F.plain_set_update_loop _]
    show wpAny _ A.in1 (pyNext (.ref I) >>= _) _ _ s; refine wpAny_bind (W.done s _ _ hst fun s' mv => ?_)
    have e : ns.take i = ns := List.take_of_length_le (by omega)
    rw [e] at hm
    show wpAny _ A.in1 (PySem.ret Value.none) _ _ s'; exact wpAny_pure (hR s' L (mv.mono hsub) (hS.at fun o e => mv.heap S o hSw e) hm hc)
  | succ m ih =>
    intro i s hk hi hst ⟨L, hS, hm, hc⟩ hR
    have hlt : i < n := by omega
    refine codeAny_builtin F.entry_set_update_loop ?_; rw [Around.under_plainId F.plain_set_update_loop _]
    show wpAny _ A.in1 (pyNext (.ref I) >>= _) _ _ s; refine wpAny_bind (W.item i s _ _ hlt hst fun v s' hP hst' mv => ?_)
    obtain ⟨z, hz, hk1, hk2⟩ := hval i v hP
    have hS' : SetK knd s'.heap S L := hS.at fun o e => mv.heap S o hSw e
    show wpAny _ A.in1 (holding [v] (setAdd S v) >>= _) _ _ s'; refine wpAny_bind (wpAny_holding ?_)
    unfold setAdd; refine wpAny_holding (wpAny_bind (knd.pyHash hk1 ?_))
    refine setK_add (s := { s' with toks := s'.toks + 1 }) hk1 hk2 hS' (by omega) fun h' L2 b hsb hS2 hm2 hc2 => ?_
    have hm3 : ∀ j, j ∈ L2 ↔ j ∈ ns.take (i + 1) := fun j => by
      rw [hm2 j, hm j, List.take_add_one, hz]; simp [List.mem_append]
    refine wpAny_pure ⟨plainId_quiet F.plain_set_update_loop _, ih (i + 1) _ (by omega) hlt (W.frame _ s' _ _ hst' (Nat.le_succ _) fun b hb o e => ?_) ⟨L2, hS2, hm3, by omega⟩ fun s'' L3 mv' hS3 hm4 hc4 => ?_⟩
    · exact (hsb.2 b fun h => hSf (h ▸ hb)).trans e
    · refine hR s'' L3 (Moved.trans W.gtrans ((mv.mono hsub).then_heap (Nat.le_succ _) fun b o hb e => ?_) mv') hS3 hm4 hc4
      exact (hsb.2 b fun h => hb (h ▸ List.mem_cons_self)).trans e
end
end PV
namespace PV
open PySem PySem.Calls PySem.Spec PyProof.Rows L2
section
variable {P : Program} {w : World} {κ : Type} [DecidableEq κ] {knd : KeyKind P w κ} {A : Around} {E : Value → Shared → Prop} {s : Shared}
theorem call_setK_tuple {l : Addr} {items : Array Value} {ns : List κ} {Q : Value → Shared → Prop} (hh : A.handled = none) (hl : s.heap.IsTuple l items) (hsz : items.size = ns.length) (hb : ns.length + 1 < scanBound)
    (hval : ∀ (i : Nat) (v : Value), items[i]? = some v → ∃ k, ns[i]? = some k ∧ knd.is k v = true ∧ v.scannable = true) (h : ∀ (h' : Heap) (tk : Nat) (L : List κ), SetK knd h' s.heap.objs.size L → (∀ j, j ∈ L ↔ j ∈ ns) → L.length ≤ ns.length → (∀ b o, s.heap.get? b = some o → h'.get? b = some o) → Q (.ref s.heap.objs.size) { s with heap := h', toks := tk }) :
    wpAny (model P w) A (call (.type "set") [.ref l]) Q E s := by
  obtain ⟨c, tl, hmro⟩ := F.called_set.mro; have hmade := F.called_set.made; have hsub := F.called_set.sub
  refine wpAny_call (codeAny_of_tree ?_); show wpAny _ _ (callAny (.type "set") _) _ _ _
  refine wpAny_pure ⟨Code.quiet_builtin _ (by decide +kernel), codeAny_builtin F.entry_type_call ?_⟩; rw [Around.under_plain (weight_type_call_type "set" [.ref l] []) rfl]
  have h1 := F.called_set.notType; have h2 := F.called_set.canCreate; have hct := F.typeCall_set_1 (.ref l)
  repeat (any_goals (first | assumption | wp_step))
  refine codeAny_mono (code_set_led1 (.ref l) (E := E) (Q₁ := fun obj s₁ => obj = .ref s.heap.objs.size ∧ s₁ = { s with heap := s.heap.push { cls := .type "set", dict := none, data := .set #[] 0 (.fresh 0 0 (!w.params.followText "set-order")) } }) ⟨rfl, rfl⟩) fun r s₁ hr => ?_
  cases r with
  | error e => exact hr
  | ok fl => cases fl with
    | ret obj =>
      obtain ⟨rfl, rfl⟩ := hr
      have hS : (s.heap.push { cls := .type "set", dict := none, data := .set #[] 0 (.fresh 0 0 (!w.params.followText "set-order")) }).get? s.heap.objs.size = some { cls := .type "set", dict := none, data := .set #[] 0 (.fresh 0 0 (!w.params.followText "set-order")) } := Heap.get?_push_size _ rfl
      have hT : Shared.TypeIs { s with heap := s.heap.push { cls := .type "set", dict := none, data := .set #[] 0 (.fresh 0 0 (!w.params.followText "set-order")) } } (.ref s.heap.objs.size) "set" := ⟨_, hS, rfl⟩
      have hli := F.called_set.init.lookup; have hbi := F.called_set.init.bind (.ref s.heap.objs.size)
      repeat (any_goals (first | assumption | wp_step))
      refine codeAny_mono (codeAny_call_builtin (R := wants (fun r s₂ => r = .none ∧ ∃ h' tk L, s₂ = { s with heap := h', toks := tk } ∧ SetK knd h' s.heap.objs.size L ∧ (∀ j, j ∈ L ↔ j ∈ ns) ∧ L.length ≤ ns.length ∧ (∀ b o, s.heap.get? b = some o → h'.get? b = some o)) E) F.called_set.init.plain F.entry_set_init (check_set_init_1 hT ?_)) fun r₂ s₂ hr₂ => ?_
      · obtain ⟨ol, hol, hcl, nl, hdl⟩ := hl
        obtain ⟨ocls, odict, odata, oslots⟩ := ol
        simp only at hcl hdl; subst hcl; subst hdl
        have hol' : (s.heap.push { cls := .type "set", dict := none, data := .set #[] 0 (.fresh 0 0 (!w.params.followText "set-order")) }).get? l = some { cls := .type "tuple", dict := odict, data := .seq items nl, slots := oslots } := Heap.get?_push_of_some _ hol
        have hsls := F.sub_tuple_set; have hslf := F.sub_tuple_frozenset; have hne : (Value.type "tuple" == Value.type "dict") = false := by decide
        have hl1 : (s.heap.push { cls := .type "set", dict := none, data := .set #[] 0 (.fresh 0 0 (!w.params.followText "set-order")) }).IsTuple l items := ⟨_, hol', rfl, nl, rfl⟩
        unfold Builtin.«set.__init__» noKeywords Builtin.Frozenset.updateFrom; generalize hPI : pyIter = PI
        wp_walk
        subst hPI; refine wpAny_pyIter_tuple hl1 (wpAny_bind (wpAny_runValue ?_))
        have hlS : l < s.heap.objs.size := Heap.lt_size hol; have hh3 : A.in1.in1.in1.handled = none := by simp [hh]
        have hneI : l ≠ (s.heap.push { cls := .type "set", dict := none, data := .set #[] 0 (.fresh 0 0 (!w.params.followText "set-order")) }).objs.size := by rw [Heap.size_push]; exact Nat.ne_of_lt (Nat.lt_succ_of_lt hlS)
        have hSf : s.heap.objs.size ∉ [(s.heap.push { cls := .type "set", dict := none, data := .set #[] 0 (.fresh 0 0 (!w.params.followText "set-order")) }).objs.size, l] := by
          rw [Heap.size_push]; simp only [List.mem_cons, List.mem_singleton, List.not_mem_nil, or_false, not_or]; exact ⟨Nat.ne_of_lt (Nat.lt_succ_self _), Nat.ne_of_gt hlS⟩
        refine setK_loop ((Walks.tuple hh3 _ l hneI items).toS) s.heap.objs.size hSf ns hsz hb hval (items.size - 0) 0 _ (by omega) (Nat.zero_le _) ⟨⟨_, Heap.get?_push_size _ rfl, rfl, rfl⟩, (hl1.push _)⟩ ⟨[], setK_new (Heap.get?_push_of_some _ hS), fun j => by simp, Nat.le_refl 0⟩ ?_
        intro s' L mv hS' hm hc
        obtain ⟨h', g2, d', tk', os'⟩ := s'
        have eg : g2 = s.gens := mv.gens; have ed : d' = s.drawn := mv.drawn; have eo : os' = s.os := mv.os
        subst eg; subst ed; subst eo; show wpAny _ _ _ _ _ _
        refine wpAny_pure ?_; show wpAny _ _ (PySem.ret Value.none) _ _ _
        refine wpAny_pure ⟨rfl, h', tk', L, rfl, hS', hm, by rw [← hsz]; exact hc, fun b o e => ?_⟩
        have hb0 : b < s.heap.objs.size := Heap.lt_size e
        have hb2 : b ≠ (s.heap.push { cls := .type "set", dict := none, data := .set #[] 0 (.fresh 0 0 (!w.params.followText "set-order")) }).objs.size := by rw [Heap.size_push]; exact Nat.ne_of_lt (Nat.lt_succ_of_lt hb0)
        exact mv.heap b o (by simp only [List.mem_cons, List.mem_singleton, List.not_mem_nil, or_false, not_or]; exact ⟨Nat.ne_of_lt hb0, hb2⟩) (Heap.get?_push_of_some _ (Heap.get?_push_of_some _ e))
      · cases r₂ with
        | error e => exact hr₂
        | ok fl₂ => cases fl₂ with
          | ret r =>
            obtain ⟨rfl, h', tk, L, rfl, g1, g2, g3, g4⟩ := hr₂
            repeat (any_goals (first | assumption | wp_step))
            exact h _ _ _ g1 g2 g3 g4
          | _ => exact hr₂.elim
    | _ => exact hr.elim
theorem call_setK_list {l : Addr} {items : Array Value} {ns : List κ} {Q : Value → Shared → Prop} (hh : A.handled = none) (hl : s.heap.IsList l items) (hsz : items.size = ns.length) (hb : ns.length + 1 < scanBound)
    (hval : ∀ (i : Nat) (v : Value), items[i]? = some v → ∃ k, ns[i]? = some k ∧ knd.is k v = true ∧ v.scannable = true) (h : ∀ (h' : Heap) (tk : Nat) (L : List κ), SetK knd h' s.heap.objs.size L → (∀ j, j ∈ L ↔ j ∈ ns) → L.length ≤ ns.length → (∀ b o, s.heap.get? b = some o → h'.get? b = some o) → Q (.ref s.heap.objs.size) { s with heap := h', toks := tk }) :
    wpAny (model P w) A (call (.type "set") [.ref l]) Q E s := by
  obtain ⟨c, tl, hmro⟩ := F.called_set.mro; have hmade := F.called_set.made; have hsub := F.called_set.sub
  refine wpAny_call (codeAny_of_tree ?_); show wpAny _ _ (callAny (.type "set") _) _ _ _
  refine wpAny_pure ⟨Code.quiet_builtin _ (by decide +kernel), codeAny_builtin F.entry_type_call ?_⟩; rw [Around.under_plain (weight_type_call_type "set" [.ref l] []) rfl]
  have h1 := F.called_set.notType; have h2 := F.called_set.canCreate; have hct := F.typeCall_set_1 (.ref l)
  repeat (any_goals (first | assumption | wp_step))
  refine codeAny_mono (code_set_led1 (.ref l) (E := E) (Q₁ := fun obj s₁ => obj = .ref s.heap.objs.size ∧ s₁ = { s with heap := s.heap.push { cls := .type "set", dict := none, data := .set #[] 0 (.fresh 0 0 (!w.params.followText "set-order")) } }) ⟨rfl, rfl⟩) fun r s₁ hr => ?_
  cases r with
  | error e => exact hr
  | ok fl => cases fl with
    | ret obj =>
      obtain ⟨rfl, rfl⟩ := hr
      have hS : (s.heap.push { cls := .type "set", dict := none, data := .set #[] 0 (.fresh 0 0 (!w.params.followText "set-order")) }).get? s.heap.objs.size = some { cls := .type "set", dict := none, data := .set #[] 0 (.fresh 0 0 (!w.params.followText "set-order")) } := Heap.get?_push_size _ rfl
      have hT : Shared.TypeIs { s with heap := s.heap.push { cls := .type "set", dict := none, data := .set #[] 0 (.fresh 0 0 (!w.params.followText "set-order")) } } (.ref s.heap.objs.size) "set" := ⟨_, hS, rfl⟩
      have hli := F.called_set.init.lookup; have hbi := F.called_set.init.bind (.ref s.heap.objs.size)
      repeat (any_goals (first | assumption | wp_step))
      refine codeAny_mono (codeAny_call_builtin (R := wants (fun r s₂ => r = .none ∧ ∃ h' tk L, s₂ = { s with heap := h', toks := tk } ∧ SetK knd h' s.heap.objs.size L ∧ (∀ j, j ∈ L ↔ j ∈ ns) ∧ L.length ≤ ns.length ∧ (∀ b o, s.heap.get? b = some o → h'.get? b = some o)) E) F.called_set.init.plain F.entry_set_init (check_set_init_1 hT ?_)) fun r₂ s₂ hr₂ => ?_
      · obtain ⟨ol, hol, hcl, nl, hdl⟩ := hl
        obtain ⟨ocls, odict, odata, oslots⟩ := ol
        simp only at hcl hdl; subst hcl; subst hdl
        have hol' : (s.heap.push { cls := .type "set", dict := none, data := .set #[] 0 (.fresh 0 0 (!w.params.followText "set-order")) }).get? l = some { cls := .type "list", dict := odict, data := .seq items nl, slots := oslots } := Heap.get?_push_of_some _ hol
        have hsls := F.sub_list_set; have hslf := F.sub_list_frozenset; have hne : (Value.type "list" == Value.type "dict") = false := by decide
        have hl1 : (s.heap.push { cls := .type "set", dict := none, data := .set #[] 0 (.fresh 0 0 (!w.params.followText "set-order")) }).IsList l items := ⟨_, hol', rfl, nl, rfl⟩
        unfold Builtin.«set.__init__» noKeywords Builtin.Frozenset.updateFrom; generalize hPI : pyIter = PI
        wp_walk
        subst hPI; refine wpAny_pyIter_list hl1 (wpAny_bind (wpAny_runValue ?_))
        have hlS : l < s.heap.objs.size := Heap.lt_size hol; have hh3 : A.in1.in1.in1.handled = none := by simp [hh]
        have hneI : l ≠ (s.heap.push { cls := .type "set", dict := none, data := .set #[] 0 (.fresh 0 0 (!w.params.followText "set-order")) }).objs.size := by rw [Heap.size_push]; exact Nat.ne_of_lt (Nat.lt_succ_of_lt hlS)
        have hSf : s.heap.objs.size ∉ [(s.heap.push { cls := .type "set", dict := none, data := .set #[] 0 (.fresh 0 0 (!w.params.followText "set-order")) }).objs.size, l] := by
          rw [Heap.size_push]; simp only [List.mem_cons, List.mem_singleton, List.not_mem_nil, or_false, not_or]; exact ⟨Nat.ne_of_lt (Nat.lt_succ_self _), Nat.ne_of_gt hlS⟩
        refine setK_loop ((Walks.list hh3 _ l hneI items).toS) s.heap.objs.size hSf ns hsz hb hval (items.size - 0) 0 _ (by omega) (Nat.zero_le _) ⟨⟨_, Heap.get?_push_size _ rfl, rfl, rfl⟩, (hl1.push _)⟩ ⟨[], setK_new (Heap.get?_push_of_some _ hS), fun j => by simp, Nat.le_refl 0⟩ ?_
        intro s' L mv hS' hm hc
        obtain ⟨h', g2, d', tk', os'⟩ := s'
        have eg : g2 = s.gens := mv.gens; have ed : d' = s.drawn := mv.drawn; have eo : os' = s.os := mv.os
        subst eg; subst ed; subst eo; show wpAny _ _ _ _ _ _
        refine wpAny_pure ?_; show wpAny _ _ (PySem.ret Value.none) _ _ _
        refine wpAny_pure ⟨rfl, h', tk', L, rfl, hS', hm, by rw [← hsz]; exact hc, fun b o e => ?_⟩
        have hb0 : b < s.heap.objs.size := Heap.lt_size e
        have hb2 : b ≠ (s.heap.push { cls := .type "set", dict := none, data := .set #[] 0 (.fresh 0 0 (!w.params.followText "set-order")) }).objs.size := by rw [Heap.size_push]; exact Nat.ne_of_lt (Nat.lt_succ_of_lt hb0)
        exact mv.heap b o (by simp only [List.mem_cons, List.mem_singleton, List.not_mem_nil, or_false, not_or]; exact ⟨Nat.ne_of_lt hb0, hb2⟩) (Heap.get?_push_of_some _ (Heap.get?_push_of_some _ e))
      · cases r₂ with
        | error e => exact hr₂
        | ok fl₂ => cases fl₂ with
          | ret r =>
            obtain ⟨rfl, h', tk, L, rfl, g1, g2, g3, g4⟩ := hr₂
            repeat (any_goals (first | assumption | wp_step))
            exact h _ _ _ g1 g2 g3 g4
          | _ => exact hr₂.elim
    | _ => exact hr.elim
end
end PV
namespace PV
open PySem PySem.Calls PySem.Spec PyProof.Rows L2
theorem each_pull {α β γ : Type} {R : β → γ → Prop} {f : α → β} : ∀ {as : List α} {cs : List γ}, PySem.W.EachIs R (as.map f) cs ↔ PySem.W.EachIs (fun a c => R (f a) c) as cs
  | [], cs => ⟨fun h => by cases h; exact .nil, fun h => by cases h; exact .nil⟩
  | a :: as, cs => ⟨fun h => by
      cases h with
      | cons h1 h2 => exact .cons h1 (each_pull.mp h2), fun h => by
      cases h with
      | cons h1 h2 => exact .cons h1 (each_pull.mpr h2)⟩
section
variable {P : Program} {w : World} {κ : Type} [DecidableEq κ] {knd : KeyKind P w κ} {A : Around} {E : Value → Shared → Prop} {s : Shared} {a : Addr} {L : List κ} {enc : κ → PyData}
theorem sorted_setK {Q : Value → Shared → Prop} (R : SetK knd s.heap a L) (hh : A.handled = none) (hrd : ∀ (h : Heap) v k, knd.is k v = true → ∃ as, Reads h v (enc k) as) (hal : ∀ k k', PySem.W.alike (enc k) (enc k') = true) (hso : ∀ k, enc k ≠ .none ∧ ∀ xs, enc k ≠ .tuple xs)
    (hu : ∀ k, A.units + 2 + (enc k).depth < cLine) (hQ : ∀ s' p (out : List Value) (c : Nat) (ks' L' : List κ), (∀ b o, s.heap.get? b = some o → s'.heap.get? b = some o) → s'.gens = s.gens → s'.os = s.os → s.heap.objs.size ≤ p → s'.heap.get? p = some (seqObj "list" out.toArray c) →
      PySem.W.EachIs (fun v k => knd.is k v = true) out ks' → ks' = L'.mergeSort (PySem.W.dataLe false enc) → L'.Perm L → Q (.ref p) s') : wpAny (model P w) A (call (.builtin "sorted") [.ref a]) Q E s := by
  obtain ⟨o, es, ep, t, ho, hex, hd, g, nd, hb, hf, hr, hl⟩ := R
  refine call_function_entry_kw kind_sorted plain_sorted entry_sorted (args_sorted1 _) ?_; unfold Builtin.«sorted»
  refine wpAny_bind (m := checkCount "sorted" 1 1 _) (wpAny_pure (wpAny_bind (collect_set (A := A.in1) hh ⟨o, ho, hex.1, hd⟩ hf hb hr hl fun s1 vs k1 hz g1 o1 pm => ?_)))
  have gv : PySem.W.EachIs (fun v k => knd.is k v = true) (es.toList.map (·.2)) L := each_pull.mpr (g.mono fun _ _ h => h.1)
  obtain ⟨L', p1, e1⟩ := each_perm gv pm
  have hv : vs.length ≤ sizeLine := by
    rw [pm.length_eq, List.length_map, Array.length_toList]; exact Nat.le_trans (Nat.le_of_lt hb) (by decide)
  have hoL : (s1.heap.push (seqObj "list" vs.toArray 0)).get? s1.heap.objs.size = some (seqObj "list" vs.toArray 0) := Heap.get?_push_size _ rfl
  have er : ∀ h : Heap, PySem.W.EachIs (fun v b => ∃ as, Reads h v (enc b) as) vs L' := fun h => e1.mono fun v k hk => hrd h v k hk
  refine wpAny_bind (wpAny_newList (wpAny_bind (wpAny_holding (wpAny_call_entry_kw slot_list_sort ⟨_, hoL, rfl⟩ entry_list_sort ?_ (args_list_sort _)))) hv); show wpAny (model P w) A.in1.in1 (Builtin.«list.sort» ⟨[.ref s1.heap.objs.size], []⟩) _ _ _
  refine PySem.W.list_sort_vals (s := { s1 with heap := s1.heap.push (seqObj "list" vs.toArray 0) }) hoL (PySem.W.SortsAt.data (s := { s1 with heap := PySem.W.sortingHeap (s1.heap.push (seqObj "list" vs.toArray 0)) s1.heap.objs.size vs })
    (PySem.W.each_map (R := fun v d => ∃ as, Reads (PySem.W.sortingHeap (s1.heap.push (seqObj "list" vs.toArray 0)) s1.heap.objs.size vs) v d as) enc (er _)) (PySem.W.AllAlike.of hal) (PySem.W.Sortable.others hso) (PySem.W.bound_map fun b _ => hu b)) hv ?_
  obtain ⟨c, hc⟩ := sortedHeap_at (vs := vs) (out := (PySem.W.sortVals (PySem.W.dataKind (PySem.W.sortingHeap (s1.heap.push (seqObj "list" vs.toArray 0)) s1.heap.objs.size vs) (L'.map enc)) false vs vs).toArray) hoL
  refine ⟨_, rfl, wpAny_pure ⟨_, rfl, hQ _ s1.heap.objs.size _ c _ L' (fun b u e => ?_) g1 o1 hz hc (PySem.W.sortVals_data false e1 (er _) (PySem.W.AllAlike.of hal)) rfl p1⟩⟩
  have q := k1 b u e
  have hlt := Heap.lt_size q
  show (sortedHeap (s1.heap.push (seqObj "list" vs.toArray 0)) s1.heap.objs.size vs _).get? b = some u
  rw [sortedHeap_old (Nat.ne_of_lt hlt) (by rw [size_push']; exact Nat.lt_succ_of_lt hlt)]; exact Heap.get?_push_of_some _ q
end
end PV
namespace PV
open PySem PySem.Calls PySem.Spec PyProof.Rows L2
variable {X : Cx}
def SetSO (P : Program) (w : World) (a : Addr) (L : List Str) : HO := .ext fun h => SetK (PySem.strKind P w) h a L
def rSetS (K : PySem.W.Frag) (P : Program) (w : World) : List V → Hp → VK → Prop := fun xs H Q => ∃ (a : Addr) (ss : List Str), xs = [V.ref a] ∧ (SqL K H a (ss.map V.str) ∨ SqT K H a (ss.map V.str)) ∧ ss.length + 1 < scanBound ∧
  ∀ (p : Addr) (L : List Str), H p = none → (∀ j, j ∈ L ↔ j ∈ ss) → L.length ≤ ss.length → Q (.ref p) (upd H p (SetSO P w p L))
theorem strs_val {P : Program} {w : World} {ss : List Str} {its : List Value} (rv : Vals (ss.map V.str) its) : its.toArray.size = ss.length ∧ ∀ (i : Nat) (v : Value), its.toArray[i]? = some v → ∃ k, ss[i]? = some k ∧ (PySem.strKind P w).is k v = true ∧ v.scannable = true := by
  refine ⟨by rw [List.size_toArray, ← rv.length, List.length_map], fun i v hv => ?_⟩
  have hi : i < ss.length := by
    have := (Array.getElem?_eq_some_iff.mp hv).1
    rw [List.size_toArray, ← rv.length, List.length_map] at this; exact this
  obtain ⟨u, h1, h2⟩ := rv.get (i := i) (x := .str ss[i]) (by rw [List.getElem?_map, List.getElem?_eq_getElem hi]; rfl)
  have e : v = u := by
    have : its[i]? = some v := by simpa using hv
    rw [h1] at this; exact (Option.some.inj this).symm
  subst e
  obtain ⟨t, rfl⟩ := h2
  exact ⟨ss[i], List.getElem?_eq_getElem hi, strKind_is _ _ _ _, rfl⟩
theorem cr_setS (hc : X.calm = true) : CallR X (.type "set") (rSetS X.K X.prog X.w) := by
  intro pins s σ H xs us Q I r ⟨a, ss, e, hq, hb, q⟩
  subst e
  rw [Vals.ref1 r]
  have hn : H s.heap.objs.size = none := I.hok.fresh (Nat.le_refl _)
  have fin : ∀ (h' : Heap) (tk : Nat) (L : List Str), SetK (PySem.strKind X.prog X.w) h' s.heap.objs.size L → (∀ j, j ∈ L ↔ j ∈ ss) → L.length ≤ ss.length → (∀ b o, s.heap.get? b = some o → h'.get? b = some o) → EP X pins σ Q (.ref s.heap.objs.size) { s with heap := h', toks := tk } := fun h' tk L R hm hl k => by
    have ob : ObjOk X.prog X.w (upd H s.heap.objs.size (SetSO X.prog X.w s.heap.objs.size L)) h' s.heap.objs.size (SetSO X.prog X.w s.heap.objs.size L) := by
      have ⟨o, _, _, _, ho, _⟩ := R
      exact ⟨R, ⟨o, ho⟩, fun h1 h2 p k => SetK.at p k⟩
    exact ⟨.ref s.heap.objs.size, upd H s.heap.objs.size (SetSO X.prog X.w s.heap.objs.size L), I.laid (t' := tk) k (Nat.le_refl _) ob, rfl, q _ L hn hm hl⟩
  rcases hq with hq | hq
  · obtain ⟨its, rv, pl, hz⟩ := I.list hq
    obtain ⟨z1, z2⟩ := strs_val (P := X.prog) (w := X.w) rv
    exact call_setK_list (I.ok.hd hc) pl.isList z1 hb z2 fin
  · obtain ⟨its, rv, pl, hz⟩ := I.tuple hq
    obtain ⟨z1, z2⟩ := strs_val (P := X.prog) (w := X.w) rv
    exact call_setK_tuple (I.ok.hd hc) pl z1 hb z2 fin

/-! each once, in order -/
def ddS : List Str → List Str
  | [] => []
  | x :: r => if x ∈ r then ddS r else x :: ddS r
theorem ddS_mem : ∀ {l : List Str} {j : Str}, j ∈ ddS l ↔ j ∈ l
  | [], j => Iff.rfl
  | x :: r, j => by
    unfold ddS
    split
    · rename_i h
      rw [ddS_mem, List.mem_cons]
      exact ⟨.inr, fun z => z.elim (fun e => e ▸ h) id⟩
    · rw [List.mem_cons, List.mem_cons, ddS_mem]
theorem ddS_nd : ∀ l : List Str, (ddS l).Nodup
  | [] => List.nodup_nil
  | x :: r => by
    unfold ddS
    split
    · exact ddS_nd r
    · rename_i h
      exact List.nodup_cons.mpr ⟨fun z => h (ddS_mem.mp z), ddS_nd r⟩
def leS (a b : Str) : Bool := PySem.W.dataLe false PyData.str a b
theorem leS_eq (a b : Str) : leS a b = decide (a.cps.toList ≤ b.cps.toList) := congrFun (congrFun (PySem.W.dataLe_str (fun x : Str => x)) a) b
theorem leS_trans (a b c : Str) (h1 : leS a b = true) (h2 : leS b c = true) : leS a c = true := by
  rw [leS_eq] at *
  exact decide_eq_true (List.le_trans (of_decide_eq_true h1) (of_decide_eq_true h2))
theorem leS_total (a b : Str) : (leS a b || leS b a) = true := by
  rw [leS_eq, leS_eq]
  rcases List.le_total a.cps.toList b.cps.toList with h | h
  · rw [decide_eq_true h]; rfl
  · rw [decide_eq_true h, Bool.or_true]
theorem leS_anti (a b : Str) (h1 : leS a b = true) (h2 : leS b a = true) : a = b := by
  rw [leS_eq] at h1 h2
  exact PySem.W.str_of_cps (List.le_antisymm (of_decide_eq_true h1) (of_decide_eq_true h2))
def onceS (ss : List Str) : List Str := (ddS ss).mergeSort leS
theorem onceS_of {L' ss : List Str} (hn : L'.Nodup) (hm : ∀ j, j ∈ L' ↔ j ∈ ss) : L'.mergeSort leS = onceS ss := by
  unfold onceS
  have p : L'.Perm (ddS ss) := (List.perm_ext_iff_of_nodup hn (ddS_nd ss)).mpr fun j => (hm j).trans ddS_mem.symm
  refine List.Perm.eq_of_pairwise (le := fun a b => leS a b = true) (fun a b _ _ h1 h2 => leS_anti a b h1 h2) (List.pairwise_mergeSort leS_trans leS_total _) (List.pairwise_mergeSort leS_trans leS_total _) ?_
  exact ((List.mergeSort_perm _ _).trans p).trans (List.mergeSort_perm _ _).symm
def rSortSO (P : Program) (w : World) : List V → Hp → VK → Prop := fun xs H Q => ∃ (a : Addr) (L : List Str), xs = [V.ref a] ∧ H a = some (SetSO P w a L) ∧ ∀ (p : Addr) (ss : List Str), H p = none → (∀ ss', (∀ j, j ∈ L ↔ j ∈ ss') → ss = onceS ss') → Q (.ref p) (upd H p (.lst (ss.map V.str)))
theorem vals_strK {P : Program} {w : World} : ∀ {out : List Value} {ks : List Str}, PySem.W.EachIs (fun v k => (PySem.strKind P w).is k v = true) out ks → Vals (ks.map V.str) out
  | _, _, .nil => .nil
  | _, _, .cons h r => by
    obtain ⟨t, rfl⟩ := Value.isStrOf_shape h
    exact .cons ⟨t, rfl⟩ (vals_strK r)
theorem cr_sortSO (hc : X.calm = true) (hu : X.A.units + 64 < cLine) : CallR X (.builtin "sorted") (rSortSO X.prog X.w) := by
  intro pins s σ H xs us Q I r ⟨a, L, e, ha, q⟩
  subst e
  rw [Vals.ref1 r]
  have R : SetK (PySem.strKind X.prog X.w) s.heap a L := (I.hok a _ ha).1
  have hn : L.Nodup := by
    obtain ⟨_, _, _, _, _, _, _, _, nd, _⟩ := R
    exact nd
  have hlen : L.length ≤ sizeLine := by
    obtain ⟨_, es, _, _, _, _, _, g, _, hb, _⟩ := R
    rw [← g.length, Array.length_toList]; exact Nat.le_trans (Nat.le_of_lt hb) (by decide)
  refine sorted_setK (enc := PyData.str) R (I.ok.hd hc) (fun h v k hk => ?_) (fun _ _ => rfl) (fun k => ⟨nofun, nofun⟩) (fun k => by show X.A.units + 2 + 0 < cLine; omega) fun s' p out c ks' L' k g o hp hg he hks pm => ?_
  · obtain ⟨t, rfl⟩ := Value.isStrOf_shape hk
    exact ⟨[], .str k t⟩
  · have hv : Vals (ks'.map V.str) out := vals_strK he
    have hl2 : (ks'.map V.str).length ≤ sizeLine := by rw [List.length_map, hks, List.length_mergeSort, pm.length_eq]; exact hlen
    have hnp : H p = none := I.hok.fresh hp
    have J : Inv X pins σ (upd H p (.lst (ks'.map V.str))) { s with heap := s'.heap, gens := s'.gens, drawn := s'.drawn, toks := s'.toks } := I.call (ch := []) (Un.laid k hp hnp) (I.hok.laid k hp ⟨hl2, out, c, hv, hg⟩) (by rw [g]; exact I.bare) (fun _ z => nomatch z)
    have es' : s' = { s with heap := s'.heap, gens := s'.gens, drawn := s'.drawn, toks := s'.toks } := by
      cases s'; cases s; cases o; rfl
    rw [es']
    exact ⟨.ref p, _, J, rfl, q p ks' hnp fun ss' hm => by
      rw [hks]
      exact onceS_of (pm.nodup_iff.mpr hn) fun j => (pm.mem_iff).trans (hm j)⟩

/-! sorted(set(x)), texts -/
def strsD : List D → Option (List Str)
  | [] => some []
  | .str x :: r => (strsD r).map (x :: ·)
  | _ :: _ => none
def ssD (d : D) : Option D := (seqOf [d]).bind fun ds => (strsD ds).bind fun ss => if decide (ss.length + 1 < scanBound) = true then some (.list ((onceS ss).map .str)) else none
theorem strs_rpK {K : PySem.W.Frag} {H : Hp} {N : Addr → Prop} : ∀ {vs : List V} {ds : List D} {ss : List Str}, RpAll K H N vs ds → strsD ds = some ss → vs = ss.map V.str ∧ ss.all PyData.strOk = true
  | _, _, _, .nil, e => by cases e; exact ⟨rfl, rfl⟩
  | _, d :: ds, ss, .cons h r, e => by
    cases d with
    | str x =>
      have e1 : (strsD ds).map (x :: ·) = some ss := e
      cases q : strsD ds with
      | none => rw [q] at e1; cases e1
      | some rs =>
        rw [q] at e1
        cases e1
        obtain ⟨g1, g2⟩ := strs_rpK r q
        subst g1
        cases h with
        | str _ hx => exact ⟨rfl, Bool.and_eq_true_iff.mpr ⟨hx, g2⟩⟩
    | _ => cases e
theorem onceS_mem {ss : List Str} {j : Str} : j ∈ onceS ss ↔ j ∈ ss := by
  unfold onceS
  rw [(List.mergeSort_perm _ _).mem_iff, ddS_mem]
section
variable {G : Amb} {p : Bool} {l : Lvl} {a : Expr} {fa : M D} {pos pos2 p' p2 : Pos}
theorem j_sset (hc : X.calm = true) (hu : X.A.units + 64 < cLine) (hg : Gl X "sorted") (hm : X.mg "sorted" = none) (hv : bootBuiltins "sorted" = some (.builtin "sorted")) (hg2 : Gl X "set") (hm2 : X.mg "set" = none) (hv2 : bootBuiltins "set" = some (.type "set")) (ha : J X G p l a fa)
    (h1 : starEach [a] X.env = (false, eval a X.env) :: starEach [] X.env := by rfl) (h2 : starEach [.Call (.Name "set" p2) [a] [] pos2] X.env = (false, eval (.Call (.Name "set" p2) [a] [] pos2) X.env) :: starEach [] X.env := by rfl)
    (q1 : (backTo pos2 (starEach [] X.env)).any (·.1) = false := by rfl) (q2 : (backTo pos (starEach [] X.env)).any (·.1) = false := by rfl) :
    J X G p .fre (.Call (.Name "sorted" p') [.Call (.Name "set" p2) [a] [] pos2] [] pos) (op1 ssD fa) :=
  pe_mono (pe_callB (cr_sortSO hc hu) hg hm hv (pa_cons (pe_callTy (cr_setS hc) hg2 hm2 hv2 (pa_cons ha pa_nil h1) (by decide) (by decide) h1 q1) pa_nil h2) (by decide) (by decide) h2 q2) fun σ H Q ⟨env, S, q⟩ => by
    refine ⟨env, S, (Ok.bind3 (p' := true) (by simp) q).mono fun da env1 H1 ⟨f1, q1⟩ v rv => ?_⟩
    obtain ⟨d, e, q2⟩ := q1.lft f1.st
    have rc := RpX.rpC (fun a z => S.dom a (f1.sub a z)) rv
    have key : ∀ (ds : List D) (b : Addr) (xs : List V), v = .ref b → (SqL X.K H1 b xs ∨ SqT X.K H1 b xs) → RpAll X.K H1 (G.R σ env1) xs ds → ((strsD ds).bind fun ss => if decide (ss.length + 1 < scanBound) = true then some (PyData.list ((onceS ss).map .str)) else none) = some d →
        rSetS X.K X.prog X.w [v] H1 fun x H2 => rSortSO X.prog X.w [x] H2 Q := by
      intro ds b xs hvb hs hr e
      subst hvb
      cases es : strsD ds with
      | none => rw [es] at e; cases e
      | some ss =>
        rw [es] at e
        obtain ⟨c, rfl⟩ := if_some (show (if decide (ss.length + 1 < scanBound) = true then some (PyData.list ((onceS ss).map .str)) else none) = some d from e)
        obtain ⟨g1, g2⟩ := strs_rpK hr es
        subst g1
        refine ⟨b, ss, rfl, hs, of_decide_eq_true c, fun p1 L n1 hm hl => ⟨p1, L, rfl, upd_same, fun p2 ks n2 hk => ?_⟩⟩
        have ek := hk ss hm
        subst ek
        have s1 : Same H1 (upd H1 p1 (SetSO X.prog X.w p1 L)) := same_new n1
        have s2 := s1.trans (same_new (o := .lst ((onceS ss).map V.str)) n2)
        have n2' : H1 p2 = none := by
          cases z : H1 p2 with
          | none => rfl
          | some u => rw [s1 _ _ z] at n2; cases n2
        refine q2 _ s2 _ (f1.back (l := .fre) ⟨p2, _, rfl, n2', upd_same, strs_rp ?_⟩)
        exact List.all_eq_true.mpr fun x hx => List.all_eq_true.mp g2 x (onceS_mem.mp hx)
    cases da with
    | list ds =>
      obtain ⟨b, xs, rfl, k1, k2⟩ := rc.list
      exact key ds b xs rfl (.inl (.inl k1)) k2 e
    | tuple ds =>
      obtain ⟨b, xs, rfl, k1, k2⟩ := rc.tuple
      exact key ds b xs rfl (.inr k1) k2 e
    | _ => cases e
end
end PV
namespace PV
open PySem PySem.Spec PyProof.Rows L2

/-! nothing that can be changed within -/
mutual
def immD : D → Bool
  | .tuple ds => immDs ds
  | .list _ => false
  | .dict _ => false
  | _ => true
def immDs : List D → Bool
  | [] => true
  | d :: ds => immD d && immDs ds
end
mutual
theorem imm_rp {K : PySem.W.Frag} {H : Hp} {N N' : Addr → Prop} : ∀ {v : V} {d : D}, immD d = true → Rp K H N v d → Rp K H N' v d
  | _, _, _, .non => .non
  | _, _, _, .bl b => .bl b
  | _, _, _, .int i => .int i
  | _, _, _, .str x h => .str x h
  | _, _, h, .tup s r => .tup s (imm_all h r)
  | _, _, h, .lst _ _ _ => by cases h
  | _, _, h, .dct _ _ _ => by cases h
theorem imm_all {K : PySem.W.Frag} {H : Hp} {N N' : Addr → Prop} : ∀ {vs : List V} {ds : List D}, immDs ds = true → RpAll K H N vs ds → RpAll K H N' vs ds
  | _, _, _, .nil => .nil
  | _, _, h, .cons r s => by
    have h' := Bool.and_eq_true_iff.mp h
    exact .cons (imm_rp h'.1 r) (imm_all h'.2 s)
end
theorem imm_kv {K : PySem.W.Frag} {H : Hp} {N N' : Addr → Prop} : ∀ {vs : List (Key × V)} {ds : List (D × D)}, ds.all (fun e => immD e.2) = true → RpKV K H N vs ds → RpKV K H N' vs ds
  | _, _, _, .nil => .nil
  | _, _, h, .cons r s => by
    simp only [List.all_cons, Bool.and_eq_true] at h
    exact .cons (imm_rp h.1 r) (imm_kv h.2 s)
def flatG : D → Bool
  | .list ds => immDs ds
  | .dict es => es.all (fun e => immD e.2)
  | d => immD d
theorem flatG_rpF {K : PySem.W.Frag} {H H' : Hp} {N N' : Addr → Prop} {v : V} {d : D} (h : flatG d = true) (r : RpF K H H' N v d) : RpF K H H' N' v d := by
  cases d with
  | list ds =>
    obtain ⟨a, xs, e, h1, h2, h3⟩ := r
    exact ⟨a, xs, e, h1, h2, imm_all h h3⟩
  | dict ds =>
    obtain ⟨a, xs, e, h1, h2, h3⟩ := r
    exact ⟨a, xs, e, h1, h2, imm_kv h h3⟩
  | none => exact imm_rp (d := .none) rfl r
  | bool b => exact imm_rp (d := .bool b) rfl r
  | int b => exact imm_rp (d := .int b) rfl r
  | str b => exact imm_rp (d := .str b) rfl r
  | tuple ds => exact imm_rp (d := .tuple ds) h r
def putC (o : Bool) (d : D) : PV.Cell := if o = true then ownC d else .shr d
theorem putC_step {X : Cx} {G : Amb} {σ : L2.St} {H H1 : Hp} {env : EnvD} {i : Nat} {v : V} {d : D} (o : Bool) (S : StR X.K G σ H env) (hi : i ∉ G.fx) (s : Same H H1) (r : RpF X.K H H1 (G.R σ env) v d) : Stp X.K G σ H env (σ.set i (some v)) H1 (env.set i (putC o d)) := by
  cases o with
  | true => exact putO_step S hi s r
  | false =>
    obtain ⟨S2, sub⟩ := (S.same s).putS (i := i) hi (RpF.rp (fun a z => S.dom a z) r)
    exact ⟨S2, .of_same s, fun a z => .inl (sub a z)⟩
/-- x, y = .. and x, y, z = .., new things all of them -/
def par2N (oi oj : Bool) (i j : Nat) (a b : M D) : Sm := thenS a fun x => thenS b fun y => fun e => if flatG y = true then .nx ((e.set i (putC oi x)).set j (putC oj y)) else .no
def par3N (oi oj ok : Bool) (i j k : Nat) (a b c : M D) : Sm := thenS a fun x => thenS b fun y => thenS c fun z => fun e => if (flatG y && flatG z) = true then .nx (((e.set i (putC oi x)).set j (putC oj y)).set k (putC ok z)) else .no
section
variable {X : Cx} {G : Amb} {p pa pb pc : Bool} {l la lb lc fl : Lvl} {e a b c : Expr} {fa fb fc : M D} {pos px py pz pt pt2 : Pos} {x y z : Str} {kt k2 : _}
theorem js_par2N (oi oj : Bool) (i j : Nat) (hc : X.calm = true) (hN : X.N.Nodup) (hi : X.N[i]? = some x) (hj : X.N[j]? = some y) (hij : i ≠ j)
    (hx : X.env.scope.names.lookup x = some .local) (hy : X.env.scope.names.lookup y = some .local) (ha : J X G true .fre a fa) (hb : J X G true .fre b fb)
    (h1 : starEach [a, b] X.env = (false, eval a X.env) :: starEach [b] X.env) (h2 : starEach [b] X.env = (false, eval b X.env) :: starEach [] X.env)
    (hw : swappedStores [.Tuple [.Name x px, .Name y py] kt pt] (.Tuple [a, b] k2 pt2) X.env = pure (some [x, y])) (hf : G.fx.contains i = false := by rfl) (hf2 : G.fx.contains j = false := by rfl)
    (hs : swapsWithSole [.Tuple [.Name x px, .Name y py] kt pt] (.Tuple [a, b] k2 pt2) pos.line X.env = pure false := by rfl) :
    JS X G fl (.Assign [.Tuple [.Name x px, .Name y py] kt pt] (.Tuple [a, b] k2 pt2) pos) (par2N oi oj i j fa fb) := ps_mono (ps_par hc hN hi hj hij hx hy (pa_cons ha (pa_cons hb pa_nil h2) h1) hw hs) fun Dn σ H ⟨env, S, q⟩ => by
  refine ⟨env, S, (OkS.thenS0 true q).mono fun da env1 H1 ⟨f1, q1⟩ v rv => ?_⟩
  obtain ⟨e1, s1⟩ := f1.pure rfl
  subst e1
  refine ⟨env1, f1.st, (OkS.thenS1 true f1 q1).mono fun db env2 H2 ⟨f2, q2⟩ u ru => ⟨_, _, rfl, ?_⟩⟩
  obtain ⟨e2, s2⟩ := f2.pure rfl
  subst e2
  by_cases c : flatG db = true
  · rw [if_pos c] at q2
    refine q2 _ H2 ?_
    have t1 := putC_step (X := X) oi S (not_fx hf) s1 rv
    exact t1.trans (putC_step (X := X) oj t1.st (not_fx hf2) s2 (flatG_rpF c ru))
  · rw [if_neg c] at q2
    exact q2.elim
theorem js_par3N (oi oj ok : Bool) (i j k : Nat) (hc : X.calm = true) (hN : X.N.Nodup) (hi : X.N[i]? = some x) (hj : X.N[j]? = some y) (hk : X.N[k]? = some z) (hij : i ≠ j) (hik : i ≠ k) (hjk : j ≠ k)
    (hx : X.env.scope.names.lookup x = some .local) (hy : X.env.scope.names.lookup y = some .local) (hz : X.env.scope.names.lookup z = some .local) (ha : J X G true .fre a fa) (hb : J X G true .fre b fb) (hcc : J X G true .fre c fc)
    (h1 : starEach [a, b, c] X.env = (false, eval a X.env) :: starEach [b, c] X.env) (h2 : starEach [b, c] X.env = (false, eval b X.env) :: starEach [c] X.env) (h3 : starEach [c] X.env = (false, eval c X.env) :: starEach [] X.env)
    (hw : swappedStores [.Tuple [.Name x px, .Name y py, .Name z pz] kt pt] (.Tuple [a, b, c] k2 pt2) X.env = pure (some [x, y, z])) (hf : G.fx.contains i = false := by rfl) (hf2 : G.fx.contains j = false := by rfl) (hf3 : G.fx.contains k = false := by rfl)
    (hs : swapsWithSole [.Tuple [.Name x px, .Name y py, .Name z pz] kt pt] (.Tuple [a, b, c] k2 pt2) pos.line X.env = pure false := by rfl) :
    JS X G fl (.Assign [.Tuple [.Name x px, .Name y py, .Name z pz] kt pt] (.Tuple [a, b, c] k2 pt2) pos) (par3N oi oj ok i j k fa fb fc) :=
    ps_mono (ps_par3 hc hN hi hj hk hij hik hjk hx hy hz (pa_cons ha (pa_cons hb (pa_cons hcc pa_nil h3) h2) h1) hw hs) fun Dn σ H ⟨env, S, q⟩ => by
  refine ⟨env, S, (OkS.thenS0 true q).mono fun da env1 H1 ⟨f1, q1⟩ v rv => ?_⟩
  obtain ⟨e1, s1⟩ := f1.pure rfl
  subst e1
  refine ⟨env1, f1.st, (OkS.thenS1 true f1 q1).mono fun db env2 H2 ⟨f2, q2⟩ u ru => ?_⟩
  obtain ⟨e2, s2⟩ := f2.pure rfl
  subst e2
  refine ⟨env2, f2.st, (OkS.thenS1 true (f1.trans f2) q2).mono fun dc env3 H3 ⟨f3, q3⟩ t rt => ⟨_, _, _, rfl, ?_⟩⟩
  obtain ⟨e3, s3⟩ := f3.pure rfl
  subst e3
  by_cases c : (flatG db && flatG dc) = true
  · rw [if_pos c] at q3
    have c' := Bool.and_eq_true_iff.mp c
    refine q3 _ H3 ?_
    have t1 := putC_step (X := X) oi S (not_fx hf) s1 rv
    have t2 := t1.trans (putC_step (X := X) oj t1.st (not_fx hf2) s2 (flatG_rpF c'.1 ru))
    exact t2.trans (putC_step (X := X) ok t2.st (not_fx hf3) s3 (flatG_rpF c'.2 rt))
  · rw [if_neg c] at q3
    exact q3.elim
end
end PV
namespace PV
open PySem PySem.Spec PyProof.Rows L2

/-! range(i, j, -1) -/
def rdnD (i j : Int) : List D := (List.range (i - j).toNat).map fun k => PyData.int (i - (k : Nat))
def rngA3 : List D → Option (List D)
  | [.int i, .int j, .int c] => if (decide (c = -1) && rngOk j i) = true then some (rdnD i j) else none
  | _ => none
def rngI3 (m : M (List D)) : M (List D) := bnd m fun ds => lft (rngA3 ds)
theorem itOk_rdn {K : PySem.W.Frag} {sf : Bool} {R1 : Addr → Prop} {H1 : Hp} {i j : Int} (h : (i - j).toNat ≤ sizeLine) : ItOk K sf R1 H1 (Itc i (-1) (i - j).toNat) (rdnD i j) where
  len := by unfold rdnD; rw [List.length_map, List.length_range]; exact h
  go := fun H k d _ hd => by
    unfold rdnD at hd
    rw [List.getElem?_map] at hd
    cases q : (List.range (i - j).toNat)[k]? with
    | none => rw [q] at hd; cases hd
    | some m =>
      rw [q] at hd
      cases hd
      obtain ⟨h1, h2⟩ := List.getElem?_eq_some_iff.mp q
      rw [List.getElem_range] at h2
      subst h2
      rw [List.length_range] at h1
      refine ⟨h1, fun x H' hy => ?_⟩
      obtain ⟨e1, e2⟩ := hy
      subst e1 e2
      refine ⟨Same.refl _, ?_⟩
      have : i + (k : Nat) * (-1 : Int) = i - (k : Nat) := by omega
      rw [this]
      exact .int _
  stop := fun H _ => by
    unfold rdnD
    rw [List.length_map, List.length_range]
    exact Nat.le_refl _
section
variable {X : Cx} {G : Amb} {p sf : Bool} {tg a b c : Expr} {fr : M (List D)} {pos p' : Pos}
theorem ji_range3 (hg : Gl X "range") (hm : X.mg "range" = none) (ha : JA X G p true [a, b, c] fr) (hs : starEach [a, b, c] X.env = (false, eval a X.env) :: starEach [b, c] X.env := by rfl) (hpl : (backTo pos (starEach [b, c] X.env)).any (·.1) = false := by rfl) :
    JI X G p sf tg (.Call (.Name "range" p') [a, b, c] [] pos) (rngI3 fr) :=
  ⟨fun pn s σ H R I ⟨env, S, q⟩ => (pi_range3 hg hm ha hs hpl).run pn s σ H R I (by
    refine ⟨env, S, (Ok.bind3 (p' := true) (by simp) q).mono fun ds env1 H1 ⟨f1, q1⟩ vs rvs => ?_⟩
    have r : RpAll X.K H1 (G.R σ env1) vs ds := rvs
    obtain ⟨is, e, q2⟩ := q1.lft f1.st
    match ds, e with
    | [.int i, .int j, .int k], e =>
      obtain ⟨z, rfl⟩ := if_some (show (if (decide (k = -1) && rngOk j i) = true then some (rdnD i j) else none) = some is from e)
      obtain ⟨z0, z'⟩ := Bool.and_eq_true_iff.mp z
      obtain rfl := of_decide_eq_true z0
      obtain ⟨z1, z2, z3, z4, z5⟩ := rngOk_iff z'
      cases r with
      | cons r1 r2 => cases r2 with
        | cons r2 r3 => cases r3 with
          | cons r3 r4 =>
            cases r4
            rw [(RpC.of r1).int, (RpC.of r2).int, (RpC.of r3).int]
            exact ⟨i, j, -1, (i - j).toNat, rfl, RgC.neg z3 z4 z1 z2, q2 H1 (Same.refl _) _ (itOk_rdn z5)⟩)⟩
end
end PV
namespace PV
open PySem PySem.Spec PyProof.Rows L2

/-! xs.index(x), xs a list -/
def isLstD : D → Bool
  | .list _ => true
  | _ => false
def indD : D → List D → Option D
  | .list ds, [d] => if (noDicts ds && noDict d && decide ((PyData.list ds).depth ≤ 64) && decide (d.depth ≤ 64)) = true then (ds.findIdx? fun z => PyData.eqv z d).map fun (j : Nat) => .int j else none
  | _, _ => none
theorem lst_ty {K : PySem.W.Frag} : TyOk K "list" isLstD := fun H N v d r h => by
  cases d with
  | list ds =>
    obtain ⟨a, xs, rfl, h1, _⟩ := r.list
    exact .inl ⟨rfl, xs, .inl h1⟩
  | _ => cases h
variable {X : Cx}
theorem om_index (hu : X.A.units + 65 < cLine) : MtR X "list.index" (rMt X.K .fre indD) := mtr_mono (mt_indexD hu) fun x xs H Q ⟨N, da, ds, d, dom, rx, rr, e, q⟩ => by
  cases da with
  | list zs =>
    match ds, e with
    | [y], e =>
      have e1 : (if (noDicts zs && noDict y && decide ((PyData.list zs).depth ≤ 64) && decide (y.depth ≤ 64)) = true then (zs.findIdx? fun z => PyData.eqv z y).map fun (j : Nat) => PyData.int j else none) = some d := e
      by_cases c : (noDicts zs && noDict y && decide ((PyData.list zs).depth ≤ 64) && decide (y.depth ≤ 64)) = true
      · rw [if_pos c] at e1
        simp only [Bool.and_eq_true, decide_eq_true_eq] at c
        obtain ⟨⟨⟨c1, c2⟩, c3⟩, c4⟩ := c
        cases ef : zs.findIdx? fun z => PyData.eqv z y with
        | none => rw [ef] at e1; cases e1
        | some j =>
          rw [ef] at e1
          cases e1
          obtain ⟨hj, pj, nj⟩ := List.findIdx?_eq_some_iff_getElem.mp ef
          obtain ⟨a, vs, hv, _, _⟩ := rx.list
          subst hv
          obtain ⟨u, hu2, cu⟩ := rr.one
          subst hu2
          refine ⟨a, u, y, zs, j, zs[j], rfl, rfl, rx.dp (show noDict (.list zs) = true from c1), cu.dp c2, Bool.and_eq_true_iff.mpr ⟨rx.lay (show noDict (.list zs) = true from c1), decide_eq_true c3⟩, Bool.and_eq_true_iff.mpr ⟨cu.lay c2, decide_eq_true c4⟩, List.getElem?_eq_getElem hj, pj, fun m z hm hz => ?_, q _ H (Same.refl H) (.int _)⟩
          have hml : m < zs.length := by omega
          rw [List.getElem?_eq_getElem hml] at hz
          cases hz
          have := nj m hm
          simpa using this
      · rw [if_neg c] at e1; cases e1
  | _ => cases e
end PV
namespace PV
open PySem PySem.Spec PyProof.Rows L2

/-! sorted of a dict with texts as keys -/
theorem rising_pw : ∀ {r : List Str} {x : Str}, risingS x r = true → (x :: r).Pairwise fun a b => leS a b = true
  | [], x, _ => List.pairwise_singleton _ _
  | y :: r, x, h => by
    have h0 : (!ltCps y.cps.toList x.cps.toList && risingS y r) = true := h
    obtain ⟨h1, h2⟩ := Bool.and_eq_true_iff.mp h0
    have ih := rising_pw h2
    have e : leS x y = true := by
      rw [leS_eq]
      rw [ltCps_eq] at h1
      exact decide_eq_true (by simpa using h1)
    refine List.pairwise_cons.mpr ⟨fun z hz => ?_, ih⟩
    rcases List.mem_cons.mp hz with rfl | hz
    · exact e
    · exact leS_trans _ _ _ e ((List.pairwise_cons.mp ih).1 z hz)
theorem sortedS_merge {ys ks : List Str} (p : ys.Perm ks) (h : sortedS ys = true) : ys = ks.mergeSort leS := by
  have hp : ys.Pairwise fun a b => leS a b = true := by
    cases ys with
    | nil => exact .nil
    | cons x r => exact rising_pw h
  refine List.Perm.eq_of_pairwise (le := fun a b => leS a b = true) (fun a b _ _ h1 h2 => leS_anti a b h1 h2) hp (List.pairwise_mergeSort leS_trans leS_total _) ?_
  exact p.trans (List.mergeSort_perm _ _).symm
def leZ (a b : Int) : Bool := decide (a ≤ b)
def sorZ (es : List (D × D)) : Option D := (intsD (es.map (·.1))).bind fun ks => if decide (ks.length < 64) = true then some (.list ((ks.mergeSort leZ).map .int)) else none
def sorK (es : List (D × D)) : Option D := match strsD (es.map (·.1)) with
  | some ks => if (decide (ks.length < 64) && ks.all PyData.strOk) = true then some (.list ((ks.mergeSort leS).map .str)) else none
  | none => sorZ es
def sorE : List D → Option D
  | [.dict es] => sorK es
  | as => sorD as
theorem leZ_trans (a b c : Int) (h1 : leZ a b = true) (h2 : leZ b c = true) : leZ a c = true := decide_eq_true (Int.le_trans (of_decide_eq_true h1) (of_decide_eq_true h2))
theorem leZ_total (a b : Int) : (leZ a b || leZ b a) = true := by
  rcases Int.le_total a b with q | q
  · exact Bool.or_eq_true_iff.mpr (.inl (decide_eq_true q))
  · exact Bool.or_eq_true_iff.mpr (.inr (decide_eq_true q))
theorem sortedZ_merge {ys ks : List Int} (p : ys.Perm ks) (h : ys.Pairwise (· ≤ ·)) : ys = ks.mergeSort leZ := by
  have hp : ys.Pairwise fun a b => leZ a b = true := h.imp fun {a b} z => decide_eq_true z
  refine List.Perm.eq_of_pairwise (le := fun a b => leZ a b = true) (fun a b _ _ h1 h2 => Int.le_antisymm (of_decide_eq_true h1) (of_decide_eq_true h2)) hp (List.pairwise_mergeSort leZ_trans leZ_total _) ?_
  exact p.trans (List.mergeSort_perm _ _).symm
theorem keys_int {K : PySem.W.Frag} {H : Hp} {N : Addr → Prop} : ∀ {kvs : List (Key × V)} {es : List (D × D)} {ks : List Int}, RpKV K H N kvs es → intsD (es.map (·.1)) = some ks → kvs.map (·.1) = ks.map Sum.inl
  | _, _, _, .nil, e => by cases e; rfl
  | _, (_, _) :: es, ks, .cons (k := k) h r, e => by
    cases k with
    | inr i => cases e
    | inl x =>
      have e1 : (intsD (es.map (·.1))).map (x :: ·) = some ks := e
      cases q : intsD (es.map (·.1)) with
      | none => rw [q] at e1; cases e1
      | some rs =>
        rw [q] at e1
        cases e1
        rw [List.map_cons, List.map_cons, keys_int r q]
theorem ints_rpA {K : PySem.W.Frag} {H : Hp} {N : Addr → Prop} : ∀ ks : List Int, RpAll K H N (ks.map V.int) (ks.map PyData.int)
  | [] => .nil
  | i :: r => .cons (.int i) (ints_rpA r)
theorem keys_str {K : PySem.W.Frag} {H : Hp} {N : Addr → Prop} : ∀ {kvs : List (Key × V)} {es : List (D × D)} {ks : List Str}, RpKV K H N kvs es → strsD (es.map (·.1)) = some ks → kvs.map (·.1) = ks.map Sum.inr
  | _, _, _, .nil, e => by cases e; rfl
  | _, (_, _) :: es, ks, .cons (k := k) h r, e => by
    cases k with
    | inl i => cases e
    | inr x =>
      have e1 : (strsD (es.map (·.1))).map (x :: ·) = some ks := e
      cases q : strsD (es.map (·.1)) with
      | none => rw [q] at e1; cases e1
      | some rs =>
        rw [q] at e1
        cases e1
        rw [List.map_cons, List.map_cons, keys_str r q]
variable {X : Cx}
theorem oc_sortedE (hc : X.calm = true) (hu : X.A.units + 64 < cLine) : CallR X (.builtin "sorted") (rC X.K .fre sorE) := by
  refine callr_mono (((call_sortedD hc).or (call_sortedDI hc)).or (oc_sorted hu)) fun xs H Q ⟨N, as, d, dom, rr, e, q⟩ => ?_
  have other : sorD as = some d → (rC X.K .fre sorD) xs H Q := fun e => ⟨N, as, d, dom, rr, e, q⟩
  match as, e with
  | [], e => exact .inr (other e)
  | x :: y :: r, e => exact .inr (other ((show sorE (x :: y :: r) = sorD (x :: y :: r) by cases x <;> rfl).symm.trans e))
  | [.none], e => exact .inr (other e)
  | [.bool _], e => exact .inr (other e)
  | [.int _], e => exact .inr (other e)
  | [.str _], e => exact .inr (other e)
  | [.list _], e => exact .inr (other e)
  | [.tuple _], e => exact .inr (other e)
  | [.dict es], e =>
    obtain ⟨v, rfl, cl⟩ := rr.one
    obtain ⟨a, kvs, rfl, h1, h2⟩ := cl.dict
    have e1 : (match strsD (es.map (·.1)) with
      | some ks => if (decide (ks.length < 64) && ks.all PyData.strOk) = true then some (PyData.list ((ks.mergeSort leS).map .str)) else none
      | none => sorZ es) = some d := e
    cases q2 : strsD (es.map (·.1)) with
    | none =>
      rw [q2] at e1
      have e1 : ((intsD (es.map (·.1))).bind fun ks => if decide (ks.length < 64) = true then some (PyData.list ((ks.mergeSort leZ).map .int)) else none) = some d := e1
      cases q3 : intsD (es.map (·.1)) with
      | none => rw [q3] at e1; cases e1
      | some ks =>
        rw [q3] at e1
        obtain ⟨c, rfl⟩ := if_some (show (if decide (ks.length < 64) = true then some (PyData.list ((ks.mergeSort leZ).map .int)) else none) = some d from e1)
        refine .inl (.inr ⟨a, kvs, ks, rfl, h1, keys_int h2 q3, of_decide_eq_true c, fun ys p hp hs hn => ?_⟩)
        have ey := sortedZ_merge hp hs
        subst ey
        exact q _ _ (same_new hn) ⟨p, _, rfl, hn, upd_same, ints_rpA _⟩
    | some ks =>
      rw [q2] at e1
      obtain ⟨c, rfl⟩ := if_some (show (if (decide (ks.length < 64) && ks.all PyData.strOk) = true then some (PyData.list ((ks.mergeSort leS).map .str)) else none) = some d from e1)
      obtain ⟨c1, c2⟩ := Bool.and_eq_true_iff.mp c
      refine .inl (.inl ⟨a, kvs, ks, rfl, h1, keys_str h2 q2, of_decide_eq_true c1, fun ys p hp hs hn => ?_⟩)
      have ey := sortedS_merge hp hs
      subst ey
      exact q _ _ (same_new hn) ⟨p, _, rfl, hn, upd_same, strs_rp (List.all_eq_true.mpr fun x hx => List.all_eq_true.mp c2 x (hp.mem_iff.mp hx))⟩
end PV
namespace PV
open PySem PySem.Spec PyProof.Rows L2

/-! min of a list of data -/
def plD : D → Bool
  | .list _ => false
  | .dict _ => false
  | .none => false
  | _ => true
def minOk (ds : List D) : Bool := noDicts ds && ((ds.all fun a => ds.all fun b => PySem.W.alike a b) && (ds.all plD && decide (PyData.depthAll ds ≤ 60)))
def minE : List D → Option D
  | [.list (x :: r)] => if minOk (x :: r) = true then some (PySem.W.minD x r) else none
  | [.int i, .int j] => some (.int (if j < i then j else i))
  | _ => none
theorem minD_mem : ∀ (r : List D) (x : D), PySem.W.minD x r ∈ x :: r
  | [], x => List.mem_cons_self
  | y :: r, x => by
    have h := minD_mem r (if PySem.W.dataLt y x then y else x)
    have e : PySem.W.minD x (y :: r) = PySem.W.minD (if PySem.W.dataLt y x then y else x) r := rfl
    rw [e]
    rcases List.mem_cons.mp h with h | h
    · rw [h]
      by_cases c : PySem.W.dataLt y x = true
      · rw [if_pos c]; simp
      · rw [if_neg c]; simp
    · simp [h]
theorem plD_rpF {K : PySem.W.Frag} {H H' : Hp} {N : Addr → Prop} {v : V} {d : D} (h : plD d = true) (r : Rp K H' N v d) : RpF K H H' N v d := by
  cases d with
  | list _ => cases h
  | dict _ => cases h
  | _ => exact r
theorem readsAll_of {X : Cx} {pins : List (Addr × Obj)} {s : Shared} {σ : L2.St} {H : Hp} {N : Addr → Prop} (I : Inv X pins σ H s) : ∀ {ys : List V} {ds : List D} {its : List Value}, (∀ d, d ∈ ds → noDict d = true) → RpAll X.K H N ys ds → Vals ys its → ∃ as, ReadsAll s.heap its ds as
  | [], [], [], _, .nil, .nil => ⟨_, .nil⟩
  | _ :: _, d :: _, _ :: _, nd, .cons h hs, .cons r rs => by
    obtain ⟨as, g⟩ := Dp.reads I d _ _ ((RpC.of h).dp (nd d List.mem_cons_self)) r
    obtain ⟨bs, gs⟩ := readsAll_of I (fun d hd => nd d (List.mem_cons_of_mem _ hd)) hs rs
    exact ⟨_, .cons g gs⟩
variable {X : Cx}
theorem cr_minE (hc : X.calm = true) (hu : X.A.units + 64 < cLine) : CallR X (.builtin "min") (fun xs H Q => ∃ (N : Addr → Prop) (a : Addr) (ys : List V) (x : D) (r : List D), xs = [.ref a] ∧ SqL X.K H a ys ∧ RpAll X.K H N ys (x :: r) ∧ minOk (x :: r) = true ∧ ∀ v, Rp X.K H N v (PySem.W.minD x r) → Q v H) := by
  intro pins s σ H xs us Q I r ⟨N, a, ys, x, rs, e, hl, hr, hk, q⟩
  subst e
  rw [Vals.ref1 r]
  unfold minOk at hk
  simp only [Bool.and_eq_true] at hk
  obtain ⟨k1, k2, k3, k4⟩ := hk
  have nd := noDicts_iff.mp k1
  obtain ⟨its, rv, pl, hz⟩ := I.list hl
  have al : ∀ p ∈ x :: rs, ∀ q ∈ x :: rs, PySem.W.alike p q = true := fun p hp q hq => List.all_eq_true.mp (List.all_eq_true.mp k2 p hp) q hq
  have rd : ∃ as, ReadsAll s.heap its (x :: rs) as := by
    exact readsAll_of I nd hr rv
  obtain ⟨as, rd⟩ := rd
  refine PySem.W.min_list_data (vs := its.toArray) (I.ok.hd hc) pl.isList (by simpa using rd) ⟨al, fun d hd hn => ?_⟩ (by have := of_decide_eq_true k4; omega) fun i v h' tk bs hi hb hkp => ?_
  · subst hn
    exact nomatch List.all_eq_true.mp k3 _ hd
  · have hi' : its[i]? = some v := by simpa using hi
    obtain ⟨as2, g1, g2, g3, _⟩ := PySem.W.readsAll_at rd i v hi'
    have e : (x :: rs).getD i .none = PySem.W.minD x rs := PySem.W.alike_unique _ _ v _ _ (al _ g3 _ (minD_mem rs x)) (PyProof.Rows.Reads.keeps hkp g1) hb
    have e2 : (x :: rs)[i]? = some (PySem.W.minD x rs) := by
      rw [← e, List.getD_eq_getElem?_getD, List.getElem?_eq_getElem g2]
      rfl
    obtain ⟨w, w1, w2⟩ := hr.get e2
    obtain ⟨u, u1, u2⟩ := rv.get w1
    have e3 : u = v := Option.some.inj (u1.symm.trans hi')
    subst e3
    exact ⟨w, H, I.kept (t' := tk) hkp, u2, q w w2⟩
theorem oc_minE (hc : X.calm = true) (hu : X.A.units + 64 < cLine) : CallR X (.builtin "min") (rC X.K .fre minE) := callr_mono ((cr_minE hc hu).or (oc_min hc)) fun xs H Q ⟨N, as, d, dom, rr, e, q⟩ => by
  match as, e with
  | [.int i, .int j], e => exact .inr ⟨N, _, d, dom, rr, e, q⟩
  | [.list (x :: r)], e =>
    obtain ⟨v, rfl, cl⟩ := rr.one
    obtain ⟨a, ys, rfl, h1, h2⟩ := cl.list
    obtain ⟨c, rfl⟩ := if_some (show (if minOk (x :: r) = true then some (PySem.W.minD x r) else none) = some d from e)
    refine .inl ⟨N, a, ys, x, r, rfl, .inl h1, h2, c, fun v hv => q v H (Same.refl H) (plD_rpF ?_ hv)⟩
    unfold minOk at c
    simp only [Bool.and_eq_true] at c
    exact List.all_eq_true.mp c.2.2.1 _ (minD_mem r x)
end PV
namespace PV
open PySem PySem.Spec PyProof.Rows L2
/-! more defs that many laws have: states, trees, puts (printed by gen.py) -/
def q_once_each_1 : Sm :=
 rtn (callD tupD (consA (op1 ssD (rdS 0)) (nilA)))
def d_once_each : Sm := q_once_each_1
def f_once_each : Fn := fnD [false] 1 d_once_each
def q_all_states_1 : Sm :=
 setO 1 (lstE (consA (tupE (nilA)) (nilA)))
def q_all_states_3 : Sm :=
 extS 1 (lcE (.nm 3) [3] (yesT) (op2 addD (rdS 3) (tupE (consA (rdS 2) (nilA)))) (seqI (rdB 1)))
def q_all_states_2 : Sm :=
 frS (.nm 2) [2] (seqI (rdS 0))
 (q_all_states_3)
def q_all_states_4 : Sm :=
 rtn (lcE (.nm 3) [3] (yesT) (callD tupD (consA (callD sorE (consA (rdS 3) (nilA))) (nilA))) (seqI (rdB 1)))
def d_all_states : Sm := sq (q_all_states_1) (sq (q_all_states_2) (q_all_states_4))
def f_all_states : Fn := fnD [false] 4 d_all_states
def q_contact_lets_1 : Sm :=
 rtn (op2 eqD (op2 inD (op2 ixD (rdS 0) (ret (.int 1))) (rdS 1)) (op2 eqD (op2 ixD (rdS 0) (ret (.int 0))) (ret (.str "on"))))
def d_contact_lets : Sm := q_contact_lets_1
def f_contact_lets : Fn := fnD [false, false] 2 d_contact_lets
def q_tree_lets_1 (r_tree_lets : Fn) : Sm :=
 setS 2 (op2 ixD (rdS 0) (ret (.int 0)))
def q_tree_lets_3 (r_tree_lets : Fn) : Sm :=
 rtn (cal (f_contact_lets) (consA (rdS 0) (consA (rdS 1) (nilA))))
def q_tree_lets_2 (r_tree_lets : Fn) : Sm :=
 ifS (tcm (op2 inD (rdS 2) (tupE (consA (ret (.str "on")) (consA (ret (.str "off")) (nilA))))))
 (q_tree_lets_3 r_tree_lets)
 (nxt)
def q_tree_lets_5 (r_tree_lets : Fn) : Sm :=
 rtn (op2 eqD (rdS 2) (ret (.str "wire")))
def q_tree_lets_4 (r_tree_lets : Fn) : Sm :=
 ifS (tcm (op2 inD (rdS 2) (tupE (consA (ret (.str "wire")) (consA (ret (.str "gap")) (nilA))))))
 (q_tree_lets_5 r_tree_lets)
 (nxt)
def q_tree_lets_6 (r_tree_lets : Fn) : Sm :=
 setS 3 (lcE (.nm 4) [4] (yesT) (cal (r_tree_lets) (consA (rdS 4) (consA (rdS 1) (nilA)))) (seqI (op2 ixD (rdS 0) (ret (.int 1)))))
def q_tree_lets_7 (r_tree_lets : Fn) : Sm :=
 rtn (ifE (tcm (op2 eqD (rdS 2) (ret (.str "row")))) (callD allD (consA (rdS 3) (nilA))) (callD anyD (consA (rdS 3) (nilA))))
def d_tree_lets (r_tree_lets : Fn) : Sm := sq (q_tree_lets_1 r_tree_lets) (sq (q_tree_lets_2 r_tree_lets) (sq (q_tree_lets_4 r_tree_lets) (sq (q_tree_lets_6 r_tree_lets) (q_tree_lets_7 r_tree_lets))))
def f_tree_lets : Nat → Fn
  | 0 => fun _ => .no
  | n + 1 => fnD [false, false] 5 (d_tree_lets (f_tree_lets n))
def q_all_contacts_2 (r_all_contacts : Fn) : Sm :=
 rtn (lstE (consA (rdS 0) (nilA)))
def q_all_contacts_1 (r_all_contacts : Fn) : Sm :=
 ifS (tcm (op2 inD (op2 ixD (rdS 0) (ret (.int 0))) (tupE (consA (ret (.str "on")) (consA (ret (.str "off")) (nilA))))))
 (q_all_contacts_2 r_all_contacts)
 (nxt)
def q_all_contacts_3 (r_all_contacts : Fn) : Sm :=
 setO 1 (lstE (nilA))
def q_all_contacts_6 (r_all_contacts : Fn) : Sm :=
 extS 1 (cal (r_all_contacts) (consA (rdS 2) (nilA)))
def q_all_contacts_5 (r_all_contacts : Fn) : Sm :=
 frS (.nm 2) [2] (seqI (op2 ixD (rdS 0) (ret (.int 1))))
 (q_all_contacts_6 r_all_contacts)
def q_all_contacts_4 (r_all_contacts : Fn) : Sm :=
 ifS (tcm (op2 inD (op2 ixD (rdS 0) (ret (.int 0))) (tupE (consA (ret (.str "row")) (consA (ret (.str "beside")) (nilA))))))
 (q_all_contacts_5 r_all_contacts)
 (nxt)
def q_all_contacts_7 (r_all_contacts : Fn) : Sm :=
 rtO 1
def d_all_contacts (r_all_contacts : Fn) : Sm := sq (q_all_contacts_1 r_all_contacts) (sq (q_all_contacts_3 r_all_contacts) (sq (q_all_contacts_4 r_all_contacts) (q_all_contacts_7 r_all_contacts)))
def f_all_contacts : Nat → Fn
  | 0 => fun _ => .no
  | n + 1 => fnD [false] 3 (d_all_contacts (f_all_contacts n))
def q_tree_names_1 : Sm :=
 rtn (cal (f_once_each) (consA (lcE (.tp [.nm 1, .nm 2]) [1, 2] (yesT) (rdS 2) (seqI (cal (f_all_contacts 40) (consA (rdS 0) (nilA))))) (nilA)))
def d_tree_names : Sm := q_tree_names_1
def f_tree_names : Fn := fnD [false] 3 d_tree_names
def q_in_order_1 : Sm :=
 rtn (lcE (.tp [.nm 1, .nm 2]) [1, 2] (yesT) (rdS 2) (seqI (callD sorE (consA (lcE (.nm 2) [2] (yesT) (tupE (consA (callD lenD (consA (rdS 2) (nilA))) (consA (rdS 2) (nilA)))) (seqI (cal (f_all_states) (consA (rdS 0) (nilA))))) (nilA)))))
def d_in_order : Sm := q_in_order_1
def f_in_order : Fn := fnD [false] 3 d_in_order
def q_with_name_1 : Sm :=
 setS 3 (callD tupD (consA (lcE (.nm 4) [4] (tcm (op2 neD (rdS 4) (rdS 1))) (rdS 4) (seqI (rdS 0))) (nilA)))
def q_with_name_2 : Sm :=
 rtn (ifE (tru (rdS 2)) (cal (f_once_each) (consA (op2 addD (rdS 3) (tupE (consA (rdS 1) (nilA)))) (nilA))) (rdS 3))
def d_with_name : Sm := sq (q_with_name_1) (q_with_name_2)
def f_with_name : Fn := fnD [false, false, false] 5 d_with_name
def q_run_puts_2 : Sm :=
 setS 1 (cal (f_with_name) (consA (rdS 1) (consA (rdS 3) (consA (cal (f_tree_lets 40) (consA (rdS 2) (consA (rdS 1) (nilA)))) (nilA)))))
def q_run_puts_1 : Sm :=
 frS (.tp [.nm 2, .nm 3]) [2, 3] (seqI (rdS 0))
 (q_run_puts_2)
def q_run_puts_3 : Sm :=
 rtn (rdS 1)
def d_run_puts : Sm := sq (q_run_puts_1) (q_run_puts_3)
def f_run_puts : Fn := fnD [false, false] 4 d_run_puts
def q_put_names_1 : Sm :=
 setO 1 (lstE (nilA))
def q_put_names_3 : Sm :=
 extS 1 (op2 addD (callD lisD (consA (cal (f_tree_names) (consA (rdS 2) (nilA))) (nilA))) (lstE (consA (rdS 3) (nilA))))
def q_put_names_2 : Sm :=
 frS (.tp [.nm 2, .nm 3]) [2, 3] (seqI (rdS 0))
 (q_put_names_3)
def q_put_names_4 : Sm :=
 rtn (cal (f_once_each) (consA (rdF 1) (nilA)))
def d_put_names : Sm := sq (q_put_names_1) (sq (q_put_names_2) (q_put_names_4))
def f_put_names : Fn := fnD [false] 4 d_put_names
def q__law_tree_1 (r__law_tree : Fn) : Sm :=
 setS 3 (ifE (tcm (op2 gtD (rdS 2) (ret (.int 0)))) (calH (f__law_next) [some 0, none] (holeA 0 (consA (ret (.int 7)) (nilA)))) (calH (f__law_next) [some 0, none] (holeA 0 (consA (ret (.int 3)) (nilA)))))
def q__law_tree_3 (r__law_tree : Fn) : Sm :=
 rtn (tupE (consA (calH (f__law_pick) [some 0, none] (holeA 0 (consA (lstE (consA (ret (.str "on")) (consA (ret (.str "on")) (consA (ret (.str "off")) (nilA))))) (nilA)))) (consA (calH (f__law_pick) [some 0, none] (holeA 0 (consA (rdS 1) (nilA)))) (nilA))))
def q__law_tree_2 (r__law_tree : Fn) : Sm :=
 ifS (tcm (op2 ltD (rdS 3) (ret (.int 3))))
 (q__law_tree_3 r__law_tree)
 (nxt)
def q__law_tree_5 (r__law_tree : Fn) : Sm :=
 rtn (calH (f__law_pick) [some 0, none] (holeA 0 (consA (lstE (consA (tupE (consA (ret (.str "wire")) (nilA))) (consA (tupE (consA (ret (.str "gap")) (nilA))) (nilA)))) (nilA))))
def q__law_tree_4 (r__law_tree : Fn) : Sm :=
 ifS (andT (tcm (op2 eqD (rdS 3) (ret (.int 3)))) (tcm (op2 eqD (calH (f__law_next) [some 0, none] (holeA 0 (consA (ret (.int 3)) (nilA)))) (ret (.int 0)))))
 (q__law_tree_5 r__law_tree)
 (nxt)
def q__law_tree_6 (r__law_tree : Fn) : Sm :=
 rtn (tupE (consA (ifE (andT (tcm (op2 ltD (rdS 3) (ret (.int 6)))) (tcm (op2 neD (rdS 3) (ret (.int 4))))) (ret (.str "row")) (ret (.str "beside"))) (consA (callD tupD (consA (lcE (.nm 4) [4] (yesT) (calH (r__law_tree) [some 0, none, none] (holeA 0 (consA (rdS 1) (consA (op2 subD (rdS 2) (ret (.int 1))) (nilA))))) (rngI1 (consA (op2 addD (ret (.int 2)) (calH (f__law_next) [some 0, none] (holeA 0 (consA (ret (.int 2)) (nilA))))) (nilA)))) (nilA))) (nilA))))
def d__law_tree (r__law_tree : Fn) : Sm := sq (q__law_tree_1 r__law_tree) (sq (q__law_tree_2 r__law_tree) (sq (q__law_tree_4 r__law_tree) (q__law_tree_6 r__law_tree)))
def f__law_tree : Nat → Fn
  | 0 => fun _ => .no
  | n + 1 => fnD [true, false, false] 5 (d__law_tree (f__law_tree n))
def q__law_lets_1 (r__law_lets : Fn) : Sm :=
 setS 2 (op2 ixD (rdS 0) (ret (.int 0)))
def q__law_lets_3 (r__law_lets : Fn) : Sm :=
 rtn (op2 eqD (op2 inD (op2 ixD (rdS 0) (ret (.int 1))) (rdS 1)) (op2 eqD (rdS 2) (ret (.str "on"))))
def q__law_lets_2 (r__law_lets : Fn) : Sm :=
 ifS (tcm (op2 inD (rdS 2) (tupE (consA (ret (.str "on")) (consA (ret (.str "off")) (nilA))))))
 (q__law_lets_3 r__law_lets)
 (nxt)
def q__law_lets_5 (r__law_lets : Fn) : Sm :=
 rtn (op2 eqD (rdS 2) (ret (.str "wire")))
def q__law_lets_4 (r__law_lets : Fn) : Sm :=
 ifS (tcm (op2 inD (rdS 2) (tupE (consA (ret (.str "wire")) (consA (ret (.str "gap")) (nilA))))))
 (q__law_lets_5 r__law_lets)
 (nxt)
def q__law_lets_6 (r__law_lets : Fn) : Sm :=
 setS 3 (lcE (.nm 4) [4] (tru (cal (r__law_lets) (consA (rdS 4) (consA (rdS 1) (nilA))))) (rdS 4) (seqI (op2 ixD (rdS 0) (ret (.int 1)))))
def q__law_lets_7 (r__law_lets : Fn) : Sm :=
 rtn (ifE (tcm (op2 eqD (rdS 2) (ret (.str "row")))) (op2 eqD (callD lenD (consA (rdS 3) (nilA))) (callD lenD (consA (op2 ixD (rdS 0) (ret (.int 1))) (nilA)))) (op2 neD (rdS 3) (lstE (nilA))))
def d__law_lets (r__law_lets : Fn) : Sm := sq (q__law_lets_1 r__law_lets) (sq (q__law_lets_2 r__law_lets) (sq (q__law_lets_4 r__law_lets) (sq (q__law_lets_6 r__law_lets) (q__law_lets_7 r__law_lets))))
def f__law_lets : Nat → Fn
  | 0 => fun _ => .no
  | n + 1 => fnD [false, false] 5 (d__law_lets (f__law_lets n))
def q__law_names_2 (r__law_names : Fn) : Sm :=
 rtn (lstE (consA (op2 ixD (rdS 0) (ret (.int 1))) (nilA)))
def q__law_names_1 (r__law_names : Fn) : Sm :=
 ifS (tcm (op2 inD (op2 ixD (rdS 0) (ret (.int 0))) (tupE (consA (ret (.str "on")) (consA (ret (.str "off")) (nilA))))))
 (q__law_names_2 r__law_names)
 (nxt)
def q__law_names_3 (r__law_names : Fn) : Sm :=
 setS 1 (lstE (nilA))
def q__law_names_5 (r__law_names : Fn) : Sm :=
 setS 1 (op2 addD (rdS 1) (lcE (.nm 3) [3] (tcm (op2 ninD (rdS 3) (rdS 1))) (rdS 3) (seqI (cal (r__law_names) (consA (rdS 2) (nilA))))))
def q__law_names_4 (r__law_names : Fn) : Sm :=
 frS (.nm 2) [2] (seqI (ifE (tcm (op2 inD (op2 ixD (rdS 0) (ret (.int 0))) (tupE (consA (ret (.str "row")) (consA (ret (.str "beside")) (nilA)))))) (op2 ixD (rdS 0) (ret (.int 1))) (tupE (nilA))))
 (q__law_names_5 r__law_names)
def q__law_names_6 (r__law_names : Fn) : Sm :=
 rtn (callD sorE (consA (rdS 1) (nilA)))
def d__law_names (r__law_names : Fn) : Sm := sq (q__law_names_1 r__law_names) (sq (q__law_names_3 r__law_names) (sq (q__law_names_4 r__law_names) (q__law_names_6 r__law_names)))
def f__law_names : Nat → Fn
  | 0 => fun _ => .no
  | n + 1 => fnD [false] 4 (d__law_names (f__law_names n))
def q__law_states_1 : Sm :=
 setS 1 (lstE (consA (tupE (nilA)) (nilA)))
def q__law_states_3 : Sm :=
 setS 1 (op2 addD (rdS 1) (lcE (.nm 3) [3] (yesT) (op2 addD (rdS 3) (tupE (consA (rdS 2) (nilA)))) (seqI (rdS 1))))
def q__law_states_2 : Sm :=
 frS (.nm 2) [2] (seqI (callD sorE (consA (rdS 0) (nilA))))
 (q__law_states_3)
def q__law_states_4 : Sm :=
 rtn (lcE (.nm 4) [4] (yesT) (op2 ixD (rdS 4) (ret (.int 1))) (seqI (callD sorE (consA (lcE (.nm 3) [3] (yesT) (tupE (consA (callD lenD (consA (rdS 3) (nilA))) (consA (rdS 3) (nilA)))) (seqI (rdS 1))) (nilA)))))
def d__law_states : Sm := sq (q__law_states_1) (sq (q__law_states_2) (q__law_states_4))
def f__law_states : Fn := fnD [false] 5 d__law_states
def q__law_runs_2 : Sm :=
 setS 4 (cal (f__law_lets 40) (consA (rdS 2) (consA (rdS 1) (nilA))))
def q__law_runs_3 : Sm :=
 setS 1 (callD tupD (consA (callD sorE (consA (op2 addD (lcE (.nm 5) [5] (tcm (op2 neD (rdS 5) (rdS 3))) (rdS 5) (seqI (rdS 1))) (ifE (tru (rdS 4)) (lstE (consA (rdS 3) (nilA))) (lstE (nilA)))) (nilA))) (nilA)))
def q__law_runs_1 : Sm :=
 frS (.tp [.nm 2, .nm 3]) [2, 3, 4] (seqI (rdS 0))
 (sq (q__law_runs_2) (q__law_runs_3))
def q__law_runs_4 : Sm :=
 rtn (rdS 1)
def d__law_runs : Sm := sq (q__law_runs_1) (q__law_runs_4)
def f__law_runs : Fn := fnD [false, false] 6 d__law_runs
end PV
namespace PV
open PySem PySem.Spec PyProof.Rows

theorem seqI_ok {m : M D} {e e1 : EnvD} {d : D} {ds : List D} (h : m e = .ok d e1) (hd : seqD d = some ds) : seqI m e = .ok ds e1 := by unfold seqI; rw [bnd_ok h, hd]; rfl
/-! texts in rows -/
def strL (S : List Str) : List D := S.map PyData.str
def stD (S : List Str) : D := .tuple (strL S)
theorem strL_len (S : List Str) : (strL S).length = S.length := List.length_map ..
theorem strL_nd (S : List Str) : noDicts (strL S) = true := noDicts_map (fun _ => rfl) S
theorem strL_any (S : List Str) (x : Str) : ((strL S).any fun z => PyData.eqv z (.str x)) = S.contains x := by
  induction S with
  | nil => rfl
  | cons y r ih =>
    show ((PyData.str y).eqv (.str x) || (strL r).any _) = _
    rw [ih, List.contains_cons]
    have : (PyData.str y).eqv (.str x) = (y == x) := rfl
    rw [this]
    have e : (y == x) = (x == y) := by
      cases h : y == x with
      | true => rw [eq_of_beq h]; exact (beq_self_eq_true x).symm
      | false =>
        cases h2 : x == y with
        | true => rw [eq_of_beq h2] at h; rw [beq_self_eq_true] at h; cases h
        | false => rfl
    rw [e]
theorem strL_dep (S : List Str) : PyData.depthAll (strL S) = 0 := by
  induction S with
  | nil => rfl
  | cons y r ih => show max (PyData.str y).depth (PyData.depthAll (strL r)) = 0; rw [ih]; rfl
theorem inB_strT (S : List Str) (x : Str) : inB (.str x) (stD S) = some (S.contains x) := by
  have c : (noDict (.str x) && noDicts (strL S) && decide (min (PyData.depthAll (strL S)) (PyData.str x).depth ≤ 60)) = true := by
    rw [strL_nd, strL_dep]; rfl
  show (if _ then some ((strL S).any fun z => PyData.eqv z (.str x)) else none) = _
  rw [if_pos c, strL_any]
theorem inB_strL (S : List Str) (x : Str) : inB (.str x) (.list (strL S)) = some (S.contains x) := by
  have c : (noDict (.str x) && noDicts (strL S) && decide (min (PyData.depthAll (strL S)) (PyData.str x).depth ≤ 60)) = true := by
    rw [strL_nd, strL_dep]; rfl
  show (if _ then some ((strL S).any fun z => PyData.eqv z (.str x)) else none) = _
  rw [if_pos c, strL_any]
theorem inD_strT (S : List Str) (x : Str) : inD (.str x) (stD S) = some (.bool (S.contains x)) := by unfold inD; rw [inB_strT]; rfl
theorem inD_strL (S : List Str) (x : Str) : inD (.str x) (.list (strL S)) = some (.bool (S.contains x)) := by unfold inD; rw [inB_strL]; rfl
theorem ninD_strT (S : List Str) (x : Str) : ninD (.str x) (stD S) = some (.bool (!S.contains x)) := by unfold ninD; rw [inB_strT]; rfl
theorem ninD_strL (S : List Str) (x : Str) : ninD (.str x) (.list (strL S)) = some (.bool (!S.contains x)) := by unfold ninD; rw [inB_strL]; rfl
theorem sortOk_str (S : List Str) : sortOk (strL S) = true := by
  unfold sortOk
  rw [strL_nd, Bool.true_and]
  have a1 : ((strL S).all fun a => (strL S).all fun b => PySem.W.alike a b) = true := List.all_eq_true.mpr fun a ha => List.all_eq_true.mpr fun b hb => by
    obtain ⟨x, _, rfl⟩ := List.mem_map.mp ha
    obtain ⟨y, _, rfl⟩ := List.mem_map.mp hb
    rfl
  have a2 : (strL S).all noTup = true := List.all_eq_true.mpr fun a ha => by
    obtain ⟨x, _, rfl⟩ := List.mem_map.mp ha
    rfl
  have a3 : (strL S).all (fun d => decide (d.depth ≤ 60)) = true := List.all_eq_true.mpr fun a ha => by
    obtain ⟨x, _, rfl⟩ := List.mem_map.mp ha
    rfl
  rw [a1, a2, a3, Bool.or_true]; rfl
theorem merge_str (S : List Str) : (strL S).mergeSort dLe = strL (S.mergeSort leS) := (List.map_mergeSort (r := leS) (s := dLe) (f := PyData.str) (fun _ _ _ _ => rfl)).symm
theorem sorE_strL (S : List Str) : sorE [.list (strL S)] = some (.list (strL (S.mergeSort leS))) := by
  show (if sortOk (strL S) = true then some (PyData.list ((strL S).mergeSort dLe)) else none) = _
  rw [if_pos (sortOk_str S), merge_str]
theorem sorE_strT (S : List Str) : sorE [stD S] = some (.list (strL (S.mergeSort leS))) := by
  show (if sortOk (strL S) = true then some (PyData.list ((strL S).mergeSort dLe)) else none) = _
  rw [if_pos (sortOk_str S), merge_str]
theorem strsD_L (S : List Str) : strsD (strL S) = some S := by
  induction S with
  | nil => rfl
  | cons y r ih => show (strsD (strL r)).map (y :: ·) = _; rw [ih]; rfl
theorem ssD_L {S : List Str} (h : S.length ≤ 4000) : ssD (.list (strL S)) = some (.list (strL (onceS S))) := by
  show ((strsD (strL S)).bind fun ss => if decide (ss.length + 1 < scanBound) = true then some (PyData.list ((onceS ss).map .str)) else none) = _
  rw [strsD_L]
  show (if decide (S.length + 1 < scanBound) = true then some (PyData.list ((onceS S).map .str)) else none) = _
  rw [if_pos (decide_eq_true (show S.length + 1 < scanBound by show S.length + 1 < 4096; omega))]; rfl
theorem ssD_T {S : List Str} (h : S.length ≤ 4000) : ssD (stD S) = some (.list (strL (onceS S))) := by
  show ((strsD (strL S)).bind fun ss => if decide (ss.length + 1 < scanBound) = true then some (PyData.list ((onceS ss).map .str)) else none) = _
  rw [strsD_L]
  show (if decide (S.length + 1 < scanBound) = true then some (PyData.list ((onceS S).map .str)) else none) = _
  rw [if_pos (decide_eq_true (show S.length + 1 < scanBound by show S.length + 1 < 4096; omega))]; rfl
theorem oe_L {S : List Str} (h : S.length ≤ 4000) : f_once_each [.list (strL S)] = .ok (stD (onceS S)) [] := by
  have e1 : f_once_each [.list (strL S)] = outF false [] (d_once_each [.shr (.list (strL S))]) := by unfold f_once_each; rw [fnD_ok (by rfl)]; rfl
  rw [e1]
  have e2 : d_once_each [.shr (.list (strL S))] = .rt (stD (onceS S)) [.shr (.list (strL S))] := rtn_ok (callD_ok (consA_ok (op1_ok (rdS_ok rfl) (ssD_L h)) nilA_ok) rfl)
  rw [e2]; rfl
theorem oe_T {S : List Str} (h : S.length ≤ 4000) : f_once_each [stD S] = .ok (stD (onceS S)) [] := by
  have e1 : f_once_each [stD S] = outF false [] (d_once_each [.shr (stD S)]) := by unfold f_once_each; rw [fnD_ok (by rfl)]; rfl
  rw [e1]
  have e2 : d_once_each [.shr (stD S)] = .rt (stD (onceS S)) [.shr (stD S)] := rtn_ok (callD_ok (consA_ok (op1_ok (rdS_ok rfl) (ssD_T h)) nilA_ok) rfl)
  rw [e2]; rfl

/-! rising rows of texts -/
def Asc (S : List Str) : Prop := (S.Pairwise fun a b => leS a b = true) ∧ S.Nodup
theorem leS_refl (a : Str) : leS a a = true := by
  have := leS_total a a
  rcases Bool.or_eq_true_iff.mp this with h | h <;> exact h
theorem asc_ext {S T : List Str} (h1 : Asc S) (h2 : Asc T) (hm : ∀ x, x ∈ S ↔ x ∈ T) : S = T :=
  List.Perm.eq_of_pairwise (le := fun a b => leS a b = true) (fun a b _ _ h1 h2 => leS_anti a b h1 h2) h1.1 h2.1 ((List.perm_ext_iff_of_nodup h1.2 h2.2).mpr hm)
theorem asc_once (S : List Str) : Asc (onceS S) := ⟨List.pairwise_mergeSort leS_trans leS_total _, ((List.mergeSort_perm _ _).nodup_iff).mpr (ddS_nd S)⟩
theorem asc_eq {S T : List Str} (h1 : Asc T) (hm : ∀ x, x ∈ S ↔ x ∈ T) : onceS S = T := asc_ext (asc_once S) h1 fun x => onceS_mem.trans (hm x)
theorem once_asc {S : List Str} (h : Asc S) : onceS S = S := asc_eq h fun _ => Iff.rfl
theorem merge_once {S : List Str} (h : S.Nodup) : S.mergeSort leS = onceS S := onceS_of h fun _ => Iff.rfl
theorem merge_asc {S : List Str} (h : Asc S) : S.mergeSort leS = S := (merge_once h.2).trans (once_asc h)
theorem once_ext {S T : List Str} (hm : ∀ x, x ∈ S ↔ x ∈ T) : onceS S = onceS T := asc_eq (asc_once T) fun x => (hm x).trans onceS_mem.symm
theorem asc_filter {S : List Str} (h : Asc S) (p : Str → Bool) : Asc (S.filter p) := ⟨h.1.filter p, h.2.filter p⟩
theorem dd_len : ∀ S : List Str, (ddS S).length ≤ S.length
  | [] => Nat.le_refl _
  | x :: r => by
    unfold ddS
    have := dd_len r
    split
    · exact Nat.le_succ_of_le this
    · exact Nat.succ_le_succ this
theorem once_len (S : List Str) : (onceS S).length ≤ S.length := by
  unfold onceS
  rw [List.length_mergeSort]; exact dd_len S

/-! with_name -/
def ptS (S : List Str) (x : Str) (b : Bool) : List Str := if b = true then onceS (S.filter (fun y => !(y == x)) ++ [x]) else S.filter fun y => !(y == x)
theorem ptS_asc {S : List Str} (h : Asc S) (x : Str) (b : Bool) : Asc (ptS S x b) := by
  unfold ptS
  cases b with
  | true => exact asc_once _
  | false => exact asc_filter h _
theorem ptS_mem {S : List Str} {x y : Str} {b : Bool} : y ∈ ptS S x b ↔ (y ∈ S ∧ y ≠ x) ∨ (b = true ∧ y = x) := by
  unfold ptS
  cases b with
  | true =>
    rw [if_pos rfl, onceS_mem, List.mem_append, List.mem_filter, List.mem_singleton]
    simp
  | false =>
    rw [if_neg (by decide), List.mem_filter]
    simp
theorem nodup_len : ∀ {S T : List Str}, S.Nodup → (∀ x, x ∈ S → x ∈ T) → S.length ≤ T.length
  | [], _, _, _ => Nat.zero_le _
  | x :: r, T, hn, hs => by
    obtain ⟨h1, h2⟩ := List.nodup_cons.mp hn
    have hx : x ∈ T := hs x List.mem_cons_self
    have := nodup_len (S := r) (T := T.erase x) h2 fun y hy => (List.mem_erase_of_ne (fun e => by subst e; exact h1 hy)).mpr (hs y (List.mem_cons_of_mem _ hy))
    rw [List.length_erase_of_mem hx] at this
    have hp := List.length_pos_of_mem hx
    rw [List.length_cons]
    omega
theorem strL_filter (S : List Str) (p : Str → Bool) (q : D → Bool) (h : ∀ x, q (.str x) = p x) : (strL S).filter q = strL (S.filter p) := by
  unfold strL
  rw [List.filter_map]
  congr 1
  apply List.filter_congr
  intro x _
  exact h x
theorem flt_ne {i j : Nat} {e : EnvD} {S : List Str} {x : Str} {m : M (List D)} (hij : i ≠ j) (hi : i < e.length) (hj : e[j]? = some (.shr (.str x))) (hno : noOwn [i] e = true) (hm : m e = .ok (strL S) e) :
    lcE (.nm i) [i] (tcm (op2 neD (rdS i) (rdS j))) (rdS i) m e = .ok (.list (strL (S.filter fun y => !(y == x)))) e := by
  have q : ∀ d, e[j]? = some (.shr (.str x)) → (e.set i (.shr d))[i]? = some (.shr d) ∧ (e.set i (.shr d))[j]? = some (.shr (.str x)) := fun d h => ⟨by rw [List.getElem?_set_self hi], by rw [List.getElem?_set_ne hij]; exact h⟩
  refine Eq.trans (lc1f (fun d => match d with | .str y => !(y == x) | _ => false) id hm hno fun d hd => ?_) ?_
  · obtain ⟨y, _, rfl⟩ := List.mem_map.mp hd
    obtain ⟨q1, q2⟩ := q (.str y) hj
    exact ⟨tcm_ok (op2_ok (rdS_ok q1) (rdS_ok q2) rfl), fun _ => rdS_ok q1⟩
  · rw [List.map_id, strL_filter S (fun y => !(y == x)) _ fun _ => rfl]
theorem with_name_ok {S : List Str} (h : S.length ≤ 3000) (x : Str) (b : Bool) : f_with_name [stD S, .str x, .bool b] = .ok (stD (ptS S x b)) [] := by
  have e1 : f_with_name [stD S, .str x, .bool b] = outF false [] (d_with_name [.shr (stD S), .shr (.str x), .shr (.bool b), .emp, .emp]) := by unfold f_with_name; rw [fnD_ok (by rfl)]; rfl
  rw [e1]
  unfold d_with_name
  have s1 : q_with_name_1 [.shr (stD S), .shr (.str x), .shr (.bool b), .emp, .emp] = .nx [.shr (stD S), .shr (.str x), .shr (.bool b), .shr (stD (S.filter fun y => !(y == x))), .emp] :=
    setS_ok (callD_ok (consA_ok (flt_ne (by decide) (by simp) rfl rfl rfl) nilA_ok) rfl)
  rw [sq_nx s1]
  have hl : (S.filter fun y => !(y == x)).length ≤ S.length := List.length_filter_le ..
  have s2 : q_with_name_2 [.shr (stD S), .shr (.str x), .shr (.bool b), .shr (stD (S.filter fun y => !(y == x))), .emp] = .rt (stD (ptS S x b)) [.shr (stD S), .shr (.str x), .shr (.bool b), .shr (stD (S.filter fun y => !(y == x))), .emp] := by
    unfold q_with_name_2 ptS
    cases b with
    | false => exact rtn_ok (Eq.trans (ifE_f (tru_ok (rdS_ok rfl) rfl)) (rdS_ok rfl))
    | true =>
      refine rtn_ok (Eq.trans (ifE_t (tru_ok (rdS_ok rfl) rfl)) (cal_ok (consA_ok (op2_ok (rdS_ok rfl) (tupE_ok (consA_ok (rdS_ok rfl) nilA_ok) (by show 1 ≤ sizeLine; decide)) (z := stD (S.filter (fun y => !(y == x)) ++ [x])) ?_) nilA_ok) (oe_T ?_)))
      · show (if _ then some _ else none) = _
        rw [if_pos (by rw [strL_len]; show _ + 1 ≤ sizeLine; unfold sizeLine; omega)]
        unfold stD strL
        rw [List.map_append]; rfl
      · rw [List.length_append, List.length_singleton]; omega
  rw [s2]; rfl
end PV
namespace PV
open PySem PySem.Spec PyProof.Rows

/-! trees of rows and besides -/
def onS (b : Bool) : Str := if b = true then "on" else "off"
def wiS (b : Bool) : Str := if b = true then "wire" else "gap"
def roS (b : Bool) : Str := if b = true then "row" else "beside"
inductive TrOk (P : Str → Prop) : Nat → D → Prop
  | con (n : Nat) (b : Bool) (x : Str) : P x → TrOk P (n + 1) (.tuple [.str (onS b), .str x])
  | fin (n : Nat) (b : Bool) : TrOk P (n + 1) (.tuple [.str (wiS b)])
  | node (n : Nat) (b : Bool) (ps : List D) : (∀ p ∈ ps, TrOk P n p) → 2 ≤ ps.length → ps.length ≤ 1000 → TrOk P (n + 1) (.tuple [.str (roS b), .tuple ps])
theorem TrOk.up {P : Str → Prop} : ∀ {n : Nat} {d : D}, TrOk P n d → TrOk P (n + 1) d
  | _, _, .con n b x h => .con _ b x h
  | _, _, .fin n b => .fin _ b
  | _, _, .node n b ps h h2 hl => .node _ b ps (fun p hp => TrOk.up (h p hp)) h2 hl
theorem TrOk.le {P : Str → Prop} {n m : Nat} {d : D} (h : TrOk P n d) (hm : n ≤ m) : TrOk P m d := by
  induction hm with
  | refl => exact h
  | step _ ih => exact ih.up
theorem TrOk.imp {P Q : Str → Prop} (i : ∀ x, P x → Q x) : ∀ {n : Nat} {d : D}, TrOk P n d → TrOk Q n d
  | _, _, .con n b x h => .con _ b x (i x h)
  | _, _, .fin n b => .fin _ b
  | _, _, .node n b ps h h2 hl => .node _ b ps (fun p hp => TrOk.imp i (h p hp)) h2 hl
theorem nds_all {ds : List D} (h : ∀ d ∈ ds, noDict d = true) : noDicts ds = true := noDicts_iff.mpr h
theorem TrOk.nd {P : Str → Prop} : ∀ {n : Nat} {d : D}, TrOk P n d → noDict d = true
  | _, _, .con n b x h => rfl
  | _, _, .fin n b => rfl
  | _, _, .node n b ps h h2 hl => by
    have : noDicts ps = true := nds_all fun p hp => TrOk.nd (h p hp)
    show (true && (noDicts ps && true)) = true
    rw [this]; rfl
theorem TrOk.plain {P : Str → Prop} : ∀ {n : Nat} {d : D}, TrOk P n d → plainD (2 * n) d = true
  | _, _, .con n b x h => rfl
  | _, _, .fin n b => rfl
  | _, _, .node n b ps h h2 hl => by
    have h1 : ps.all (plainD (2 * n)) = true := List.all_eq_true.mpr fun p hp => TrOk.plain (h p hp)
    have h2 : plainD (2 * n + 1) (.tuple ps) = true := Bool.and_eq_true_iff.mpr ⟨decide_eq_true (by omega), h1⟩
    show ((plainD (2 * n + 1) (.tuple ps)) && true) = true
    rw [h2]; rfl
/-- lets through, by a state -/
def letsD (m : Str → Bool) : Nat → D → Bool
  | 0, _ => false
  | n + 1, d => match d with
    | .tuple [.str w, .str x] => (m x) == (w == "on")
    | .tuple [.str w, .tuple ps] => if (w == "row") = true then ps.all (letsD m n) else ps.any (letsD m n)
    | .tuple [.str w] => w == "wire"
    | _ => false
theorem lets_con (m : Str → Bool) (n : Nat) (b : Bool) (x : Str) : letsD m (n + 1) (.tuple [.str (onS b), .str x]) = (m x == b) := by cases b <;> rfl
theorem lets_fin (m : Str → Bool) (n : Nat) (b : Bool) : letsD m (n + 1) (.tuple [.str (wiS b)]) = b := by cases b <;> rfl
theorem lets_node (m : Str → Bool) (n : Nat) (b : Bool) (ps : List D) : letsD m (n + 1) (.tuple [.str (roS b), .tuple ps]) = if b = true then ps.all (letsD m n) else ps.any (letsD m n) := by cases b <;> rfl
theorem contact_lets_ok (b : Bool) (x : Str) (S : List Str) : f_contact_lets [.tuple [.str (onS b), .str x], stD S] = .ok (.bool (S.contains x == b)) [] := by
  have e1 : f_contact_lets [.tuple [.str (onS b), .str x], stD S] = outF false [] (d_contact_lets [.shr (.tuple [.str (onS b), .str x]), .shr (stD S)]) := by unfold f_contact_lets; rw [fnD_ok (by rfl)]; rfl
  rw [e1]
  have e2 : d_contact_lets [.shr (.tuple [.str (onS b), .str x]), .shr (stD S)] = .rt (.bool (S.contains x == (onS b == "on"))) [.shr (.tuple [.str (onS b), .str x]), .shr (stD S)] :=
    rtn_ok (op2_ok (op2_ok (op2_ok (rdS_ok rfl) rfl (ev_atI1 ..)) (rdS_ok rfl) (inD_strT S x)) (op2_ok (op2_ok (rdS_ok rfl) rfl (ev_atI0 ..)) rfl rfl) rfl)
  rw [e2]
  cases b <;> rfl
theorem tree_lets_ok {P : Str → Prop} (S : List Str) : ∀ {n : Nat} {d : D}, TrOk P n d → f_tree_lets n [d, stD S] = .ok (.bool (letsD S.contains n d)) []
  | _, _, .con n b x h => by
    have e1 : f_tree_lets (n + 1) [.tuple [.str (onS b), .str x], stD S] = outF false [] (d_tree_lets (f_tree_lets n) [.shr (.tuple [.str (onS b), .str x]), .shr (stD S), .emp, .emp, .emp]) := rfl
    rw [e1]
    generalize f_tree_lets n = f
    unfold d_tree_lets
    have s1 : q_tree_lets_1 f [.shr (.tuple [.str (onS b), .str x]), .shr (stD S), .emp, .emp, .emp] = .nx [.shr (.tuple [.str (onS b), .str x]), .shr (stD S), .shr (.str (onS b)), .emp, .emp] := setS_ok (op2_ok (rdS_ok rfl) rfl (ev_atI0 ..))
    rw [sq_nx s1]
    have s2 : q_tree_lets_2 f [.shr (.tuple [.str (onS b), .str x]), .shr (stD S), .shr (.str (onS b)), .emp, .emp] = .rt (.bool (S.contains x == b)) [.shr (.tuple [.str (onS b), .str x]), .shr (stD S), .shr (.str (onS b)), .emp, .emp] := by
      refine Eq.trans (ifS_t (e1 := [.shr (.tuple [.str (onS b), .str x]), .shr (stD S), .shr (.str (onS b)), .emp, .emp]) (by cases b <;> rfl)) ?_
      exact rtn_ok (cal_ok (consA_ok (rdS_ok rfl) (consA_ok (rdS_ok rfl) nilA_ok)) (contact_lets_ok b x S))
    rw [sq_rt s2, lets_con]; rfl
  | _, _, .fin n b => by
    have e1 : f_tree_lets (n + 1) [.tuple [.str (wiS b)], stD S] = outF false [] (d_tree_lets (f_tree_lets n) [.shr (.tuple [.str (wiS b)]), .shr (stD S), .emp, .emp, .emp]) := rfl
    rw [e1, lets_fin]
    generalize f_tree_lets n = f
    cases b <;> rfl
  | _, _, .node n b ps h h2 hl => by
    have e1 : f_tree_lets (n + 1) [.tuple [.str (roS b), .tuple ps], stD S] = outF false [] (d_tree_lets (f_tree_lets n) [.shr (.tuple [.str (roS b), .tuple ps]), .shr (stD S), .emp, .emp, .emp]) := rfl
    have ih : ∀ p ∈ ps, f_tree_lets n [p, stD S] = .ok (.bool (letsD S.contains n p)) [] := fun p hp => tree_lets_ok S (h p hp)
    rw [e1, lets_node]
    generalize hf : f_tree_lets n = f at ih
    unfold d_tree_lets
    have s1 : q_tree_lets_1 f [.shr (.tuple [.str (roS b), .tuple ps]), .shr (stD S), .emp, .emp, .emp] = .nx [.shr (.tuple [.str (roS b), .tuple ps]), .shr (stD S), .shr (.str (roS b)), .emp, .emp] := setS_ok (op2_ok (rdS_ok rfl) rfl (ev_atI0 ..))
    rw [sq_nx s1]
    have s2 : q_tree_lets_2 f [.shr (.tuple [.str (roS b), .tuple ps]), .shr (stD S), .shr (.str (roS b)), .emp, .emp] = .nx [.shr (.tuple [.str (roS b), .tuple ps]), .shr (stD S), .shr (.str (roS b)), .emp, .emp] := by cases b <;> rfl
    have s4 : q_tree_lets_4 f [.shr (.tuple [.str (roS b), .tuple ps]), .shr (stD S), .shr (.str (roS b)), .emp, .emp] = .nx [.shr (.tuple [.str (roS b), .tuple ps]), .shr (stD S), .shr (.str (roS b)), .emp, .emp] := by cases b <;> rfl
    rw [sq_nx s2, sq_nx s4]
    have s6 : q_tree_lets_6 f [.shr (.tuple [.str (roS b), .tuple ps]), .shr (stD S), .shr (.str (roS b)), .emp, .emp] = .nx [.shr (.tuple [.str (roS b), .tuple ps]), .shr (stD S), .shr (.str (roS b)), .shr (.list (ps.map fun p => .bool (letsD S.contains n p))), .emp] :=
      setS_ok (lc1 (ds := ps) (e1 := [.shr (.tuple [.str (roS b), .tuple ps]), .shr (stD S), .shr (.str (roS b)), .emp, .emp]) (fun p => .bool (letsD S.contains n p)) (seqI_ok (op2_ok (rdS_ok rfl) rfl (ev_atI1 ..)) rfl) rfl fun d hd => cal_ok (consA_ok (rdS_ok rfl) (consA_ok (rdS_ok rfl) nilA_ok)) (ih d hd))
    rw [sq_nx s6]
    have s7 : q_tree_lets_7 f [.shr (.tuple [.str (roS b), .tuple ps]), .shr (stD S), .shr (.str (roS b)), .shr (.list (ps.map fun p => .bool (letsD S.contains n p))), .emp] = .rt (.bool (if b = true then ps.all (letsD S.contains n) else ps.any (letsD S.contains n))) [.shr (.tuple [.str (roS b), .tuple ps]), .shr (stD S), .shr (.str (roS b)), .shr (.list (ps.map fun p => .bool (letsD S.contains n p))), .emp] := by
      unfold q_tree_lets_7
      cases b with
      | true => exact rtn_ok (Eq.trans (ifE_t (tcm_ok rfl)) (callD_ok (consA_ok (rdS_ok rfl) nilA_ok) (allD_map _ ps)))
      | false => exact rtn_ok (Eq.trans (ifE_f (tcm_ok rfl)) (callD_ok (consA_ok (rdS_ok rfl) nilA_ok) (anyD_map _ ps)))
    rw [s7]; rfl
theorem law_lets_ok {P : Str → Prop} (S : List Str) : ∀ {n : Nat} {d : D}, TrOk P n d → f__law_lets n [d, stD S] = .ok (.bool (letsD S.contains n d)) []
  | _, _, .con n b x h => by
    have e1 : f__law_lets (n + 1) [.tuple [.str (onS b), .str x], stD S] = outF false [] (d__law_lets (f__law_lets n) [.shr (.tuple [.str (onS b), .str x]), .shr (stD S), .emp, .emp, .emp]) := rfl
    rw [e1]
    generalize f__law_lets n = f
    unfold d__law_lets
    have s1 : q__law_lets_1 f [.shr (.tuple [.str (onS b), .str x]), .shr (stD S), .emp, .emp, .emp] = .nx [.shr (.tuple [.str (onS b), .str x]), .shr (stD S), .shr (.str (onS b)), .emp, .emp] := setS_ok (op2_ok (rdS_ok rfl) rfl (ev_atI0 ..))
    rw [sq_nx s1]
    have s2 : q__law_lets_2 f [.shr (.tuple [.str (onS b), .str x]), .shr (stD S), .shr (.str (onS b)), .emp, .emp] = .rt (.bool (S.contains x == b)) [.shr (.tuple [.str (onS b), .str x]), .shr (stD S), .shr (.str (onS b)), .emp, .emp] := by
      refine Eq.trans (ifS_t (e1 := [.shr (.tuple [.str (onS b), .str x]), .shr (stD S), .shr (.str (onS b)), .emp, .emp]) (by cases b <;> rfl)) ?_
      exact rtn_ok (op2_ok (op2_ok (op2_ok (rdS_ok rfl) rfl (ev_atI1 ..)) (rdS_ok rfl) (inD_strT S x)) (op2_ok (rdS_ok rfl) rfl rfl) (by cases b <;> rfl))
    rw [sq_rt s2, lets_con]; rfl
  | _, _, .fin n b => by
    have e1 : f__law_lets (n + 1) [.tuple [.str (wiS b)], stD S] = outF false [] (d__law_lets (f__law_lets n) [.shr (.tuple [.str (wiS b)]), .shr (stD S), .emp, .emp, .emp]) := rfl
    rw [e1, lets_fin]
    generalize f__law_lets n = f
    cases b <;> rfl
  | _, _, .node n b ps h h2 hl => by
    have e1 : f__law_lets (n + 1) [.tuple [.str (roS b), .tuple ps], stD S] = outF false [] (d__law_lets (f__law_lets n) [.shr (.tuple [.str (roS b), .tuple ps]), .shr (stD S), .emp, .emp, .emp]) := rfl
    have ih : ∀ p ∈ ps, f__law_lets n [p, stD S] = .ok (.bool (letsD S.contains n p)) [] := fun p hp => law_lets_ok S (h p hp)
    rw [e1, lets_node]
    generalize hf : f__law_lets n = f at ih
    unfold d__law_lets
    have s1 : q__law_lets_1 f [.shr (.tuple [.str (roS b), .tuple ps]), .shr (stD S), .emp, .emp, .emp] = .nx [.shr (.tuple [.str (roS b), .tuple ps]), .shr (stD S), .shr (.str (roS b)), .emp, .emp] := setS_ok (op2_ok (rdS_ok rfl) rfl (ev_atI0 ..))
    rw [sq_nx s1]
    have s2 : q__law_lets_2 f [.shr (.tuple [.str (roS b), .tuple ps]), .shr (stD S), .shr (.str (roS b)), .emp, .emp] = .nx [.shr (.tuple [.str (roS b), .tuple ps]), .shr (stD S), .shr (.str (roS b)), .emp, .emp] := by cases b <;> rfl
    have s4 : q__law_lets_4 f [.shr (.tuple [.str (roS b), .tuple ps]), .shr (stD S), .shr (.str (roS b)), .emp, .emp] = .nx [.shr (.tuple [.str (roS b), .tuple ps]), .shr (stD S), .shr (.str (roS b)), .emp, .emp] := by cases b <;> rfl
    rw [sq_nx s2, sq_nx s4]
    have s6 : q__law_lets_6 f [.shr (.tuple [.str (roS b), .tuple ps]), .shr (stD S), .shr (.str (roS b)), .emp, .emp] = .nx [.shr (.tuple [.str (roS b), .tuple ps]), .shr (stD S), .shr (.str (roS b)), .shr (.list ((ps.filter (letsD S.contains n)).map id)), .emp] :=
      setS_ok (lc1f (ds := ps) (e1 := [.shr (.tuple [.str (roS b), .tuple ps]), .shr (stD S), .shr (.str (roS b)), .emp, .emp]) (letsD S.contains n) id (seqI_ok (op2_ok (rdS_ok rfl) rfl (ev_atI1 ..)) rfl) rfl fun d hd => ⟨tru_ok (cal_ok (consA_ok (rdS_ok rfl) (consA_ok (rdS_ok rfl) nilA_ok)) (ih d hd)) rfl, fun _ => rdS_ok rfl⟩)
    rw [List.map_id] at s6
    rw [sq_nx s6]
    have hnd : noDicts (ps.filter (letsD S.contains n)) = true := nds_all fun p hp => TrOk.nd (h p (List.mem_filter.mp hp).1)
    have s7 : q__law_lets_7 f [.shr (.tuple [.str (roS b), .tuple ps]), .shr (stD S), .shr (.str (roS b)), .shr (.list (ps.filter (letsD S.contains n))), .emp] = .rt (.bool (if b = true then ps.all (letsD S.contains n) else ps.any (letsD S.contains n))) [.shr (.tuple [.str (roS b), .tuple ps]), .shr (stD S), .shr (.str (roS b)), .shr (.list (ps.filter (letsD S.contains n))), .emp] := by
      unfold q__law_lets_7
      cases b with
      | true =>
        refine rtn_ok (Eq.trans (ifE_t (tcm_ok rfl)) (op2_ok (callD_ok (consA_ok (rdS_ok rfl) nilA_ok) rfl) (callD_ok (consA_ok (op2_ok (rdS_ok rfl) rfl (ev_atI1 ..)) nilA_ok) rfl) ?_))
        show some (PyData.bool ((((ps.filter (letsD S.contains n)).length : Nat) : Int) == ((ps.length : Nat) : Int))) = _
        congr 2
        rw [if_pos rfl]
        rw [Bool.eq_iff_iff, beq_iff_eq, List.all_eq_true]
        constructor
        · intro z
          exact List.length_filter_eq_length_iff.mp (by omega)
        · intro z
          rw [List.length_filter_eq_length_iff.mpr z]
      | false =>
        refine rtn_ok (Eq.trans (ifE_f (tcm_ok rfl)) (op2_ok (rdS_ok rfl) (lstE_ok nilA_ok (by show 0 ≤ sizeLine; decide)) ?_))
        rw [neD_l0 hnd]
        congr 2
        rw [if_neg (by decide), Bool.eq_iff_iff, List.any_eq_true]
        constructor
        · intro z
          cases hq : ps.filter (letsD S.contains n) with
          | nil => rw [hq] at z; cases z
          | cons x r =>
            have : x ∈ ps.filter (letsD S.contains n) := by rw [hq]; exact List.mem_cons_self
            exact ⟨x, (List.mem_filter.mp this).1, (List.mem_filter.mp this).2⟩
        · intro ⟨x, h1, h2⟩
          have : x ∈ ps.filter (letsD S.contains n) := List.mem_filter.mpr ⟨h1, h2⟩
          cases hq : ps.filter (letsD S.contains n) with
          | nil => rw [hq] at this; cases this
          | cons _ _ => rfl
    rw [s7]; rfl
end PV
namespace PV
open PySem PySem.Spec PyProof.Rows

/-! the law's drawn trees -/
theorem pick_on {W : D} (h : WD W) : ∃ (b : Bool) (W' : D), f__law_pick [W, .list [.str "on", .str "on", .str "off"]] = .ok (.str (onS b)) [W'] ∧ WD W' := by
  obtain ⟨i, d, W', h1, h2, h3⟩ := pick_ok h (rows := [.str "on", .str "on", .str "off"]) (by simp)
  match i, h3 with
  | 0, h3 => cases h3; exact ⟨true, W', h1, h2⟩
  | 1, h3 => cases h3; exact ⟨true, W', h1, h2⟩
  | 2, h3 => cases h3; exact ⟨false, W', h1, h2⟩
  | i + 3, h3 => simp at h3
theorem pick_wi {W : D} (h : WD W) : ∃ (b : Bool) (W' : D), f__law_pick [W, .list [.tuple [.str "wire"], .tuple [.str "gap"]]] = .ok (.tuple [.str (wiS b)]) [W'] ∧ WD W' := by
  obtain ⟨i, d, W', h1, h2, h3⟩ := pick_ok h (rows := [.tuple [.str "wire"], .tuple [.str "gap"]]) (by simp)
  match i, h3 with
  | 0, h3 => cases h3; exact ⟨true, W', h1, h2⟩
  | 1, h3 => cases h3; exact ⟨false, W', h1, h2⟩
  | i + 2, h3 => simp at h3
theorem pick_nm {W : D} (h : WD W) {names : List Str} (hn : names ≠ []) : ∃ (x : Str) (W' : D), f__law_pick [W, .list (strL names)] = .ok (.str x) [W'] ∧ WD W' ∧ x ∈ names := by
  obtain ⟨i, d, W', h1, h2, h3⟩ := pick_ok h (rows := strL names) (by cases names with | nil => exact absurd rfl hn | cons _ _ => simp [strL])
  obtain ⟨x, hx, rfl⟩ := List.mem_map.mp (List.mem_of_getElem? h3)
  exact ⟨x, W', h1, h2, hx⟩
theorem law_tree_ok {P : Str → Prop} {names : List Str} (hn : names ≠ []) (hP : ∀ x ∈ names, P x) : ∀ (k n : Nat) (W : D), WD W → k < n → ∃ t W', f__law_tree n [W, .list (strL names), .int (k : Int)] = .ok t [W'] ∧ WD W' ∧ TrOk P (k + 1) t
  | k, 0, W, hW, hk => absurd hk (Nat.not_lt_zero _)
  | k, m + 1, W, hW, hk => by
    have e1 : f__law_tree (m + 1) [W, .list (strL names), .int (k : Int)] = outF false [0] (d__law_tree (f__law_tree m) [.own W, .shr (.list (strL names)), .shr (.int (k : Int)), .emp, .emp]) := rfl
    have ih : ∀ (k' : Nat), k = k' + 1 → ∀ W, WD W → ∃ t W', f__law_tree m [W, .list (strL names), .int (k' : Int)] = .ok t [W'] ∧ WD W' ∧ TrOk P (k' + 1) t := fun k' e W hW => law_tree_ok hn hP k' m W hW (by omega)
    rw [e1]
    generalize f__law_tree m = f at ih
    unfold d__law_tree
    have s1 : ∃ (r : Int) (W1 : D), q__law_tree_1 f [.own W, .shr (.list (strL names)), .shr (.int (k : Int)), .emp, .emp] = .nx [.own W1, .shr (.list (strL names)), .shr (.int (k : Int)), .shr (.int r), .emp] ∧ WD W1 ∧ 0 ≤ r ∧ r < 7 ∧ (k = 0 → r < 3) := by
      cases k with
      | zero =>
        obtain ⟨r, W1, h1, h2, h3, h4⟩ := next_ok hW (m := 3) (by omega)
        exact ⟨r, W1, setS_ok (Eq.trans (ifE_f (tcm_ok rfl)) (calH2 rfl rfl rfl h1)), h2, h3, by omega, fun _ => h4⟩
      | succ k =>
        obtain ⟨r, W1, h1, h2, h3, h4⟩ := next_ok hW (m := 7) (by omega)
        refine ⟨r, W1, setS_ok (Eq.trans (ifE_t (e1 := [.own W, .shr (.list (strL names)), .shr (.int ((k + 1 : Nat) : Int)), .emp, .emp]) ?_) (calH2 rfl rfl rfl h1)), h2, h3, h4, fun e => by omega⟩
        refine tcm_ok (op2_ok (rdS_ok rfl) rfl ?_)
        show some (PyData.bool (decide ((0 : Int) < ((k + 1 : Nat) : Int)))) = _
        rw [decide_eq_true (by omega)]
    obtain ⟨r, W1, s1, hW1, r0, r7, rk⟩ := s1
    rw [sq_nx s1]
    by_cases c3 : r < 3
    · obtain ⟨b, W2, p1, hW2⟩ := pick_on hW1
      obtain ⟨x, W3, p2, hW3, hx⟩ := pick_nm hW2 hn
      have s2 : q__law_tree_2 f [.own W1, .shr (.list (strL names)), .shr (.int (k : Int)), .shr (.int r), .emp] = .rt (.tuple [.str (onS b), .str x]) [.own W3, .shr (.list (strL names)), .shr (.int (k : Int)), .shr (.int r), .emp] := by
        refine Eq.trans (ifS_t (e1 := [.own W1, .shr (.list (strL names)), .shr (.int (k : Int)), .shr (.int r), .emp]) (tcm_ok (op2_ok (rdS_ok rfl) rfl (by show some (PyData.bool (decide (r < 3))) = _; rw [decide_eq_true c3])))) ?_
        exact rtn_ok (tupE_ok (consA_ok (calH2 rfl rfl rfl p1) (consA_ok (calH2 rfl (rdS_ok rfl) rfl p2) nilA_ok)) (by show 2 ≤ sizeLine; decide))
      rw [sq_rt s2]
      exact ⟨_, W3, rfl, hW3, .con _ b x (hP x hx)⟩
    · obtain ⟨k', hk'⟩ : ∃ k', k = k' + 1 := by
        cases k with
        | zero => exact absurd (rk rfl) c3
        | succ k' => exact ⟨k', rfl⟩
      have ih := ih k' hk'
      have s2 : q__law_tree_2 f [.own W1, .shr (.list (strL names)), .shr (.int (k : Int)), .shr (.int r), .emp] = .nx [.own W1, .shr (.list (strL names)), .shr (.int (k : Int)), .shr (.int r), .emp] :=
        Eq.trans (ifS_f (e1 := [.own W1, .shr (.list (strL names)), .shr (.int (k : Int)), .shr (.int r), .emp]) (tcm_ok (op2_ok (rdS_ok rfl) rfl (by show some (PyData.bool (decide (r < 3))) = _; rw [decide_eq_false c3])))) rfl
      rw [sq_nx s2]
      have s4 : (∃ (b : Bool) (W2 : D), q__law_tree_4 f [.own W1, .shr (.list (strL names)), .shr (.int (k : Int)), .shr (.int r), .emp] = .rt (.tuple [.str (wiS b)]) [.own W2, .shr (.list (strL names)), .shr (.int (k : Int)), .shr (.int r), .emp] ∧ WD W2) ∨
          ∃ W2 : D, q__law_tree_4 f [.own W1, .shr (.list (strL names)), .shr (.int (k : Int)), .shr (.int r), .emp] = .nx [.own W2, .shr (.list (strL names)), .shr (.int (k : Int)), .shr (.int r), .emp] ∧ WD W2 := by
        by_cases c : r = 3
        · subst c
          obtain ⟨r2, W2, h1, h2, h3, h4⟩ := next_ok hW1 (m := 3) (by omega)
          have ca : tcm (op2 eqD (rdS 3) (ret (.int 3))) [.own W1, .shr (.list (strL names)), .shr (.int (k : Int)), .shr (.int 3), .emp] = .ok true [.own W1, .shr (.list (strL names)), .shr (.int (k : Int)), .shr (.int 3), .emp] := rfl
          have cb : tcm (op2 eqD (calH (f__law_next) [some 0, none] (holeA 0 (consA (ret (.int 3)) (nilA)))) (ret (.int 0))) [.own W1, .shr (.list (strL names)), .shr (.int (k : Int)), .shr (.int 3), .emp] = .ok (r2 == 0) [.own W2, .shr (.list (strL names)), .shr (.int (k : Int)), .shr (.int 3), .emp] := tcm_ok (op2_ok (calH2 rfl rfl rfl h1) rfl rfl)
          by_cases c0 : r2 = 0
          · subst c0
            obtain ⟨b, W3, p1, hW3⟩ := pick_wi h2
            refine .inl ⟨b, W3, Eq.trans (ifS_t (Eq.trans (andT_t ca) cb)) ?_, hW3⟩
            exact rtn_ok (calH2 rfl rfl rfl p1)
          · rw [show (r2 == 0) = false from by simpa using c0] at cb
            exact .inr ⟨W2, Eq.trans (ifS_f (Eq.trans (andT_t ca) cb)) rfl, h2⟩
        · refine .inr ⟨W1, Eq.trans (ifS_f (andT_f (e1 := [.own W1, .shr (.list (strL names)), .shr (.int (k : Int)), .shr (.int r), .emp]) (tcm_ok (op2_ok (rdS_ok rfl) rfl ?_)))) rfl, hW1⟩
          show some (PyData.bool (r == 3)) = _
          rw [show (r == 3) = false from by simpa using c]
      rcases s4 with ⟨b, W2, s4, hW2⟩ | ⟨W2, s4, hW2⟩
      · rw [sq_rt s4]
        exact ⟨_, W2, rfl, hW2, .fin _ b⟩
      · rw [sq_nx s4]
        obtain ⟨r2, W3, h1, h2, h3, h4⟩ := next_ok hW2 (m := 2) (by omega)
        have cw : ∃ b : Bool, ifE (andT (tcm (op2 ltD (rdS 3) (ret (.int 6)))) (tcm (op2 neD (rdS 3) (ret (.int 4))))) (ret (PyData.str "row")) (ret (PyData.str "beside")) [.own W2, .shr (.list (strL names)), .shr (.int (k : Int)), .shr (.int r), .emp] = .ok (.str (roS b)) [.own W2, .shr (.list (strL names)), .shr (.int (k : Int)), .shr (.int r), .emp] := by
          have c1 : tcm (op2 ltD (rdS 3) (ret (.int 6))) [.own W2, .shr (.list (strL names)), .shr (.int (k : Int)), .shr (.int r), .emp] = .ok (decide (r < 6)) [.own W2, .shr (.list (strL names)), .shr (.int (k : Int)), .shr (.int r), .emp] := rfl
          have c2 : tcm (op2 neD (rdS 3) (ret (.int 4))) [.own W2, .shr (.list (strL names)), .shr (.int (k : Int)), .shr (.int r), .emp] = .ok (!(r == 4)) [.own W2, .shr (.list (strL names)), .shr (.int (k : Int)), .shr (.int r), .emp] := rfl
          cases d1 : decide (r < 6) with
          | false => rw [d1] at c1; exact ⟨false, Eq.trans (ifE_f (andT_f c1)) rfl⟩
          | true =>
            rw [d1] at c1
            cases d2 : !(r == 4) with
            | false => rw [d2] at c2; exact ⟨false, Eq.trans (ifE_f (Eq.trans (andT_t c1) c2)) rfl⟩
            | true => rw [d2] at c2; exact ⟨true, Eq.trans (ifE_t (Eq.trans (andT_t c1) c2)) rfl⟩
        obtain ⟨b, cw⟩ := cw
        obtain ⟨out, e', y1, ⟨W4, rfl, y2⟩, y3, y4⟩ := lcE_inv (t := .nm 4) (vs := [4]) (te := calH f [some 0, none, none] (holeA 0 (consA (rdS 1) (consA (op2 subD (rdS 2) (ret (.int 1))) (nilA))))) (m := rngI1 (consA (op2 addD (ret (.int 2)) (calH (f__law_next) [some 0, none] (holeA 0 (consA (ret (.int 2)) (nilA))))) (nilA)))
          (e := [.own W2, .shr (.list (strL names)), .shr (.int (k : Int)), .shr (.int r), .emp]) (e1 := [.own W3, .shr (.list (strL names)), .shr (.int (k : Int)), .shr (.int r), .emp])
          (fun e => ∃ W4, e = [.own W4, .shr (.list (strL names)), .shr (.int (k : Int)), .shr (.int r), .emp] ∧ WD W4) (fun d => TrOk P (k' + 1) d)
          (rngI1_ok (consA_ok (op2_ok rfl (calH2 rfl rfl rfl h1) rfl) nilA_ok) (by omega) (by omega)) rfl ⟨W3, rfl, h2⟩ (fun d hd e hI => by
            obtain ⟨W4, rfl, w4⟩ := hI
            obtain ⟨t, W5, t1, t2, t3⟩ := ih W4 w4
            refine ⟨_, t, _, rfl, calH3 rfl (rdS_ok rfl) (op2_ok (rdS_ok rfl) rfl (z := .int (k' : Int)) ?_) rfl t1, t3, W5, rfl, t2⟩
            show some (PyData.int ((k : Int) - 1)) = _
            rw [hk']
            congr 2
            omega)
        have s6 : q__law_tree_6 f [.own W2, .shr (.list (strL names)), .shr (.int (k : Int)), .shr (.int r), .emp] = .rt (.tuple [.str (roS b), .tuple out]) [.own W4, .shr (.list (strL names)), .shr (.int (k : Int)), .shr (.int r), .emp] :=
          rtn_ok (tupE_ok (consA_ok cw (consA_ok (callD_ok (consA_ok y1 nilA_ok) rfl) nilA_ok)) (by show 2 ≤ sizeLine; decide))
        rw [s6]
        refine ⟨_, W4, rfl, y2, ?_⟩
        rw [hk']
        have ho : out.length = (2 + r2).toNat := by rw [y4, rngD_len, Int.sub_zero]
        exact .node _ b out y3 (by omega) (by omega)

/-! puts -/
def encP (p : D × Str) : D := .tuple [p.1, .str p.2]
def putsD (puts : List (D × Str)) : D := .tuple (puts.map encP)
def runS (puts : List (D × Str)) (S : List Str) : List Str := puts.foldl (fun S p => ptS S p.2 (letsD S.contains 40 p.1)) S
theorem ptS_len {S : List Str} (x : Str) (b : Bool) : (ptS S x b).length ≤ S.length + 1 := by
  have hl : (S.filter fun y => !(y == x)).length ≤ S.length := List.length_filter_le ..
  unfold ptS
  cases b with
  | true =>
    refine Nat.le_trans (once_len _) ?_
    rw [List.length_append]
    exact Nat.succ_le_succ hl
  | false => exact Nat.le_succ_of_le hl
theorem runS_succ {puts : List (D × Str)} {i : Nat} {p : D × Str} (S : List Str) (h : puts[i]? = some p) : runS (puts.take (i + 1)) S = ptS (runS (puts.take i) S) p.2 (letsD (runS (puts.take i) S).contains 40 p.1) := by
  unfold runS
  rw [List.take_add_one, h, List.foldl_append]; rfl
theorem runS_asc {S : List Str} (h : Asc S) : ∀ (puts : List (D × Str)), Asc (runS puts S) := by
  intro puts
  unfold runS
  induction puts generalizing S with
  | nil => exact h
  | cons p r ih => exact ih (ptS_asc h _ _)
theorem run_puts_ok {P : Str → Prop} {puts : List (D × Str)} (hp : ∀ p ∈ puts, TrOk P 40 p.1) (hl : puts.length ≤ 1000) {S : List Str} (hS : S.length ≤ 1000) : f_run_puts [putsD puts, stD S] = .ok (stD (runS puts S)) [] := by
  have e1 : f_run_puts [putsD puts, stD S] = outF false [] (d_run_puts [.shr (putsD puts), .shr (stD S), .emp, .emp]) := by unfold f_run_puts; rw [fnD_ok (by rfl)]; rfl
  rw [e1]
  have s1 : ∃ e2, q_run_puts_1 [.shr (putsD puts), .shr (stD S), .emp, .emp] = .nx (wip [2, 3] e2) ∧ ∃ c d, e2 = [.shr (putsD puts), .shr (stD (runS (puts.take (puts.map encP).length) S)), c, d] ∧ (runS (puts.take (puts.map encP).length) S).length ≤ 1000 + (puts.map encP).length := by
    refine frS_nx (t := .tp [.nm 2, .nm 3]) (dead := [2, 3]) (ds := puts.map encP) (fun i e2 => ∃ c d, e2 = [.shr (putsD puts), .shr (stD (runS (puts.take i) S)), c, d] ∧ (runS (puts.take i) S).length ≤ 1000 + i) (e1 := [.shr (putsD puts), .shr (stD S), .emp, .emp]) rfl ⟨_, _, rfl, by simpa [runS] using hS⟩ fun i d e hd hI => ?_
    obtain ⟨c, d', rfl, hL⟩ := hI
    rw [List.getElem?_map] at hd
    cases hq : puts[i]? with
    | none => rw [hq] at hd; cases hd
    | some p =>
      rw [hq] at hd
      cases hd
      have hi : i < puts.length := lt_of_some hq
      have ht := hp p (List.mem_of_getElem? hq)
      refine ⟨[.shr (putsD puts), .shr (stD (runS (puts.take i) S)), .shr p.1, .shr (.str p.2)], _, rfl, setS_ok (cal_ok (consA_ok (rdS_ok rfl) (consA_ok (rdS_ok rfl) (consA_ok (cal_ok (consA_ok (rdS_ok rfl) (consA_ok (rdS_ok rfl) nilA_ok)) (tree_lets_ok _ ht)) nilA_ok))) (with_name_ok (by omega) _ _)), .shr p.1, .shr (.str p.2), ?_, ?_⟩
      · rw [runS_succ S hq]; rfl
      · rw [runS_succ S hq]
        exact Nat.le_trans (ptS_len _ _) (by omega)
  obtain ⟨e2, s1, c, d, rfl, _⟩ := s1
  unfold d_run_puts
  rw [sq_nx s1, List.length_map, List.take_length]
  rfl
theorem law_runs_ok {P : Str → Prop} {puts : List (D × Str)} (hp : ∀ p ∈ puts, TrOk P 40 p.1) (hl : puts.length ≤ 1000) {S : List Str} (hS : S.length ≤ 1000) (hA : Asc S) : f__law_runs [putsD puts, stD S] = .ok (stD (runS puts S)) [] := by
  have e1 : f__law_runs [putsD puts, stD S] = outF false [] (d__law_runs [.shr (putsD puts), .shr (stD S), .emp, .emp, .emp, .emp]) := by unfold f__law_runs; rw [fnD_ok (by rfl)]; rfl
  rw [e1]
  have s1 : ∃ e2, q__law_runs_1 [.shr (putsD puts), .shr (stD S), .emp, .emp, .emp, .emp] = .nx (wip [2, 3, 4] e2) ∧ ∃ c d f, e2 = [.shr (putsD puts), .shr (stD (runS (puts.take (puts.map encP).length) S)), c, d, f, .emp] ∧ (runS (puts.take (puts.map encP).length) S).length ≤ 1000 + (puts.map encP).length := by
    refine frS_nx (t := .tp [.nm 2, .nm 3]) (dead := [2, 3, 4]) (ds := puts.map encP) (fun i e2 => ∃ c d f, e2 = [.shr (putsD puts), .shr (stD (runS (puts.take i) S)), c, d, f, .emp] ∧ (runS (puts.take i) S).length ≤ 1000 + i) (e1 := [.shr (putsD puts), .shr (stD S), .emp, .emp, .emp, .emp]) rfl ⟨_, _, _, rfl, by simpa [runS] using hS⟩ fun i d e hd hI => ?_
    obtain ⟨c, d', f, rfl, hL⟩ := hI
    rw [List.getElem?_map] at hd
    cases hq : puts[i]? with
    | none => rw [hq] at hd; cases hd
    | some p =>
      rw [hq] at hd
      cases hd
      have hi : i < puts.length := lt_of_some hq
      have ht := hp p (List.mem_of_getElem? hq)
      have hT : Asc (runS (puts.take i) S) := runS_asc hA _
      rw [runS_succ S hq]
      generalize runS (puts.take i) S = T at hL hT
      generalize hb : letsD T.contains 40 p.1 = b
      have lb := law_lets_ok T ht
      rw [hb] at lb
      have s2 : q__law_runs_2 [.shr (putsD puts), .shr (stD T), .shr p.1, .shr (.str p.2), .emp, .emp] = .nx [.shr (putsD puts), .shr (stD T), .shr p.1, .shr (.str p.2), .shr (.bool b), .emp] :=
        setS_ok (cal_ok (consA_ok (rdS_ok rfl) (consA_ok (rdS_ok rfl) nilA_ok)) lb)
      have hfl : (T.filter fun y => !(y == p.2)).length ≤ T.length := List.length_filter_le ..
      have s3 : q__law_runs_3 [.shr (putsD puts), .shr (stD T), .shr p.1, .shr (.str p.2), .shr (.bool b), .emp] = .nx [.shr (putsD puts), .shr (stD (ptS T p.2 b)), .shr p.1, .shr (.str p.2), .shr (.bool b), .emp] := by
        have g1 : op2 addD (lcE (.nm 5) [5] (tcm (op2 neD (rdS 5) (rdS 3))) (rdS 5) (seqI (rdS 1))) (ifE (tru (rdS 4)) (lstE (consA (rdS 3) (nilA))) (lstE (nilA))) [.shr (putsD puts), .shr (stD T), .shr p.1, .shr (.str p.2), .shr (.bool b), .emp] = .ok (.list (strL ((T.filter fun y => !(y == p.2)) ++ if b = true then [p.2] else []))) [.shr (putsD puts), .shr (stD T), .shr p.1, .shr (.str p.2), .shr (.bool b), .emp] := by
          refine op2_ok (y := .list (strL (if b = true then [p.2] else []))) (e2 := [.shr (putsD puts), .shr (stD T), .shr p.1, .shr (.str p.2), .shr (.bool b), .emp]) (flt_ne (S := T) (by decide) (by simp) rfl rfl rfl) ?_ ?_
          · cases b with
            | true => exact Eq.trans (ifE_t (tru_ok (rdS_ok rfl) rfl)) (lstE_ok (consA_ok (rdS_ok rfl) nilA_ok) (by show 1 ≤ sizeLine; decide))
            | false => exact Eq.trans (ifE_f (tru_ok (rdS_ok rfl) rfl)) (lstE_ok nilA_ok (by show 0 ≤ sizeLine; decide))
          · show (if _ then some _ else none) = _
            rw [if_pos]
            · unfold strL; rw [List.map_append]
            · rw [strL_len, strL_len]
              have : (if b = true then [p.2] else []).length ≤ 1 := by cases b <;> simp
              unfold sizeLine
              omega
        refine setS_ok (callD_ok (z := stD (ptS T p.2 b)) (consA_ok (callD_ok (consA_ok g1 nilA_ok) (sorE_strL _)) nilA_ok) ?_)
        have g2 : (((T.filter fun y => !(y == p.2)) ++ if b = true then [p.2] else []).mergeSort leS) = ptS T p.2 b := by
          unfold ptS
          cases b with
          | true =>
            rw [if_pos rfl, if_pos rfl]
            refine merge_once (List.nodup_append.mpr ⟨(asc_filter hT _).2, by simp, fun a ha b hb e => ?_⟩)
            have h1 := (List.mem_filter.mp ha).2
            rw [e, List.mem_singleton.mp hb] at h1
            simp at h1
          | false =>
            rw [if_neg (by decide), if_neg (by decide), List.append_nil]
            exact merge_asc (asc_filter hT _)
        rw [g2]; rfl
      refine ⟨[.shr (putsD puts), .shr (stD T), .shr p.1, .shr (.str p.2), .emp, .emp], _, rfl, Eq.trans (sq_nx s2) s3, .shr p.1, .shr (.str p.2), _, rfl, ?_⟩
      exact Nat.le_trans (ptS_len _ _) (by omega)
  obtain ⟨e2, s1, c, d, f, rfl, _⟩ := s1
  unfold d__law_runs
  rw [sq_nx s1, List.length_map, List.take_length]
  rfl
end PV
namespace PV
open PySem PySem.Spec PyProof.Rows

/-! states beside one another; rows of states -/
theorem eqvAll_str : ∀ (S T : List Str), PyData.eqvAll (strL S) (strL T) = (S == T)
  | [], [] => rfl
  | [], _ :: _ => rfl
  | _ :: _, [] => rfl
  | x :: S, y :: T => by
    show ((x == y) && PyData.eqvAll (strL S) (strL T)) = _
    rw [eqvAll_str S T]; rfl
theorem eqv_st (S T : List Str) : PyData.eqv (stD S) (stD T) = (S == T) := eqvAll_str S T
theorem nd_st (S : List Str) : noDict (stD S) = true := strL_nd S
theorem dep_st (S : List Str) : (stD S).depth ≤ 1 := by
  show PyData.depthAll (strL S) + 1 ≤ 1
  rw [strL_dep]; exact Nat.le_refl 1
theorem eqOk_of {a b : D} (ha : noDict a = true) (hb : noDict b = true) (hd : a.depth ≤ 64) : eqOk a b = true := by
  unfold eqOk
  rw [ha, hb, decide_eq_true (Nat.le_trans (Nat.min_le_left _ _) hd)]; rfl
theorem eqD_of {a b : D} (ha : noDict a = true) (hb : noDict b = true) (hd : a.depth ≤ 64) : eqD a b = some (.bool (PyData.eqv a b)) := by unfold eqD; rw [if_pos (eqOk_of ha hb hd)]
theorem neD_of {a b : D} (ha : noDict a = true) (hb : noDict b = true) (hd : a.depth ≤ 64) : neD a b = some (.bool (!PyData.eqv a b)) := by unfold neD; rw [if_pos (eqOk_of ha hb hd)]
theorem eqD_st (S T : List Str) : eqD (stD S) (stD T) = some (.bool (S == T)) := by
  rw [eqD_of (nd_st S) (nd_st T) (Nat.le_trans (dep_st S) (by decide)), eqv_st]
theorem neD_st (S T : List Str) : neD (stD S) (stD T) = some (.bool (!(S == T))) := by
  rw [neD_of (nd_st S) (nd_st T) (Nat.le_trans (dep_st S) (by decide)), eqv_st]
def stL (L : List (List Str)) : List D := L.map stD
theorem stL_nd (L : List (List Str)) : noDicts (stL L) = true := noDicts_map nd_st L
theorem stL_dep (L : List (List Str)) : PyData.depthAll (stL L) ≤ 1 := by
  induction L with
  | nil => exact Nat.zero_le _
  | cons S r ih => exact Nat.max_le.mpr ⟨dep_st S, ih⟩
theorem beq_swap {α : Type} [BEq α] [LawfulBEq α] (x y : α) : (x == y) = (y == x) := by
  cases h : x == y with
  | true => rw [eq_of_beq h]; exact (beq_self_eq_true y).symm
  | false =>
    cases h2 : y == x with
    | true => rw [eq_of_beq h2, beq_self_eq_true] at h; cases h
    | false => rfl
theorem stL_any (L : List (List Str)) (S : List Str) : ((stL L).any fun z => PyData.eqv z (stD S)) = L.contains S := by
  induction L with
  | nil => rfl
  | cons T r ih =>
    show (PyData.eqv (stD T) (stD S) || (stL r).any _) = _
    rw [ih, List.contains_cons, eqv_st, beq_swap]
theorem inD_stL (L : List (List Str)) (S : List Str) : inD (stD S) (.list (stL L)) = some (.bool (L.contains S)) := by
  have c : (noDict (stD S) && noDicts (stL L) && decide (min (PyData.depthAll (stL L)) (stD S).depth ≤ 60)) = true := by
    rw [stL_nd, nd_st, decide_eq_true (Nat.le_trans (Nat.min_le_left _ _) (Nat.le_trans (stL_dep L) (by decide)))]; rfl
  unfold inD
  have : inB (stD S) (.list (stL L)) = some (L.contains S) := by
    show (if _ then some ((stL L).any fun z => PyData.eqv z (stD S)) else none) = _
    rw [if_pos c, stL_any]
  rw [this]; rfl
theorem stL_find (L : List (List Str)) (S : List Str) : ((stL L).findIdx? fun z => PyData.eqv z (stD S)) = L.findIdx? fun T => T == S := by
  unfold stL
  rw [List.findIdx?_map]
  congr 1
  funext T
  exact eqv_st T S
theorem indD_stL {L : List (List Str)} {S : List Str} {j : Nat} (h : (L.findIdx? fun T => T == S) = some j) : indD (.list (stL L)) [stD S] = some (.int j) := by
  have c : (noDicts (stL L) && noDict (stD S) && decide ((PyData.list (stL L)).depth ≤ 64) && decide ((stD S).depth ≤ 64)) = true := by
    have h1 : (PyData.list (stL L)).depth ≤ 64 := by
      show PyData.depthAll (stL L) + 1 ≤ 64
      have := stL_dep L
      omega
    have h2 : (stD S).depth ≤ 64 := Nat.le_trans (dep_st S) (by decide)
    rw [stL_nd, nd_st, decide_eq_true h1, decide_eq_true h2]; rfl
  show (if _ then ((stL L).findIdx? fun z => PyData.eqv z (stD S)).map fun (j : Nat) => PyData.int j else none) = _
  rw [if_pos c, stL_find, h]; rfl
theorem alikeAll_str : ∀ (S T : List Str), PySem.W.alikeAll (strL S) (strL T) = true
  | [], _ => by cases ‹List Str› <;> rfl
  | _ :: _, [] => rfl
  | x :: S, y :: T => by
    show PySem.W.alikeAll (.str x :: strL S) (.str y :: strL T) = true
    rw [PySem.W.alikeAll, alikeAll_str S T]; rfl
theorem alike_st (S T : List Str) : PySem.W.alike (stD S) (stD T) = true := by
  show PySem.W.alike (.tuple (strL S)) (.tuple (strL T)) = true
  rw [PySem.W.alike]
  exact alikeAll_str S T
theorem minE_stL (S : List Str) (L : List (List Str)) : minE [.list (stL (S :: L))] = some (PySem.W.minD (stD S) (stL L)) := by
  have c : minOk (stL (S :: L)) = true := by
    unfold minOk
    have a1 : ((stL (S :: L)).all fun a => (stL (S :: L)).all fun b => PySem.W.alike a b) = true := List.all_eq_true.mpr fun a ha => List.all_eq_true.mpr fun b hb => by
      obtain ⟨x, _, rfl⟩ := List.mem_map.mp ha
      obtain ⟨y, _, rfl⟩ := List.mem_map.mp hb
      exact alike_st x y
    have a2 : (stL (S :: L)).all plD = true := List.all_eq_true.mpr fun a ha => by
      obtain ⟨x, _, rfl⟩ := List.mem_map.mp ha
      rfl
    rw [stL_nd, a1, a2, decide_eq_true (Nat.le_trans (stL_dep _) (by decide))]; rfl
  show (if minOk (stL (S :: L)) = true then _ else none) = _
  rw [if_pos c]; rfl
/-- the least of a row of states, where a rank tells < -/
theorem minD_rank {U : List (List Str)} (rk : List Str → Nat) (hr : ∀ S ∈ U, ∀ T ∈ U, PySem.W.dataLt (stD S) (stD T) = decide (rk S < rk T)) : ∀ (L : List (List Str)) (S : List Str), (∀ T ∈ S :: L, T ∈ U) →
    ∃ M, PySem.W.minD (stD S) (stL L) = stD M ∧ M ∈ S :: L ∧ ∀ T ∈ S :: L, rk M ≤ rk T
  | [], S, h => ⟨S, rfl, List.mem_cons_self, fun T hT => by rw [List.mem_singleton.mp hT]; exact Nat.le_refl _⟩
  | Y :: L, S, h => by
    have hS : S ∈ U := h S List.mem_cons_self
    have hY : Y ∈ U := h Y (List.mem_cons_of_mem _ List.mem_cons_self)
    have e : PySem.W.minD (stD S) (stL (Y :: L)) = PySem.W.minD (stD (if rk Y < rk S then Y else S)) (stL L) := by
      show PySem.W.minD (if PySem.W.dataLt (stD Y) (stD S) = true then stD Y else stD S) (stL L) = _
      rw [hr Y hY S hS]
      by_cases c : rk Y < rk S
      · rw [decide_eq_true c, if_pos rfl, if_pos c]
      · rw [decide_eq_false c, if_neg (by decide), if_neg c]
    by_cases c : rk Y < rk S
    · rw [if_pos c] at e
      obtain ⟨M, h1, h2, h3⟩ := minD_rank rk hr L Y fun T hT => h T (List.mem_cons_of_mem _ hT)
      refine ⟨M, e.trans h1, List.mem_cons_of_mem _ h2, fun T hT => ?_⟩
      rcases List.mem_cons.mp hT with rfl | hT
      · exact Nat.le_trans (h3 Y List.mem_cons_self) (Nat.le_of_lt c)
      · exact h3 T hT
    · rw [if_neg c] at e
      obtain ⟨M, h1, h2, h3⟩ := minD_rank rk hr L S fun T hT => h T (by
        rcases List.mem_cons.mp hT with rfl | hT
        · exact List.mem_cons_self
        · exact List.mem_cons_of_mem _ (List.mem_cons_of_mem _ hT))
      refine ⟨M, e.trans h1, ?_, fun T hT => ?_⟩
      · rcases List.mem_cons.mp h2 with q | q
        · rw [q]; exact List.mem_cons_self
        · exact List.mem_cons_of_mem _ (List.mem_cons_of_mem _ q)
      · rcases List.mem_cons.mp hT with q | hT
        · rw [q]; exact h3 S List.mem_cons_self
        · rcases List.mem_cons.mp hT with q | hT
          · rw [q]; exact Nat.le_trans (h3 S List.mem_cons_self) (Nat.le_of_not_lt c)
          · exact h3 T (List.mem_cons_of_mem _ hT)
end PV
namespace PV
open PySem PySem.Spec PyProof.Rows

/-! more steps -/
section
variable {e e1 e2 e3 : EnvD} {x z : D} {o m m2 : M D} {r : M (List D)} {ds : List D} {ty : D → Bool} {g : D → List D → Option D} {h : D → Option Int → Option Int → Option D} {i k : Int}
theorem methD_ok (ho : o e = .ok x e1) (ht : ty x = true) (hr : r e1 = .ok ds e2) (hg : g x ds = some z) : methD ty g o r e = .ok z e2 := by
  unfold methD
  rw [bnd_ok ho, if_pos ht, bnd_ok (show lft (some ()) e1 = .ok () e1 from rfl), bnd_ok hr, hg]; rfl
theorem prt_some (hm : m e = .ok (.int i) e1) : prt (some m) e = .ok (some i) e1 := by
  show bnd m (fun d => match d with
    | .int i => PV.ret (some i)
    | _ => fun _ => .no) e = _
  rw [bnd_ok hm]; rfl
theorem slE_lo (hm : m e = .ok x e1) (hl : m2 e1 = .ok (.int i) e2) (hg : h x (some i) none = some z) : slE h m (some m2) none e = .ok z e2 := by
  unfold slE
  rw [bnd_ok hm, bnd_ok (prt_some hl), bnd_ok (show prt none e2 = .ok none e2 from rfl), hg]; rfl
theorem slE_hi (hm : m e = .ok x e1) (hl : m2 e1 = .ok (.int i) e2) (hg : h x none (some i) = some z) : slE h m none (some m2) e = .ok z e2 := by
  unfold slE
  rw [bnd_ok hm, bnd_ok (show prt none e1 = .ok none e1 from rfl), bnd_ok (prt_some hl), hg]; rfl
theorem slE_2 {m3 : M D} (hm : m e = .ok x e1) (hl : m2 e1 = .ok (.int i) e2) (hh : m3 e2 = .ok (.int k) e3) (hg : h x (some i) (some k) = some z) : slE h m (some m2) (some m3) e = .ok z e3 := by
  unfold slE
  rw [bnd_ok hm, bnd_ok (prt_some hl), bnd_ok (prt_some hh), hg]; rfl
end
section
variable {t : M Bool} {dead : List Nat} {body : Sm} {n : Nat} {e e1 e2 : EnvD} {d : D}
theorem whL_nx (ht : t (wip dead e) = .ok true e1) (hb : body e1 = .nx e2) : whL t dead body (n + 1) e = whL t dead body n e2 := by
  rw [whL]; simp only [ht, if_true, hb]
theorem whL_rt (ht : t (wip dead e) = .ok true e1) (hb : body e1 = .rt d e2) : whL t dead body (n + 1) e = .rt d e2 := by
  rw [whL]; simp only [ht, if_true, hb]
theorem whL_end (ht : t (wip dead e) = .ok false e1) : whL t dead body (n + 1) e = .nx e1 := by
  rw [whL]; simp only [ht, Bool.false_eq_true, if_false]
end
theorem cutD_lo {ds : List D} {k : Nat} (h : k ≤ ds.length) : cutD ds (some (k : Int)) none = ds.drop k := by
  unfold cutD
  rw [HT.sIx_nat, HT.sIx_none, Nat.min_eq_left h]
  exact List.take_of_length_le (by rw [List.length_drop]; exact Nat.le_refl _)
theorem cutD_hi {ds : List D} {k : Nat} (h : k ≤ ds.length) : cutD ds none (some (k : Int)) = ds.take k := by
  unfold cutD
  rw [HT.sIx_nat, HT.sIx_none, Nat.min_eq_left h, List.drop_zero, Nat.sub_zero]
theorem cutD_2 {ds : List D} {k n : Nat} (h : n ≤ ds.length) (hk : k ≤ n) : cutD ds (some (k : Int)) (some (n : Int)) = (ds.drop k).take (n - k) := by
  unfold cutD
  rw [HT.sIx_nat, HT.sIx_nat, Nat.min_eq_left h, Nat.min_eq_left (Nat.le_trans hk h)]
/-- [x for x in ds if p], where p changes things -/
theorem lcL_sub {i : Nat} {tt : M Bool} {ds : List D} {acc : List D} {e0 : EnvD} (Inv : EnvD → Prop) (h0 : Inv e0) (hs : ∀ d ∈ ds, ∀ e, Inv e → ∃ b e3, tt (e.set i (.shr d)) = .ok b e3 ∧ e3[i]? = some (.shr d) ∧ Inv (wip [i] e3)) :
    ∃ out e', lcL (.nm i) [i] tt (rdS i) ds acc e0 = .ok (acc ++ out) e' ∧ Inv e' ∧ out.Sublist ds := by
  induction ds generalizing acc e0 with
  | nil => exact ⟨[], e0, by simp [lcL], h0, .slnil⟩
  | cons d ds ih =>
    obtain ⟨b, e3, h1, h2, h3⟩ := hs d List.mem_cons_self e0 h0
    cases b with
    | true =>
      obtain ⟨out, e', g1, g2, g3⟩ := ih (acc := acc ++ [d]) h3 fun d hd => hs d (List.mem_cons_of_mem _ hd)
      refine ⟨d :: out, e', ?_, g2, g3.cons₂ d⟩
      unfold lcL
      simp only [ev_bindN, h1, if_true, rdS_ok h2]
      rw [g1, List.append_assoc]; rfl
    | false =>
      obtain ⟨out, e', g1, g2, g3⟩ := ih (acc := acc) h3 fun d hd => hs d (List.mem_cons_of_mem _ hd)
      refine ⟨out, e', ?_, g2, g3.cons d⟩
      unfold lcL
      simp only [ev_bindN, h1, Bool.false_eq_true, if_false]
      exact g1
theorem lcE_sub {i : Nat} {tt : M Bool} {m : M (List D)} {e e1 : EnvD} {ds : List D} (Inv : EnvD → Prop) (hm : m e = .ok ds e1) (hno : noOwn [i] e1 = true) (h0 : Inv (wip [i] e1)) (hs : ∀ d ∈ ds, ∀ e, Inv e → ∃ b e3, tt (e.set i (.shr d)) = .ok b e3 ∧ e3[i]? = some (.shr d) ∧ Inv (wip [i] e3)) :
    ∃ out e', lcE (.nm i) [i] tt (rdS i) m e = .ok (.list out) (rst [i] e1 e') ∧ Inv e' ∧ out.Sublist ds := by
  obtain ⟨out, e', g1, g2, g3⟩ := lcL_sub (i := i) (tt := tt) (acc := []) Inv h0 hs
  refine ⟨out, e', ?_, g2, g3⟩
  unfold lcE
  rw [bnd_ok hm]
  simp only [hno, if_true, g1, List.nil_append]
theorem flt0 {α : Type} {q : α → Bool} {y : α} : ∀ {l : List α} {i : Nat}, l[i]? = some y → q y = true → (∀ k, k < i → ∀ z, l[k]? = some z → q z = false) → (l.filter q)[0]? = some y
  | [], i, h, _, _ => by simp at h
  | x :: l, 0, h, hy, hn => by
    have e : x = y := by simpa using h
    subst e
    rw [List.filter_cons, if_pos hy]; rfl
  | x :: l, i + 1, h, hy, hn => by
    have hx : q x = false := hn 0 (Nat.zero_lt_succ _) x rfl
    rw [List.filter_cons, hx, if_neg (by decide)]
    exact flt0 (l := l) (i := i) (by simpa using h) hy fun k hk z hz => hn (k + 1) (by omega) z (by simpa using hz)
theorem sub_str {out : List D} {L : List Str} (h : out.Sublist (strL L)) : ∃ S, out = strL S ∧ S.Sublist L := by
  obtain ⟨S, h1, h2⟩ := List.sublist_map_iff.mp h
  exact ⟨S, h2, h1⟩
theorem asc_sub {S T : List Str} (h : Asc T) (s : S.Sublist T) : Asc S := ⟨h.1.sublist s, h.2.sublist s⟩
end PV
namespace PV
open PySem PySem.Spec PyProof.Rows L2

/-! repr(a) == repr(b) -/
def reprOk (d : D) : Bool := noDict d && (d.showable && (decide (d.depth ≤ 60) && decide (d.shown.length ≤ sizeLine)))
def reqE (m m2 : M D) : M D := bnd m fun a => bnd (lft (if reprOk a = true then some () else none)) fun _ => bnd m2 fun b => lft (if reprOk b = true then some (PyData.bool (a.shown == b.shown)) else none)
def rRepr (K : PySem.W.Frag) : List V → Hp → VK → Prop := fun xs H Q => ∃ (N : Addr → Prop) (d : D) (v : V), xs = [v] ∧ RpC K H N v d ∧ reprOk d = true ∧ Q (.str d.shown) H
def rEqS : R2 := fun x y H Q => ∃ a b : Str, x = .str a ∧ y = .str b ∧ Q (.bl (a == b)) H
theorem hd_no : ∀ {d : D}, noDict d = true → d.hasDict = false := by
  have key : ∀ d : D, (noDict d = true → d.hasDict = false) := by
    intro d
    refine PyData.rec (motive_1 := fun d => noDict d = true → d.hasDict = false) (motive_2 := fun ds => noDicts ds = true → PyData.hasDictAll ds = false) (motive_3 := fun _ => True) (motive_4 := fun _ => True) ?_ ?_ ?_ ?_ ?_ ?_ ?_ ?_ ?_ ?_ ?_ ?_ d
    · exact fun _ => by simp [PyData.hasDict]
    · exact fun _ _ => by simp [PyData.hasDict]
    · exact fun _ _ => by simp [PyData.hasDict]
    · exact fun _ _ => by simp [PyData.hasDict]
    · exact fun ds ih h => by rw [PyData.hasDict]; exact ih h
    · exact fun ds ih h => by rw [PyData.hasDict]; exact ih h
    · exact fun ds _ h => by cases h
    · exact fun _ => by simp [PyData.hasDictAll]
    · intro x r h1 h2 h
      have h' := Bool.and_eq_true_iff.mp (show (noDict x && noDicts r) = true from h)
      rw [PyData.hasDictAll, h1 h'.1, h2 h'.2]; rfl
    · trivial
    · exact fun _ _ _ _ => trivial
    · exact fun _ _ _ _ => trivial
  exact fun {d} => key d
section
variable {X : Cx}
theorem cr_repr (hn : NoRep X.A) (hu : X.A.units + 64 < cLine) : CallR X (.builtin "repr") (rRepr X.K) := by
  intro pins s σ H xs us Q I r ⟨N, d, v, e, rc, ok, q⟩
  subst e
  unfold reprOk at ok
  simp only [Bool.and_eq_true, decide_eq_true_eq] at ok
  obtain ⟨o1, o2, o3, o4⟩ := ok
  obtain ⟨u, rfl, ru⟩ := Vals.one r
  obtain ⟨as, rd⟩ := Dp.reads I d v u (rc.dp o1) ru
  have fin : ∀ h' t tk, (∀ b o, s.heap.get? b = some o → h'.get? b = some o) → EP X pins σ Q (.str d.shown t) { s with heap := h', toks := tk } := fun h' t tk k => ⟨.str d.shown, H, I.kept (t' := tk) k, ⟨t, rfl⟩, q⟩
  cases rd with
  | none => exact PySem.P.repr_of_none (by have := fin s.heap s.toks (s.toks + 1) (fun _ _ z => z); simpa [PyData.shown] using this)
  | bool b => exact PySem.P.repr_of_bool (by have := fin s.heap s.toks (s.toks + 1) (fun _ _ z => z); simpa [PyData.shown] using this)
  | int i t => exact PySem.P.repr_of_int (by simpa [PyData.showable] using o2) (by have := fin s.heap s.toks (s.toks + 1) (fun _ _ z => z); simpa [PyData.shown] using this)
  | str x t => exact PySem.P.repr_of_str (by have := fin s.heap s.toks (s.toks + 1) (fun _ _ z => z); simpa [PyData.shown] using this) (by simpa [PyData.shown] using o4)
  | list h1 h2 h3 h4 => exact PySem.repr_of_reads' (.list h1 h2 h3 h4) o2 (PyData.noDict_hsm (hd_no o1)) hn (by omega) (fun _ _ z => z) (fun h' t tk k => fin h' t tk k) o4
  | tuple h1 h2 h3 h4 => exact PySem.repr_of_reads' (.tuple h1 h2 h3 h4) o2 (PyData.noDict_hsm (hd_no o1)) hn (by omega) (fun _ _ z => z) (fun h' t tk k => fin h' t tk k) o4
  | dict _ _ _ _ _ => cases o1
theorem o_eqS : OpR X (compareOp .Eq) rEqS := opr_mono op_eq fun x y H Q h => by
  obtain ⟨a, b, rfl, rfl, q⟩ := h
  refine ⟨rfl, ?_⟩
  have e : decide (V.str a = V.str b) = (a == b) := by
    rw [Bool.eq_iff_iff, decide_eq_true_iff, beq_iff_eq]
    exact ⟨fun z => V.str.inj z, fun z => congrArg V.str z⟩
  rw [e]; exact q
variable {G : Amb} {pa pb : Bool} {la lb : Lvl} {a b : Expr} {fa fb : M D} {pos pos1 pos2 p1 p2 : Pos}
theorem j_req (hn : NoRep X.A) (hu : X.A.units + 64 < cLine) (hg : Gl X "repr") (hm : X.mg "repr" = none) (hv : bootBuiltins "repr" = some (.builtin "repr")) (ha : J X G pa la a fa) (hb : J X G pb lb b fb)
    (hma : behindInMarks .Eq (.Call (.Name "repr" p2) [b] [] pos2) = false := by first | exact nomark _ | rfl)
    (h1 : starEach [a] X.env = (false, eval a X.env) :: starEach [] X.env := by rfl) (h2 : starEach [b] X.env = (false, eval b X.env) :: starEach [] X.env := by rfl)
    (q1 : (backTo pos1 (starEach [] X.env)).any (·.1) = false := by rfl) (q2 : (backTo pos2 (starEach [] X.env)).any (·.1) = false := by rfl) :
    J X G (pa && pb) .fre (.Compare (.Call (.Name "repr" p1) [a] [] pos1) [.Eq] [.Call (.Name "repr" p2) [b] [] pos2] pos) (reqE fa fb) :=
  pe_mono (pe_cmpR o_eqS (pe_callB (cr_repr hn hu) hg hm hv (pa_cons ha pa_nil h1) (by decide) (by decide) h1 q1) (pe_callB (cr_repr hn hu) hg hm hv (pa_cons hb pa_nil h2) (by decide) (by decide) h2 q2) hma) fun σ H Q ⟨env, S, q⟩ => by
    refine ⟨env, S, (Ok.bind3 (p' := pb) rfl q).mono fun da env1 H1 ⟨f1, q1⟩ v rv => ?_⟩
    have rca := RpX.rpC (fun a z => S.dom a (f1.sub a z)) rv
    by_cases oka : reprOk da = true
    · rw [if_pos oka] at q1
      have q1 := Ok.bind3 (p := true) (p' := pb) (m := lft (some ())) (by simp) q1
      obtain ⟨u0, e0, q1⟩ := q1.lft f1.st
      cases e0
      obtain ⟨_, q1⟩ := q1 H1 (Same.refl _)
      refine ⟨_, da, v, rfl, rca, oka, env1, f1.st, (Ok.bind3 (m := fb) (p' := true) (by simp) q1).mono fun db env2 H2 ⟨f2, q2⟩ u ru => ?_⟩
      have rcb := RpX.rpC (fun a z => f1.st.dom a (f2.sub a z)) ru
      obtain ⟨d, e, q3⟩ := q2.lft f2.st
      by_cases okb : reprOk db = true
      · rw [if_pos okb] at e
        cases e
        exact ⟨_, db, u, rfl, rcb, okb, da.shown, db.shown, rfl, rfl, q3 H2 (Same.refl _) _ (.bl _)⟩
      · rw [if_neg okb] at e; cases e
    · rw [if_neg oka] at q1
      have q1 := Ok.bind3 (p := true) (p' := pb) (m := lft none) (by simp) q1
      obtain ⟨_, e0, _⟩ := q1.lft f1.st
      cases e0
end
end PV
namespace PV
open PySem PySem.Spec PyProof.Rows L2

/-! rows again and again -/
def repD (ds : List D) (k : Int) : List D := (List.replicate k.toNat ds).flatten
def mulE : D → D → Option D
  | .tuple ds, .int k => if (!ds.isEmpty && (decide (2 ≤ k) && (decide (k ≤ 1000) && decide (ds.length ≤ 1000)))) = true then some (.tuple (repD ds k)) else none
  | a, b => mulD a b
def mulL : D → D → Option D
  | .list ds, .int k => if (decide (0 ≤ k) && (decide (k < 4611686018427387904) && decide (ds.length * k.toNat ≤ sizeLine))) = true then some (.list (repD ds k)) else none
  | _, _ => none
section
variable {K : PySem.W.Frag} {H : Hp} {N : Addr → Prop}
theorem rep_rp {xs : List V} {ds : List D} (h : RpAll K H N xs ds) : ∀ n : Nat, RpAll K H N (List.replicate n xs).flatten (List.replicate n ds).flatten
  | 0 => .nil
  | n + 1 => by
    rw [List.replicate_succ, List.replicate_succ, List.flatten_cons, List.flatten_cons]
    exact h.append (rep_rp h n)
end
section
variable {X : Cx}
theorem oo_mulE : OpR X (binaryOp .Mult) (r2 X.K .fre mulE) :=
  opr_mono (op_repT.or oo_mul) fun x y H Q ⟨N, da, db, d, dom, rx, ry, e, q⟩ => by
    have other : mulD da db = some d → (r2 X.K .fre mulD) x y H Q := fun e => ⟨N, da, db, d, dom, rx, ry, e, q⟩
    cases da with
    | tuple ds =>
      cases db with
      | int k =>
        obtain ⟨c, rfl⟩ := if_some (show (if (!ds.isEmpty && (decide (2 ≤ k) && (decide (k ≤ 1000) && decide (ds.length ≤ 1000)))) = true then some (PyData.tuple (repD ds k)) else none) = some d from e)
        simp only [Bool.and_eq_true, decide_eq_true_eq] at c
        obtain ⟨c1, c2, c3, c4⟩ := c
        obtain ⟨a, xs, rfl, h1, h2⟩ := rx.tuple
        have hl := h2.length
        refine .inl ⟨a, k, xs, rfl, ry.int, h1, fun z => ?_, c2, c3, by omega, fun p hn => q _ _ (same_new hn) (.tup (.inl (.inl upd_same)) ((rep_rp h2 k.toNat).fwd (.sub_same (same_new hn) fun _ z => z)))⟩
        subst z
        cases h2
        cases c1
      | _ => exact .inr (other e)
    | _ => exact .inr (other e)
end
section
variable {X : Cx} {G : Amb} {pa : Bool} {lb : Lvl} {a b : Expr} {fa fb : M D} {pos : Pos}
/-- [..] * k -/
theorem j_mulL (ha : J X G pa .fre a fa) (hb : J X G true lb b fb) : J X G pa .fre (.BinOp a .Mult b pos) (op2 mulL fa fb) :=
  pe_mono (pe_op op_rep ha hb) fun σ H Q ⟨env, S, q⟩ => by
    refine ⟨env, S, (Ok.bind3 (p' := true) (by simp) q).mono fun da env1 H1 ⟨f1, q1⟩ v rv => ?_⟩
    refine ⟨env1, f1.st, (Ok.bind3 (m := fb) (p' := true) (by simp) q1).mono fun db env2 H2 ⟨f2, q2⟩ u ru => ?_⟩
    obtain ⟨d, e, q3⟩ := q2.lft f2.st
    have rcb := RpX.rpC (fun a z => f1.st.dom a (f2.sub a z)) ru
    cases da with
    | list ds =>
      cases db with
      | int k =>
        have e1 : (if (decide (0 ≤ k) && (decide (k < 4611686018427387904) && decide (ds.length * k.toNat ≤ sizeLine))) = true then some (PyData.list (repD ds k)) else none) = some d := e
        by_cases c : (decide (0 ≤ k) && (decide (k < 4611686018427387904) && decide (ds.length * k.toNat ≤ sizeLine))) = true
        · rw [if_pos c] at e1
          cases e1
          simp only [Bool.and_eq_true, decide_eq_true_eq] at c
          obtain ⟨c1, c2, c3⟩ := c
          obtain ⟨a, xs, rfl, hn, ha, hr⟩ := rv
          obtain ⟨_, s2⟩ := f2.pure rfl
          refine ⟨a, k, xs, rfl, rcb.int, s2 _ _ ha, by omega, by omega, by rw [hr.length]; exact c3, fun p hp => ?_⟩
          have h2 : RpAll X.K H2 (G.R σ env1) xs ds := hr.fwd (.sub_same s2 fun _ z => .inl z)
          have e2 : env2 = env1 := (f2.pure rfl).1
          subst e2
          exact q3 _ (same_new hp) _ (f1.back (f2.back (l := .fre) ⟨p, _, rfl, hp, upd_same, (rep_rp h2 k.toNat).new hp⟩))
        · rw [if_neg c] at e1; cases e1
      | _ => cases e
    | _ => cases e
end
end PV
namespace PV
open PySem PySem.Spec PyProof.Rows L2
/-! _law_same (printed by gen.py), and how long a repr is -/
def q__law_same_1 : Sm :=
 rtn (andV (op2 eqD (rdS 0) (rdS 1)) (reqE (rdS 0) (rdS 1)))
def d__law_same : Sm := q__law_same_1
def f__law_same : Fn := fnD [false, false] 2 d__law_same
mutual
def shB : D → Nat
  | .none => 4
  | .bool _ => 5
  | .int i => if i.natAbs < 10 ^ 18 then 19 else i.natAbs.log2 + 2
  | .str x => (reprText x).length
  | .list xs => shBs xs + 3
  | .tuple xs => shBs xs + 3
  | .dict _ => 0
def shBs : List D → Nat
  | [] => 0
  | x :: r => shB x + 2 + shBs r
end
theorem from_len : ∀ (ts : List Str) (k : Nat) (acc : Str), (textFrom k acc ts).length ≤ acc.length + piled ts
  | [], k, acc => by show acc.length ≤ acc.length + 0; exact Nat.le_refl _
  | t :: r, k, acc => by
    have h := from_len r (k + 1) (acc ++ (if k > 0 then ", " else "" : String) ++ t)
    rw [strLen_append, strLen_append] at h
    have h2 : (Str.ofString (if k > 0 then ", " else "" : String)).length ≤ 2 := by
      rw [PySem.ofString_length]
      split <;> decide
    rw [piled_cons]
    show (textFrom (k + 1) (acc ++ (if k > 0 then ", " else "" : String) ++ t) r).length ≤ _
    omega
mutual
theorem shB_ok : ∀ (d : D), noDict d = true → d.shown.length ≤ shB d
  | .none, _ => by rw [PyData.shown]; decide
  | .bool b, _ => by rw [PyData.shown]; cases b <;> decide
  | .int i, _ => by
    rw [PyData.shown, PySem.ofString_length, shB]
    by_cases h : i.natAbs < 10 ^ 18
    · rw [if_pos h]
      exact int_text_length_le10 (by decide) h
    · rw [if_neg h]
      exact int_text_length_le (k := i.natAbs.log2 + 1) (by omega) (by omega)
  | .str x, _ => by rw [PyData.shown, shB]; exact Nat.le_refl _
  | .list xs, h => by
    have ih := shBs_ok xs h
    rw [PyData.shown, shB]
    unfold listText
    rw [strLen_append]
    have h1 := from_len (PyData.shownAll xs) 0 "["
    have e1 : (Str.ofString "[").length = 1 := by decide
    have e2 : (Str.ofString "]").length = 1 := by decide
    omega
  | .tuple xs, h => by
    have ih := shBs_ok xs h
    rw [PyData.shown, shB]
    unfold tupleText
    rw [strLen_append, strLen_append]
    have e1 : (Str.ofString "(").length = 1 := by decide
    have e2 : (Str.ofString (if (PyData.shownAll xs).length == 1 then ",)" else ")" : String)).length ≤ 2 := by
      rw [PySem.ofString_length]
      split <;> decide
    have e3 : (Str.join ", " (PyData.shownAll xs)).length ≤ piled (PyData.shownAll xs) := by
      by_cases c : PyData.shownAll xs = []
      · rw [c]; decide
      · have := join_length_add _ c
        omega
    omega
  | .dict _, h => by cases h
theorem shBs_ok : ∀ (ds : List D), noDicts ds = true → piled (PyData.shownAll ds) ≤ shBs ds
  | [], _ => by rw [PyData.shownAll]; exact Nat.zero_le _
  | x :: r, h => by
    have h' := Bool.and_eq_true_iff.mp (show (noDict x && noDicts r) = true from h)
    have a := shB_ok x h'.1
    have b := shBs_ok r h'.2
    rw [PyData.shownAll, piled_cons, shBs]
    omega
end
mutual
theorem alike_self : ∀ (d : D), noDict d = true → PySem.W.alike d d = true
  | .none, _ => by rw [PySem.W.alike]
  | .bool b, _ => by rw [PySem.W.alike]
  | .int i, _ => by rw [PySem.W.alike]
  | .str x, _ => by rw [PySem.W.alike]
  | .list xs, h => by rw [PySem.W.alike]; exact alikes_self xs h
  | .tuple xs, h => by rw [PySem.W.alike]; exact alikes_self xs h
  | .dict _, h => by cases h
theorem alikes_self : ∀ (ds : List D), noDicts ds = true → PySem.W.alikeAll ds ds = true
  | [], _ => by rw [PySem.W.alikeAll]
  | x :: r, h => by
    have h' := Bool.and_eq_true_iff.mp (show (noDict x && noDicts r) = true from h)
    rw [PySem.W.alikeAll, alike_self x h'.1, alikes_self r h'.2]; rfl
end
theorem eqv_self {d : D} (h : noDict d = true) : PyData.eqv d d = true := PySem.W.eqv_refl_alike d (alike_self d h)
theorem reprOk_of {d : D} (h1 : noDict d = true) (h2 : d.showable = true) (h3 : d.depth ≤ 60) (h4 : shB d ≤ 16777216) : reprOk d = true := by
  unfold reprOk
  have : d.shown.length ≤ sizeLine := Nat.le_trans (shB_ok d h1) h4
  rw [h1, h2, decide_eq_true h3, decide_eq_true this]; rfl
theorem same_ok {d : D} (h1 : noDict d = true) (h2 : d.showable = true) (h3 : d.depth ≤ 60) (h4 : shB d ≤ 16777216) : f__law_same [d, d] = .ok (.bool true) [] := by
  have e1 : f__law_same [d, d] = outF false [] (d__law_same [.shr d, .shr d]) := by unfold f__law_same; rw [fnD_ok (by rfl)]; rfl
  rw [e1]
  have e2 : d__law_same [.shr d, .shr d] = .rt (.bool true) [.shr d, .shr d] := by
    refine rtn_ok (Eq.trans (andV_t (e1 := [.shr d, .shr d]) (op2_ok (rdS_ok rfl) (rdS_ok rfl) ?_)) ?_)
    · rw [eqD_of h1 h1 (Nat.le_trans h3 (by decide)), eqv_self h1]
    · have ok := reprOk_of h1 h2 h3 h4
      unfold reqE
      rw [bnd_ok (rdS_ok rfl), if_pos ok, bnd_ok (show lft (some ()) _ = .ok () _ from rfl), bnd_ok (rdS_ok rfl), if_pos ok, beq_self_eq_true]; rfl
  rw [e2]; rfl
end PV
namespace PV
open PySem PySem.Spec PyProof.Rows

theorem j_nf {X : L2.Cx} {G : Amb} {p p' : Bool} {l : Lvl} {e : Expr} {f : M D} (h : J X G p l e f) (hp : p = p' := by rfl) : J X G p' l e f := by subst hp; exact h
theorem extS_ok {e : EnvD} {k : Nat} {m : M D} {ds zs : List D} (h : e[k]? = some (.own (.list ds))) (hm : m e = .ok (.list zs) e) (hl : ds.length + zs.length ≤ sizeLine) : extS k m e = .nx (e.set k (.own (.list (ds ++ zs)))) := by
  unfold extS
  rw [h]
  simp only
  rw [thenS_ok hm, h]
  simp only
  rw [if_pos hl]

/-! order of data -/
theorem dLe_lt (a b : D) : dLe a b = !PySem.W.dataLt b a := rfl
theorem dLe_trans (a b c : D) (h1 : dLe a b = true) (h2 : dLe b c = true) : dLe a c = true := (PySem.W.sortLe_total (listOrd itemOrd) false fun d : D => PySem.W.keyToks d).trans a b c h1 h2
theorem dLe_total (a b : D) : (dLe a b || dLe b a) = true := Bool.or_eq_true_iff.mpr ((PySem.W.sortLe_total (listOrd itemOrd) false fun d : D => PySem.W.keyToks d).total a b)
theorem lt_tup {x y : D} {xs ys : List D} (h : PySem.W.alike x y = true) : PySem.W.dataLt (.tuple (x :: xs)) (.tuple (y :: ys)) = if PyData.eqv x y = true then PySem.W.dataLt (.tuple xs) (.tuple ys) else PySem.W.dataLt x y := by
  show PyProof.Rows.lexLt itemOrd (PySem.W.keyToksAll (x :: xs)) (PySem.W.keyToksAll (y :: ys)) = _
  cases e : PyData.eqv x y with
  | true => rw [if_pos rfl]; exact PySem.W.dataLt_all_yes h e
  | false => rw [if_neg (by decide)]; exact PySem.W.dataLt_all_no h e
theorem lt_int (a b : Int) : PySem.W.dataLt (.int a) (.int b) = decide (a < b) := PySem.W.dataLt_int a b
theorem lt_irr (d : D) : PySem.W.dataLt d d = false := PyProof.Rows.lex_irrefl _

/-! all states of some names -/
def allS (names : List Str) : List (List Str) := names.foldl (fun acc x => acc ++ acc.map (· ++ [x])) [[]]
theorem allS_snoc (l : List Str) (x : Str) : allS (l ++ [x]) = allS l ++ (allS l).map (· ++ [x]) := by
  unfold allS
  rw [List.foldl_append]; rfl
theorem allS_take {names : List Str} {i : Nat} {x : Str} (h : names[i]? = some x) : allS (names.take (i + 1)) = allS (names.take i) ++ (allS (names.take i)).map (· ++ [x]) := by
  rw [List.take_add_one, h]
  exact allS_snoc _ _
theorem allS_ind {P : List Str → Prop} (h0 : P []) (h1 : ∀ l x, P l → P (l ++ [x])) (l : List Str) : P l := by
  have key : ∀ n, ∀ l : List Str, l.length = n → P l := by
    intro n
    induction n with
    | zero => intro l e; rw [List.length_eq_zero_iff.mp e]; exact h0
    | succ n ih =>
      intro l e
      have hne : l ≠ [] := fun z => by rw [z] at e; cases e
      rw [← List.dropLast_concat_getLast hne]
      exact h1 _ _ (ih _ (by rw [List.length_dropLast, e]; rfl))
  exact key _ l rfl
theorem allS_len (l : List Str) : (allS l).length = 2 ^ l.length := by
  induction l using allS_ind with
  | h0 => rfl
  | h1 l x ih =>
    rw [allS_snoc, List.length_append, List.length_map, ih, List.length_append, List.length_singleton, Nat.pow_succ]
    omega
theorem allS_sub (l : List Str) : ∀ S ∈ allS l, S.Sublist l := by
  induction l using allS_ind with
  | h0 =>
    intro S hS
    have : S = [] := by simpa [allS] using hS
    rw [this]; exact List.Sublist.refl _
  | h1 l x ih =>
    intro S hS
    rw [allS_snoc] at hS
    rcases List.mem_append.mp hS with h | h
    · exact (ih S h).trans (List.sublist_append_left l [x])
    · obtain ⟨T, hT, rfl⟩ := List.mem_map.mp h
      exact (ih T hT).append (List.Sublist.refl _)
theorem pow_le {a : Nat} (h : a ≤ 10) : 2 ^ a ≤ 1024 := Nat.pow_le_pow_right (by decide) h
theorem add_one (S : List Str) (x : Str) (h : S.length ≤ 1000) : addD (stD S) (.tuple [.str x]) = some (stD (S ++ [x])) := by
  show (if _ then some _ else none) = _
  rw [if_pos (by rw [strL_len]; show _ + 1 ≤ sizeLine; unfold sizeLine; omega)]
  unfold stD strL
  rw [List.map_append]; rfl
theorem grow_ok {e : EnvD} {m : M (List D)} {L : List (List Str)} {x : Str} {i j : Nat} (hij : i ≠ j) (hi : i < e.length) (hj : e[j]? = some (.shr (.str x))) (hno : noOwn [i] e = true) (hm : m e = .ok (stL L) e) (hL : ∀ S ∈ L, S.length ≤ 1000) :
    lcE (.nm i) [i] yesT (op2 addD (rdS i) (tupE (consA (rdS j) nilA))) m e = .ok (.list (stL (L.map (· ++ [x])))) e := by
  refine Eq.trans (lc1 (fun d => match d with | .tuple ds => .tuple (ds ++ [.str x]) | d => d) hm hno fun d hd => ?_) ?_
  · obtain ⟨S, hS, rfl⟩ := List.mem_map.mp hd
    have q1 : (e.set i (.shr (stD S)))[i]? = some (.shr (stD S)) := by rw [List.getElem?_set_self hi]
    have q2 : (e.set i (.shr (stD S)))[j]? = some (.shr (.str x)) := by rw [List.getElem?_set_ne hij]; exact hj
    refine op2_ok (rdS_ok q1) (tupE_ok (consA_ok (rdS_ok q2) nilA_ok) (by show 1 ≤ sizeLine; decide)) ?_
    rw [add_one S x (hL S hS)]
    show _ = some (PyData.tuple (strL S ++ [.str x]))
    unfold stD strL
    rw [List.map_append]; rfl
  · unfold stL
    rw [List.map_map, List.map_map]
    congr 2
    apply List.map_congr_left
    intro S _
    show PyData.tuple (strL S ++ [.str x]) = stD (S ++ [x])
    unfold stD strL
    rw [List.map_append]; rfl
theorem stL_append (L M : List (List Str)) : stL L ++ stL M = stL (L ++ M) := by unfold stL; rw [List.map_append]
theorem stL_len' (L : List (List Str)) : (stL L).length = L.length := List.length_map ..
theorem all_states_ok {d : D} {names : List Str} (hd : seqD d = some (strL names)) (hl : names.length ≤ 10) (hA : Asc names) : f_all_states [d] = .ok (.list (stL (allS names))) [] := by
  have e1 : f_all_states [d] = outF false [] (d_all_states [.shr d, .emp, .emp, .emp]) := by unfold f_all_states; rw [fnD_ok (by rfl)]; rfl
  rw [e1]
  have bound : ∀ i, (allS (names.take i)).length ≤ 1024 := fun i => by
    rw [allS_len]
    exact pow_le (Nat.le_trans (List.length_take_le' ..) hl)
  have small : ∀ i, ∀ S ∈ allS (names.take i), S.length ≤ 1000 := fun i S hS => by
    have := (allS_sub _ S hS).length_le
    have h2 : (names.take i).length ≤ names.length := List.length_take_le' ..
    omega
  have s1 : q_all_states_1 [.shr d, .emp, .emp, .emp] = .nx [.shr d, .own (.list (stL (allS (names.take 0)))), .emp, .emp] :=
    setO_ok (lstE_ok (consA_ok (tupE_ok nilA_ok (by show 0 ≤ sizeLine; decide)) nilA_ok) (by show 1 ≤ sizeLine; decide))
  have s2 : ∃ e2, q_all_states_2 [.shr d, .own (.list (stL (allS (names.take 0)))), .emp, .emp] = .nx (wip [2] e2) ∧ ∃ c, e2 = [.shr d, .own (.list (stL (allS (names.take (strL names).length)))), c, .emp] := by
    refine frS_nx (t := .nm 2) (dead := [2]) (ds := strL names) (fun i e2 => ∃ c, e2 = [.shr d, .own (.list (stL (allS (names.take i)))), c, .emp]) (e1 := [.shr d, .own (.list (stL (allS (names.take 0)))), .emp, .emp]) (seqI_ok (rdS_ok rfl) hd) ⟨_, rfl⟩ fun i x e hx hI => ?_
    obtain ⟨c, rfl⟩ := hI
    unfold strL at hx
    rw [List.getElem?_map] at hx
    cases hq : names[i]? with
    | none => rw [hq] at hx; cases hx
    | some y =>
      rw [hq] at hx
      cases hx
      refine ⟨[.shr d, .own (.list (stL (allS (names.take i)))), .shr (.str y), .emp], _, rfl, extS_ok (zs := stL ((allS (names.take i)).map (· ++ [y]))) rfl (grow_ok (by decide) (by simp) rfl rfl (seqI_ok (rdB_ok rfl) rfl) (small i)) ?_, .shr (.str y), ?_⟩
      · rw [stL_len', stL_len', List.length_map]
        have := bound i
        unfold sizeLine
        omega
      · rw [stL_append, ← allS_take hq]; rfl
  obtain ⟨e2, s2, c, rfl⟩ := s2
  unfold d_all_states
  rw [sq_nx s1, sq_nx s2, strL_len, List.take_length]
  have s4 : q_all_states_4 (wip [2] [.shr d, .own (.list (stL (allS names))), c, .emp]) = .rt (.list (stL (allS names))) [.shr d, .own (.list (stL (allS names))), .emp, .emp] := by
    refine rtn_ok (Eq.trans (lc1 (ds := stL (allS names)) (e1 := [.shr d, .own (.list (stL (allS names))), .emp, .emp]) id (seqI_ok (rdB_ok rfl) rfl) rfl fun x hx => ?_) (by rw [List.map_id]))
    obtain ⟨S, hS, rfl⟩ := List.mem_map.mp hx
    refine callD_ok (consA_ok (callD_ok (consA_ok (rdS_ok rfl) nilA_ok) (sorE_strT S)) nilA_ok) ?_
    rw [merge_asc (asc_sub hA (allS_sub names S hS))]; rfl
  rw [s4]; rfl

/-! .. in order -/
def encQ (S : List Str) : D := .tuple [.int S.length, stD S]
def qLe (S T : List Str) : Bool := dLe (encQ S) (encQ T)
def ordS (names : List Str) : List (List Str) := (allS names).mergeSort qLe
theorem alike_Q (S T : List Str) : PySem.W.alike (encQ S) (encQ T) = true := by
  show PySem.W.alike (.tuple [.int S.length, stD S]) (.tuple [.int T.length, stD T]) = true
  rw [PySem.W.alike, PySem.W.alikeAll, PySem.W.alikeAll, PySem.W.alikeAll, alike_st]; rfl
theorem sortOk_Q (L : List (List Str)) : sortOk (L.map encQ) = true := by
  unfold sortOk
  have a0 : noDicts (L.map encQ) = true := noDicts_map (fun S => by show (true && (noDict (stD S) && true)) = true; rw [nd_st]; rfl) L
  have a1 : ((L.map encQ).all fun a => (L.map encQ).all fun b => PySem.W.alike a b) = true := List.all_eq_true.mpr fun a ha => List.all_eq_true.mpr fun b hb => by
    obtain ⟨x, _, rfl⟩ := List.mem_map.mp ha
    obtain ⟨y, _, rfl⟩ := List.mem_map.mp hb
    exact alike_Q x y
  have a2 : (L.map encQ).all neTup = true := List.all_eq_true.mpr fun a ha => by
    obtain ⟨x, _, rfl⟩ := List.mem_map.mp ha
    rfl
  have a3 : (L.map encQ).all (fun d => decide (d.depth ≤ 60)) = true := List.all_eq_true.mpr fun a ha => by
    obtain ⟨x, _, rfl⟩ := List.mem_map.mp ha
    refine decide_eq_true ?_
    show max 0 (max (stD x).depth 0) + 1 ≤ 60
    have := dep_st x
    omega
  rw [a0, a1, a2, a3]; rfl
theorem merge_Q (L : List (List Str)) : (L.map encQ).mergeSort dLe = (L.mergeSort qLe).map encQ := (List.map_mergeSort (r := qLe) (s := dLe) (f := encQ) (fun _ _ _ _ => rfl)).symm
theorem sorE_Q (L : List (List Str)) : sorE [.list (L.map encQ)] = some (.list ((L.mergeSort qLe).map encQ)) := by
  show (if sortOk (L.map encQ) = true then some (PyData.list ((L.map encQ).mergeSort dLe)) else none) = _
  rw [if_pos (sortOk_Q L), merge_Q]
theorem in_order_ok {d : D} {names : List Str} (hd : seqD d = some (strL names)) (hl : names.length ≤ 10) (hA : Asc names) : f_in_order [d] = .ok (.list (stL (ordS names))) [] := by
  have e1 : f_in_order [d] = outF false [] (d_in_order [.shr d, .emp, .emp]) := by unfold f_in_order; rw [fnD_ok (by rfl)]; rfl
  rw [e1]
  have g1 : lcE (.nm 2) [2] (yesT) (tupE (consA (callD lenD (consA (rdS 2) (nilA))) (consA (rdS 2) (nilA)))) (seqI (cal (f_all_states) (consA (rdS 0) (nilA)))) [.shr d, .emp, .emp] = .ok (.list ((allS names).map encQ)) [.shr d, .emp, .emp] := by
    refine Eq.trans (lc1 (ds := stL (allS names)) (e1 := [.shr d, .emp, .emp]) (fun x => match x with | .tuple ds => .tuple [.int ds.length, .tuple ds] | x => x) (seqI_ok (cal_ok (consA_ok (rdS_ok rfl) nilA_ok) (all_states_ok hd hl hA)) rfl) rfl fun x hx => ?_) ?_
    · obtain ⟨S, hS, rfl⟩ := List.mem_map.mp hx
      exact tupE_ok (consA_ok (callD_ok (consA_ok (rdS_ok rfl) nilA_ok) rfl) (consA_ok (rdS_ok rfl) nilA_ok)) (by show 2 ≤ sizeLine; decide)
    · unfold stL
      rw [List.map_map]
      congr 2
      apply List.map_congr_left
      intro S _
      show PyData.tuple [.int ((strL S).length : Nat), .tuple (strL S)] = encQ S
      rw [strL_len]; rfl
  have g2 : d_in_order [.shr d, .emp, .emp] = .rt (.list (stL (ordS names))) [.shr d, .emp, .emp] := by
    refine rtn_ok (Eq.trans (lcE_all (t := .tp [.nm 1, .nm 2]) (vs := [1, 2]) (te := rdS 2) (ds := (ordS names).map encQ) (e1 := [.shr d, .emp, .emp]) (fun x => match x with | .tuple [_, s] => s | x => x) (seqI_ok (callD_ok (consA_ok g1 nilA_ok) (sorE_Q _)) rfl) rfl rfl fun x hx => ?_) ?_)
    · obtain ⟨S, hS, rfl⟩ := List.mem_map.mp hx
      exact ⟨[.shr d, .shr (.int S.length), .shr (stD S)], rfl, rdS_ok rfl, rfl⟩
    · unfold stL
      rw [List.map_map]; rfl
  rw [g2]; rfl
theorem ordS_perm (names : List Str) : (ordS names).Perm (allS names) := List.mergeSort_perm _ _
theorem ordS_mem {names S : List Str} : S ∈ ordS names ↔ S ∈ allS names := (ordS_perm names).mem_iff
theorem ordS_pw (names : List Str) : (ordS names).Pairwise fun S T => qLe S T = true := List.pairwise_mergeSort (le := qLe) (fun a b c => dLe_trans (encQ a) (encQ b) (encQ c)) (fun a b => dLe_total (encQ a) (encQ b)) _
/-- the first of the least -/
theorem minD_arg {c : Nat → Int} {x : D} {r : List D} (h : ∀ j k a b, k < j → (x :: r)[j]? = some a → (x :: r)[k]? = some b → PySem.W.dataLt a b = decide (c j < c k)) :
    ∃ k, (x :: r)[k]? = some (PySem.W.minD x r) ∧ (∀ j, j < (x :: r).length → c k ≤ c j) ∧ ∀ j, j < k → c k < c j := by
  have key : ∀ (s : List D) (k n : Nat) (y : D), (x :: r)[k]? = some y → k < n → (x :: r).drop n = s → (∀ j, j < n → c k ≤ c j) → (∀ j, j < k → c k < c j) →
      ∃ k, (x :: r)[k]? = some (s.foldl (fun a y => if PySem.W.dataLt y a then y else a) y) ∧ (∀ j, j < (x :: r).length → c k ≤ c j) ∧ ∀ j, j < k → c k < c j := by
    intro s
    induction s with
    | nil =>
      intro k n y hk hn hd h1 h2
      have : (x :: r).length ≤ n := List.drop_eq_nil_iff.mp hd
      exact ⟨k, hk, fun j hj => h1 j (by omega), h2⟩
    | cons z s ih =>
      intro k n y hk hn hd h1 h2
      have hz : (x :: r)[n]? = some z := by
        have := congrArg (fun l : List D => l[0]?) hd
        simpa [List.getElem?_drop] using this
      have hd2 : (x :: r).drop (n + 1) = s := by
        have := congrArg (fun l : List D => l.drop 1) hd
        simpa [List.drop_drop, Nat.add_comm] using this
      have e := h n k z y hn hz hk
      by_cases lt : c n < c k
      · rw [decide_eq_true lt] at e
        rw [List.foldl_cons, e]
        refine ih n (n + 1) z hz (Nat.lt_succ_self n) hd2 (fun j hj => ?_) fun j hj => Int.lt_of_lt_of_le lt (h1 j hj)
        rcases Nat.lt_succ_iff_lt_or_eq.mp hj with q | q
        · exact Int.le_of_lt (Int.lt_of_lt_of_le lt (h1 j q))
        · rw [q]; exact Int.le_refl _
      · rw [decide_eq_false lt] at e
        rw [List.foldl_cons, e]
        refine ih k (n + 1) y hk (by omega) hd2 (fun j hj => ?_) h2
        rcases Nat.lt_succ_iff_lt_or_eq.mp hj with q | q
        · exact h1 j q
        · rw [q]; exact Int.not_lt.mp lt
  exact key r 0 1 x rfl Nat.zero_lt_one rfl (fun j hj => by rw [show j = 0 by omega]; exact Int.le_refl _) fun j hj => absurd hj (Nat.not_lt_zero j)
end PV
namespace PV
open PySem PySem.Spec PyProof.Rows

/-! states picked out of a row -/
def stP (q : List Str → Bool) : D → Bool
  | .tuple ds => match strsD ds with
    | some S => q S
    | none => false
  | _ => false
theorem stP_st (q : List Str → Bool) (S : List Str) : stP q (stD S) = q S := by
  show (match strsD (strL S) with | some S => q S | none => false) = _
  rw [strsD_L]
theorem stL_filter (q : List Str → Bool) (L : List (List Str)) : (stL L).filter (stP q) = stL (L.filter q) := by
  unfold stL
  rw [List.filter_map]
  congr 1
  apply List.filter_congr
  intro S _
  exact stP_st q S
theorem flt_st {i : Nat} {te : M D} {tt : M Bool} {m : M (List D)} {e e1 : EnvD} {L : List (List Str)} (q : List Str → Bool) (hm : m e = .ok (stL L) e1) (hno : noOwn [i] e1 = true)
    (h : ∀ T ∈ L, tt (e1.set i (.shr (stD T))) = .ok (q T) (e1.set i (.shr (stD T))) ∧ te (e1.set i (.shr (stD T))) = .ok (stD T) (e1.set i (.shr (stD T)))) : lcE (.nm i) [i] tt te m e = .ok (.list (stL (L.filter q))) e1 := by
  refine Eq.trans (lc1f (stP q) id hm hno fun d hd => ?_) (by rw [List.map_id, stL_filter])
  obtain ⟨T, hT, rfl⟩ := List.mem_map.mp hd
  rw [stP_st]
  exact ⟨(h T hT).1, fun _ => (h T hT).2⟩
theorem flt_in {i : Nat} {tt : M Bool} {m : M (List D)} {e e1 : EnvD} {S : List Str} (q : Str → Bool) (hi : i < e1.length) (hm : m e = .ok (strL S) e1) (hno : noOwn [i] e1 = true)
    (h : ∀ x ∈ S, tt (e1.set i (.shr (.str x))) = .ok (q x) (e1.set i (.shr (.str x)))) : lcE (.nm i) [i] tt (rdS i) m e = .ok (.list (strL (S.filter q))) e1 := by
  refine Eq.trans (lc1f (fun d => match d with | .str x => q x | _ => false) id hm hno fun d hd => ?_) (by rw [List.map_id, strL_filter S q _ fun _ => rfl])
  obtain ⟨x, hx, rfl⟩ := List.mem_map.mp hd
  exact ⟨h x hx, fun _ => rdS_ok (by rw [List.getElem?_set_self hi]; rfl)⟩

/-! sorted(dict([(x, True) for x in ..])) -/
theorem pairs_str (v : D) (L : List Str) : pairsD (L.map fun x => PyData.tuple [.str x, v]) = some (L.map fun x => (PyData.str x, v)) := by
  induction L with
  | nil => rfl
  | cons x r ih =>
    show (pairD (.tuple [.str x, v])).bind (fun p => (pairsD (r.map fun x => PyData.tuple [.str x, v])).map (p :: ·)) = _
    rw [ih]; rfl
theorem put_str {es : List (D × D)} {ks : List Str} (h : es.map (·.1) = strL ks) (x : Str) (v : D) : (putE es (.str x) v).map (·.1) = strL (if ks.contains x = true then ks else ks ++ [x]) := by
  have ha : (es.any fun e => PyData.eqv e.1 (.str x)) = ks.contains x := by
    rw [← strL_any, ← h, List.any_map]; rfl
  unfold putE
  rw [ha]
  cases c : ks.contains x with
  | true =>
    rw [if_pos rfl, if_pos rfl, ← h, List.map_map]
    apply List.map_congr_left
    intro e _
    show (if PyData.eqv e.1 (.str x) = true then (e.1, v) else e).1 = e.1
    by_cases q : PyData.eqv e.1 (.str x) = true
    · rw [if_pos q]
    · rw [if_neg q]
  | false =>
    rw [if_neg (by decide), if_neg (by decide), List.map_append, h]
    unfold strL
    rw [List.map_append]; rfl
theorem merge_str' (v : D) : ∀ (L : List Str) (es : List (D × D)) (ks : List Str), es.map (·.1) = strL ks → ks.Nodup →
    ∃ ks', ((L.map fun x => (PyData.str x, v)).foldl (fun acc kv => putE acc kv.1 kv.2) es).map (·.1) = strL ks' ∧ ks'.Nodup ∧ (∀ x, x ∈ ks' ↔ x ∈ ks ∨ x ∈ L) ∧ ks'.length ≤ ks.length + L.length
  | [], es, ks, h, hn => ⟨ks, h, hn, fun x => by simp, Nat.le_refl _⟩
  | x :: L, es, ks, h, hn => by
    have hp := put_str h x v
    have hn2 : (if ks.contains x = true then ks else ks ++ [x]).Nodup := by
      by_cases c : ks.contains x = true
      · rw [if_pos c]; exact hn
      · rw [if_neg c]
        refine List.nodup_append.mpr ⟨hn, by simp, fun a ha b hb e => c ?_⟩
        rw [List.mem_singleton.mp hb] at e
        subst e
        simpa using ha
    obtain ⟨ks', g1, g2, g3, g4⟩ := merge_str' v L _ _ hp hn2
    refine ⟨ks', g1, g2, fun y => (g3 y).trans ?_, ?_⟩
    · by_cases c : ks.contains x = true
      · rw [if_pos c, List.mem_cons]
        have hx : x ∈ ks := by simpa using c
        constructor
        · rintro (q | q)
          · exact .inl q
          · exact .inr (.inr q)
        · rintro (q | q | q)
          · exact .inl q
          · exact .inl (q ▸ hx)
          · exact .inr q
      · rw [if_neg c, List.mem_append, List.mem_singleton, List.mem_cons]
        constructor
        · rintro ((q | q) | q)
          · exact .inl q
          · exact .inr (.inl q)
          · exact .inr (.inr q)
        · rintro (q | q | q)
          · exact .inl (.inl q)
          · exact .inl (.inr q)
          · exact .inr q
    · rw [List.length_cons]
      by_cases c : ks.contains x = true
      · rw [if_pos c] at g4; omega
      · rw [if_neg c, List.length_append, List.length_singleton] at g4; omega
theorem once_sd {L : List Str} (v : D) (hl : L.length < 64) (hs : ∀ x ∈ L, PyData.strOk x = true) : ∃ d, dicD [.list (L.map fun x => .tuple [.str x, v])] = some d ∧ sorE [d] = some (.list (strL (onceS L))) := by
  obtain ⟨ks, g1, g2, g3, g4⟩ := merge_str' v L [] [] rfl List.nodup_nil
  refine ⟨.dict (mergeE [] (L.map fun x => (PyData.str x, v))), ?_, ?_⟩
  · show (pairsD (L.map fun x => PyData.tuple [.str x, v])).map (fun es => PyData.dict (mergeE [] es)) = _
    rw [pairs_str]; rfl
  · show (match strsD ((mergeE [] (L.map fun x => (PyData.str x, v))).map (·.1)) with
      | some ks => if (decide (ks.length < 64) && ks.all PyData.strOk) = true then some (PyData.list ((ks.mergeSort leS).map .str)) else none
      | none => sorZ _) = _
    have e : (mergeE [] (L.map fun x => (PyData.str x, v))).map (·.1) = strL ks := g1
    rw [e, strsD_L]
    show (if (decide (ks.length < 64) && ks.all PyData.strOk) = true then some (PyData.list ((ks.mergeSort leS).map .str)) else none) = _
    have hk : ks.all PyData.strOk = true := List.all_eq_true.mpr fun x hx => hs x (by simpa using (g3 x).mp hx)
    rw [if_pos (by rw [hk, decide_eq_true (by simp at g4; omega)]; rfl)]
    have e2 : ks.mergeSort leS = onceS L := onceS_of g2 fun x => (g3 x).trans (by simp)
    rw [e2]; rfl

/-! all states once each, in order -/
theorem allS_nodup (l : List Str) : l.Nodup → (allS l).Nodup := by
  induction l using allS_ind with
  | h0 => intro _; show [([] : List Str)].Nodup; simp
  | h1 l x ih =>
    intro hn
    obtain ⟨n1, n2, n3⟩ := List.nodup_append.mp hn
    have hx : x ∉ l := fun h => n3 x h x (by simp) rfl
    rw [allS_snoc]
    refine List.nodup_append.mpr ⟨ih n1, ?_, fun S hS T hT e => ?_⟩
    · refine List.pairwise_map.mpr ((ih n1).imp fun {a b} hab e => hab (List.append_cancel_right e))
    · obtain ⟨U, _, rfl⟩ := List.mem_map.mp hT
      refine hx ((allS_sub l S hS).subset ?_)
      rw [e]; simp
theorem ordS_nodup {names : List Str} (h : Asc names) : (ordS names).Nodup := (ordS_perm names).nodup_iff.mpr (allS_nodup names h.2)
theorem ordS_len (names : List Str) : (ordS names).length = 2 ^ names.length := (ordS_perm names).length_eq.trans (allS_len names)
theorem ordS_sub {names S : List Str} (h : S ∈ ordS names) : S.Sublist names := allS_sub names S (ordS_mem.mp h)
/-- a state ahead of another: none of the rest is less -/
theorem ahead {S T : List Str} (h : qLe S T = true) (hne : S ≠ T) (xs ys : List D) : PySem.W.dataLt (.tuple (.int T.length :: stD T :: ys)) (.tuple (.int S.length :: stD S :: xs)) = false := by
  have h1 : PySem.W.dataLt (encQ T) (encQ S) = false := by
    have : (!PySem.W.dataLt (encQ T) (encQ S)) = true := h
    simpa using this
  have e0 : PySem.W.alike (.int (T.length : Int)) (.int (S.length : Int)) = true := by rw [PySem.W.alike]
  have eqi : PyData.eqv (.int (T.length : Int)) (.int (S.length : Int)) = ((T.length : Int) == (S.length : Int)) := rfl
  unfold encQ at h1
  rw [lt_tup e0, eqi] at h1 ⊢
  by_cases c : ((T.length : Int) == (S.length : Int)) = true
  · rw [if_pos c] at h1 ⊢
    rw [lt_tup (alike_st T S), eqv_st] at h1 ⊢
    have n : (T == S) = false := beq_eq_false_iff_ne.mpr (Ne.symm hne)
    rw [n, if_neg (by decide)] at h1 ⊢
    exact h1
  · rw [if_neg c] at h1 ⊢
    exact h1
end PV
namespace PV
open PySem PySem.Spec PyProof.Rows
/-! nets: defs that many laws have (printed by gen.py) -/
def q_names_of_1 : Sm :=
 rtn (cal (f_once_each) (consA (lcE (.nm 1) [1] (yesT) (op2 ixD (op2 ixD (rdS 1) (ret (.int 2))) (ret (.int 1))) (seqI (op2 ixD (rdS 0) (ret (.int 1))))) (nilA)))
def d_names_of : Sm := q_names_of_1
def f_names_of : Fn := fnD [false] 2 d_names_of
def q_lets_1 : Sm :=
 setO 2 (lstE (consA (tupE (consA (ret (.int 0)) (consA (tupE (nilA)) (nilA)))) (nilA)))
def q_lets_2 : Sm :=
 setO 3 (dicE [(ret (.int 0), ret (.bool true))])
def q_lets_3 : Sm :=
 setS 4 (ret (.int 0))
def q_lets_5 : Sm :=
 asgS (.tp [.nm 5, .nm 6]) (op2 ixD (rdB 2) (rdS 4))
def q_lets_7 : Sm :=
 rtn (tupE (consA (ret (.str "yes")) (consA (rdS 6) (nilA))))
def q_lets_6 : Sm :=
 ifS (tcm (op2 eqD (rdS 5) (ret (.int 1))))
 (q_lets_7)
 (nxt)
def q_lets_9 : Sm :=
 asgS (.tp [.nm 8, .nm 9, .nm 10]) (op2 ixD (op2 ixD (rdS 0) (ret (.int 1))) (rdS 7))
def q_lets_11 : Sm :=
 setS 11 (ifE (tcm (op2 eqD (rdS 5) (rdS 8))) (rdS 9) (rdS 8))
def q_lets_13 : Sm :=
 putS 3 (rdS 11) (ret (.bool true))
def q_lets_14 : Sm :=
 appS 2 (tupE (consA (rdS 11) (consA (op2 addD (rdS 6) (tupE (consA (rdS 7) (nilA)))) (nilA))))
def q_lets_12 : Sm :=
 ifS (tcm (op2 ninD (rdS 11) (rdB 3)))
 (sq (q_lets_13) (q_lets_14))
 (nxt)
def q_lets_10 : Sm :=
 ifS (andT (tru (cal (f_contact_lets) (consA (rdS 10) (consA (rdS 1) (nilA))))) (tcm (op2 inD (rdS 5) (tupE (consA (rdS 8) (consA (rdS 9) (nilA)))))))
 (sq (q_lets_11) (q_lets_12))
 (nxt)
def q_lets_8 : Sm :=
 frS (.nm 7) [7, 8, 9, 10, 11] (rngI1 (consA (callD lenD (consA (op2 ixD (rdS 0) (ret (.int 1))) (nilA))) (nilA)))
 (sq (q_lets_9) (q_lets_10))
def q_lets_15 : Sm :=
 augN iaddD 4 (ret (.int 1))
def q_lets_4 : Sm :=
 whL (tcm (op2 ltD (rdS 4) (callD lenD (consA (rdB 2) (nilA))))) [5, 6, 7, 8, 9, 10, 11]
 (sq (q_lets_5) (sq (q_lets_6) (sq (q_lets_8) (q_lets_15)))) 1000000
def q_lets_16 : Sm :=
 rtn (tupE (consA (ret (.str "no")) (consA (callD tupD (consA (callD sorE (consA (rdB 3) (nilA))) (nilA))) (nilA))))
def d_lets : Sm := sq (q_lets_1) (sq (q_lets_2) (sq (q_lets_3) (sq (q_lets_4) (q_lets_16))))
def f_lets : Fn := fnD [false, false] 12 d_lets
def q__law_net_1 : Sm :=
 setS 3 (op2 addD (ret (.int 2)) (calH (f__law_next) [some 0, none] (holeA 0 (consA (op2 subD (rdS 1) (ret (.int 1))) (nilA)))))
def q__law_net_2 : Sm :=
 setO 4 (lstE (nilA))
def q__law_net_4 : Sm :=
 setS 6 (calH (f__law_next) [some 0, none] (holeA 0 (consA (rdS 3) (nilA))))
def q__law_net_5 : Sm :=
 setS 7 (op2 modD (callD intD (consA (op2 addD (op2 addD (rdS 6) (ret (.int 1))) (calH (f__law_next) [some 0, none] (holeA 0 (consA (op2 subD (rdS 3) (ret (.int 1))) (nilA))))) (nilA))) (rdS 3))
def q__law_net_6 : Sm :=
 appS 4 (tupE (consA (rdS 6) (consA (rdS 7) (consA (tupE (consA (calH (f__law_pick) [some 0, none] (holeA 0 (consA (lstE (consA (ret (.str "on")) (consA (ret (.str "off")) (nilA)))) (nilA)))) (consA (calH (f__law_pick) [some 0, none] (holeA 0 (consA (lstE (consA (ret (.str "a")) (consA (ret (.str "b")) (consA (ret (.str "c1")) (nilA))))) (nilA)))) (nilA)))) (nilA)))))
def q__law_net_3 : Sm :=
 frS (.nm 5) [5, 6, 7] (rngI1 (consA (calH (f__law_next) [some 0, none] (holeA 0 (consA (op2 addD (rdS 2) (ret (.int 1))) (nilA)))) (nilA)))
 (sq (q__law_net_4) (sq (q__law_net_5) (q__law_net_6)))
def q__law_net_7 : Sm :=
 rtn (tupE (consA (rdS 3) (consA (callD tupD (consA (rdB 4) (nilA))) (nilA))))
def d__law_net : Sm := sq (q__law_net_1) (sq (q__law_net_2) (sq (q__law_net_3) (q__law_net_7)))
def f__law_net : Fn := fnD [true, false, false] 8 d__law_net
def q__law_opens_1 : Sm :=
 rtn (op2 eqD (op2 inD (op2 ixD (rdS 0) (ret (.int 1))) (rdS 1)) (op2 eqD (op2 ixD (rdS 0) (ret (.int 0))) (ret (.str "on"))))
def d__law_opens : Sm := q__law_opens_1
def f__law_opens : Fn := fnD [false, false] 2 d__law_opens
def q__law_met_1 : Sm :=
 par3N true false false 2 3 4 (dicE [(ret (.int 0), ret (.int 0))]) (lstE (consA (ret (.int 0)) (nilA))) (ret (.int 0))
def q__law_met_3 : Sm :=
 par2N true false 5 4 (lstE (nilA)) (op2 addD (rdS 4) (ret (.int 1)))
def q__law_met_8 : Sm :=
 putS 2 (rdS 11) (rdS 4)
def q__law_met_9 : Sm :=
 appS 5 (rdS 11)
def q__law_met_7 : Sm :=
 ifS (andT (tcm (op2 eqD (rdS 10) (rdS 6))) (andT (tcm (op2 ninD (rdS 11) (rdB 2))) (tru (cal (f__law_opens) (consA (rdS 9) (consA (rdS 1) (nilA)))))))
 (sq (q__law_met_8) (q__law_met_9))
 (nxt)
def q__law_met_6 : Sm :=
 frS (.tp [.nm 10, .nm 11]) [10, 11] (seqI (tupE (consA (tupE (consA (rdS 7) (consA (rdS 8) (nilA)))) (consA (tupE (consA (rdS 8) (consA (rdS 7) (nilA)))) (nilA)))))
 (q__law_met_7)
def q__law_met_5 : Sm :=
 frS (.tp [.nm 7, .nm 8, .nm 9]) [7, 8, 9, 10, 11] (seqI (op2 ixD (rdS 0) (ret (.int 1))))
 (q__law_met_6)
def q__law_met_4 : Sm :=
 frS (.nm 6) [6, 7, 8, 9, 10, 11] (seqI (rdS 3))
 (q__law_met_5)
def q__law_met_10 : Sm :=
 setS 3 (rdF 5)
def q__law_met_2 : Sm :=
 whL (tcm (op2 neD (rdS 3) (lstE (nilA)))) [5, 6, 7, 8, 9, 10, 11]
 (sq (q__law_met_3) (sq (q__law_met_4) (q__law_met_10))) 1000000
def q__law_met_11 : Sm :=
 rtO 2
def d__law_met : Sm := sq (q__law_met_1) (sq (q__law_met_2) (q__law_met_11))
def f__law_met : Fn := fnD [false, false] 12 d__law_met
def q__law_net_names_1 : Sm :=
 rtn (callD sorE (consA (callD dicD (consA (lcE (.tp [.nm 1, .nm 2, .nm 3]) [1, 2, 3] (yesT) (tupE (consA (op2 ixD (rdS 3) (ret (.int 1))) (consA (ret (.bool true)) (nilA)))) (seqI (op2 ixD (rdS 0) (ret (.int 1))))) (nilA))) (nilA)))
def d__law_net_names : Sm := q__law_net_names_1
def f__law_net_names : Fn := fnD [false] 4 d__law_net_names
/-! ints in rows and as keys -/
def intL (P : List Int) : List D := P.map PyData.int
theorem intL_nd (P : List Int) : noDicts (intL P) = true := noDicts_map (fun _ => rfl) P
theorem intL_dep (P : List Int) : PyData.depthAll (intL P) = 0 := by
  induction P with
  | nil => rfl
  | cons y r ih => show max 0 (PyData.depthAll (intL r)) = 0; rw [ih]; rfl
theorem intL_any (P : List Int) (x : Int) : ((intL P).any fun z => PyData.eqv z (.int x)) = P.contains x := by
  induction P with
  | nil => rfl
  | cons y r ih =>
    show ((y == x) || (intL r).any _) = _
    rw [ih, List.contains_cons, beq_swap]
theorem inB_intL (P : List Int) (x : Int) : inB (.int x) (.list (intL P)) = some (P.contains x) := by
  have c : (noDict (.int x) && noDicts (intL P) && decide (min (PyData.depthAll (intL P)) (PyData.int x).depth ≤ 60)) = true := by
    rw [intL_nd, intL_dep]; rfl
  show (if _ then some ((intL P).any fun z => PyData.eqv z (.int x)) else none) = _
  rw [if_pos c, intL_any]
theorem inD_intL (P : List Int) (x : Int) : inD (.int x) (.list (intL P)) = some (.bool (P.contains x)) := by unfold inD; rw [inB_intL]; rfl
theorem ninD_intL (P : List Int) (x : Int) : ninD (.int x) (.list (intL P)) = some (.bool (!P.contains x)) := by unfold ninD; rw [inB_intL]; rfl
/-- a dict with whole numbers as keys -/
def Keys (es : List (D × D)) (P : List Int) : Prop := es.map (·.1) = intL P
theorem look_int : ∀ {es : List (D × D)} {P : List Int} (x : Int), Keys es P → (lookD es (.int x)).isSome = P.contains x
  | [], [], x, _ => rfl
  | [], _ :: _, x, h => by cases h
  | _ :: _, [], x, h => by cases h
  | (k, v) :: es, y :: P, x, h => by
    have h1 : k = .int y := (List.cons.inj h).1
    have h2 : Keys es P := (List.cons.inj h).2
    subst h1
    have ih := look_int x h2
    unfold lookD at ih ⊢
    rw [List.find?_cons, List.contains_cons]
    have e : PyData.eqv (.int y) (.int x) = (x == y) := beq_swap y x
    show (Option.map _ (match PyData.eqv (.int y) (.int x) with | true => _ | false => _)).isSome = _
    rw [e]
    cases x == y with
    | true => rfl
    | false => rw [Bool.false_or]; exact ih
theorem inD_keys {es : List (D × D)} {P : List Int} (x : Int) (h : Keys es P) : inD (.int x) (.dict es) = some (.bool (P.contains x)) := by
  unfold inD
  have : inB (.int x) (.dict es) = some (lookD es (.int x)).isSome := rfl
  rw [this, look_int x h]; rfl
theorem ninD_keys {es : List (D × D)} {P : List Int} (x : Int) (h : Keys es P) : ninD (.int x) (.dict es) = some (.bool (!P.contains x)) := by
  unfold ninD
  have : inB (.int x) (.dict es) = some (lookD es (.int x)).isSome := rfl
  rw [this, look_int x h]; rfl
theorem put_key {es : List (D × D)} {P : List Int} {x : Int} (v : D) (h : Keys es P) (hx : P.contains x = false) : Keys (putE es (.int x) v) (P ++ [x]) := by
  have ha : (es.any fun e => PyData.eqv e.1 (.int x)) = P.contains x := by
    rw [← intL_any, ← show es.map (·.1) = intL P from h, List.any_map]; rfl
  unfold putE
  rw [ha, hx, if_neg (by decide)]
  show (es ++ [(PyData.int x, v)]).map (·.1) = intL (P ++ [x])
  rw [List.map_append, show es.map (·.1) = intL P from h]
  unfold intL
  rw [List.map_append]; rfl
theorem keys_len {es : List (D × D)} {P : List Int} (h : Keys es P) : es.length = P.length := by
  have := congrArg List.length (show es.map (·.1) = intL P from h)
  rwa [List.length_map, intL, List.length_map] at this
theorem intsD_L (P : List Int) : intsD (intL P) = some P := by
  induction P with
  | nil => rfl
  | cons y r ih => show (intsD (intL r)).map (y :: ·) = _; rw [ih]; rfl
theorem sorE_keys {es : List (D × D)} {P : List Int} (h : Keys es P) (hl : P.length < 64) (h0 : P ≠ []) : sorE [.dict es] = some (.list (intL (P.mergeSort leZ))) := by
  show (match strsD (es.map (·.1)) with
    | some ks => if (decide (ks.length < 64) && ks.all PyData.strOk) = true then some (PyData.list ((ks.mergeSort leS).map .str)) else none
    | none => sorZ es) = _
  have e1 : strsD (es.map (·.1)) = none := by
    rw [show es.map (·.1) = intL P from h]
    cases P with
    | nil => exact absurd rfl h0
    | cons y r => rfl
  rw [e1]
  show (intsD (es.map (·.1))).bind (fun ks => if decide (ks.length < 64) = true then some (PyData.list ((ks.mergeSort leZ).map .int)) else none) = _
  rw [show es.map (·.1) = intL P from h, intsD_L]
  show (if decide (P.length < 64) = true then some (PyData.list ((P.mergeSort leZ).map .int)) else none) = _
  rw [if_pos (decide_eq_true hl)]; rfl
theorem putS_ok {e : EnvD} {k : Nat} {mi mv : M D} {o o' i v : D} (hv : mv e = .ok v e) (h : e[k]? = some (.own o)) (hi : mi e = .ok i e) (hp : putD o i v = some o') : putS k mi mv e = .nx (e.set k (.own o')) := by
  unfold putS
  rw [thenS_ok hv]
  simp only [h]
  rw [thenS_ok hi]
  simp only [h, hp]
theorem augN_ok {e : EnvD} {i : Nat} {g : D → D → Option D} {m : M D} {a b d : D} (h : e[i]? = some (.shr a)) (hm : m e = .ok b e) (hg : g a b = some d) : augN g i m e = .nx (e.set i (.shr d)) := by
  unfold augN
  rw [h]
  simp only
  rw [thenS_ok hm]
  simp only [hg]

/-! what is come to over open edges -/
abbrev Gr := List (Int × Int × Bool)
inductive Rch (G : Gr) : Int → Prop
  | zero : Rch G 0
  | on {p q a b : Int} : Rch G p → (a, b, true) ∈ G → (p = a ∧ q = b ∨ p = b ∧ q = a) → Rch G q
/-- the edges lead from p only into R -/
def Into (G : Gr) (R : List Int) (p : Int) : Prop := ∀ a b, (a, b, true) ∈ G → (a = p → b ∈ R) ∧ (b = p → a ∈ R)
theorem rch_in {G : Gr} {R : List Int} (h0 : (0 : Int) ∈ R) (hc : ∀ p ∈ R, Into G R p) {p : Int} (h : Rch G p) : p ∈ R := by
  induction h with
  | zero => exact h0
  | on _ he hq ih =>
    obtain ⟨k1, k2⟩ := hc _ ih _ _ he
    rcases hq with ⟨h1, h2⟩ | ⟨h1, h2⟩
    · rw [h2]; exact k1 h1.symm
    · rw [h2]; exact k2 h1.symm
theorem Into.mono {G : Gr} {R R' : List Int} {p : Int} (h : Into G R p) (hs : ∀ x ∈ R, x ∈ R') : Into G R' p := fun a b he => ⟨fun z => hs _ ((h a b he).1 z), fun z => hs _ ((h a b he).2 z)⟩
/-- the points are few -/
def Few (G : Gr) (n : Nat) : Prop := 1 ≤ n ∧ ∀ e ∈ G, (0 ≤ e.1 ∧ e.1 < n) ∧ 0 ≤ e.2.1 ∧ e.2.1 < n
theorem rch_few {G : Gr} {n : Nat} (h : Few G n) {p : Int} (r : Rch G p) : 0 ≤ p ∧ p < n := by
  induction r with
  | zero => have := h.1; omega
  | on _ he hq _ =>
    obtain ⟨k1, k2⟩ := h.2 _ he
    rcases hq with ⟨_, h2⟩ | ⟨_, h2⟩
    · rw [h2]; exact k2
    · rw [h2]; exact k1
theorem few_len {n : Nat} {P : List Int} (hn : P.Nodup) (hP : ∀ p ∈ P, 0 ≤ p ∧ p < n) : P.length ≤ n := by
  have hs : ∀ (S T : List Int), S.Nodup → (∀ x, x ∈ S → x ∈ T) → S.length ≤ T.length := by
    intro S
    induction S with
    | nil => exact fun _ _ _ => Nat.zero_le _
    | cons x r ih =>
      intro T hn hs
      obtain ⟨h1, h2⟩ := List.nodup_cons.mp hn
      have hx : x ∈ T := hs x List.mem_cons_self
      have := ih (T.erase x) h2 fun y hy => (List.mem_erase_of_ne (fun e => by subst e; exact h1 hy)).mpr (hs y (List.mem_cons_of_mem _ hy))
      rw [List.length_erase_of_mem hx] at this
      have hp := List.length_pos_of_mem hx
      rw [List.length_cons]
      omega
  have := hs P ((List.range n).map fun (i : Nat) => (i : Int)) hn fun x hx => by
    obtain ⟨h1, h2⟩ := hP x hx
    exact List.mem_map.mpr ⟨x.toNat, List.mem_range.mpr (by omega), by omega⟩
  rwa [List.length_map, List.length_range] at this
/-- adding one that is not there -/
def addN (P : List Int) (q : Int) : List Int := if P.contains q = true then P else P ++ [q]
theorem addN_nodup {P : List Int} (h : P.Nodup) (q : Int) : (addN P q).Nodup := by
  unfold addN
  by_cases c : P.contains q = true
  · rw [if_pos c]; exact h
  · rw [if_neg c]
    refine List.nodup_append.mpr ⟨h, by simp, fun a ha b hb e => c ?_⟩
    rw [List.mem_singleton.mp hb] at e
    subst e
    simpa using ha
theorem addN_mem {P : List Int} {q x : Int} : x ∈ addN P q ↔ x ∈ P ∨ x = q := by
  unfold addN
  by_cases c : P.contains q = true
  · rw [if_pos c]
    have : q ∈ P := by simpa using c
    exact ⟨.inl, fun z => z.elim id fun e => e ▸ this⟩
  · rw [if_neg c, List.mem_append, List.mem_singleton]
/-! the nets of the law -/
structure Edge where
  a : Int
  b : Int
  on : Bool
  x : Str
def encE (e : Edge) : D := .tuple [.int e.a, .int e.b, .tuple [.str (onS e.on), .str e.x]]
def encN (n : Nat) (es : List Edge) : D := .tuple [.int n, .tuple (es.map encE)]
def opn (m : Str → Bool) (e : Edge) : Bool := m e.x == e.on
def grM (m : Str → Bool) (es : List Edge) : Gr := es.map fun e => (e.a, e.b, opn m e)
structure NetOk (n : Nat) (es : List Edge) : Prop where
  n1 : 1 ≤ n
  n2 : n ≤ 100
  len : es.length ≤ 1000
  pt : ∀ e ∈ es, (0 ≤ e.a ∧ e.a < n) ∧ 0 ≤ e.b ∧ e.b < n
theorem NetOk.few {n : Nat} {es : List Edge} (h : NetOk n es) (m : Str → Bool) : Few (grM m es) n := ⟨h.n1, fun e he => by
  obtain ⟨d, hd, rfl⟩ := List.mem_map.mp he
  exact h.pt d hd⟩
theorem clets_ok {m : Str → Bool} {st : D} (hst : ∀ x, inD (.str x) st = some (.bool (m x))) (b : Bool) (x : Str) : f_contact_lets [.tuple [.str (onS b), .str x], st] = .ok (.bool (m x == b)) [] := by
  have e1 : f_contact_lets [.tuple [.str (onS b), .str x], st] = outF false [] (d_contact_lets [.shr (.tuple [.str (onS b), .str x]), .shr st]) := by unfold f_contact_lets; rw [fnD_ok (by rfl)]; rfl
  rw [e1]
  have e2 : d_contact_lets [.shr (.tuple [.str (onS b), .str x]), .shr st] = .rt (.bool (m x == (onS b == "on"))) [.shr (.tuple [.str (onS b), .str x]), .shr st] :=
    rtn_ok (op2_ok (op2_ok (op2_ok (rdS_ok rfl) rfl (ev_atI1 ..)) (rdS_ok rfl) (hst x)) (op2_ok (op2_ok (rdS_ok rfl) rfl (ev_atI0 ..)) rfl rfl) rfl)
  rw [e2]
  cases b <;> rfl
theorem opens_ok {m : Str → Bool} {st : D} (hst : ∀ x, inD (.str x) st = some (.bool (m x))) (b : Bool) (x : Str) : f__law_opens [.tuple [.str (onS b), .str x], st] = .ok (.bool (m x == b)) [] := by
  have e1 : f__law_opens [.tuple [.str (onS b), .str x], st] = outF false [] (d__law_opens [.shr (.tuple [.str (onS b), .str x]), .shr st]) := by unfold f__law_opens; rw [fnD_ok (by rfl)]; rfl
  rw [e1]
  have e2 : d__law_opens [.shr (.tuple [.str (onS b), .str x]), .shr st] = .rt (.bool (m x == (onS b == "on"))) [.shr (.tuple [.str (onS b), .str x]), .shr st] :=
    rtn_ok (op2_ok (op2_ok (op2_ok (rdS_ok rfl) rfl (ev_atI1 ..)) (rdS_ok rfl) (hst x)) (op2_ok (op2_ok (rdS_ok rfl) rfl (ev_atI0 ..)) rfl rfl) rfl)
  rw [e2]
  cases b <;> rfl
end PV
namespace PV
open PySem PySem.Spec PyProof.Rows

theorem net_1 (n : Nat) (es : List Edge) : ixD (encN n es) (.int 1) = some (.tuple (es.map encE)) := ev_atI1 ..
theorem net_0 (n : Nat) (es : List Edge) : ixD (encN n es) (.int 0) = some (.int n) := ev_atI0 ..
theorem net_len (es : List Edge) : lenD [.tuple (es.map encE)] = some (.int es.length) := by
  show some (PyData.int (((es.map encE).length : Nat) : Int)) = _
  rw [List.length_map]
theorem net_at {es : List Edge} {i : Nat} {e : Edge} (h : es[i]? = some e) : ixD (.tuple (es.map encE)) (.int (0 + i)) = some (encE e) := by
  show L2.atI (es.map encE) (0 + (i : Int)) = _
  rw [Int.zero_add]
  exact L2.atI_nat (by rw [List.getElem?_map, h]; rfl)
/-! lets: the walk of the program -/
def encW (r : Int × List D) : D := .tuple [.int r.1, .tuple r.2]
structure LI (G : Gr) (n : Nat) (R : List (Int × List D)) (met : List (D × D)) : Prop where
  keys : Keys met (R.map (·.1))
  nd : (R.map (·.1)).Nodup
  rch : ∀ p ∈ R.map (·.1), Rch G p
  zero : (0 : Int) ∈ R.map (·.1)
  way : ∀ r ∈ R, r.2.length ≤ R.length
theorem LI.len {G : Gr} {n : Nat} {R : List (Int × List D)} {met : List (D × D)} (h : LI G n R met) (f : Few G n) : R.length ≤ n := by
  have := few_len h.nd fun p hp => rch_few f (h.rch p hp)
  rwa [List.length_map] at this
theorem in_two (p a b : Int) : inD (.int p) (.tuple [.int a, .int b]) = some (.bool (a == p || (b == p || false))) := rfl
section
variable {m : Str → Bool} {st : D} {n : Nat} {es : List Edge}
theorem lets_in (hst : ∀ x, inD (.str x) st = some (.bool (m x))) (hN : NetOk n es) {R : List (Int × List D)} {met : List (D × D)} (h : LI (grM m es) n R met) {p : Int} {ws : List D} {at' : Nat} (hp : p ∈ R.map (·.1)) (hw : ws.length ≤ R.length) :
    ∃ R' met', q_lets_8 [.shr (encN n es), .shr st, .own (.list (R.map encW)), .own (.dict met), .shr (.int at'), .shr (.int p), .shr (.tuple ws), .emp, .emp, .emp, .emp, .emp] = .nx [.shr (encN n es), .shr st, .own (.list (R'.map encW)), .own (.dict met'), .shr (.int at'), .shr (.int p), .shr (.tuple ws), .emp, .emp, .emp, .emp, .emp] ∧
      (∃ N, R' = R ++ N) ∧ LI (grM m es) n R' met' ∧ Into (grM m es) (R'.map (·.1)) p := by
  have hf := hN.few m
  have key : ∃ e2, q_lets_8 [.shr (encN n es), .shr st, .own (.list (R.map encW)), .own (.dict met), .shr (.int at'), .shr (.int p), .shr (.tuple ws), .emp, .emp, .emp, .emp, .emp] = .nx (wip [7, 8, 9, 10, 11] e2) ∧
      ∃ R' met' c7 c8 c9 c10 c11, e2 = [.shr (encN n es), .shr st, .own (.list (R'.map encW)), .own (.dict met'), .shr (.int at'), .shr (.int p), .shr (.tuple ws), c7, c8, c9, c10, c11] ∧ (∃ N, R' = R ++ N) ∧ LI (grM m es) n R' met' ∧
        ∀ (j : Nat) (e : Edge), j < (rngD 0 es.length).length → es[j]? = some e → opn m e = true → (e.a = p → e.b ∈ R'.map (·.1)) ∧ (e.b = p → e.a ∈ R'.map (·.1)) := by
    refine frS_nx (t := .nm 7) (dead := [7, 8, 9, 10, 11]) (m := rngI1 (consA (callD lenD (consA (op2 ixD (rdS 0) (ret (.int 1))) (nilA))) (nilA))) (ds := rngD 0 es.length) (fun i e2 => ∃ R' met' c7 c8 c9 c10 c11, e2 = [.shr (encN n es), .shr st, .own (.list (R'.map encW)), .own (.dict met'), .shr (.int at'), .shr (.int p), .shr (.tuple ws), c7, c8, c9, c10, c11] ∧ (∃ N, R' = R ++ N) ∧ LI (grM m es) n R' met' ∧
        ∀ (j : Nat) (e : Edge), j < i → es[j]? = some e → opn m e = true → (e.a = p → e.b ∈ R'.map (·.1)) ∧ (e.b = p → e.a ∈ R'.map (·.1)))
      (e1 := [.shr (encN n es), .shr st, .own (.list (R.map encW)), .own (.dict met), .shr (.int at'), .shr (.int p), .shr (.tuple ws), .emp, .emp, .emp, .emp, .emp]) (rngI1_ok (consA_ok (callD_ok (consA_ok (op2_ok (rdS_ok rfl) rfl (net_1 n es)) nilA_ok) (net_len es)) nilA_ok) (by omega) (by have := hN.len; omega))
      ⟨R, met, _, _, _, _, _, rfl, ⟨[], (List.append_nil R).symm⟩, h, fun j e hj => absurd hj (Nat.not_lt_zero j)⟩ fun i d e hd hI => ?_
    obtain ⟨R', met', c7, c8, c9, c10, c11, rfl, ⟨N, hRN⟩, hL, hdone⟩ := hI
    obtain ⟨rfl, hi⟩ := rngD_at hd
    have hi' : i < es.length := by omega
    have hei : es[i]? = some es[i] := List.getElem?_eq_getElem hi'
    generalize es[i] = e at hei
    have hmem : (e.a, e.b, opn m e) ∈ grM m es := List.mem_map.mpr ⟨e, List.mem_of_getElem? hei, rfl⟩
    have hpR : p ∈ R'.map (·.1) := by rw [hRN, List.map_append]; exact List.mem_append_left _ hp
    have hRl := hL.len hf
    have hn2 := hN.n2
    have hwl : ws.length ≤ R'.length := by rw [hRN, List.length_append]; omega
    have s9 : q_lets_9 [.shr (encN n es), .shr st, .own (.list (R'.map encW)), .own (.dict met'), .shr (.int at'), .shr (.int p), .shr (.tuple ws), .shr (.int (0 + i)), .emp, .emp, .emp, .emp] = .nx [.shr (encN n es), .shr st, .own (.list (R'.map encW)), .own (.dict met'), .shr (.int at'), .shr (.int p), .shr (.tuple ws), .shr (.int (0 + i)), .shr (.int e.a), .shr (.int e.b), .shr (.tuple [.str (onS e.on), .str e.x]), .emp] := by
      exact asgS_ok (d := encE e) (op2_ok (op2_ok (rdS_ok rfl) rfl (net_1 n es)) (rdS_ok rfl) (net_at hei)) rfl
    have ct : ∀ c, tru (cal (f_contact_lets) (consA (rdS 10) (consA (rdS 1) (nilA)))) [.shr (encN n es), .shr st, .own (.list (R'.map encW)), .own (.dict met'), .shr (.int at'), .shr (.int p), .shr (.tuple ws), .shr (.int (0 + i)), .shr (.int e.a), .shr (.int e.b), .shr (.tuple [.str (onS e.on), .str e.x]), c] = .ok (opn m e) [.shr (encN n es), .shr st, .own (.list (R'.map encW)), .own (.dict met'), .shr (.int at'), .shr (.int p), .shr (.tuple ws), .shr (.int (0 + i)), .shr (.int e.a), .shr (.int e.b), .shr (.tuple [.str (onS e.on), .str e.x]), c] := fun c =>
      tru_ok (cal_ok (consA_ok (rdS_ok rfl) (consA_ok (rdS_ok rfl) nilA_ok)) (clets_ok hst e.on e.x)) rfl
    have ct2 : tcm (op2 inD (rdS 5) (tupE (consA (rdS 8) (consA (rdS 9) (nilA))))) [.shr (encN n es), .shr st, .own (.list (R'.map encW)), .own (.dict met'), .shr (.int at'), .shr (.int p), .shr (.tuple ws), .shr (.int (0 + i)), .shr (.int e.a), .shr (.int e.b), .shr (.tuple [.str (onS e.on), .str e.x]), .emp] = .ok (e.a == p || (e.b == p || false)) [.shr (encN n es), .shr st, .own (.list (R'.map encW)), .own (.dict met'), .shr (.int at'), .shr (.int p), .shr (.tuple ws), .shr (.int (0 + i)), .shr (.int e.a), .shr (.int e.b), .shr (.tuple [.str (onS e.on), .str e.x]), .emp] :=
      tcm_ok (op2_ok (rdS_ok rfl) (tupE_ok (consA_ok (rdS_ok rfl) (consA_ok (rdS_ok rfl) nilA_ok)) (by show 2 ≤ sizeLine; decide)) (in_two _ _ _))
    have old : ∀ (R'' : List (Int × List D)), (∀ x, x ∈ R'.map (·.1) → x ∈ R''.map (·.1)) → (opn m e = true → (e.a = p → e.b ∈ R''.map (·.1)) ∧ (e.b = p → e.a ∈ R''.map (·.1))) →
        ∀ (j : Nat) (e' : Edge), j < i + 1 → es[j]? = some e' → opn m e' = true → (e'.a = p → e'.b ∈ R''.map (·.1)) ∧ (e'.b = p → e'.a ∈ R''.map (·.1)) := fun R'' hs hnew j e' hj hje ho => by
      rcases Nat.lt_succ_iff_lt_or_eq.mp hj with q | q
      · obtain ⟨k1, k2⟩ := hdone j e' q hje ho
        exact ⟨fun z => hs _ (k1 z), fun z => hs _ (k2 z)⟩
      · subst q
        rw [hei] at hje
        cases hje
        exact hnew ho
    refine ⟨[.shr (encN n es), .shr st, .own (.list (R'.map encW)), .own (.dict met'), .shr (.int at'), .shr (.int p), .shr (.tuple ws), .shr (.int (0 + i)), .emp, .emp, .emp, .emp], ?_⟩
    cases ho : opn m e with
    | false =>
      rw [ho] at ct
      exact ⟨_, rfl, Eq.trans (sq_nx s9) (Eq.trans (ifS_f (andT_f (ct _))) rfl), R', met', _, _, _, _, _, rfl, ⟨N, hRN⟩, hL, old R' (fun x z => z) fun z => by rw [ho] at z; cases z⟩
    | true =>
      rw [ho] at ct hmem
      cases hab : (e.a == p || (e.b == p || false)) with
      | false =>
        rw [hab] at ct2
        have hne : e.a ≠ p ∧ e.b ≠ p := by simpa using hab
        exact ⟨_, rfl, Eq.trans (sq_nx s9) (Eq.trans (ifS_f (Eq.trans (andT_t (ct _)) ct2)) rfl), R', met', _, _, _, _, _, rfl, ⟨N, hRN⟩, hL, old R' (fun x z => z) fun _ => ⟨fun z => absurd z hne.1, fun z => absurd z hne.2⟩⟩
      | true =>
        rw [hab] at ct2
        -- the other end
        obtain ⟨q, hq1, hq2⟩ : ∃ q, (if (p == e.a) = true then e.b else e.a) = q ∧ ((p = e.a ∧ q = e.b) ∨ (p = e.b ∧ q = e.a)) := by
          by_cases c : (p == e.a) = true
          · exact ⟨e.b, by rw [if_pos c], .inl ⟨eq_of_beq c, rfl⟩⟩
          · refine ⟨e.a, by rw [if_neg c], .inr ⟨?_, rfl⟩⟩
            have c1 : ¬ p = e.a := fun z => c (by rw [z]; exact beq_self_eq_true _)
            have c2 : e.a = p ∨ e.b = p := by simpa using hab
            rcases c2 with z | z
            · exact absurd z.symm c1
            · exact z.symm
        have s11 : q_lets_11 [.shr (encN n es), .shr st, .own (.list (R'.map encW)), .own (.dict met'), .shr (.int at'), .shr (.int p), .shr (.tuple ws), .shr (.int (0 + i)), .shr (.int e.a), .shr (.int e.b), .shr (.tuple [.str (onS e.on), .str e.x]), .emp] = .nx [.shr (encN n es), .shr st, .own (.list (R'.map encW)), .own (.dict met'), .shr (.int at'), .shr (.int p), .shr (.tuple ws), .shr (.int (0 + i)), .shr (.int e.a), .shr (.int e.b), .shr (.tuple [.str (onS e.on), .str e.x]), .shr (.int q)] := by
          rw [← hq1]
          have c : tcm (op2 eqD (rdS 5) (rdS 8)) [.shr (encN n es), .shr st, .own (.list (R'.map encW)), .own (.dict met'), .shr (.int at'), .shr (.int p), .shr (.tuple ws), .shr (.int (0 + i)), .shr (.int e.a), .shr (.int e.b), .shr (.tuple [.str (onS e.on), .str e.x]), .emp] = .ok (p == e.a) [.shr (encN n es), .shr st, .own (.list (R'.map encW)), .own (.dict met'), .shr (.int at'), .shr (.int p), .shr (.tuple ws), .shr (.int (0 + i)), .shr (.int e.a), .shr (.int e.b), .shr (.tuple [.str (onS e.on), .str e.x]), .emp] := rfl
          by_cases z : (p == e.a) = true
          · rw [z] at c
            rw [if_pos z]
            exact setS_ok (Eq.trans (ifE_t c) (rdS_ok rfl))
          · have z' : (p == e.a) = false := by simpa using z
            rw [z'] at c
            rw [if_neg z]
            exact setS_ok (Eq.trans (ifE_f c) (rdS_ok rfl))
        have rq : Rch (grM m es) q := .on (hL.rch p hpR) hmem hq2
        have c12 : tcm (op2 ninD (rdS 11) (rdB 3)) [.shr (encN n es), .shr st, .own (.list (R'.map encW)), .own (.dict met'), .shr (.int at'), .shr (.int p), .shr (.tuple ws), .shr (.int (0 + i)), .shr (.int e.a), .shr (.int e.b), .shr (.tuple [.str (onS e.on), .str e.x]), .shr (.int q)] = .ok (!(R'.map (·.1)).contains q) [.shr (encN n es), .shr st, .own (.list (R'.map encW)), .own (.dict met'), .shr (.int at'), .shr (.int p), .shr (.tuple ws), .shr (.int (0 + i)), .shr (.int e.a), .shr (.int e.b), .shr (.tuple [.str (onS e.on), .str e.x]), .shr (.int q)] :=
          tcm_ok (op2_ok (rdS_ok rfl) (rdB_ok rfl) (ninD_keys q hL.keys))
        have new : ∀ (R'' : List (Int × List D)), q ∈ R''.map (·.1) → (∀ x, x ∈ R'.map (·.1) → x ∈ R''.map (·.1)) → (e.a = p → e.b ∈ R''.map (·.1)) ∧ (e.b = p → e.a ∈ R''.map (·.1)) := fun R'' hq hs => by
          rcases hq2 with ⟨z1, z2⟩ | ⟨z1, z2⟩
          · refine ⟨fun _ => by rw [← z2]; exact hq, fun z => ?_⟩
            rw [← z1]; exact hs _ hpR
          · refine ⟨fun z => ?_, fun _ => by rw [← z2]; exact hq⟩
            rw [← z1]; exact hs _ hpR
        cases hcq : (R'.map (·.1)).contains q with
        | true =>
          rw [hcq] at c12
          have hqm : q ∈ R'.map (·.1) := by simpa using hcq
          exact ⟨_, rfl, Eq.trans (sq_nx s9) (Eq.trans (ifS_t (Eq.trans (andT_t (ct _)) ct2)) (Eq.trans (sq_nx s11) (Eq.trans (ifS_f c12) rfl))), R', met', _, _, _, _, _, rfl, ⟨N, hRN⟩, hL, old R' (fun x z => z) fun _ => new R' hqm fun x z => z⟩
        | false =>
          rw [hcq] at c12
          have s13 : q_lets_13 [.shr (encN n es), .shr st, .own (.list (R'.map encW)), .own (.dict met'), .shr (.int at'), .shr (.int p), .shr (.tuple ws), .shr (.int (0 + i)), .shr (.int e.a), .shr (.int e.b), .shr (.tuple [.str (onS e.on), .str e.x]), .shr (.int q)] = .nx [.shr (encN n es), .shr st, .own (.list (R'.map encW)), .own (.dict (putE met' (.int q) (.bool true))), .shr (.int at'), .shr (.int p), .shr (.tuple ws), .shr (.int (0 + i)), .shr (.int e.a), .shr (.int e.b), .shr (.tuple [.str (onS e.on), .str e.x]), .shr (.int q)] :=
            putS_ok (v := .bool true) (i := .int q) rfl rfl (rdS_ok rfl) (by
              have hkl := keys_len hL.keys
              rw [List.length_map] at hkl
              show (if (isKey (.int q) && decide (met'.length < sizeLine)) = true then some (PyData.dict (putE met' (.int q) (.bool true))) else none) = _
              rw [if_pos (by rw [decide_eq_true (by unfold sizeLine; omega)]; rfl)])
          have s14 : q_lets_14 [.shr (encN n es), .shr st, .own (.list (R'.map encW)), .own (.dict (putE met' (.int q) (.bool true))), .shr (.int at'), .shr (.int p), .shr (.tuple ws), .shr (.int (0 + i)), .shr (.int e.a), .shr (.int e.b), .shr (.tuple [.str (onS e.on), .str e.x]), .shr (.int q)] = .nx [.shr (encN n es), .shr st, .own (.list ((R' ++ [(q, ws ++ [PyData.int (0 + i)])]).map encW)), .own (.dict (putE met' (.int q) (.bool true))), .shr (.int at'), .shr (.int p), .shr (.tuple ws), .shr (.int (0 + i)), .shr (.int e.a), .shr (.int e.b), .shr (.tuple [.str (onS e.on), .str e.x]), .shr (.int q)] := by
            refine Eq.trans (appS_ok (v := encW (q, ws ++ [PyData.int (0 + i)])) rfl (tupE_ok (consA_ok (rdS_ok rfl) (consA_ok (op2_ok (rdS_ok rfl) (tupE_ok (consA_ok (rdS_ok rfl) nilA_ok) (by show 1 ≤ sizeLine; decide)) (z := .tuple (ws ++ [PyData.int (0 + i)])) ?_) nilA_ok)) (by show 2 ≤ sizeLine; decide)) ?_) ?_
            · show (if _ then some _ else none) = _
              rw [if_pos (by show ws.length + 1 ≤ sizeLine; unfold sizeLine; omega)]
            · rw [List.length_map]; unfold sizeLine; omega
            · rw [List.map_append]; rfl
          have hmap : (R' ++ [(q, ws ++ [PyData.int (0 + i)])]).map (·.1) = R'.map (·.1) ++ [q] := by rw [List.map_append]; rfl
          have hL2 : LI (grM m es) n (R' ++ [(q, ws ++ [PyData.int (0 + i)])]) (putE met' (.int q) (.bool true)) := {
            keys := by rw [hmap]; exact put_key _ hL.keys hcq
            nd := by
              rw [hmap]
              refine List.nodup_append.mpr ⟨hL.nd, by simp, fun a ha b hb e => ?_⟩
              rw [List.mem_singleton.mp hb] at e
              subst e
              have : (R'.map (·.1)).contains a = true := by simpa using ha
              rw [hcq] at this; cases this
            rch := fun x hx => by
              rw [hmap] at hx
              rcases List.mem_append.mp hx with z | z
              · exact hL.rch x z
              · rw [List.mem_singleton.mp z]; exact rq
            zero := by rw [hmap]; exact List.mem_append_left _ hL.zero
            way := fun r hr => by
              rw [List.length_append, List.length_singleton]
              rcases List.mem_append.mp hr with z | z
              · have := hL.way r z
                omega
              · rw [List.mem_singleton.mp z]
                show (ws ++ [_]).length ≤ _
                rw [List.length_append, List.length_singleton]
                omega }
          exact ⟨_, rfl, Eq.trans (sq_nx s9) (Eq.trans (ifS_t (Eq.trans (andT_t (ct _)) ct2)) (Eq.trans (sq_nx s11) (Eq.trans (ifS_t c12) (Eq.trans (sq_nx s13) s14)))), _, _, _, _, _, _, _, rfl, ⟨N ++ [(q, ws ++ [PyData.int (0 + i)])], by rw [hRN, List.append_assoc]⟩, hL2, old _ (fun x z => by rw [hmap]; exact List.mem_append_left _ z) fun _ => new _ (by rw [hmap]; simp) fun x z => by rw [hmap]; exact List.mem_append_left _ z⟩
  obtain ⟨e2, s8, R', met', c7, c8, c9, c10, c11, rfl, hRN, hL, hdone⟩ := key
  refine ⟨R', met', s8, hRN, hL, fun a b he => ?_⟩
  obtain ⟨e, hm, hab⟩ := List.mem_map.mp he
  have h1 : e.a = a := congrArg Prod.fst hab
  have h2 : e.b = b := congrArg (fun z => z.2.1) hab
  have h3 : opn m e = true := congrArg (fun z => z.2.2) hab
  obtain ⟨j, hj⟩ := List.getElem?_of_mem hm
  have hjl : j < (rngD 0 es.length).length := by
    rw [rngD_len]
    have := lt_of_some hj
    omega
  have := hdone j e hjl hj h3
  rw [h1, h2] at this
  exact this
end
end PV
namespace PV
open PySem PySem.Spec PyProof.Rows
section
variable {m : Str → Bool} {st : D} {n : Nat} {es : List Edge}
theorem rows_at {R : List (Int × List D)} {i : Nat} {r : Int × List D} (h : R[i]? = some r) : ixD (.list (R.map encW)) (.int i) = some (encW r) := by
  show L2.atI (R.map encW) (i : Int) = _
  exact L2.atI_nat (by rw [List.getElem?_map, h]; rfl)
theorem lets_out (hst : ∀ x, inD (.str x) st = some (.bool (m x))) (hN : NetOk n es) : ∀ (d i : Nat) (R : List (Int × List D)) (met : List (D × D)), i + d = n + 1 → i ≤ R.length → LI (grM m es) n R met →
    (∀ j r, j < i → R[j]? = some r → r.1 ≠ 1 ∧ Into (grM m es) (R.map (·.1)) r.1) → ∀ F, d < F → ∀ c5 c6 c7 c8 c9 c10 c11 : PV.Cell,
    (∃ x e', whL (tcm (op2 ltD (rdS 4) (callD lenD (consA (rdB 2) (nilA))))) [5, 6, 7, 8, 9, 10, 11] (sq (q_lets_5) (sq (q_lets_6) (sq (q_lets_8) (q_lets_15)))) F [.shr (encN n es), .shr st, .own (.list (R.map encW)), .own (.dict met), .shr (.int i), c5, c6, c7, c8, c9, c10, c11] = .rt (.tuple [.str "yes", x]) e' ∧ Rch (grM m es) 1) ∨
    (∃ R' met' a', whL (tcm (op2 ltD (rdS 4) (callD lenD (consA (rdB 2) (nilA))))) [5, 6, 7, 8, 9, 10, 11] (sq (q_lets_5) (sq (q_lets_6) (sq (q_lets_8) (q_lets_15)))) F [.shr (encN n es), .shr st, .own (.list (R.map encW)), .own (.dict met), .shr (.int i), c5, c6, c7, c8, c9, c10, c11] = .nx [.shr (encN n es), .shr st, .own (.list (R'.map encW)), .own (.dict met'), .shr a', .emp, .emp, .emp, .emp, .emp, .emp, .emp] ∧ LI (grM m es) n R' met' ∧ ¬ Rch (grM m es) 1) := by
  intro d
  induction d with
  | zero =>
    intro i R met hd hi hL
    have := hL.len (hN.few m)
    omega
  | succ d ih =>
    intro i R met hd hi hL hdone F hF c5 c6 c7 c8 c9 c10 c11
    obtain ⟨F, rfl⟩ : ∃ F', F = F' + 1 := ⟨F - 1, by omega⟩
    have ht : tcm (op2 ltD (rdS 4) (callD lenD (consA (rdB 2) (nilA)))) [.shr (encN n es), .shr st, .own (.list (R.map encW)), .own (.dict met), .shr (.int i), .emp, .emp, .emp, .emp, .emp, .emp, .emp] = .ok (decide ((i : Int) < R.length)) [.shr (encN n es), .shr st, .own (.list (R.map encW)), .own (.dict met), .shr (.int i), .emp, .emp, .emp, .emp, .emp, .emp, .emp] := by
      refine tcm_ok (op2_ok (rdS_ok rfl) (callD_ok (z := .int R.length) (consA_ok (rdB_ok rfl) nilA_ok) ?_) rfl)
      show some (PyData.int (((R.map encW).length : Nat) : Int)) = _
      rw [List.length_map]
    by_cases c : i < R.length
    · rw [decide_eq_true (by omega)] at ht
      obtain ⟨⟨p, ws⟩, hr⟩ : ∃ r, R[i]? = some r := ⟨R[i], List.getElem?_eq_getElem c⟩
      have hrm : (p, ws) ∈ R := List.mem_of_getElem? hr
      have hp : p ∈ R.map (·.1) := List.mem_map.mpr ⟨_, hrm, rfl⟩
      have s5 : q_lets_5 [.shr (encN n es), .shr st, .own (.list (R.map encW)), .own (.dict met), .shr (.int i), .emp, .emp, .emp, .emp, .emp, .emp, .emp] = .nx [.shr (encN n es), .shr st, .own (.list (R.map encW)), .own (.dict met), .shr (.int i), .shr (.int p), .shr (.tuple ws), .emp, .emp, .emp, .emp, .emp] :=
        asgS_ok (d := encW (p, ws)) (op2_ok (rdB_ok rfl) (rdS_ok rfl) (rows_at hr)) rfl
      have t6 : tcm (op2 eqD (rdS 5) (ret (.int 1))) [.shr (encN n es), .shr st, .own (.list (R.map encW)), .own (.dict met), .shr (.int i), .shr (.int p), .shr (.tuple ws), .emp, .emp, .emp, .emp, .emp] = .ok (p == 1) [.shr (encN n es), .shr st, .own (.list (R.map encW)), .own (.dict met), .shr (.int i), .shr (.int p), .shr (.tuple ws), .emp, .emp, .emp, .emp, .emp] := rfl
      by_cases c1 : p = 1
      · subst c1
        refine .inl ⟨.tuple ws, _, whL_rt (e1 := [.shr (encN n es), .shr st, .own (.list (R.map encW)), .own (.dict met), .shr (.int i), .emp, .emp, .emp, .emp, .emp, .emp, .emp]) ht (Eq.trans (sq_nx s5) (sq_rt (Eq.trans (ifS_t t6) (rtn_ok (tupE_ok (consA_ok rfl (consA_ok (rdS_ok rfl) nilA_ok)) (by show 2 ≤ sizeLine; decide)))))), hL.rch 1 hp⟩
      · rw [show (p == 1) = false from beq_eq_false_iff_ne.mpr c1] at t6
        obtain ⟨R', met', s8, ⟨N, hRN⟩, hL', hI⟩ := lets_in hst hN hL (at' := i) hp (hL.way _ hrm)
        have s15 : q_lets_15 [.shr (encN n es), .shr st, .own (.list (R'.map encW)), .own (.dict met'), .shr (.int i), .shr (.int p), .shr (.tuple ws), .emp, .emp, .emp, .emp, .emp] = .nx [.shr (encN n es), .shr st, .own (.list (R'.map encW)), .own (.dict met'), .shr (.int ((i + 1 : Nat) : Int)), .shr (.int p), .shr (.tuple ws), .emp, .emp, .emp, .emp, .emp] :=
          augN_ok (d := .int ((i + 1 : Nat) : Int)) rfl rfl rfl
        have hb : sq (q_lets_5) (sq (q_lets_6) (sq (q_lets_8) (q_lets_15))) [.shr (encN n es), .shr st, .own (.list (R.map encW)), .own (.dict met), .shr (.int i), .emp, .emp, .emp, .emp, .emp, .emp, .emp] = .nx [.shr (encN n es), .shr st, .own (.list (R'.map encW)), .own (.dict met'), .shr (.int ((i + 1 : Nat) : Int)), .shr (.int p), .shr (.tuple ws), .emp, .emp, .emp, .emp, .emp] :=
          Eq.trans (sq_nx s5) (Eq.trans (sq_nx (show q_lets_6 _ = .nx _ from Eq.trans (ifS_f t6) rfl)) (Eq.trans (sq_nx s8) s15))
        have hsub : ∀ x, x ∈ R.map (·.1) → x ∈ R'.map (·.1) := fun x hx => by rw [hRN, List.map_append]; exact List.mem_append_left _ hx
        have hget : ∀ j, j < R.length → R'[j]? = R[j]? := fun j hj => by rw [hRN, List.getElem?_append_left hj]
        have := ih (i + 1) R' met' (by omega) (by rw [hRN, List.length_append]; omega) hL' (fun j r hj hr' => by
          rw [hget j (by omega)] at hr'
          rcases Nat.lt_succ_iff_lt_or_eq.mp hj with q | q
          · obtain ⟨k1, k2⟩ := hdone j r q hr'
            exact ⟨k1, k2.mono hsub⟩
          · subst q
            rw [hr] at hr'
            cases hr'
            exact ⟨c1, hI⟩) F (by omega) (.shr (.int p)) (.shr (.tuple ws)) .emp .emp .emp .emp .emp
        rcases this with ⟨x, e', k1, k2⟩ | ⟨R2, met2, a2, k1, k2⟩
        · exact .inl ⟨x, e', (whL_nx (e1 := [.shr (encN n es), .shr st, .own (.list (R.map encW)), .own (.dict met), .shr (.int i), .emp, .emp, .emp, .emp, .emp, .emp, .emp]) ht hb).trans k1, k2⟩
        · exact .inr ⟨R2, met2, a2, (whL_nx (e1 := [.shr (encN n es), .shr st, .own (.list (R.map encW)), .own (.dict met), .shr (.int i), .emp, .emp, .emp, .emp, .emp, .emp, .emp]) ht hb).trans k1, k2⟩
    · rw [decide_eq_false (by omega)] at ht
      refine .inr ⟨R, met, .int i, whL_end (e1 := [.shr (encN n es), .shr st, .own (.list (R.map encW)), .own (.dict met), .shr (.int i), .emp, .emp, .emp, .emp, .emp, .emp, .emp]) ht, hL, fun hr => ?_⟩
      have all : ∀ p ∈ R.map (·.1), p ≠ 1 ∧ Into (grM m es) (R.map (·.1)) p := fun p hp => by
        obtain ⟨r, hm, rfl⟩ := List.mem_map.mp hp
        obtain ⟨j, hj⟩ := List.getElem?_of_mem hm
        have := lt_of_some hj
        exact hdone j r (by omega) hj
      have h1 := rch_in hL.zero (fun p hp => (all p hp).2) hr
      exact (all 1 h1).1 rfl
theorem lets_ok (hst : ∀ x, inD (.str x) st = some (.bool (m x))) (hN : NetOk n es) (hn : n ≤ 60) : ∃ (k : Bool) (x : D), f_lets [encN n es, st] = .ok (.tuple [.str (if k = true then "yes" else "no"), x]) [] ∧ (k = true ↔ Rch (grM m es) 1) := by
  have e1 : f_lets [encN n es, st] = outF false [] (d_lets [.shr (encN n es), .shr st, .emp, .emp, .emp, .emp, .emp, .emp, .emp, .emp, .emp, .emp]) := by unfold f_lets; rw [fnD_ok (by rfl)]; rfl
  have h0 : LI (grM m es) n [(0, [])] [(.int 0, .bool true)] := {
    keys := rfl
    nd := by simp
    rch := fun p hp => by rw [List.mem_singleton.mp hp]; exact .zero
    zero := by simp
    way := fun r hr => by rw [List.mem_singleton.mp hr]; exact Nat.zero_le _ }
  have s1 : q_lets_1 [.shr (encN n es), .shr st, .emp, .emp, .emp, .emp, .emp, .emp, .emp, .emp, .emp, .emp] = .nx [.shr (encN n es), .shr st, .own (.list ([((0 : Int), ([] : List D))].map encW)), .emp, .emp, .emp, .emp, .emp, .emp, .emp, .emp, .emp] := rfl
  have s2 : q_lets_2 [.shr (encN n es), .shr st, .own (.list ([((0 : Int), ([] : List D))].map encW)), .emp, .emp, .emp, .emp, .emp, .emp, .emp, .emp, .emp] = .nx [.shr (encN n es), .shr st, .own (.list ([((0 : Int), ([] : List D))].map encW)), .own (.dict [(.int 0, .bool true)]), .emp, .emp, .emp, .emp, .emp, .emp, .emp, .emp] := rfl
  have s3 : q_lets_3 [.shr (encN n es), .shr st, .own (.list ([((0 : Int), ([] : List D))].map encW)), .own (.dict [(.int 0, .bool true)]), .emp, .emp, .emp, .emp, .emp, .emp, .emp, .emp] = .nx [.shr (encN n es), .shr st, .own (.list ([((0 : Int), ([] : List D))].map encW)), .own (.dict [(.int 0, .bool true)]), .shr (.int ((0 : Nat) : Int)), .emp, .emp, .emp, .emp, .emp, .emp, .emp] := rfl
  rw [e1]
  unfold d_lets
  rw [sq_nx s1, sq_nx s2, sq_nx s3]
  rcases lets_out hst hN (n + 1) 0 [(0, [])] [(.int 0, .bool true)] (by omega) (Nat.zero_le _) h0 (fun j r hj => absurd hj (Nat.not_lt_zero j)) 1000000 (by have := hN.n2; omega) .emp .emp .emp .emp .emp .emp .emp with ⟨x, e', k1, k2⟩ | ⟨R', met', a', k1, k2, k3⟩
  · rw [sq_rt (f := q_lets_4) k1]
    exact ⟨true, x, rfl, ⟨fun _ => k2, fun _ => rfl⟩⟩
  · rw [sq_nx (f := q_lets_4) k1]
    have hl := k2.len (hN.few m)
    have hne : R'.map (·.1) ≠ [] := fun z => by
      have := k2.zero
      rw [z] at this; cases this
    have s16 : q_lets_16 [.shr (encN n es), .shr st, .own (.list (R'.map encW)), .own (.dict met'), .shr a', .emp, .emp, .emp, .emp, .emp, .emp, .emp] = .rt (.tuple [.str "no", .tuple (intL ((R'.map (·.1)).mergeSort leZ))]) [.shr (encN n es), .shr st, .own (.list (R'.map encW)), .own (.dict met'), .shr a', .emp, .emp, .emp, .emp, .emp, .emp, .emp] :=
      rtn_ok (tupE_ok (consA_ok rfl (consA_ok (callD_ok (consA_ok (callD_ok (consA_ok (rdB_ok rfl) nilA_ok) (sorE_keys k2.keys (by rw [List.length_map]; omega) hne)) nilA_ok) rfl) nilA_ok)) (by show 2 ≤ sizeLine; decide))
    rw [s16]
    exact ⟨false, _, rfl, ⟨fun z => (by cases z), fun z => absurd z k3⟩⟩
end
end PV
namespace PV
open PySem PySem.Spec PyProof.Rows
theorem frL_cons {t : Tg} {dead : List Nat} {body : Sm} {d : D} {ds : List D} {e e1 e2 : EnvD} (hb : bindT t d (wip dead e) = some e1) (h : body e1 = .nx e2) : frL t dead body (d :: ds) e = frL t dead body ds e2 := by
  rw [frL, hb]
  simp only [h]
/-! _law_met: the law's walk, level by level -/
structure MJ (G : Gr) (P0 L : List Int) (fd : List (D × D)) : Prop where
  keys : Keys fd (P0 ++ L)
  nd : (P0 ++ L).Nodup
  rch : ∀ p ∈ P0 ++ L, Rch G p
  zero : (0 : Int) ∈ P0
section
variable {m : Str → Bool} {st : D} {n : Nat} {es : List Edge}
theorem MJ.len {G : Gr} {P0 L : List Int} {fd : List (D × D)} (h : MJ G P0 L fd) (f : Few G n) : (P0 ++ L).length ≤ n := few_len h.nd fun p hp => rch_few f (h.rch p hp)
theorem met_offer (hst : ∀ x, inD (.str x) st = some (.bool (m x))) (hN : NetOk n es) {e : Edge} (he : e ∈ es) {P0 L : List Int} {fd : List (D × D)} (h : MJ (grM m es) P0 L fd) {q : D} {k : Int} {pt one other : Int} (hp : pt ∈ P0) (ho : (one = e.a ∧ other = e.b) ∨ (one = e.b ∧ other = e.a)) :
    ∃ fd' L', q__law_met_7 [.shr (encN n es), .shr st, .own (.dict fd), .shr q, .shr (.int k), .own (.list (intL L)), .shr (.int pt), .shr (.int e.a), .shr (.int e.b), .shr (.tuple [.str (onS e.on), .str e.x]), .shr (.int one), .shr (.int other)] = .nx [.shr (encN n es), .shr st, .own (.dict fd'), .shr q, .shr (.int k), .own (.list (intL L')), .shr (.int pt), .shr (.int e.a), .shr (.int e.b), .shr (.tuple [.str (onS e.on), .str e.x]), .shr (.int one), .shr (.int other)] ∧
      MJ (grM m es) P0 L' fd' ∧ (∀ x, x ∈ P0 ++ L → x ∈ P0 ++ L') ∧ (opn m e = true → one = pt → other ∈ P0 ++ L') := by
  have t1 : tcm (op2 eqD (rdS 10) (rdS 6)) [.shr (encN n es), .shr st, .own (.dict fd), .shr q, .shr (.int k), .own (.list (intL L)), .shr (.int pt), .shr (.int e.a), .shr (.int e.b), .shr (.tuple [.str (onS e.on), .str e.x]), .shr (.int one), .shr (.int other)] = .ok (one == pt) [.shr (encN n es), .shr st, .own (.dict fd), .shr q, .shr (.int k), .own (.list (intL L)), .shr (.int pt), .shr (.int e.a), .shr (.int e.b), .shr (.tuple [.str (onS e.on), .str e.x]), .shr (.int one), .shr (.int other)] := rfl
  have t2 : tcm (op2 ninD (rdS 11) (rdB 2)) [.shr (encN n es), .shr st, .own (.dict fd), .shr q, .shr (.int k), .own (.list (intL L)), .shr (.int pt), .shr (.int e.a), .shr (.int e.b), .shr (.tuple [.str (onS e.on), .str e.x]), .shr (.int one), .shr (.int other)] = .ok (!(P0 ++ L).contains other) [.shr (encN n es), .shr st, .own (.dict fd), .shr q, .shr (.int k), .own (.list (intL L)), .shr (.int pt), .shr (.int e.a), .shr (.int e.b), .shr (.tuple [.str (onS e.on), .str e.x]), .shr (.int one), .shr (.int other)] :=
    tcm_ok (op2_ok (rdS_ok rfl) (rdB_ok rfl) (ninD_keys other h.keys))
  have t3 : tru (cal (f__law_opens) (consA (rdS 9) (consA (rdS 1) (nilA)))) [.shr (encN n es), .shr st, .own (.dict fd), .shr q, .shr (.int k), .own (.list (intL L)), .shr (.int pt), .shr (.int e.a), .shr (.int e.b), .shr (.tuple [.str (onS e.on), .str e.x]), .shr (.int one), .shr (.int other)] = .ok (opn m e) [.shr (encN n es), .shr st, .own (.dict fd), .shr q, .shr (.int k), .own (.list (intL L)), .shr (.int pt), .shr (.int e.a), .shr (.int e.b), .shr (.tuple [.str (onS e.on), .str e.x]), .shr (.int one), .shr (.int other)] :=
    tru_ok (cal_ok (consA_ok (rdS_ok rfl) (consA_ok (rdS_ok rfl) nilA_ok)) (opens_ok hst e.on e.x)) rfl
  have stay : (opn m e = true → one = pt → other ∈ P0 ++ L) → q__law_met_7 [.shr (encN n es), .shr st, .own (.dict fd), .shr q, .shr (.int k), .own (.list (intL L)), .shr (.int pt), .shr (.int e.a), .shr (.int e.b), .shr (.tuple [.str (onS e.on), .str e.x]), .shr (.int one), .shr (.int other)] = .nx [.shr (encN n es), .shr st, .own (.dict fd), .shr q, .shr (.int k), .own (.list (intL L)), .shr (.int pt), .shr (.int e.a), .shr (.int e.b), .shr (.tuple [.str (onS e.on), .str e.x]), .shr (.int one), .shr (.int other)] →
      ∃ fd' L', q__law_met_7 [.shr (encN n es), .shr st, .own (.dict fd), .shr q, .shr (.int k), .own (.list (intL L)), .shr (.int pt), .shr (.int e.a), .shr (.int e.b), .shr (.tuple [.str (onS e.on), .str e.x]), .shr (.int one), .shr (.int other)] = .nx [.shr (encN n es), .shr st, .own (.dict fd'), .shr q, .shr (.int k), .own (.list (intL L')), .shr (.int pt), .shr (.int e.a), .shr (.int e.b), .shr (.tuple [.str (onS e.on), .str e.x]), .shr (.int one), .shr (.int other)] ∧
        MJ (grM m es) P0 L' fd' ∧ (∀ x, x ∈ P0 ++ L → x ∈ P0 ++ L') ∧ (opn m e = true → one = pt → other ∈ P0 ++ L') := fun hm hs => ⟨fd, L, hs, h, fun x z => z, hm⟩
  cases c1 : one == pt with
  | false =>
    rw [c1] at t1
    exact stay (fun _ z => by rw [z, beq_self_eq_true] at c1; cases c1) (Eq.trans (ifS_f (andT_f t1)) rfl)
  | true =>
    rw [c1] at t1
    cases c2 : (P0 ++ L).contains other with
    | true =>
      rw [c2] at t2
      exact stay (fun _ _ => by simpa using c2) (Eq.trans (ifS_f (Eq.trans (andT_t t1) (andT_f t2))) rfl)
    | false =>
      rw [c2] at t2
      rcases Bool.eq_false_or_eq_true (opn m e) with c3 | c3
      rotate_left
      · rw [c3] at t3
        exact stay (fun z => by rw [c3] at z; cases z) (Eq.trans (ifS_f (Eq.trans (andT_t t1) (Eq.trans (andT_t t2) t3))) rfl)
      · rw [c3] at t3
        have hone : one = pt := eq_of_beq c1
        have hlen := h.len (hN.few m)
        have hn2 := hN.n2
        have hkl := keys_len h.keys
        have s8 : q__law_met_8 [.shr (encN n es), .shr st, .own (.dict fd), .shr q, .shr (.int k), .own (.list (intL L)), .shr (.int pt), .shr (.int e.a), .shr (.int e.b), .shr (.tuple [.str (onS e.on), .str e.x]), .shr (.int one), .shr (.int other)] = .nx [.shr (encN n es), .shr st, .own (.dict (putE fd (.int other) (.int k))), .shr q, .shr (.int k), .own (.list (intL L)), .shr (.int pt), .shr (.int e.a), .shr (.int e.b), .shr (.tuple [.str (onS e.on), .str e.x]), .shr (.int one), .shr (.int other)] :=
          putS_ok (v := .int k) (i := .int other) (rdS_ok rfl) rfl (rdS_ok rfl) (by
            show (if (isKey (.int other) && decide (fd.length < sizeLine)) = true then some (PyData.dict (putE fd (.int other) (.int k))) else none) = _
            rw [if_pos (by rw [decide_eq_true (by unfold sizeLine; omega)]; rfl)])
        have s9 : q__law_met_9 [.shr (encN n es), .shr st, .own (.dict (putE fd (.int other) (.int k))), .shr q, .shr (.int k), .own (.list (intL L)), .shr (.int pt), .shr (.int e.a), .shr (.int e.b), .shr (.tuple [.str (onS e.on), .str e.x]), .shr (.int one), .shr (.int other)] = .nx [.shr (encN n es), .shr st, .own (.dict (putE fd (.int other) (.int k))), .shr q, .shr (.int k), .own (.list (intL (L ++ [other]))), .shr (.int pt), .shr (.int e.a), .shr (.int e.b), .shr (.tuple [.str (onS e.on), .str e.x]), .shr (.int one), .shr (.int other)] := by
          refine Eq.trans (appS_ok (v := .int other) rfl (rdS_ok rfl) ?_) ?_
          · rw [List.length_append] at hlen
            show (L.map PyData.int).length < sizeLine
            rw [List.length_map]; unfold sizeLine; omega
          · unfold intL
            rw [List.map_append]; rfl
        have rq : Rch (grM m es) other := .on (h.rch pt (List.mem_append_left _ hp)) (List.mem_map.mpr ⟨e, he, by rw [c3]⟩ : (e.a, e.b, true) ∈ grM m es) (by rw [← hone]; exact ho)
        refine ⟨_, L ++ [other], Eq.trans (ifS_t (Eq.trans (andT_t t1) (Eq.trans (andT_t t2) t3))) (Eq.trans (sq_nx s8) s9), ?_, fun x z => ?_, fun _ _ => ?_⟩
        · refine ⟨?_, ?_, fun x hx => ?_, h.zero⟩
          · rw [← List.append_assoc]; exact put_key _ h.keys c2
          · rw [← List.append_assoc]
            refine List.nodup_append.mpr ⟨h.nd, by simp, fun a ha b hb e => ?_⟩
            rw [List.mem_singleton.mp hb] at e
            subst e
            have : (P0 ++ L).contains a = true := by simpa using ha
            rw [c2] at this; cases this
          · rw [← List.append_assoc] at hx
            rcases List.mem_append.mp hx with z | z
            · exact h.rch x z
            · rw [List.mem_singleton.mp z]; exact rq
        · rw [← List.append_assoc]; exact List.mem_append_left _ z
        · rw [← List.append_assoc]; simp
/-- all edges, from one point -/
theorem met_edges (hst : ∀ x, inD (.str x) st = some (.bool (m x))) (hN : NetOk n es) {P0 L : List Int} {fd : List (D × D)} (h : MJ (grM m es) P0 L fd) {q : D} {k : Int} {pt : Int} (hp : pt ∈ P0) :
    ∃ fd' L', q__law_met_5 [.shr (encN n es), .shr st, .own (.dict fd), .shr q, .shr (.int k), .own (.list (intL L)), .shr (.int pt), .emp, .emp, .emp, .emp, .emp] = .nx [.shr (encN n es), .shr st, .own (.dict fd'), .shr q, .shr (.int k), .own (.list (intL L')), .shr (.int pt), .emp, .emp, .emp, .emp, .emp] ∧
      MJ (grM m es) P0 L' fd' ∧ (∀ x, x ∈ P0 ++ L → x ∈ P0 ++ L') ∧ Into (grM m es) (P0 ++ L') pt := by
  have key : ∃ e2, q__law_met_5 [.shr (encN n es), .shr st, .own (.dict fd), .shr q, .shr (.int k), .own (.list (intL L)), .shr (.int pt), .emp, .emp, .emp, .emp, .emp] = .nx (wip [7, 8, 9, 10, 11] e2) ∧
      ∃ fd' L' c7 c8 c9 c10 c11, e2 = [.shr (encN n es), .shr st, .own (.dict fd'), .shr q, .shr (.int k), .own (.list (intL L')), .shr (.int pt), c7, c8, c9, c10, c11] ∧ MJ (grM m es) P0 L' fd' ∧ (∀ x, x ∈ P0 ++ L → x ∈ P0 ++ L') ∧
        ∀ (j : Nat) (e : Edge), j < (es.map encE).length → es[j]? = some e → opn m e = true → (e.a = pt → e.b ∈ P0 ++ L') ∧ (e.b = pt → e.a ∈ P0 ++ L') := by
    refine frS_nx (t := .tp [.nm 7, .nm 8, .nm 9]) (dead := [7, 8, 9, 10, 11]) (m := seqI (op2 ixD (rdS 0) (ret (.int 1)))) (ds := es.map encE) (fun i e2 => ∃ fd' L' c7 c8 c9 c10 c11, e2 = [.shr (encN n es), .shr st, .own (.dict fd'), .shr q, .shr (.int k), .own (.list (intL L')), .shr (.int pt), c7, c8, c9, c10, c11] ∧ MJ (grM m es) P0 L' fd' ∧ (∀ x, x ∈ P0 ++ L → x ∈ P0 ++ L') ∧
        ∀ (j : Nat) (e : Edge), j < i → es[j]? = some e → opn m e = true → (e.a = pt → e.b ∈ P0 ++ L') ∧ (e.b = pt → e.a ∈ P0 ++ L'))
      (e1 := [.shr (encN n es), .shr st, .own (.dict fd), .shr q, .shr (.int k), .own (.list (intL L)), .shr (.int pt), .emp, .emp, .emp, .emp, .emp]) (seqI_ok (op2_ok (rdS_ok rfl) rfl (net_1 n es)) rfl) ⟨fd, L, _, _, _, _, _, rfl, h, fun x z => z, fun j e hj => absurd hj (Nat.not_lt_zero j)⟩ fun i d e hd hI => ?_
    obtain ⟨fd', L', c7, c8, c9, c10, c11, rfl, hM, hs, hdone⟩ := hI
    rw [List.getElem?_map] at hd
    cases hei : es[i]? with
    | none => rw [hei] at hd; cases hd
    | some e =>
      rw [hei] at hd
      cases hd
      have hem := List.mem_of_getElem? hei
      obtain ⟨fd1, L1, o1, o2, o3, o4⟩ := met_offer hst hN hem hM (q := q) (k := k) (one := e.a) (other := e.b) hp (.inl ⟨rfl, rfl⟩)
      obtain ⟨fd2, L2, p1, p2, p3, p4⟩ := met_offer hst hN hem o2 (q := q) (k := k) (one := e.b) (other := e.a) hp (.inr ⟨rfl, rfl⟩)
      have s6 : q__law_met_6 [.shr (encN n es), .shr st, .own (.dict fd'), .shr q, .shr (.int k), .own (.list (intL L')), .shr (.int pt), .shr (.int e.a), .shr (.int e.b), .shr (.tuple [.str (onS e.on), .str e.x]), .emp, .emp] = .nx [.shr (encN n es), .shr st, .own (.dict fd2), .shr q, .shr (.int k), .own (.list (intL L2)), .shr (.int pt), .shr (.int e.a), .shr (.int e.b), .shr (.tuple [.str (onS e.on), .str e.x]), .emp, .emp] := by
        have g : seqI (tupE (consA (tupE (consA (rdS 7) (consA (rdS 8) (nilA)))) (consA (tupE (consA (rdS 8) (consA (rdS 7) (nilA)))) (nilA)))) [.shr (encN n es), .shr st, .own (.dict fd'), .shr q, .shr (.int k), .own (.list (intL L')), .shr (.int pt), .shr (.int e.a), .shr (.int e.b), .shr (.tuple [.str (onS e.on), .str e.x]), .emp, .emp] = .ok [.tuple [.int e.a, .int e.b], .tuple [.int e.b, .int e.a]] [.shr (encN n es), .shr st, .own (.dict fd'), .shr q, .shr (.int k), .own (.list (intL L')), .shr (.int pt), .shr (.int e.a), .shr (.int e.b), .shr (.tuple [.str (onS e.on), .str e.x]), .emp, .emp] := rfl
        show frS _ _ _ _ _ = _
        unfold frS
        rw [thenS_ok g]
        rw [frL_cons (e1 := [.shr (encN n es), .shr st, .own (.dict fd'), .shr q, .shr (.int k), .own (.list (intL L')), .shr (.int pt), .shr (.int e.a), .shr (.int e.b), .shr (.tuple [.str (onS e.on), .str e.x]), .shr (.int e.a), .shr (.int e.b)]) rfl o1]
        rw [frL_cons (e1 := [.shr (encN n es), .shr st, .own (.dict fd1), .shr q, .shr (.int k), .own (.list (intL L1)), .shr (.int pt), .shr (.int e.a), .shr (.int e.b), .shr (.tuple [.str (onS e.on), .str e.x]), .shr (.int e.b), .shr (.int e.a)]) rfl p1]
        rfl
      refine ⟨[.shr (encN n es), .shr st, .own (.dict fd'), .shr q, .shr (.int k), .own (.list (intL L')), .shr (.int pt), .shr (.int e.a), .shr (.int e.b), .shr (.tuple [.str (onS e.on), .str e.x]), .emp, .emp], _, rfl, s6, fd2, L2, _, _, _, _, _, rfl, p2, fun x z => p3 _ (o3 _ (hs _ z)), fun j e' hj hje ho => ?_⟩
      rcases Nat.lt_succ_iff_lt_or_eq.mp hj with z | z
      · obtain ⟨k1, k2⟩ := hdone j e' z hje ho
        exact ⟨fun y => p3 _ (o3 _ (k1 y)), fun y => p3 _ (o3 _ (k2 y))⟩
      · subst z
        rw [hei] at hje
        cases hje
        exact ⟨fun y => p3 _ (o4 ho y), fun y => p4 ho y⟩
  obtain ⟨e2, s5, fd', L', c7, c8, c9, c10, c11, rfl, hM, hs, hdone⟩ := key
  refine ⟨fd', L', s5, hM, hs, fun a b he => ?_⟩
  obtain ⟨e, hm, hab⟩ := List.mem_map.mp he
  have h1 : e.a = a := congrArg Prod.fst hab
  have h2 : e.b = b := congrArg (fun z => z.2.1) hab
  have h3 : opn m e = true := congrArg (fun z => z.2.2) hab
  obtain ⟨j, hj⟩ := List.getElem?_of_mem hm
  have hjl : j < (es.map encE).length := by rw [List.length_map]; exact lt_of_some hj
  have := hdone j e hjl hj h3
  rw [h1, h2] at this
  exact this
/-- all points of a level -/
theorem met_level (hst : ∀ x, inD (.str x) st = some (.bool (m x))) (hN : NetOk n es) {P0 Q : List Int} {fd : List (D × D)} (h : MJ (grM m es) P0 [] fd) {k : Int} (hQ : ∀ x ∈ Q, x ∈ P0) :
    ∃ fd' L', q__law_met_4 [.shr (encN n es), .shr st, .own (.dict fd), .shr (.list (intL Q)), .shr (.int k), .own (.list (intL [])), .emp, .emp, .emp, .emp, .emp, .emp] = .nx [.shr (encN n es), .shr st, .own (.dict fd'), .shr (.list (intL Q)), .shr (.int k), .own (.list (intL L')), .emp, .emp, .emp, .emp, .emp, .emp] ∧
      MJ (grM m es) P0 L' fd' ∧ ∀ x ∈ Q, Into (grM m es) (P0 ++ L') x := by
  have key : ∃ e2, q__law_met_4 [.shr (encN n es), .shr st, .own (.dict fd), .shr (.list (intL Q)), .shr (.int k), .own (.list (intL [])), .emp, .emp, .emp, .emp, .emp, .emp] = .nx (wip [6, 7, 8, 9, 10, 11] e2) ∧
      ∃ fd' L' c6, e2 = [.shr (encN n es), .shr st, .own (.dict fd'), .shr (.list (intL Q)), .shr (.int k), .own (.list (intL L')), c6, .emp, .emp, .emp, .emp, .emp] ∧ MJ (grM m es) P0 L' fd' ∧ ∀ (j : Nat) (x : Int), j < (intL Q).length → Q[j]? = some x → Into (grM m es) (P0 ++ L') x := by
    refine frS_nx (t := .nm 6) (dead := [6, 7, 8, 9, 10, 11]) (m := seqI (rdS 3)) (ds := intL Q) (fun i e2 => ∃ fd' L' c6, e2 = [.shr (encN n es), .shr st, .own (.dict fd'), .shr (.list (intL Q)), .shr (.int k), .own (.list (intL L')), c6, .emp, .emp, .emp, .emp, .emp] ∧ MJ (grM m es) P0 L' fd' ∧ ∀ (j : Nat) (x : Int), j < i → Q[j]? = some x → Into (grM m es) (P0 ++ L') x)
      (e1 := [.shr (encN n es), .shr st, .own (.dict fd), .shr (.list (intL Q)), .shr (.int k), .own (.list (intL [])), .emp, .emp, .emp, .emp, .emp, .emp]) (seqI_ok (rdS_ok rfl) rfl) ⟨fd, [], _, rfl, h, fun j x hj => absurd hj (Nat.not_lt_zero j)⟩ fun i d e hd hI => ?_
    obtain ⟨fd', L', c6, rfl, hM, hdone⟩ := hI
    unfold intL at hd
    rw [List.getElem?_map] at hd
    cases hx : Q[i]? with
    | none => rw [hx] at hd; cases hd
    | some x =>
      rw [hx] at hd
      cases hd
      obtain ⟨fd2, L2, s5, p1, p2, p3⟩ := met_edges hst hN hM (q := .list (intL Q)) (k := k) (pt := x) (hQ x (List.mem_of_getElem? hx))
      refine ⟨[.shr (encN n es), .shr st, .own (.dict fd'), .shr (.list (intL Q)), .shr (.int k), .own (.list (intL L')), .shr (.int x), .emp, .emp, .emp, .emp, .emp], _, rfl, s5, fd2, L2, _, rfl, p1, fun j y hj hy => ?_⟩
      rcases Nat.lt_succ_iff_lt_or_eq.mp hj with z | z
      · exact (hdone j y z hy).mono p2
      · subst z
        rw [hx] at hy
        cases hy
        exact p3
  obtain ⟨e2, s4, fd', L', c6, rfl, hM, hdone⟩ := key
  refine ⟨fd', L', s4, hM, fun x hx => ?_⟩
  obtain ⟨j, hj⟩ := List.getElem?_of_mem hx
  exact hdone j x (by show j < (Q.map PyData.int).length; rw [List.length_map]; exact lt_of_some hj) hj
theorem met_out (hst : ∀ x, inD (.str x) st = some (.bool (m x))) (hN : NetOk n es) : ∀ (d : Nat) (P Q : List Int) (fd : List (D × D)) (k : Int), n - P.length + (if Q = [] then 0 else 1) ≤ d → MJ (grM m es) P [] fd → (∀ x ∈ Q, x ∈ P) → (∀ x ∈ P, x ∉ Q → Into (grM m es) P x) → ∀ F, d < F → ∀ c5 c6 c7 c8 c9 c10 c11 : PV.Cell,
    ∃ fd' P' e', whL (tcm (op2 neD (rdS 3) (lstE (nilA)))) [5, 6, 7, 8, 9, 10, 11] (sq (q__law_met_3) (sq (q__law_met_4) (q__law_met_10))) F [.shr (encN n es), .shr st, .own (.dict fd), .shr (.list (intL Q)), .shr (.int k), c5, c6, c7, c8, c9, c10, c11] = .nx e' ∧ e'[2]? = some (.own (.dict fd')) ∧ Keys fd' P' ∧ P'.Nodup ∧ ∀ p, p ∈ P' ↔ Rch (grM m es) p := by
  intro d
  induction d with
  | zero =>
    intro P Q fd k hd h hQ hI F hF c5 c6 c7 c8 c9 c10 c11
    have hq : Q = [] := by
      by_cases c : Q = []
      · exact c
      · rw [if_neg c] at hd; omega
    subst hq
    obtain ⟨F, rfl⟩ : ∃ F', F = F' + 1 := ⟨F - 1, by omega⟩
    have ht : tcm (op2 neD (rdS 3) (lstE (nilA))) [.shr (encN n es), .shr st, .own (.dict fd), .shr (.list (intL [])), .shr (.int k), .emp, .emp, .emp, .emp, .emp, .emp, .emp] = .ok false [.shr (encN n es), .shr st, .own (.dict fd), .shr (.list (intL [])), .shr (.int k), .emp, .emp, .emp, .emp, .emp, .emp, .emp] := rfl
    have hk := h.keys
    rw [List.append_nil] at hk
    have hnd := h.nd
    rw [List.append_nil] at hnd
    refine ⟨fd, P, _, whL_end ht, rfl, hk, hnd, fun p => ?_⟩
    have hr := h.rch
    rw [List.append_nil] at hr
    exact ⟨fun z => hr p z, fun z => rch_in h.zero (fun p hp => hI p hp (by simp)) z⟩
  | succ d ih =>
    intro P Q fd k hd h hQ hI F hF c5 c6 c7 c8 c9 c10 c11
    by_cases hq : Q = []
    · subst hq
      obtain ⟨F, rfl⟩ : ∃ F', F = F' + 1 := ⟨F - 1, by omega⟩
      have ht : tcm (op2 neD (rdS 3) (lstE (nilA))) [.shr (encN n es), .shr st, .own (.dict fd), .shr (.list (intL [])), .shr (.int k), .emp, .emp, .emp, .emp, .emp, .emp, .emp] = .ok false [.shr (encN n es), .shr st, .own (.dict fd), .shr (.list (intL [])), .shr (.int k), .emp, .emp, .emp, .emp, .emp, .emp, .emp] := rfl
      have hk := h.keys
      rw [List.append_nil] at hk
      have hnd := h.nd
      rw [List.append_nil] at hnd
      refine ⟨fd, P, _, whL_end ht, rfl, hk, hnd, fun p => ?_⟩
      have hr := h.rch
      rw [List.append_nil] at hr
      exact ⟨fun z => hr p z, fun z => rch_in h.zero (fun p hp => hI p hp (by simp)) z⟩
    · obtain ⟨F, rfl⟩ : ∃ F', F = F' + 1 := ⟨F - 1, by omega⟩
      have ht : tcm (op2 neD (rdS 3) (lstE (nilA))) [.shr (encN n es), .shr st, .own (.dict fd), .shr (.list (intL Q)), .shr (.int k), .emp, .emp, .emp, .emp, .emp, .emp, .emp] = .ok true [.shr (encN n es), .shr st, .own (.dict fd), .shr (.list (intL Q)), .shr (.int k), .emp, .emp, .emp, .emp, .emp, .emp, .emp] := by
        refine tcm_ok (op2_ok (rdS_ok rfl) (lstE_ok nilA_ok (by show 0 ≤ sizeLine; decide)) ?_)
        rw [neD_l0 (intL_nd Q)]
        cases Q with
        | nil => exact absurd rfl hq
        | cons _ _ => rfl
      have s3 : q__law_met_3 [.shr (encN n es), .shr st, .own (.dict fd), .shr (.list (intL Q)), .shr (.int k), .emp, .emp, .emp, .emp, .emp, .emp, .emp] = .nx [.shr (encN n es), .shr st, .own (.dict fd), .shr (.list (intL Q)), .shr (.int (k + 1)), .own (.list (intL [])), .emp, .emp, .emp, .emp, .emp, .emp] := rfl
      obtain ⟨fd2, L, s4, p1, p2⟩ := met_level hst hN h (k := k + 1) hQ
      have s10 : q__law_met_10 [.shr (encN n es), .shr st, .own (.dict fd2), .shr (.list (intL Q)), .shr (.int (k + 1)), .own (.list (intL L)), .emp, .emp, .emp, .emp, .emp, .emp] = .nx [.shr (encN n es), .shr st, .own (.dict fd2), .shr (.list (intL L)), .shr (.int (k + 1)), .shr (.list (intL L)), .emp, .emp, .emp, .emp, .emp, .emp] := rfl
      have hlen := p1.len (hN.few m)
      rw [List.length_append] at hlen
      have h2 : MJ (grM m es) (P ++ L) [] fd2 := ⟨by rw [List.append_nil]; exact p1.keys, by rw [List.append_nil]; exact p1.nd, by rw [List.append_nil]; exact p1.rch, List.mem_append_left _ h.zero⟩
      obtain ⟨fd3, P3, e3, r1, r2, r3, r4, r5⟩ := ih (P ++ L) L fd2 (k + 1) (by
        rw [List.length_append]
        rw [if_neg hq] at hd
        by_cases c : L = []
        · rw [if_pos c]; omega
        · rw [if_neg c]
          have := List.length_pos_iff.mpr c
          omega) h2 (fun x hx => List.mem_append_right _ hx) (fun x hx hn => by
          rcases List.mem_append.mp hx with z | z
          · by_cases c : x ∈ Q
            · exact p2 x c
            · exact (hI x z c).mono fun y hy => List.mem_append_left _ hy
          · exact absurd z hn) F (by omega) (.shr (.list (intL L))) .emp .emp .emp .emp .emp .emp
      exact ⟨fd3, P3, e3, (whL_nx (e1 := [.shr (encN n es), .shr st, .own (.dict fd), .shr (.list (intL Q)), .shr (.int k), .emp, .emp, .emp, .emp, .emp, .emp, .emp]) ht (Eq.trans (sq_nx s3) (Eq.trans (sq_nx s4) s10))).trans r1, r2, r3, r4, r5⟩
theorem law_met_full (hst : ∀ x, inD (.str x) st = some (.bool (m x))) (hN : NetOk n es) : ∃ fd P, f__law_met [encN n es, st] = .ok (.dict fd) [] ∧ Keys fd P ∧ P.Nodup ∧ ∀ p, p ∈ P ↔ Rch (grM m es) p := by
  have e1 : f__law_met [encN n es, st] = outF false [] (d__law_met [.shr (encN n es), .shr st, .emp, .emp, .emp, .emp, .emp, .emp, .emp, .emp, .emp, .emp]) := by unfold f__law_met; rw [fnD_ok (by rfl)]; rfl
  have s1 : q__law_met_1 [.shr (encN n es), .shr st, .emp, .emp, .emp, .emp, .emp, .emp, .emp, .emp, .emp, .emp] = .nx [.shr (encN n es), .shr st, .own (.dict [(.int 0, .int 0)]), .shr (.list (intL [0])), .shr (.int 0), .emp, .emp, .emp, .emp, .emp, .emp, .emp] := rfl
  have h0 : MJ (grM m es) [0] [] [(.int 0, .int 0)] := ⟨rfl, by simp, fun p hp => by
    have : p = 0 := by simpa using hp
    rw [this]; exact .zero, by simp⟩
  obtain ⟨fd, P, e', k1, k2, k3, k4, k5⟩ := met_out hst hN (n + 1) [0] [0] [(.int 0, .int 0)] 0 (by simp) h0 (fun x hx => hx) (fun x hx hn => absurd hx hn) 1000000 (by have := hN.n2; omega) .emp .emp .emp .emp .emp .emp .emp
  rw [e1]
  unfold d__law_met
  rw [sq_nx s1, sq_nx (f := q__law_met_2) k1]
  refine ⟨fd, P, ?_, k3, k4, k5⟩
  unfold q__law_met_11 rtO
  rw [k2]; rfl
theorem law_met_ok (hst : ∀ x, inD (.str x) st = some (.bool (m x))) (hN : NetOk n es) : ∃ fd P, f__law_met [encN n es, st] = .ok (.dict fd) [] ∧ Keys fd P ∧ (P.contains 1 = true ↔ Rch (grM m es) 1) := by
  obtain ⟨fd, P, h1, h2, _, h3⟩ := law_met_full hst hN
  exact ⟨fd, P, h1, h2, by rw [List.contains_iff_mem]; exact h3 1⟩
end
end PV
namespace PV
open PySem PySem.Spec PyProof.Rows
theorem appS_ok2 {e e1 : EnvD} {k : Nat} {m : M D} {as ds : List D} {v : D} (h0 : e[k]? = some (.own (.list as))) (hm : m e = .ok v e1) (h : e1[k]? = some (.own (.list ds))) (hl : ds.length < sizeLine) : appS k m e = .nx (e1.set k (.own (.list (ds ++ [v])))) := by
  unfold appS
  rw [h0]
  simp only
  rw [thenS_ok hm, h]
  simp only [hl, if_true]
theorem pick_onoff {W : D} (h : WD W) : ∃ (b : Bool) (W' : D), f__law_pick [W, .list [.str "on", .str "off"]] = .ok (.str (onS b)) [W'] ∧ WD W' := by
  obtain ⟨i, d, W', h1, h2, h3⟩ := pick_ok h (rows := [.str "on", .str "off"]) (by simp)
  match i, h3 with
  | 0, h3 => cases h3; exact ⟨true, W', h1, h2⟩
  | 1, h3 => cases h3; exact ⟨false, W', h1, h2⟩
  | i + 2, h3 => simp at h3
def abcS : List Str := ["a", "b", "c1"]
theorem pick_abc {W : D} (h : WD W) : ∃ (x : Str) (W' : D), f__law_pick [W, .list [.str "a", .str "b", .str "c1"]] = .ok (.str x) [W'] ∧ WD W' ∧ x ∈ abcS :=
  pick_nm h (names := abcS) (by unfold abcS; simp)
theorem law_net_ok {W : D} (h : WD W) {p k : Int} (hp : 2 ≤ p) (hp' : p ≤ 50) (hk : 0 ≤ k) (hk' : k ≤ 500) : ∃ (n : Nat) (es : List Edge) (W' : D), f__law_net [W, .int p, .int k] = .ok (encN n es) [W'] ∧ WD W' ∧ NetOk n es ∧ 2 ≤ n ∧ (n : Int) ≤ p ∧ (es.length : Int) ≤ k ∧ ∀ e ∈ es, e.x ∈ abcS := by
  have e1 : f__law_net [W, .int p, .int k] = outF false [0] (d__law_net [.own W, .shr (.int p), .shr (.int k), .emp, .emp, .emp, .emp, .emp]) := by unfold f__law_net; rw [fnD_ok (by rfl)]; rfl
  rw [e1]
  obtain ⟨r, W1, a1, a2, a3, a4⟩ := next_ok h (m := p - 1) (by omega)
  obtain ⟨n, hn⟩ : ∃ n : Nat, (2 + r) = (n : Int) := ⟨(2 + r).toNat, by omega⟩
  have s1 : q__law_net_1 [.own W, .shr (.int p), .shr (.int k), .emp, .emp, .emp, .emp, .emp] = .nx [.own W1, .shr (.int p), .shr (.int k), .shr (.int n), .emp, .emp, .emp, .emp] := by
    rw [← hn]
    exact setS_ok (op2_ok rfl (calH2 rfl (op2_ok (rdS_ok rfl) rfl rfl) rfl a1) rfl)
  have s2 : q__law_net_2 [.own W1, .shr (.int p), .shr (.int k), .shr (.int n), .emp, .emp, .emp, .emp] = .nx [.own W1, .shr (.int p), .shr (.int k), .shr (.int n), .own (.list (([] : List Edge).map encE)), .emp, .emp, .emp] := rfl
  obtain ⟨m, W2, b1, b2, b3, b4⟩ := next_ok a2 (m := k + 1) (by omega)
  have s3 : ∃ e2, q__law_net_3 [.own W1, .shr (.int p), .shr (.int k), .shr (.int n), .own (.list (([] : List Edge).map encE)), .emp, .emp, .emp] = .nx (wip [5, 6, 7] e2) ∧ ∃ (W3 : D) (es : List Edge) (c5 c6 c7 : PV.Cell), e2 = [.own W3, .shr (.int p), .shr (.int k), .shr (.int n), .own (.list (es.map encE)), c5, c6, c7] ∧ WD W3 ∧ es.length = (rngD 0 m).length ∧ (∀ e ∈ es, (0 ≤ e.a ∧ e.a < n) ∧ 0 ≤ e.b ∧ e.b < n) ∧ ∀ e ∈ es, e.x ∈ abcS := by
    refine frS_nx (t := .nm 5) (dead := [5, 6, 7]) (m := rngI1 (consA (calH (f__law_next) [some 0, none] (holeA 0 (consA (op2 addD (rdS 2) (ret (.int 1))) (nilA)))) (nilA))) (ds := rngD 0 m) (fun i e2 => ∃ (W3 : D) (es : List Edge) (c5 c6 c7 : PV.Cell), e2 = [.own W3, .shr (.int p), .shr (.int k), .shr (.int n), .own (.list (es.map encE)), c5, c6, c7] ∧ WD W3 ∧ es.length = i ∧ (∀ e ∈ es, (0 ≤ e.a ∧ e.a < n) ∧ 0 ≤ e.b ∧ e.b < n) ∧ ∀ e ∈ es, e.x ∈ abcS)
      (e1 := [.own W2, .shr (.int p), .shr (.int k), .shr (.int n), .own (.list (([] : List Edge).map encE)), .emp, .emp, .emp]) (rngI1_ok (consA_ok (calH2 rfl (op2_ok (rdS_ok rfl) rfl rfl) rfl b1) nilA_ok) (by omega) (by omega)) ⟨W2, [], _, _, _, rfl, b2, rfl, fun e he => (by cases he), fun e he => (by cases he)⟩ fun i d e hd hI => ?_
    obtain ⟨W3, es, c5, c6, c7, rfl, hW, hl, hpt, hx⟩ := hI
    obtain ⟨rfl, hi⟩ := rngD_at hd
    obtain ⟨a, W4, p1, p2, p3, p4⟩ := next_ok hW (m := n) (by omega)
    have s4 : q__law_net_4 [.own W3, .shr (.int p), .shr (.int k), .shr (.int n), .own (.list (es.map encE)), .shr (.int (0 + i)), .emp, .emp] = .nx [.own W4, .shr (.int p), .shr (.int k), .shr (.int n), .own (.list (es.map encE)), .shr (.int (0 + i)), .shr (.int a), .emp] :=
      setS_ok (calH2 rfl (rdS_ok rfl) rfl p1)
    obtain ⟨b, W5, r1, r2, r3, r4⟩ := next_ok p2 (m := n - 1) (by omega)
    have s5 : q__law_net_5 [.own W4, .shr (.int p), .shr (.int k), .shr (.int n), .own (.list (es.map encE)), .shr (.int (0 + i)), .shr (.int a), .emp] = .nx [.own W5, .shr (.int p), .shr (.int k), .shr (.int n), .own (.list (es.map encE)), .shr (.int (0 + i)), .shr (.int a), .shr (.int ((a + 1 + b) % n))] :=
      setS_ok (op2_ok (callD_ok (consA_ok (op2_ok (op2_ok (rdS_ok rfl) rfl rfl) (calH2 rfl (op2_ok (rdS_ok rfl) rfl rfl) rfl r1) rfl) nilA_ok) rfl) (rdS_ok rfl) (mod_ok (by omega)))
    obtain ⟨o, W6, t1, t2⟩ := pick_onoff r2
    obtain ⟨x, W7, u1, u2, u3⟩ := pick_abc t2
    have s6 : q__law_net_6 [.own W5, .shr (.int p), .shr (.int k), .shr (.int n), .own (.list (es.map encE)), .shr (.int (0 + i)), .shr (.int a), .shr (.int ((a + 1 + b) % n))] = .nx [.own W7, .shr (.int p), .shr (.int k), .shr (.int n), .own (.list ((es ++ [Edge.mk a ((a + 1 + b) % n) o x]).map encE)), .shr (.int (0 + i)), .shr (.int a), .shr (.int ((a + 1 + b) % n))] := by
      refine Eq.trans (appS_ok2 (e1 := [.own W7, .shr (.int p), .shr (.int k), .shr (.int n), .own (.list (es.map encE)), .shr (.int (0 + i)), .shr (.int a), .shr (.int ((a + 1 + b) % n))]) (v := encE (Edge.mk a ((a + 1 + b) % n) o x)) rfl (tupE_ok (consA_ok (rdS_ok rfl) (consA_ok (rdS_ok rfl) (consA_ok (tupE_ok (consA_ok (calH2 rfl rfl rfl t1) (consA_ok (calH2 rfl rfl rfl u1) nilA_ok)) (by show 2 ≤ sizeLine; decide)) nilA_ok))) (by show 3 ≤ sizeLine; decide)) rfl ?_) ?_
      · rw [List.length_map]; unfold sizeLine; omega
      · rw [List.map_append]; rfl
    refine ⟨_, _, rfl, Eq.trans (sq_nx s4) (Eq.trans (sq_nx s5) s6), W7, es ++ [Edge.mk a ((a + 1 + b) % n) o x], _, _, _, rfl, u2, by rw [List.length_append, hl]; rfl, fun e he => ?_, fun e he => ?_⟩
    · rcases List.mem_append.mp he with z | z
      · exact hpt e z
      · rw [List.mem_singleton.mp z]
        exact ⟨⟨p3, p4⟩, Int.emod_nonneg _ (by omega), Int.emod_lt_of_pos _ (by omega)⟩
    · rcases List.mem_append.mp he with z | z
      · exact hx e z
      · rw [List.mem_singleton.mp z]; exact u3
  obtain ⟨e2, s3, W3, es, c5, c6, c7, rfl, hW, hl, hpt, hx⟩ := s3
  rw [rngD_len] at hl
  unfold d__law_net
  rw [sq_nx s1, sq_nx s2, sq_nx s3]
  have s7 : q__law_net_7 (wip [5, 6, 7] [.own W3, .shr (.int p), .shr (.int k), .shr (.int n), .own (.list (es.map encE)), c5, c6, c7]) = .rt (encN n es) [.own W3, .shr (.int p), .shr (.int k), .shr (.int n), .own (.list (es.map encE)), .emp, .emp, .emp] :=
    rtn_ok (tupE_ok (consA_ok (rdS_ok rfl) (consA_ok (callD_ok (consA_ok (rdB_ok rfl) nilA_ok) rfl) nilA_ok)) (by show 2 ≤ sizeLine; decide))
  rw [s7]
  exact ⟨n, es, W3, rfl, hW, ⟨by omega, by omega, by omega, hpt⟩, by omega, by omega, by omega, hx⟩
/-! names -/
def namesE (es : List Edge) : List Str := onceS (es.map (·.x))
theorem namesE_asc (es : List Edge) : Asc (namesE es) := asc_once _
theorem namesE_mem {es : List Edge} {x : Str} (hx : ∀ e ∈ es, e.x ∈ abcS) (h : x ∈ namesE es) : x ∈ abcS := by
  obtain ⟨e, he, rfl⟩ := List.mem_map.mp (onceS_mem.mp h)
  exact hx e he
theorem namesE_len {es : List Edge} (hx : ∀ e ∈ es, e.x ∈ abcS) : (namesE es).length ≤ 3 := nodup_len (T := abcS) (namesE_asc es).2 fun x h => namesE_mem hx h
theorem names_of_ok {n : Nat} {es : List Edge} (h : es.length ≤ 4000) : f_names_of [encN n es] = .ok (stD (namesE es)) [] := by
  have e1 : f_names_of [encN n es] = outF false [] (d_names_of [.shr (encN n es), .emp]) := by unfold f_names_of; rw [fnD_ok (by rfl)]; rfl
  rw [e1]
  have g : lcE (.nm 1) [1] (yesT) (op2 ixD (op2 ixD (rdS 1) (ret (.int 2))) (ret (.int 1))) (seqI (op2 ixD (rdS 0) (ret (.int 1)))) [.shr (encN n es), .emp] = .ok (.list (strL (es.map (·.x)))) [.shr (encN n es), .emp] := by
    refine Eq.trans (lc1 (ds := es.map encE) (e1 := [.shr (encN n es), .emp]) (fun d => match d with | .tuple [_, _, .tuple [_, x]] => x | d => d) (seqI_ok (op2_ok (rdS_ok rfl) rfl (net_1 n es)) rfl) rfl fun d hd => ?_) ?_
    · obtain ⟨e, _, rfl⟩ := List.mem_map.mp hd
      exact op2_ok (op2_ok (rdS_ok rfl) rfl (L2.atI_nat (j := 2) rfl)) rfl (ev_atI1 ..)
    · unfold strL
      rw [List.map_map, List.map_map]; rfl
  have s : d_names_of [.shr (encN n es), .emp] = .rt (stD (namesE es)) [.shr (encN n es), .emp] := rtn_ok (cal_ok (consA_ok g nilA_ok) (oe_L (by rw [List.length_map]; exact h)))
  rw [s]; rfl
theorem law_net_names_ok {n : Nat} {es : List Edge} (h : es.length < 64) (hx : ∀ e ∈ es, e.x ∈ abcS) : f__law_net_names [encN n es] = .ok (.list (strL (namesE es))) [] := by
  have e1 : f__law_net_names [encN n es] = outF false [] (d__law_net_names [.shr (encN n es), .emp, .emp, .emp]) := by unfold f__law_net_names; rw [fnD_ok (by rfl)]; rfl
  rw [e1]
  have g : lcE (.tp [.nm 1, .nm 2, .nm 3]) [1, 2, 3] (yesT) (tupE (consA (op2 ixD (rdS 3) (ret (.int 1))) (consA (ret (.bool true)) (nilA)))) (seqI (op2 ixD (rdS 0) (ret (.int 1)))) [.shr (encN n es), .emp, .emp, .emp] = .ok (.list ((es.map (·.x)).map fun x => .tuple [.str x, .bool true])) [.shr (encN n es), .emp, .emp, .emp] := by
    refine Eq.trans (lcE_all (ds := es.map encE) (e1 := [.shr (encN n es), .emp, .emp, .emp]) (fun d => match d with | .tuple [_, _, .tuple [_, x]] => .tuple [x, .bool true] | d => d) (seqI_ok (op2_ok (rdS_ok rfl) rfl (net_1 n es)) rfl) rfl rfl fun d hd => ?_) ?_
    · obtain ⟨e, _, rfl⟩ := List.mem_map.mp hd
      exact ⟨[.shr (encN n es), .shr (.int e.a), .shr (.int e.b), .shr (.tuple [.str (onS e.on), .str e.x])], rfl, tupE_ok (consA_ok (op2_ok (rdS_ok rfl) rfl (ev_atI1 ..)) (consA_ok rfl nilA_ok)) (by show 2 ≤ sizeLine; decide), rfl⟩
    · rw [List.map_map, List.map_map]; rfl
  obtain ⟨d, k1, k2⟩ := once_sd (L := es.map (·.x)) (.bool true) (by rw [List.length_map]; exact h) fun x hx' => by
    obtain ⟨e, he, rfl⟩ := List.mem_map.mp hx'
    have : ∀ y ∈ abcS, PyData.strOk y = true := by decide +kernel
    exact this _ (hx e he)
  have s : d__law_net_names [.shr (encN n es), .emp, .emp, .emp] = .rt (.list (strL (namesE es))) [.shr (encN n es), .emp, .emp, .emp] := rtn_ok (callD_ok (consA_ok (callD_ok (consA_ok g nilA_ok) k1) nilA_ok) k2)
  rw [s]; rfl
/-! the first wording of the law's states -/
theorem law_states1 {d : D} {names : List Str} (hd : sorE [d] = some (.list (strL names))) (hl : names.length ≤ 10) (hA : Asc names) : f__law_states [d] = .ok (.list (stL (ordS names))) [] := by
  have e1 : f__law_states [d] = outF false [] (d__law_states [.shr d, .emp, .emp, .emp, .emp]) := by unfold f__law_states; rw [fnD_ok (by rfl)]; rfl
  rw [e1]
  have bound : ∀ i, (allS (names.take i)).length ≤ 1024 := fun i => by
    rw [allS_len]
    exact pow_le (Nat.le_trans (List.length_take_le' ..) hl)
  have small : ∀ i, ∀ S ∈ allS (names.take i), S.length ≤ 1000 := fun i S hS => by
    have := (allS_sub _ S hS).length_le
    have h2 : (names.take i).length ≤ names.length := List.length_take_le' ..
    omega
  have s1 : q__law_states_1 [.shr d, .emp, .emp, .emp, .emp] = .nx [.shr d, .shr (.list (stL (allS (names.take 0)))), .emp, .emp, .emp] :=
    setS_ok (lstE_ok (consA_ok (tupE_ok nilA_ok (by show 0 ≤ sizeLine; decide)) nilA_ok) (by show 1 ≤ sizeLine; decide))
  have s2 : ∃ e2, q__law_states_2 [.shr d, .shr (.list (stL (allS (names.take 0)))), .emp, .emp, .emp] = .nx (wip [2] e2) ∧ ∃ c, e2 = [.shr d, .shr (.list (stL (allS (names.take (strL names).length)))), c, .emp, .emp] := by
    refine frS_nx (t := .nm 2) (dead := [2]) (ds := strL names) (fun i e2 => ∃ c, e2 = [.shr d, .shr (.list (stL (allS (names.take i)))), c, .emp, .emp]) (e1 := [.shr d, .shr (.list (stL (allS (names.take 0)))), .emp, .emp, .emp]) (seqI_ok (callD_ok (consA_ok (rdS_ok rfl) nilA_ok) hd) rfl) ⟨_, rfl⟩ fun i x e hx hI => ?_
    obtain ⟨c, rfl⟩ := hI
    unfold strL at hx
    rw [List.getElem?_map] at hx
    cases hq : names[i]? with
    | none => rw [hq] at hx; cases hx
    | some y =>
      rw [hq] at hx
      cases hx
      refine ⟨[.shr d, .shr (.list (stL (allS (names.take i)))), .shr (.str y), .emp, .emp], _, rfl, setS_ok (op2_ok (rdS_ok rfl) (grow_ok (L := allS (names.take i)) (x := y) (by decide) (by simp) rfl rfl (seqI_ok (rdS_ok rfl) rfl) (small i)) (z := .list (stL (allS (names.take (i + 1))))) ?_), .shr (.str y), rfl⟩
      show (if _ then some _ else none) = _
      rw [if_pos]
      · rw [stL_append, ← allS_take hq]
      · rw [stL_len', stL_len', List.length_map]
        have := bound i
        unfold sizeLine
        omega
  obtain ⟨e2, s2, c, rfl⟩ := s2
  unfold d__law_states
  rw [sq_nx s1, sq_nx s2, strL_len, List.take_length]
  have g1 : lcE (.nm 3) [3] (yesT) (tupE (consA (callD lenD (consA (rdS 3) (nilA))) (consA (rdS 3) (nilA)))) (seqI (rdS 1)) [.shr d, .shr (.list (stL (allS names))), .emp, .emp, .emp] = .ok (.list ((allS names).map encQ)) [.shr d, .shr (.list (stL (allS names))), .emp, .emp, .emp] := by
    refine Eq.trans (lc1 (ds := stL (allS names)) (e1 := [.shr d, .shr (.list (stL (allS names))), .emp, .emp, .emp]) (fun x => match x with | .tuple ds => .tuple [.int ds.length, .tuple ds] | x => x) (seqI_ok (rdS_ok rfl) rfl) rfl fun x hx => ?_) ?_
    · obtain ⟨S, hS, rfl⟩ := List.mem_map.mp hx
      exact tupE_ok (consA_ok (callD_ok (consA_ok (rdS_ok rfl) nilA_ok) rfl) (consA_ok (rdS_ok rfl) nilA_ok)) (by show 2 ≤ sizeLine; decide)
    · unfold stL
      rw [List.map_map]
      congr 2
      apply List.map_congr_left
      intro S _
      show PyData.tuple [.int ((strL S).length : Nat), .tuple (strL S)] = encQ S
      rw [strL_len]; rfl
  have s4 : q__law_states_4 (wip [2] [.shr d, .shr (.list (stL (allS names))), c, .emp, .emp]) = .rt (.list (stL (ordS names))) [.shr d, .shr (.list (stL (allS names))), .emp, .emp, .emp] := by
    refine rtn_ok (Eq.trans (lc1 (ds := (ordS names).map encQ) (e1 := [.shr d, .shr (.list (stL (allS names))), .emp, .emp, .emp]) (fun x => match x with | .tuple [_, s] => s | x => x) (seqI_ok (callD_ok (consA_ok g1 nilA_ok) (sorE_Q _)) rfl) rfl fun x hx => ?_) ?_)
    · obtain ⟨S, hS, rfl⟩ := List.mem_map.mp hx
      exact op2_ok (rdS_ok rfl) rfl (ev_atI1 ..)
    · unfold stL
      rw [List.map_map]; rfl
  rw [s4]; rfl
/-! letting, as a truth about a graph -/
theorem Rch.cong {G G' : Gr} (h : ∀ a b, (a, b, true) ∈ G ↔ (a, b, true) ∈ G') {p : Int} (r : Rch G p) : Rch G' p := by
  induction r with
  | zero => exact .zero
  | on _ he hq ih => exact .on ih ((h _ _).mp he) hq
open Classical in
noncomputable def letB (G : Gr) : Bool := decide (Rch G 1)
theorem letB_cong {G G' : Gr} (h : ∀ a b, (a, b, true) ∈ G ↔ (a, b, true) ∈ G') : letB G = letB G' := by
  unfold letB
  rw [show Rch G 1 = Rch G' 1 from propext ⟨fun r => r.cong h, fun r => r.cong fun a b => (h a b).symm⟩]
open Classical in
theorem letB_of {G : Gr} {k : Bool} (h : k = true ↔ Rch G 1) : k = letB G := by
  rw [Bool.eq_iff_iff, h]
  unfold letB
  exact (decide_eq_true_iff).symm
theorem lets_let {m : Str → Bool} {st : D} {n : Nat} {es : List Edge} (hst : ∀ x, inD (.str x) st = some (.bool (m x))) (hN : NetOk n es) (hn : n ≤ 60) : ∃ x : D, f_lets [encN n es, st] = .ok (.tuple [.str (if letB (grM m es) = true then "yes" else "no"), x]) [] := by
  obtain ⟨k, x, h1, h2⟩ := lets_ok hst hN hn
  rw [letB_of h2] at h1
  exact ⟨x, h1⟩
theorem met_let {m : Str → Bool} {st : D} {n : Nat} {es : List Edge} (hst : ∀ x, inD (.str x) st = some (.bool (m x))) (hN : NetOk n es) : ∃ fd, f__law_met [encN n es, st] = .ok (.dict fd) [] ∧ inD (.int 1) (.dict fd) = some (.bool (letB (grM m es))) := by
  obtain ⟨fd, P, h1, h2, h3⟩ := law_met_ok hst hN
  refine ⟨fd, h1, ?_⟩
  rw [inD_keys 1 h2, letB_of h3]
/-- the graph where one name's contacts are set -/
def grW (m : Str → Bool) (x : Str) (b : Bool) (es : List Edge) : Gr := es.map fun e => (e.a, e.b, if (e.x == x) = true then b else opn m e)
theorem grW_few {m : Str → Bool} {x : Str} {b : Bool} {n : Nat} {es : List Edge} (h : NetOk n es) : Few (grW m x b es) n := ⟨h.n1, fun e he => by
  obtain ⟨d, hd, rfl⟩ := List.mem_map.mp he
  exact h.pt d hd⟩
end PV
/-! sets of whole numbers: the strings' text again, by a program -/
namespace PV
open PySem PySem.Calls PySem.Spec PyProof.Rows L2
variable {X : Cx}
def SetZO (P : Program) (w : World) (a : Addr) (L : List Int) : HO := .ext fun h => SetK (PySem.intKind P w) h a L
def rSetZ (K : PySem.W.Frag) (P : Program) (w : World) : List V → Hp → VK → Prop := fun xs H Q => ∃ (a : Addr) (ss : List Int), xs = [V.ref a] ∧ (SqL K H a (ss.map V.int) ∨ SqT K H a (ss.map V.int)) ∧ ss.length + 1 < scanBound ∧
  ∀ (p : Addr) (L : List Int), H p = none → (∀ j, j ∈ L ↔ j ∈ ss) → L.length ≤ ss.length → Q (.ref p) (upd H p (SetZO P w p L))
theorem ints_val {P : Program} {w : World} {ss : List Int} {its : List Value} (rv : Vals (ss.map V.int) its) : its.toArray.size = ss.length ∧ ∀ (i : Nat) (v : Value), its.toArray[i]? = some v → ∃ k, ss[i]? = some k ∧ (PySem.intKind P w).is k v = true ∧ v.scannable = true := by
  refine ⟨by rw [List.size_toArray, ← rv.length, List.length_map], fun i v hv => ?_⟩
  have hi : i < ss.length := by
    have := (Array.getElem?_eq_some_iff.mp hv).1
    rw [List.size_toArray, ← rv.length, List.length_map] at this; exact this
  obtain ⟨u, h1, h2⟩ := rv.get (i := i) (x := .int ss[i]) (by rw [List.getElem?_map, List.getElem?_eq_getElem hi]; rfl)
  have e : v = u := by
    have : its[i]? = some v := by simpa using hv
    rw [h1] at this; exact (Option.some.inj this).symm
  subst e
  obtain ⟨t, rfl⟩ := h2
  exact ⟨ss[i], List.getElem?_eq_getElem hi, intKind_is _ _ _ _, rfl⟩
theorem cr_setZ (hc : X.calm = true) : CallR X (.type "set") (rSetZ X.K X.prog X.w) := by
  intro pins s σ H xs us Q I r ⟨a, ss, e, hq, hb, q⟩
  subst e
  rw [Vals.ref1 r]
  have hn : H s.heap.objs.size = none := I.hok.fresh (Nat.le_refl _)
  have fin : ∀ (h' : Heap) (tk : Nat) (L : List Int), SetK (PySem.intKind X.prog X.w) h' s.heap.objs.size L → (∀ j, j ∈ L ↔ j ∈ ss) → L.length ≤ ss.length → (∀ b o, s.heap.get? b = some o → h'.get? b = some o) → EP X pins σ Q (.ref s.heap.objs.size) { s with heap := h', toks := tk } := fun h' tk L R hm hl k => by
    have ob : ObjOk X.prog X.w (upd H s.heap.objs.size (SetZO X.prog X.w s.heap.objs.size L)) h' s.heap.objs.size (SetZO X.prog X.w s.heap.objs.size L) := by
      have ⟨o, _, _, _, ho, _⟩ := R
      exact ⟨R, ⟨o, ho⟩, fun h1 h2 p k => SetK.at p k⟩
    exact ⟨.ref s.heap.objs.size, upd H s.heap.objs.size (SetZO X.prog X.w s.heap.objs.size L), I.laid (t' := tk) k (Nat.le_refl _) ob, rfl, q _ L hn hm hl⟩
  rcases hq with hq | hq
  · obtain ⟨its, rv, pl, hz⟩ := I.list hq
    obtain ⟨z1, z2⟩ := ints_val (P := X.prog) (w := X.w) rv
    exact call_setK_list (I.ok.hd hc) pl.isList z1 hb z2 fin
  · obtain ⟨its, rv, pl, hz⟩ := I.tuple hq
    obtain ⟨z1, z2⟩ := ints_val (P := X.prog) (w := X.w) rv
    exact call_setK_tuple (I.ok.hd hc) pl z1 hb z2 fin

/-! each once, in order -/
def ddZ : List Int → List Int
  | [] => []
  | x :: r => if x ∈ r then ddZ r else x :: ddZ r
theorem ddZ_mem : ∀ {l : List Int} {j : Int}, j ∈ ddZ l ↔ j ∈ l
  | [], j => Iff.rfl
  | x :: r, j => by
    unfold ddZ
    split
    · rename_i h
      rw [ddZ_mem, List.mem_cons]
      exact ⟨.inr, fun z => z.elim (fun e => e ▸ h) id⟩
    · rw [List.mem_cons, List.mem_cons, ddZ_mem]
theorem ddZ_nd : ∀ l : List Int, (ddZ l).Nodup
  | [] => List.nodup_nil
  | x :: r => by
    unfold ddZ
    split
    · exact ddZ_nd r
    · rename_i h
      exact List.nodup_cons.mpr ⟨fun z => h (ddZ_mem.mp z), ddZ_nd r⟩
theorem leZ_eq : PySem.W.dataLe false PyData.int = leZ := by
  funext a b
  show (!PySem.W.dataLt (.int b) (.int a)) = _
  rw [lt_int]
  unfold leZ
  rw [Bool.eq_iff_iff]
  simp
theorem leZ_anti (a b : Int) (h1 : leZ a b = true) (h2 : leZ b a = true) : a = b := by
  have h1 := of_decide_eq_true h1
  have h2 := of_decide_eq_true h2
  omega
def onceZ (ss : List Int) : List Int := (ddZ ss).mergeSort leZ
theorem onceZ_of {L' ss : List Int} (hn : L'.Nodup) (hm : ∀ j, j ∈ L' ↔ j ∈ ss) : L'.mergeSort leZ = onceZ ss := by
  unfold onceZ
  have p : L'.Perm (ddZ ss) := (List.perm_ext_iff_of_nodup hn (ddZ_nd ss)).mpr fun j => (hm j).trans ddZ_mem.symm
  refine List.Perm.eq_of_pairwise (le := fun a b => leZ a b = true) (fun a b _ _ h1 h2 => leZ_anti a b h1 h2) (List.pairwise_mergeSort leZ_trans leZ_total _) (List.pairwise_mergeSort leZ_trans leZ_total _) ?_
  exact ((List.mergeSort_perm _ _).trans p).trans (List.mergeSort_perm _ _).symm
def rSortZO (P : Program) (w : World) : List V → Hp → VK → Prop := fun xs H Q => ∃ (a : Addr) (L : List Int), xs = [V.ref a] ∧ H a = some (SetZO P w a L) ∧ ∀ (p : Addr) (ss : List Int), H p = none → (∀ ss', (∀ j, j ∈ L ↔ j ∈ ss') → ss = onceZ ss') → Q (.ref p) (upd H p (.lst (ss.map V.int)))
theorem vals_intK {P : Program} {w : World} : ∀ {out : List Value} {ks : List Int}, PySem.W.EachIs (fun v k => (PySem.intKind P w).is k v = true) out ks → Vals (ks.map V.int) out
  | _, _, .nil => .nil
  | _, _, .cons h r => by
    obtain ⟨t, rfl⟩ := Value.isInt_shape h
    exact .cons ⟨t, rfl⟩ (vals_intK r)
theorem cr_sortZO (hc : X.calm = true) (hu : X.A.units + 64 < cLine) : CallR X (.builtin "sorted") (rSortZO X.prog X.w) := by
  intro pins s σ H xs us Q I r ⟨a, L, e, ha, q⟩
  subst e
  rw [Vals.ref1 r]
  have R : SetK (PySem.intKind X.prog X.w) s.heap a L := (I.hok a _ ha).1
  have hn : L.Nodup := by
    obtain ⟨_, _, _, _, _, _, _, _, nd, _⟩ := R
    exact nd
  have hlen : L.length ≤ sizeLine := by
    obtain ⟨_, es, _, _, _, _, _, g, _, hb, _⟩ := R
    rw [← g.length, Array.length_toList]; exact Nat.le_trans (Nat.le_of_lt hb) (by decide)
  refine sorted_setK (enc := PyData.int) R (I.ok.hd hc) (fun h v k hk => ?_) (fun _ _ => rfl) (fun k => ⟨nofun, nofun⟩) (fun k => by show X.A.units + 2 + 0 < cLine; omega) fun s' p out c ks' L' k g o hp hg he hks pm => ?_
  · obtain ⟨t, rfl⟩ := Value.isInt_shape hk
    exact ⟨[], .int k t⟩
  · have hv : Vals (ks'.map V.int) out := vals_intK he
    have hl2 : (ks'.map V.int).length ≤ sizeLine := by rw [List.length_map, hks, List.length_mergeSort, pm.length_eq]; exact hlen
    have hnp : H p = none := I.hok.fresh hp
    have J : Inv X pins σ (upd H p (.lst (ks'.map V.int))) { s with heap := s'.heap, gens := s'.gens, drawn := s'.drawn, toks := s'.toks } := I.call (ch := []) (Un.laid k hp hnp) (I.hok.laid k hp ⟨hl2, out, c, hv, hg⟩) (by rw [g]; exact I.bare) (fun _ z => nomatch z)
    have es' : s' = { s with heap := s'.heap, gens := s'.gens, drawn := s'.drawn, toks := s'.toks } := by
      cases s'; cases s; cases o; rfl
    rw [es']
    exact ⟨.ref p, _, J, rfl, q p ks' hnp fun ss' hm => by
      rw [hks, leZ_eq]
      exact onceZ_of (pm.nodup_iff.mpr hn) fun j => (pm.mem_iff).trans (hm j)⟩

/-! sorted(set(x)), texts -/
def ssZ (d : D) : Option D := (seqOf [d]).bind fun ds => (intsD ds).bind fun ss => if decide (ss.length + 1 < scanBound) = true then some (.list ((onceZ ss).map .int)) else none
theorem onceZ_mem {ss : List Int} {j : Int} : j ∈ onceZ ss ↔ j ∈ ss := by
  unfold onceZ
  rw [(List.mergeSort_perm _ _).mem_iff, ddZ_mem]
section
variable {G : Amb} {p : Bool} {l : Lvl} {a : Expr} {fa : M D} {pos pos2 p' p2 : Pos}
theorem j_ssetZ (hc : X.calm = true) (hu : X.A.units + 64 < cLine) (hg : Gl X "sorted") (hm : X.mg "sorted" = none) (hv : bootBuiltins "sorted" = some (.builtin "sorted")) (hg2 : Gl X "set") (hm2 : X.mg "set" = none) (hv2 : bootBuiltins "set" = some (.type "set")) (ha : J X G p l a fa)
    (h1 : starEach [a] X.env = (false, eval a X.env) :: starEach [] X.env := by rfl) (h2 : starEach [.Call (.Name "set" p2) [a] [] pos2] X.env = (false, eval (.Call (.Name "set" p2) [a] [] pos2) X.env) :: starEach [] X.env := by rfl)
    (q1 : (backTo pos2 (starEach [] X.env)).any (·.1) = false := by rfl) (q2 : (backTo pos (starEach [] X.env)).any (·.1) = false := by rfl) :
    J X G p .fre (.Call (.Name "sorted" p') [.Call (.Name "set" p2) [a] [] pos2] [] pos) (op1 ssZ fa) :=
  pe_mono (pe_callB (cr_sortZO hc hu) hg hm hv (pa_cons (pe_callTy (cr_setZ hc) hg2 hm2 hv2 (pa_cons ha pa_nil h1) (by decide) (by decide) h1 q1) pa_nil h2) (by decide) (by decide) h2 q2) fun σ H Q ⟨env, S, q⟩ => by
    refine ⟨env, S, (Ok.bind3 (p' := true) (by simp) q).mono fun da env1 H1 ⟨f1, q1⟩ v rv => ?_⟩
    obtain ⟨d, e, q2⟩ := q1.lft f1.st
    have rc := RpX.rpC (fun a z => S.dom a (f1.sub a z)) rv
    have key : ∀ (ds : List D) (b : Addr) (xs : List V), v = .ref b → (SqL X.K H1 b xs ∨ SqT X.K H1 b xs) → RpAll X.K H1 (G.R σ env1) xs ds → ((intsD ds).bind fun ss => if decide (ss.length + 1 < scanBound) = true then some (PyData.list ((onceZ ss).map .int)) else none) = some d →
        rSetZ X.K X.prog X.w [v] H1 fun x H2 => rSortZO X.prog X.w [x] H2 Q := by
      intro ds b xs hvb hs hr e
      subst hvb
      cases es : intsD ds with
      | none => rw [es] at e; cases e
      | some ss =>
        rw [es] at e
        obtain ⟨c, rfl⟩ := if_some (show (if decide (ss.length + 1 < scanBound) = true then some (PyData.list ((onceZ ss).map .int)) else none) = some d from e)
        have g1 := ints_rp hr es
        subst g1
        refine ⟨b, ss, rfl, hs, of_decide_eq_true c, fun p1 L n1 hm hl => ⟨p1, L, rfl, upd_same, fun p2 ks n2 hk => ?_⟩⟩
        have ek := hk ss hm
        subst ek
        have s1 : Same H1 (upd H1 p1 (SetZO X.prog X.w p1 L)) := same_new n1
        have s2 := s1.trans (same_new (o := .lst ((onceZ ss).map V.int)) n2)
        have n2' : H1 p2 = none := by
          cases z : H1 p2 with
          | none => rfl
          | some u => rw [s1 _ _ z] at n2; cases n2
        refine q2 _ s2 _ (f1.back (l := .fre) ⟨p2, _, rfl, n2', upd_same, ints_rpA _⟩)
    cases da with
    | list ds =>
      obtain ⟨b, xs, rfl, k1, k2⟩ := rc.list
      exact key ds b xs rfl (.inl (.inl k1)) k2 e
    | tuple ds =>
      obtain ⟨b, xs, rfl, k1, k2⟩ := rc.tuple
      exact key ds b xs rfl (.inr k1) k2 e
    | _ => cases e
end
end PV
/-! t[::-1], tuples too -/
namespace PV
open PySem PySem.Calls PySem.Spec PyProof.Rows L2
section
variable {prog : Program} {w : World} {A : Around} {E : Value → Shared → Prop} {s : Shared}
theorem places_rev (n : Nat) : Builtin.Slice.slicePlaces ((n : Int) - 1) (-1) (-1) = n := by
  unfold Builtin.Slice.slicePlaces
  have h1 : ¬ ((-1 : Int) > 0) := by omega
  simp only [h1, if_false, Int.neg_neg, Int.ediv_one]
  split <;> omega
theorem sliceApplied_rev {sl : Addr} {vl vu vs : Value} {n : Nat} {Q : Int × Int × Nat → Shared → Prop} (hs : s.heap.IsSliceOf sl vl vu vs) (pl : IsPart vl none) (pu : IsPart vu none) (ps : IsPart vs (some (-1)))
    (h : Q ((n : Int) - 1, -1, n) s) : wpAny (model prog w) A (Builtin.Slice.sliceApplied (.ref sl) (pure (n : Int))) Q E s := by
  obtain ⟨os, hos, hcs, hds⟩ := id hs
  unfold Builtin.Slice.sliceApplied Builtin.Slice.sliceFields
  refine wpAny_bind (wpAny_bind (wpAny_field hos hds (x := vl) rfl (wpAny_bind (wpAny_field hos hds (x := vu) rfl (wpAny_bind (wpAny_field hos hds (x := vs) rfl (wpAny_pure ?_)))))))
  refine wpAny_bind (HT.slicePart_ ps ?_)
  show wpAny _ _ (if ((-1 : Int) == 0) = true then _ else _) _ _ s
  rw [if_neg (by decide)]
  refine wpAny_bind (HT.slicePart_ pl (wpAny_bind (HT.slicePart_ pu (wpAny_bind (wpAny_pure ?_)))))
  show wpAny _ _ (pure ((n : Int) - 1, (-1 : Int), Builtin.Slice.slicePlaces ((n : Int) - 1) (-1) (-1))) _ _ s
  rw [places_rev]
  exact wpAny_pure h
theorem pick_rev (xs : Array Value) : ((List.range xs.size).filterMap fun (m : Nat) => xs[((xs.size : Int) - 1 + (m : Int) * (-1)).toNat]?).toArray = xs.toList.reverse.toArray := by
  have e : (fun (m : Nat) => xs[((xs.size : Int) - 1 + (m : Int) * (-1)).toNat]?) = (xs[·]?) ∘ fun m => xs.size - 1 - m := by
    funext m
    have : ((xs.size : Int) - 1 + (m : Int) * (-1)).toNat = xs.size - 1 - m := by omega
    rw [this]; rfl
  rw [e, ← List.filterMap_map, PySem.W.krv_range, List.filterMap_reverse, PySem.W.krv_all]
theorem getItem_tuple_rev {t sl : Addr} {items : Array Value} {vl vu vs : Value} {Q : Value → Shared → Prop} (ht : IsTup s.heap t items) (hs : s.heap.IsSliceOf sl vl vu vs) (pl : IsPart vl none) (pu : IsPart vu none) (ps : IsPart vs (some (-1)))
    (h : Q (.ref s.heap.objs.size) { s with heap := s.heap.push { cls := .type "tuple", data := .seq items.toList.reverse.toArray } })
    (hsz : items.size ≤ sizeLine) : wpAny (model prog w) A (getItem (.ref t) (.ref sl)) Q E s := by
  have htake : sizeOk (.seq items.toList.reverse.toArray) := by
    show items.toList.reverse.toArray.size ≤ sizeLine
    rw [List.size_toArray, List.length_reverse, Array.length_toList]
    exact hsz
  obtain ⟨os, hos, hcs, hds⟩ := id hs
  have hTs : s.TypeIs (.ref sl) "slice" := ⟨os, hos, hcs⟩
  unfold getItem
  try with_reducible refine wpAny_holding ?_
  first | refine wpAny_bind (wpAny_pure ?_) | skip
  refine wpAny_bind (wpAny_sequenceKey ht.typeIs (by decide) ?_)
  refine wpAny_bind (wpAny_callSpecial?_slot (name := Str.ofString "__getitem__") ht.typeIs PyProof.Rows.slot_tuple_getitem
    (wpAny_call_entry PyProof.Rows.slot_tuple_getitem ht.typeIs entry_tuple_getitem ?_ (args_tuple_getitem _ _)))
  show wpAny _ _ (Builtin.Tuple.tupleItemsOf (.ref t) >>= _) _ _ s
  refine wpAny_bind (tupleItemsOf_ ht ?_)
  refine wpAny_bind (wpAny_typeOf hTs ?_)
  rw [if_pos (by decide)]
  refine wpAny_bind (sliceApplied_rev hs pl pu ps ?_)
  have hno : ¬ ((((items.size : Int) - 1) == 0 && (-1 : Int) == 1 && items.size == items.size) = true) := by
    intro q
    rw [Bool.and_eq_true, Bool.and_eq_true] at q
    exact absurd q.1.2 (by decide)
  show wpAny _ _ (if (((items.size : Int) - 1) == 0 && (-1 : Int) == 1 && items.size == items.size) = true then _ else _) _ _ s
  rw [if_neg hno, pick_rev]
  first
    | exact wpAny_bind (m := Builtin.Tuple.tupleExact _) (wpAny_newObj_type (wpAny_pure ⟨_, rfl, wpAny_pure h⟩) htake)
    | exact wpAny_bind (m := Builtin.Tuple.tupleExact _) (wpAny_newObj_type (wpAny_bind (wpAny_pure (wpAny_pure ⟨_, rfl, wpAny_pure h⟩))) htake)
    | exact wpAny_bind (wpAny_bind (m := Builtin.Tuple.tupleExact _) (wpAny_newObj_type (wpAny_pure (wpAny_pure ⟨_, rfl, wpAny_pure h⟩)) htake))
    | exact wpAny_bind (wpAny_bind (m := Builtin.Tuple.tupleExact _) (wpAny_newObj_type (wpAny_pure ⟨_, rfl, wpAny_pure h⟩) htake))
end
section
variable {X : Cx}
def tRevA (K : PySem.W.Frag) (te : TE) : TE := fun σ H Q => te σ H fun x H1 => ∃ a xs, x = .ref a ∧ ((SqL K H1 a xs ∧ ∀ p, H1 p = none → Q (.ref p) (upd H1 p (.lst xs.reverse))) ∨ (SqT K H1 a xs ∧ ∀ p, H1 p = none → Q (.ref p) (upd H1 p (.tup xs.reverse))))
theorem pe_revA {e : Expr} {te : TE} {k : Nat} {p1 p2 p3 pos : Pos} (he : PE X e te) : PE X (.Subscript e (.Slice none none (some (.UnaryOp .USub (.Constant (.int 1) k p1) p2)) p3) pos) (tRevA X.K te) := by
  refine ⟨fun pins s σ H Q I h => ?_⟩
  refine Subscript_ (thn (he.run pins s σ H _ I h) fun v s1 ⟨x, H1, I1, r1, q1⟩ => ?_)
  obtain ⟨a, xs, ex, q1⟩ := q1
  subst ex
  cases r1
  have hst : PO X (some (.UnaryOp .USub (.Constant (.int 1) k p1) p2)) (tPart (tUn (rU fun i => .int (-i)) (tC (.int 1)))) := po_some (pe_un un_neg pe_int)
  refine wpAny_Slice (thn (po_none.run pins s1 σ H1 (fun o H2 => o = none ∧ H2 = H1) I1 ⟨rfl, rfl⟩) fun vl s2 ⟨l, H2, I2, pl, el, e2⟩ => ?_)
  subst el e2
  refine thn (po_none.run pins s2 σ H2 (fun o H3 => o = none ∧ H3 = H2) I2 ⟨rfl, rfl⟩) fun vu s3 ⟨u, H3, I3, pu, eu, e3⟩ => ?_
  subst eu e3
  refine thn (hst.run pins s3 σ H3 (fun o H4 => o = some (-1) ∧ H4 = H3) I3 ⟨1, rfl, -1, rfl, rfl, rfl⟩) fun vs s4 ⟨o, H4, I4, ps, eo, e4⟩ => ?_
  subst eo e4
  have I5 : Inv X pins σ H4 { s4 with heap := s4.heap.push { cls := .type "slice", data := .fields #[vl, vu, vs] } } := I4.kept (t' := s4.toks) fun b ob q => Heap.get?_push_of_some _ q
  show wpAny (model X.prog X.w) X.A (subscriptTail e (.Slice none none (some (.UnaryOp .USub (.Constant (.int 1) k p1) p2)) p3) (.ref a) (.ref s4.heap.objs.size)) (EP X pins σ Q) X.xe { s4 with heap := s4.heap.push { cls := .type "slice", data := .fields #[vl, vu, vs] } }
  rcases q1 with ⟨hx, q⟩ | ⟨hx, q⟩
  · obtain ⟨its, r, ht, hz⟩ := I5.list hx
    have hlen := r.length
    refine tail_any (ops := [.ref a, .ref s4.heap.objs.size]) ht.isList.typeIs (PySem.slot_list_getitem.lookup) ?_ (by with_unfolding_all rfl)
    refine wpAny_getItem_list_slice ht.isList (Heap.IsSliceOf.new _ vl vu vs) pl pu ps (by decide) ?_ (by rw [List.size_toArray]; omega)
    rw [PySem.W.krv_pick]
    refine ⟨.ref _, _, I5.laid (t' := s4.toks) (o := .lst xs.reverse) (fun b ob q => Heap.get?_push_of_some _ q) (Nat.le_refl _) ?_, rfl, q _ (I5.hok.fresh (Nat.le_refl _))⟩
    exact ⟨by rw [List.length_reverse]; exact hz, _, 0, r.reverse, Heap.get?_push_size _ rfl⟩
  · obtain ⟨its, r, ht, hz⟩ := I5.tuple hx
    have hlen := r.length
    refine tail_any (ops := [.ref a, .ref s4.heap.objs.size]) ht.typeIs PyProof.Rows.slot_tuple_getitem.lookup ?_ (by with_unfolding_all rfl)
    refine getItem_tuple_rev ht (Heap.IsSliceOf.new _ vl vu vs) pl pu ps ?_ (by rw [List.size_toArray]; omega)
    refine ⟨.ref _, _, I5.laid (t' := s4.toks) (o := .tup xs.reverse) (fun b ob q => Heap.get?_push_of_some _ q) (Nat.le_refl _) ?_, rfl, q _ (I5.hok.fresh (Nat.le_refl _))⟩
    exact ⟨by rw [List.length_reverse]; exact hz, _, r.reverse, _, Heap.get?_push_size _ rfl, rfl, 0, rfl⟩
end
def revE : D → Option D
  | .list ds => some (.list ds.reverse)
  | .tuple ds => some (.tuple ds.reverse)
  | _ => none
section
variable {X : Cx} {G : Amb} {pa : Bool} {la : Lvl} {a : Expr} {fa : M D} {pos p2 p3 p4 : Pos}
theorem j_revE {k : Nat} (ha : J X G pa la a fa) : J X G pa .fre (.Subscript a (.Slice none none (some (.UnaryOp .USub (.Constant (.int 1) k p2) p3)) p4) pos) (op1 revE fa) := pe_mono (pe_revA ha) fun σ H Q ⟨env, S, q⟩ => by
  refine ⟨env, S, (Ok.bind3 (p' := true) (by simp) q).mono fun da env1 H1 ⟨f1, q1⟩ v rv => ?_⟩
  obtain ⟨d, e, q2⟩ := q1.lft f1.st
  have rc := RpX.rpC (fun a z => S.dom a (f1.sub a z)) rv
  cases da with
  | list ds =>
    cases e
    obtain ⟨a, xs, rfl, h1, h2⟩ := rc.list
    exact ⟨a, xs, rfl, .inl ⟨.inl h1, fun p hn => q2 _ (same_new hn) _ (f1.back (l := .fre) ⟨p, _, rfl, hn, upd_same, h2.reverse.new hn⟩)⟩⟩
  | tuple ds =>
    cases e
    obtain ⟨a, xs, rfl, h1, h2⟩ := rc.tuple
    exact ⟨a, xs, rfl, .inr ⟨h1, fun p hn => q2 _ (same_new hn) _ (f1.back (l := .fre) (.tup (SqT.of upd_same) (h2.reverse.fwd (.of_same (same_new hn)))))⟩⟩
  | _ => cases e
end
end PV
/-! lets and the law's walk with the number of steps: PVzy, PVzz and PVzza again, by a program -/
namespace PV
open PySem PySem.Spec PyProof.Rows
inductive RchN (G : Gr) : Nat → Int → Prop
  | zero : RchN G 0 0
  | on {k : Nat} {p q a b : Int} : RchN G k p → (a, b, true) ∈ G → (p = a ∧ q = b ∨ p = b ∧ q = a) → RchN G (k + 1) q
theorem RchN.rch {G : Gr} {k : Nat} {p : Int} (h : RchN G k p) : Rch G p := by
  induction h with
  | zero => exact .zero
  | on _ he hq ih => exact .on ih he hq
theorem rch_n {G : Gr} {p : Int} (h : Rch G p) : ∃ k, RchN G k p := by
  induction h with
  | zero => exact ⟨0, .zero⟩
  | on _ he hq ih =>
    obtain ⟨k, h⟩ := ih
    exact ⟨k + 1, .on h he hq⟩
inductive Path (m : Str → Bool) (es : List Edge) : List D → Int → Prop
  | nil : Path m es [] 0
  | snoc {ws : List D} {p q : Int} {k : Nat} {e : Edge} : Path m es ws p → es[k]? = some e → opn m e = true → (p = e.a ∧ q = e.b ∨ p = e.b ∧ q = e.a) → Path m es (ws ++ [.int (0 + (k : Int))]) q
theorem Path.walk {m : Str → Bool} {es : List Edge} {ws : List D} {p : Int} (h : Path m es ws p) : RchN (grM m es) ws.length p := by
  induction h with
  | nil => exact .zero
  | snoc _ he ho hq ih =>
    rw [List.length_append]
    exact .on ih (List.mem_map.mpr ⟨_, List.mem_of_getElem? he, by rw [ho]⟩) hq
structure LJ (m : Str → Bool) (es : List Edge) (n : Nat) (R : List (Int × List D)) (met : List (D × D)) : Prop where
  keys : Keys met (R.map (·.1))
  nd : (R.map (·.1)).Nodup
  rch : ∀ p ∈ R.map (·.1), Rch (grM m es) p
  zero : (0 : Int) ∈ R.map (·.1)
  way : ∀ r ∈ R, r.2.length ≤ R.length
  root : ((0 : Int), ([] : List D)) ∈ R
  path : ∀ r ∈ R, Path m es r.2 r.1
theorem LJ.len {m : Str → Bool} {es : List Edge} {n : Nat} {R : List (Int × List D)} {met : List (D × D)} (h : LJ m es n R met) (f : Few (grM m es) n) : R.length ≤ n := by
  have := few_len h.nd fun p hp => rch_few f (h.rch p hp)
  rwa [List.length_map] at this
section
variable {m : Str → Bool} {st : D} {n : Nat} {es : List Edge}
theorem lets_inD (hst : ∀ x, inD (.str x) st = some (.bool (m x))) (hN : NetOk n es) {R : List (Int × List D)} {met : List (D × D)} (h : LJ m es n R met) {p : Int} {ws : List D} {at' : Nat} (hp : p ∈ R.map (·.1)) (hw : ws.length ≤ R.length) (hpa : Path m es ws p) :
    ∃ R' met', q_lets_8 [.shr (encN n es), .shr st, .own (.list (R.map encW)), .own (.dict met), .shr (.int at'), .shr (.int p), .shr (.tuple ws), .emp, .emp, .emp, .emp, .emp] = .nx [.shr (encN n es), .shr st, .own (.list (R'.map encW)), .own (.dict met'), .shr (.int at'), .shr (.int p), .shr (.tuple ws), .emp, .emp, .emp, .emp, .emp] ∧
      (∃ N, R' = R ++ N ∧ ∀ r ∈ N, r.2.length = ws.length + 1) ∧ LJ m es n R' met' ∧ Into (grM m es) (R'.map (·.1)) p := by
  have hf := hN.few m
  have key : ∃ e2, q_lets_8 [.shr (encN n es), .shr st, .own (.list (R.map encW)), .own (.dict met), .shr (.int at'), .shr (.int p), .shr (.tuple ws), .emp, .emp, .emp, .emp, .emp] = .nx (wip [7, 8, 9, 10, 11] e2) ∧
      ∃ R' met' c7 c8 c9 c10 c11, e2 = [.shr (encN n es), .shr st, .own (.list (R'.map encW)), .own (.dict met'), .shr (.int at'), .shr (.int p), .shr (.tuple ws), c7, c8, c9, c10, c11] ∧ (∃ N, R' = R ++ N ∧ ∀ r ∈ N, r.2.length = ws.length + 1) ∧ LJ m es n R' met' ∧
        ∀ (j : Nat) (e : Edge), j < (rngD 0 es.length).length → es[j]? = some e → opn m e = true → (e.a = p → e.b ∈ R'.map (·.1)) ∧ (e.b = p → e.a ∈ R'.map (·.1)) := by
    refine frS_nx (t := .nm 7) (dead := [7, 8, 9, 10, 11]) (m := rngI1 (consA (callD lenD (consA (op2 ixD (rdS 0) (ret (.int 1))) (nilA))) (nilA))) (ds := rngD 0 es.length) (fun i e2 => ∃ R' met' c7 c8 c9 c10 c11, e2 = [.shr (encN n es), .shr st, .own (.list (R'.map encW)), .own (.dict met'), .shr (.int at'), .shr (.int p), .shr (.tuple ws), c7, c8, c9, c10, c11] ∧ (∃ N, R' = R ++ N ∧ ∀ r ∈ N, r.2.length = ws.length + 1) ∧ LJ m es n R' met' ∧
        ∀ (j : Nat) (e : Edge), j < i → es[j]? = some e → opn m e = true → (e.a = p → e.b ∈ R'.map (·.1)) ∧ (e.b = p → e.a ∈ R'.map (·.1)))
      (e1 := [.shr (encN n es), .shr st, .own (.list (R.map encW)), .own (.dict met), .shr (.int at'), .shr (.int p), .shr (.tuple ws), .emp, .emp, .emp, .emp, .emp]) (rngI1_ok (consA_ok (callD_ok (consA_ok (op2_ok (rdS_ok rfl) rfl (net_1 n es)) nilA_ok) (net_len es)) nilA_ok) (by omega) (by have := hN.len; omega))
      ⟨R, met, _, _, _, _, _, rfl, ⟨[], (List.append_nil R).symm, fun r hr => (by cases hr)⟩, h, fun j e hj => absurd hj (Nat.not_lt_zero j)⟩ fun i d e hd hI => ?_
    obtain ⟨R', met', c7, c8, c9, c10, c11, rfl, ⟨N, hRN, hNl⟩, hL, hdone⟩ := hI
    obtain ⟨rfl, hi⟩ := rngD_at hd
    have hi' : i < es.length := by omega
    have hei : es[i]? = some es[i] := List.getElem?_eq_getElem hi'
    generalize es[i] = e at hei
    have hmem : (e.a, e.b, opn m e) ∈ grM m es := List.mem_map.mpr ⟨e, List.mem_of_getElem? hei, rfl⟩
    have hpR : p ∈ R'.map (·.1) := by rw [hRN, List.map_append]; exact List.mem_append_left _ hp
    have hRl := hL.len hf
    have hn2 := hN.n2
    have hwl : ws.length ≤ R'.length := by rw [hRN, List.length_append]; omega
    have s9 : q_lets_9 [.shr (encN n es), .shr st, .own (.list (R'.map encW)), .own (.dict met'), .shr (.int at'), .shr (.int p), .shr (.tuple ws), .shr (.int (0 + i)), .emp, .emp, .emp, .emp] = .nx [.shr (encN n es), .shr st, .own (.list (R'.map encW)), .own (.dict met'), .shr (.int at'), .shr (.int p), .shr (.tuple ws), .shr (.int (0 + i)), .shr (.int e.a), .shr (.int e.b), .shr (.tuple [.str (onS e.on), .str e.x]), .emp] := by
      exact asgS_ok (d := encE e) (op2_ok (op2_ok (rdS_ok rfl) rfl (net_1 n es)) (rdS_ok rfl) (net_at hei)) rfl
    have ct : ∀ c, tru (cal (f_contact_lets) (consA (rdS 10) (consA (rdS 1) (nilA)))) [.shr (encN n es), .shr st, .own (.list (R'.map encW)), .own (.dict met'), .shr (.int at'), .shr (.int p), .shr (.tuple ws), .shr (.int (0 + i)), .shr (.int e.a), .shr (.int e.b), .shr (.tuple [.str (onS e.on), .str e.x]), c] = .ok (opn m e) [.shr (encN n es), .shr st, .own (.list (R'.map encW)), .own (.dict met'), .shr (.int at'), .shr (.int p), .shr (.tuple ws), .shr (.int (0 + i)), .shr (.int e.a), .shr (.int e.b), .shr (.tuple [.str (onS e.on), .str e.x]), c] := fun c =>
      tru_ok (cal_ok (consA_ok (rdS_ok rfl) (consA_ok (rdS_ok rfl) nilA_ok)) (clets_ok hst e.on e.x)) rfl
    have ct2 : tcm (op2 inD (rdS 5) (tupE (consA (rdS 8) (consA (rdS 9) (nilA))))) [.shr (encN n es), .shr st, .own (.list (R'.map encW)), .own (.dict met'), .shr (.int at'), .shr (.int p), .shr (.tuple ws), .shr (.int (0 + i)), .shr (.int e.a), .shr (.int e.b), .shr (.tuple [.str (onS e.on), .str e.x]), .emp] = .ok (e.a == p || (e.b == p || false)) [.shr (encN n es), .shr st, .own (.list (R'.map encW)), .own (.dict met'), .shr (.int at'), .shr (.int p), .shr (.tuple ws), .shr (.int (0 + i)), .shr (.int e.a), .shr (.int e.b), .shr (.tuple [.str (onS e.on), .str e.x]), .emp] :=
      tcm_ok (op2_ok (rdS_ok rfl) (tupE_ok (consA_ok (rdS_ok rfl) (consA_ok (rdS_ok rfl) nilA_ok)) (by show 2 ≤ sizeLine; decide)) (in_two _ _ _))
    have old : ∀ (R'' : List (Int × List D)), (∀ x, x ∈ R'.map (·.1) → x ∈ R''.map (·.1)) → (opn m e = true → (e.a = p → e.b ∈ R''.map (·.1)) ∧ (e.b = p → e.a ∈ R''.map (·.1))) →
        ∀ (j : Nat) (e' : Edge), j < i + 1 → es[j]? = some e' → opn m e' = true → (e'.a = p → e'.b ∈ R''.map (·.1)) ∧ (e'.b = p → e'.a ∈ R''.map (·.1)) := fun R'' hs hnew j e' hj hje ho => by
      rcases Nat.lt_succ_iff_lt_or_eq.mp hj with q | q
      · obtain ⟨k1, k2⟩ := hdone j e' q hje ho
        exact ⟨fun z => hs _ (k1 z), fun z => hs _ (k2 z)⟩
      · subst q
        rw [hei] at hje
        cases hje
        exact hnew ho
    refine ⟨[.shr (encN n es), .shr st, .own (.list (R'.map encW)), .own (.dict met'), .shr (.int at'), .shr (.int p), .shr (.tuple ws), .shr (.int (0 + i)), .emp, .emp, .emp, .emp], ?_⟩
    cases ho : opn m e with
    | false =>
      rw [ho] at ct
      exact ⟨_, rfl, Eq.trans (sq_nx s9) (Eq.trans (ifS_f (andT_f (ct _))) rfl), R', met', _, _, _, _, _, rfl, ⟨N, hRN, hNl⟩, hL, old R' (fun x z => z) fun z => by rw [ho] at z; cases z⟩
    | true =>
      rw [ho] at ct hmem
      cases hab : (e.a == p || (e.b == p || false)) with
      | false =>
        rw [hab] at ct2
        have hne : e.a ≠ p ∧ e.b ≠ p := by simpa using hab
        exact ⟨_, rfl, Eq.trans (sq_nx s9) (Eq.trans (ifS_f (Eq.trans (andT_t (ct _)) ct2)) rfl), R', met', _, _, _, _, _, rfl, ⟨N, hRN, hNl⟩, hL, old R' (fun x z => z) fun _ => ⟨fun z => absurd z hne.1, fun z => absurd z hne.2⟩⟩
      | true =>
        rw [hab] at ct2
        -- the other end
        obtain ⟨q, hq1, hq2⟩ : ∃ q, (if (p == e.a) = true then e.b else e.a) = q ∧ ((p = e.a ∧ q = e.b) ∨ (p = e.b ∧ q = e.a)) := by
          by_cases c : (p == e.a) = true
          · exact ⟨e.b, by rw [if_pos c], .inl ⟨eq_of_beq c, rfl⟩⟩
          · refine ⟨e.a, by rw [if_neg c], .inr ⟨?_, rfl⟩⟩
            have c1 : ¬ p = e.a := fun z => c (by rw [z]; exact beq_self_eq_true _)
            have c2 : e.a = p ∨ e.b = p := by simpa using hab
            rcases c2 with z | z
            · exact absurd z.symm c1
            · exact z.symm
        have s11 : q_lets_11 [.shr (encN n es), .shr st, .own (.list (R'.map encW)), .own (.dict met'), .shr (.int at'), .shr (.int p), .shr (.tuple ws), .shr (.int (0 + i)), .shr (.int e.a), .shr (.int e.b), .shr (.tuple [.str (onS e.on), .str e.x]), .emp] = .nx [.shr (encN n es), .shr st, .own (.list (R'.map encW)), .own (.dict met'), .shr (.int at'), .shr (.int p), .shr (.tuple ws), .shr (.int (0 + i)), .shr (.int e.a), .shr (.int e.b), .shr (.tuple [.str (onS e.on), .str e.x]), .shr (.int q)] := by
          rw [← hq1]
          have c : tcm (op2 eqD (rdS 5) (rdS 8)) [.shr (encN n es), .shr st, .own (.list (R'.map encW)), .own (.dict met'), .shr (.int at'), .shr (.int p), .shr (.tuple ws), .shr (.int (0 + i)), .shr (.int e.a), .shr (.int e.b), .shr (.tuple [.str (onS e.on), .str e.x]), .emp] = .ok (p == e.a) [.shr (encN n es), .shr st, .own (.list (R'.map encW)), .own (.dict met'), .shr (.int at'), .shr (.int p), .shr (.tuple ws), .shr (.int (0 + i)), .shr (.int e.a), .shr (.int e.b), .shr (.tuple [.str (onS e.on), .str e.x]), .emp] := rfl
          by_cases z : (p == e.a) = true
          · rw [z] at c
            rw [if_pos z]
            exact setS_ok (Eq.trans (ifE_t c) (rdS_ok rfl))
          · have z' : (p == e.a) = false := by simpa using z
            rw [z'] at c
            rw [if_neg z]
            exact setS_ok (Eq.trans (ifE_f c) (rdS_ok rfl))
        have rq : Rch (grM m es) q := .on (hL.rch p hpR) hmem hq2
        have c12 : tcm (op2 ninD (rdS 11) (rdB 3)) [.shr (encN n es), .shr st, .own (.list (R'.map encW)), .own (.dict met'), .shr (.int at'), .shr (.int p), .shr (.tuple ws), .shr (.int (0 + i)), .shr (.int e.a), .shr (.int e.b), .shr (.tuple [.str (onS e.on), .str e.x]), .shr (.int q)] = .ok (!(R'.map (·.1)).contains q) [.shr (encN n es), .shr st, .own (.list (R'.map encW)), .own (.dict met'), .shr (.int at'), .shr (.int p), .shr (.tuple ws), .shr (.int (0 + i)), .shr (.int e.a), .shr (.int e.b), .shr (.tuple [.str (onS e.on), .str e.x]), .shr (.int q)] :=
          tcm_ok (op2_ok (rdS_ok rfl) (rdB_ok rfl) (ninD_keys q hL.keys))
        have new : ∀ (R'' : List (Int × List D)), q ∈ R''.map (·.1) → (∀ x, x ∈ R'.map (·.1) → x ∈ R''.map (·.1)) → (e.a = p → e.b ∈ R''.map (·.1)) ∧ (e.b = p → e.a ∈ R''.map (·.1)) := fun R'' hq hs => by
          rcases hq2 with ⟨z1, z2⟩ | ⟨z1, z2⟩
          · refine ⟨fun _ => by rw [← z2]; exact hq, fun z => ?_⟩
            rw [← z1]; exact hs _ hpR
          · refine ⟨fun z => ?_, fun _ => by rw [← z2]; exact hq⟩
            rw [← z1]; exact hs _ hpR
        cases hcq : (R'.map (·.1)).contains q with
        | true =>
          rw [hcq] at c12
          have hqm : q ∈ R'.map (·.1) := by simpa using hcq
          exact ⟨_, rfl, Eq.trans (sq_nx s9) (Eq.trans (ifS_t (Eq.trans (andT_t (ct _)) ct2)) (Eq.trans (sq_nx s11) (Eq.trans (ifS_f c12) rfl))), R', met', _, _, _, _, _, rfl, ⟨N, hRN, hNl⟩, hL, old R' (fun x z => z) fun _ => new R' hqm fun x z => z⟩
        | false =>
          rw [hcq] at c12
          have s13 : q_lets_13 [.shr (encN n es), .shr st, .own (.list (R'.map encW)), .own (.dict met'), .shr (.int at'), .shr (.int p), .shr (.tuple ws), .shr (.int (0 + i)), .shr (.int e.a), .shr (.int e.b), .shr (.tuple [.str (onS e.on), .str e.x]), .shr (.int q)] = .nx [.shr (encN n es), .shr st, .own (.list (R'.map encW)), .own (.dict (putE met' (.int q) (.bool true))), .shr (.int at'), .shr (.int p), .shr (.tuple ws), .shr (.int (0 + i)), .shr (.int e.a), .shr (.int e.b), .shr (.tuple [.str (onS e.on), .str e.x]), .shr (.int q)] :=
            putS_ok (v := .bool true) (i := .int q) rfl rfl (rdS_ok rfl) (by
              have hkl := keys_len hL.keys
              rw [List.length_map] at hkl
              show (if (isKey (.int q) && decide (met'.length < sizeLine)) = true then some (PyData.dict (putE met' (.int q) (.bool true))) else none) = _
              rw [if_pos (by rw [decide_eq_true (by unfold sizeLine; omega)]; rfl)])
          have s14 : q_lets_14 [.shr (encN n es), .shr st, .own (.list (R'.map encW)), .own (.dict (putE met' (.int q) (.bool true))), .shr (.int at'), .shr (.int p), .shr (.tuple ws), .shr (.int (0 + i)), .shr (.int e.a), .shr (.int e.b), .shr (.tuple [.str (onS e.on), .str e.x]), .shr (.int q)] = .nx [.shr (encN n es), .shr st, .own (.list ((R' ++ [(q, ws ++ [PyData.int (0 + i)])]).map encW)), .own (.dict (putE met' (.int q) (.bool true))), .shr (.int at'), .shr (.int p), .shr (.tuple ws), .shr (.int (0 + i)), .shr (.int e.a), .shr (.int e.b), .shr (.tuple [.str (onS e.on), .str e.x]), .shr (.int q)] := by
            refine Eq.trans (appS_ok (v := encW (q, ws ++ [PyData.int (0 + i)])) rfl (tupE_ok (consA_ok (rdS_ok rfl) (consA_ok (op2_ok (rdS_ok rfl) (tupE_ok (consA_ok (rdS_ok rfl) nilA_ok) (by show 1 ≤ sizeLine; decide)) (z := .tuple (ws ++ [PyData.int (0 + i)])) ?_) nilA_ok)) (by show 2 ≤ sizeLine; decide)) ?_) ?_
            · show (if _ then some _ else none) = _
              rw [if_pos (by show ws.length + 1 ≤ sizeLine; unfold sizeLine; omega)]
            · rw [List.length_map]; unfold sizeLine; omega
            · rw [List.map_append]; rfl
          have hmap : (R' ++ [(q, ws ++ [PyData.int (0 + i)])]).map (·.1) = R'.map (·.1) ++ [q] := by rw [List.map_append]; rfl
          have hL2 : LJ m es n (R' ++ [(q, ws ++ [PyData.int (0 + i)])]) (putE met' (.int q) (.bool true)) := {
            keys := by rw [hmap]; exact put_key _ hL.keys hcq
            nd := by
              rw [hmap]
              refine List.nodup_append.mpr ⟨hL.nd, by simp, fun a ha b hb e => ?_⟩
              rw [List.mem_singleton.mp hb] at e
              subst e
              have : (R'.map (·.1)).contains a = true := by simpa using ha
              rw [hcq] at this; cases this
            rch := fun x hx => by
              rw [hmap] at hx
              rcases List.mem_append.mp hx with z | z
              · exact hL.rch x z
              · rw [List.mem_singleton.mp z]; exact rq
            zero := by rw [hmap]; exact List.mem_append_left _ hL.zero
            way := fun r hr => by
              rw [List.length_append, List.length_singleton]
              rcases List.mem_append.mp hr with z | z
              · have := hL.way r z
                omega
              · rw [List.mem_singleton.mp z]
                show (ws ++ [_]).length ≤ _
                rw [List.length_append, List.length_singleton]
                omega
            root := List.mem_append_left _ hL.root
            path := fun r hr => by
              rcases List.mem_append.mp hr with z | z
              · exact hL.path r z
              · rw [List.mem_singleton.mp z]
                exact .snoc hpa hei ho hq2 }
          exact ⟨_, rfl, Eq.trans (sq_nx s9) (Eq.trans (ifS_t (Eq.trans (andT_t (ct _)) ct2)) (Eq.trans (sq_nx s11) (Eq.trans (ifS_t c12) (Eq.trans (sq_nx s13) s14)))), _, _, _, _, _, _, _, rfl, ⟨N ++ [(q, ws ++ [PyData.int (0 + i)])], by rw [hRN, List.append_assoc], fun r hr => by
            rcases List.mem_append.mp hr with z | z
            · exact hNl r z
            · rw [List.mem_singleton.mp z]
              show (ws ++ [_]).length = _
              rw [List.length_append]; rfl⟩, hL2, old _ (fun x z => by rw [hmap]; exact List.mem_append_left _ z) fun _ => new _ (by rw [hmap]; simp) fun x z => by rw [hmap]; exact List.mem_append_left _ z⟩
  obtain ⟨e2, s8, R', met', c7, c8, c9, c10, c11, rfl, hRN, hL, hdone⟩ := key
  refine ⟨R', met', s8, hRN, hL, fun a b he => ?_⟩
  obtain ⟨e, hm, hab⟩ := List.mem_map.mp he
  have h1 : e.a = a := congrArg Prod.fst hab
  have h2 : e.b = b := congrArg (fun z => z.2.1) hab
  have h3 : opn m e = true := congrArg (fun z => z.2.2) hab
  obtain ⟨j, hj⟩ := List.getElem?_of_mem hm
  have hjl : j < (rngD 0 es.length).length := by
    rw [rngD_len]
    have := lt_of_some hj
    omega
  have := hdone j e hjl hj h3
  rw [h1, h2] at this
  exact this
end
/-- the neighbours of a row are in the rows, at most one step further -/
def NearL (G : Gr) (R : List (Int × List D)) (r : Int × List D) : Prop := ∀ a b, (a, b, true) ∈ G → (a = r.1 → ∃ r' ∈ R, r'.1 = b ∧ r'.2.length ≤ r.2.length + 1) ∧ (b = r.1 → ∃ r' ∈ R, r'.1 = a ∧ r'.2.length ≤ r.2.length + 1)
theorem NearL.grow {G : Gr} {R R' : List (Int × List D)} {r : Int × List D} (h : NearL G R r) (hs : ∀ x ∈ R, x ∈ R') : NearL G R' r := fun a b he => ⟨fun z => by
  obtain ⟨r', h1, h2⟩ := (h a b he).1 z
  exact ⟨r', hs _ h1, h2⟩, fun z => by
  obtain ⟨r', h1, h2⟩ := (h a b he).2 z
  exact ⟨r', hs _ h1, h2⟩⟩
theorem NearL.into {G : Gr} {R : List (Int × List D)} {r : Int × List D} (h : NearL G R r) : Into G (R.map (·.1)) r.1 := fun a b he => ⟨fun z => by
  obtain ⟨r', h1, h2, _⟩ := (h a b he).1 z
  exact List.mem_map.mpr ⟨r', h1, h2⟩, fun z => by
  obtain ⟨r', h1, h2, _⟩ := (h a b he).2 z
  exact List.mem_map.mpr ⟨r', h1, h2⟩⟩
theorem near_of {G : Gr} {R : List (Int × List D)} {p : Int} {ws : List D} (h : Into G (R.map (·.1)) p) (ht : ∀ r ∈ R, r.2.length ≤ ws.length + 1) : NearL G R (p, ws) := fun a b he => ⟨fun z => by
  obtain ⟨r', h1, h2⟩ := List.mem_map.mp ((h a b he).1 z)
  exact ⟨r', h1, h2, ht _ h1⟩, fun z => by
  obtain ⟨r', h1, h2⟩ := List.mem_map.mp ((h a b he).2 z)
  exact ⟨r', h1, h2, ht _ h1⟩⟩
/-- the rows come in the order of their lengths; before i all are at most lv, from i on lv or one more -/
structure QI (i lv : Nat) (R : List (Int × List D)) : Prop where
  lo : ∀ j r, j < i → R[j]? = some r → r.2.length ≤ lv
  hi : ∀ j r, i ≤ j → R[j]? = some r → lv ≤ r.2.length ∧ r.2.length ≤ lv + 1
  mono : ∀ (j j' : Nat) r r', j ≤ j' → R[j]? = some r → R[j']? = some r' → r.2.length ≤ r'.2.length
theorem QI.top {i lv : Nat} {R : List (Int × List D)} (h : QI i lv R) : ∀ r ∈ R, r.2.length ≤ lv + 1 := fun r hr => by
  obtain ⟨j, hj⟩ := List.getElem?_of_mem hr
  by_cases c : j < i
  · have := h.lo j r c hj; omega
  · exact (h.hi j r (by omega) hj).2
theorem QI.next {i lv : Nat} {R N : List (Int × List D)} {p : Int} {ws : List D} (h : QI i lv R) (hr : R[i]? = some (p, ws)) (hN : ∀ r ∈ N, r.2.length = ws.length + 1) : QI (i + 1) ws.length (R ++ N) := by
  have w1 : lv ≤ ws.length := (h.hi i _ (Nat.le_refl _) hr).1
  have w2 : ws.length ≤ lv + 1 := (h.hi i _ (Nat.le_refl _) hr).2
  have hil := lt_of_some hr
  have old : ∀ {j : Nat} {r : Int × List D}, (R ++ N)[j]? = some r → (j < R.length ∧ R[j]? = some r) ∨ (R.length ≤ j ∧ r.2.length = ws.length + 1) := fun {j r} hj => by
    by_cases c : j < R.length
    · rw [List.getElem?_append_left c] at hj; exact .inl ⟨c, hj⟩
    · rw [List.getElem?_append_right (by omega)] at hj
      exact .inr ⟨by omega, hN r (List.mem_of_getElem? hj)⟩
  refine ⟨fun j r hj hr' => ?_, fun j r hj hr' => ?_, fun j j' r r' hjj h1 h2 => ?_⟩
  · rcases old hr' with ⟨_, q⟩ | ⟨c, _⟩
    · rcases Nat.lt_succ_iff_lt_or_eq.mp hj with z | z
      · have := h.lo j r z q; omega
      · subst z; rw [hr] at q; cases q; exact Nat.le_refl _
    · omega
  · rcases old hr' with ⟨_, q⟩ | ⟨_, q⟩
    · have g1 : ws.length ≤ r.2.length := h.mono i j _ r (by omega) hr q
      have g2 := (h.hi j r (by omega) q).2
      exact ⟨g1, by omega⟩
    · omega
  · rcases old h1 with ⟨c1, q1⟩ | ⟨c1, q1⟩
    · rcases old h2 with ⟨_, q2⟩ | ⟨_, q2⟩
      · exact h.mono j j' r r' hjj q1 q2
      · have := h.top r (List.mem_of_getElem? q1)
        omega
    · rcases old h2 with ⟨c2, q2⟩ | ⟨_, q2⟩
      · omega
      · omega
theorem QI.least {G : Gr} {i lv : Nat} {R : List (Int × List D)} {p : Int} {ws : List D} (h : QI i lv R) (hdone : ∀ j r, j < i → R[j]? = some r → r.1 ≠ 1 ∧ NearL G R r) (nd : (R.map (·.1)).Nodup) (root : ((0 : Int), ([] : List D)) ∈ R) (hr : R[i]? = some (p, ws)) : ∀ k, RchN G k p → ws.length ≤ k := by
  have key : ∀ {k : Nat} {q : Int}, RchN G k q → k ≤ ws.length → ∃ r ∈ R, r.1 = q ∧ r.2.length ≤ k := by
    intro k q w
    induction w with
    | zero => exact fun _ => ⟨_, root, rfl, Nat.le_refl _⟩
    | on _ he hq ih =>
      intro hk
      obtain ⟨r, h1, h2, h3⟩ := ih (by omega)
      obtain ⟨j, hj⟩ := List.getElem?_of_mem h1
      have hji : j < i := by
        refine Nat.lt_of_not_le fun c => ?_
        have := h.mono i j _ r c hr hj
        have : ws.length ≤ r.2.length := this
        omega
      obtain ⟨n1, n2⟩ := (hdone j r hji hj).2 _ _ he
      rcases hq with ⟨z1, z2⟩ | ⟨z1, z2⟩
      · obtain ⟨r', g1, g2, g3⟩ := n1 (by rw [h2, z1])
        exact ⟨r', g1, by rw [g2, z2], by omega⟩
      · obtain ⟨r', g1, g2, g3⟩ := n2 (by rw [h2, z1])
        exact ⟨r', g1, by rw [g2, z2], by omega⟩
  intro k w
  refine Nat.le_of_not_lt fun c => ?_
  obtain ⟨r, h1, h2, h3⟩ := key w (by omega)
  obtain ⟨j, hj⟩ := List.getElem?_of_mem h1
  have e1 : (R.map (·.1))[i]? = some p := by rw [List.getElem?_map, hr]; rfl
  have e2 : (R.map (·.1))[j]? = some p := by rw [List.getElem?_map, hj, ← h2]; rfl
  obtain ⟨l1, m1⟩ := List.getElem?_eq_some_iff.mp e1
  obtain ⟨l2, m2⟩ := List.getElem?_eq_some_iff.mp e2
  have : i = j := (List.getElem_inj nd).mp (m1.trans m2.symm)
  subst this
  rw [hr] at hj
  cases hj
  have h3' : ws.length ≤ k := h3
  omega
section
variable {m : Str → Bool} {st : D} {n : Nat} {es : List Edge}
theorem lets_outD (hst : ∀ x, inD (.str x) st = some (.bool (m x))) (hN : NetOk n es) : ∀ (d i : Nat) (R : List (Int × List D)) (met : List (D × D)) (lv : Nat), i + d = n + 1 → i ≤ R.length → LJ m es n R met →
    (∀ j r, j < i → R[j]? = some r → r.1 ≠ 1 ∧ NearL (grM m es) R r) → QI i lv R → ∀ F, d < F → ∀ c5 c6 c7 c8 c9 c10 c11 : PV.Cell,
    (∃ x e', whL (tcm (op2 ltD (rdS 4) (callD lenD (consA (rdB 2) (nilA))))) [5, 6, 7, 8, 9, 10, 11] (sq (q_lets_5) (sq (q_lets_6) (sq (q_lets_8) (q_lets_15)))) F [.shr (encN n es), .shr st, .own (.list (R.map encW)), .own (.dict met), .shr (.int i), c5, c6, c7, c8, c9, c10, c11] = .rt (.tuple [.str "yes", .tuple x]) e' ∧ Path m es x 1 ∧ (∀ k, RchN (grM m es) k 1 → x.length ≤ k) ∧ x.length ≤ n) ∨
    (∃ R' met' a', whL (tcm (op2 ltD (rdS 4) (callD lenD (consA (rdB 2) (nilA))))) [5, 6, 7, 8, 9, 10, 11] (sq (q_lets_5) (sq (q_lets_6) (sq (q_lets_8) (q_lets_15)))) F [.shr (encN n es), .shr st, .own (.list (R.map encW)), .own (.dict met), .shr (.int i), c5, c6, c7, c8, c9, c10, c11] = .nx [.shr (encN n es), .shr st, .own (.list (R'.map encW)), .own (.dict met'), .shr a', .emp, .emp, .emp, .emp, .emp, .emp, .emp] ∧ LJ m es n R' met' ∧ ¬ Rch (grM m es) 1 ∧ ∀ p, Rch (grM m es) p → p ∈ R'.map (·.1)) := by
  intro d
  induction d with
  | zero =>
    intro i R met lv hd hi hL
    have := hL.len (hN.few m)
    omega
  | succ d ih =>
    intro i R met lv hd hi hL hdone hQ F hF c5 c6 c7 c8 c9 c10 c11
    obtain ⟨F, rfl⟩ : ∃ F', F = F' + 1 := ⟨F - 1, by omega⟩
    have ht : tcm (op2 ltD (rdS 4) (callD lenD (consA (rdB 2) (nilA)))) [.shr (encN n es), .shr st, .own (.list (R.map encW)), .own (.dict met), .shr (.int i), .emp, .emp, .emp, .emp, .emp, .emp, .emp] = .ok (decide ((i : Int) < R.length)) [.shr (encN n es), .shr st, .own (.list (R.map encW)), .own (.dict met), .shr (.int i), .emp, .emp, .emp, .emp, .emp, .emp, .emp] := by
      refine tcm_ok (op2_ok (rdS_ok rfl) (callD_ok (z := .int R.length) (consA_ok (rdB_ok rfl) nilA_ok) ?_) rfl)
      show some (PyData.int (((R.map encW).length : Nat) : Int)) = _
      rw [List.length_map]
    by_cases c : i < R.length
    · rw [decide_eq_true (by omega)] at ht
      obtain ⟨⟨p, ws⟩, hr⟩ : ∃ r, R[i]? = some r := ⟨R[i], List.getElem?_eq_getElem c⟩
      have hrm : (p, ws) ∈ R := List.mem_of_getElem? hr
      have hp : p ∈ R.map (·.1) := List.mem_map.mpr ⟨_, hrm, rfl⟩
      have s5 : q_lets_5 [.shr (encN n es), .shr st, .own (.list (R.map encW)), .own (.dict met), .shr (.int i), .emp, .emp, .emp, .emp, .emp, .emp, .emp] = .nx [.shr (encN n es), .shr st, .own (.list (R.map encW)), .own (.dict met), .shr (.int i), .shr (.int p), .shr (.tuple ws), .emp, .emp, .emp, .emp, .emp] :=
        asgS_ok (d := encW (p, ws)) (op2_ok (rdB_ok rfl) (rdS_ok rfl) (rows_at hr)) rfl
      have t6 : tcm (op2 eqD (rdS 5) (ret (.int 1))) [.shr (encN n es), .shr st, .own (.list (R.map encW)), .own (.dict met), .shr (.int i), .shr (.int p), .shr (.tuple ws), .emp, .emp, .emp, .emp, .emp] = .ok (p == 1) [.shr (encN n es), .shr st, .own (.list (R.map encW)), .own (.dict met), .shr (.int i), .shr (.int p), .shr (.tuple ws), .emp, .emp, .emp, .emp, .emp] := rfl
      by_cases c1 : p = 1
      · subst c1
        refine .inl ⟨ws, _, whL_rt (e1 := [.shr (encN n es), .shr st, .own (.list (R.map encW)), .own (.dict met), .shr (.int i), .emp, .emp, .emp, .emp, .emp, .emp, .emp]) ht (Eq.trans (sq_nx s5) (sq_rt (Eq.trans (ifS_t t6) (rtn_ok (tupE_ok (consA_ok rfl (consA_ok (rdS_ok rfl) nilA_ok)) (by show 2 ≤ sizeLine; decide)))))), hL.path _ hrm, hQ.least hdone hL.nd hL.root hr, Nat.le_trans (hL.way _ hrm) (hL.len (hN.few m))⟩
      · rw [show (p == 1) = false from beq_eq_false_iff_ne.mpr c1] at t6
        obtain ⟨R', met', s8, ⟨N, hRN, hNl⟩, hL', hI⟩ := lets_inD hst hN hL (at' := i) hp (hL.way _ hrm) (hL.path _ hrm)
        have hQ' : QI (i + 1) ws.length R' := hRN ▸ hQ.next hr hNl
        have s15 : q_lets_15 [.shr (encN n es), .shr st, .own (.list (R'.map encW)), .own (.dict met'), .shr (.int i), .shr (.int p), .shr (.tuple ws), .emp, .emp, .emp, .emp, .emp] = .nx [.shr (encN n es), .shr st, .own (.list (R'.map encW)), .own (.dict met'), .shr (.int ((i + 1 : Nat) : Int)), .shr (.int p), .shr (.tuple ws), .emp, .emp, .emp, .emp, .emp] :=
          augN_ok (d := .int ((i + 1 : Nat) : Int)) rfl rfl rfl
        have hb : sq (q_lets_5) (sq (q_lets_6) (sq (q_lets_8) (q_lets_15))) [.shr (encN n es), .shr st, .own (.list (R.map encW)), .own (.dict met), .shr (.int i), .emp, .emp, .emp, .emp, .emp, .emp, .emp] = .nx [.shr (encN n es), .shr st, .own (.list (R'.map encW)), .own (.dict met'), .shr (.int ((i + 1 : Nat) : Int)), .shr (.int p), .shr (.tuple ws), .emp, .emp, .emp, .emp, .emp] :=
          Eq.trans (sq_nx s5) (Eq.trans (sq_nx (show q_lets_6 _ = .nx _ from Eq.trans (ifS_f t6) rfl)) (Eq.trans (sq_nx s8) s15))
        have hsub : ∀ x, x ∈ R.map (·.1) → x ∈ R'.map (·.1) := fun x hx => by rw [hRN, List.map_append]; exact List.mem_append_left _ hx
        have hget : ∀ j, j < R.length → R'[j]? = R[j]? := fun j hj => by rw [hRN, List.getElem?_append_left hj]
        have := ih (i + 1) R' met' ws.length (by omega) (by rw [hRN, List.length_append]; omega) hL' (fun j r hj hr' => by
          rw [hget j (by omega)] at hr'
          rcases Nat.lt_succ_iff_lt_or_eq.mp hj with q | q
          · obtain ⟨k1, k2⟩ := hdone j r q hr'
            exact ⟨k1, k2.grow (by rw [hRN]; exact fun x hx => List.mem_append_left _ hx)⟩
          · subst q
            rw [hr] at hr'
            cases hr'
            exact ⟨c1, near_of hI (hQ'.top)⟩) hQ' F (by omega) (.shr (.int p)) (.shr (.tuple ws)) .emp .emp .emp .emp .emp
        rcases this with ⟨x, e', k1, k2⟩ | ⟨R2, met2, a2, k1, k2⟩
        · exact .inl ⟨x, e', (whL_nx (e1 := [.shr (encN n es), .shr st, .own (.list (R.map encW)), .own (.dict met), .shr (.int i), .emp, .emp, .emp, .emp, .emp, .emp, .emp]) ht hb).trans k1, k2⟩
        · exact .inr ⟨R2, met2, a2, (whL_nx (e1 := [.shr (encN n es), .shr st, .own (.list (R.map encW)), .own (.dict met), .shr (.int i), .emp, .emp, .emp, .emp, .emp, .emp, .emp]) ht hb).trans k1, k2⟩
    · rw [decide_eq_false (by omega)] at ht
      refine .inr ⟨R, met, .int i, whL_end (e1 := [.shr (encN n es), .shr st, .own (.list (R.map encW)), .own (.dict met), .shr (.int i), .emp, .emp, .emp, .emp, .emp, .emp, .emp]) ht, hL, ?_⟩
      have all : ∀ p ∈ R.map (·.1), p ≠ 1 ∧ Into (grM m es) (R.map (·.1)) p := fun p hp => by
        obtain ⟨r, hm, rfl⟩ := List.mem_map.mp hp
        obtain ⟨j, hj⟩ := List.getElem?_of_mem hm
        have := lt_of_some hj
        obtain ⟨g1, g2⟩ := hdone j r (by omega) hj
        exact ⟨g1, g2.into⟩
      have hin : ∀ p, Rch (grM m es) p → p ∈ R.map (·.1) := fun p hr => rch_in hL.zero (fun p hp => (all p hp).2) hr
      exact ⟨fun hr => (all 1 (hin 1 hr)).1 rfl, hin⟩
theorem lets_dist (hst : ∀ x, inD (.str x) st = some (.bool (m x))) (hN : NetOk n es) (hn : n ≤ 60) :
    (∃ ws : List D, f_lets [encN n es, st] = .ok (.tuple [.str "yes", .tuple ws]) [] ∧ Path m es ws 1 ∧ (∀ k, RchN (grM m es) k 1 → ws.length ≤ k) ∧ ws.length ≤ n) ∨
    (¬ Rch (grM m es) 1 ∧ ∃ Q : List Int, f_lets [encN n es, st] = .ok (.tuple [.str "no", .tuple (intL (Q.mergeSort leZ))]) [] ∧ Q.Nodup ∧ Q.length ≤ n ∧ ∀ p, p ∈ Q ↔ Rch (grM m es) p) := by
  have e1 : f_lets [encN n es, st] = outF false [] (d_lets [.shr (encN n es), .shr st, .emp, .emp, .emp, .emp, .emp, .emp, .emp, .emp, .emp, .emp]) := by unfold f_lets; rw [fnD_ok (by rfl)]; rfl
  have h0 : LJ m es n [(0, [])] [(.int 0, .bool true)] := {
    keys := rfl
    nd := by simp
    rch := fun p hp => by rw [List.mem_singleton.mp hp]; exact .zero
    zero := by simp
    way := fun r hr => by rw [List.mem_singleton.mp hr]; exact Nat.zero_le _
    root := by simp
    path := fun r hr => by rw [List.mem_singleton.mp hr]; exact .nil }
  have q0 : QI 0 0 [((0 : Int), ([] : List D))] := ⟨fun j r hj => absurd hj (Nat.not_lt_zero j), fun j r hj hr => by
    have := List.mem_of_getElem? hr
    rw [List.mem_singleton.mp this]
    exact ⟨Nat.le_refl _, Nat.zero_le _⟩, fun j j' r r' _ h1 h2 => by
    rw [List.mem_singleton.mp (List.mem_of_getElem? h1), List.mem_singleton.mp (List.mem_of_getElem? h2)]
    exact Nat.le_refl _⟩
  have s1 : q_lets_1 [.shr (encN n es), .shr st, .emp, .emp, .emp, .emp, .emp, .emp, .emp, .emp, .emp, .emp] = .nx [.shr (encN n es), .shr st, .own (.list ([((0 : Int), ([] : List D))].map encW)), .emp, .emp, .emp, .emp, .emp, .emp, .emp, .emp, .emp] := rfl
  have s2 : q_lets_2 [.shr (encN n es), .shr st, .own (.list ([((0 : Int), ([] : List D))].map encW)), .emp, .emp, .emp, .emp, .emp, .emp, .emp, .emp, .emp] = .nx [.shr (encN n es), .shr st, .own (.list ([((0 : Int), ([] : List D))].map encW)), .own (.dict [(.int 0, .bool true)]), .emp, .emp, .emp, .emp, .emp, .emp, .emp, .emp] := rfl
  have s3 : q_lets_3 [.shr (encN n es), .shr st, .own (.list ([((0 : Int), ([] : List D))].map encW)), .own (.dict [(.int 0, .bool true)]), .emp, .emp, .emp, .emp, .emp, .emp, .emp, .emp] = .nx [.shr (encN n es), .shr st, .own (.list ([((0 : Int), ([] : List D))].map encW)), .own (.dict [(.int 0, .bool true)]), .shr (.int ((0 : Nat) : Int)), .emp, .emp, .emp, .emp, .emp, .emp, .emp] := rfl
  rw [e1]
  unfold d_lets
  rw [sq_nx s1, sq_nx s2, sq_nx s3]
  rcases lets_outD hst hN (n + 1) 0 [(0, [])] [(.int 0, .bool true)] 0 (by omega) (Nat.zero_le _) h0 (fun j r hj => absurd hj (Nat.not_lt_zero j)) q0 1000000 (by have := hN.n2; omega) .emp .emp .emp .emp .emp .emp .emp with ⟨x, e', k1, k2, k3, k4⟩ | ⟨R', met', a', k1, k2, k3, k4⟩
  · rw [sq_rt (f := q_lets_4) k1]
    exact .inl ⟨x, rfl, k2, k3, k4⟩
  · rw [sq_nx (f := q_lets_4) k1]
    have hl := k2.len (hN.few m)
    have hne : R'.map (·.1) ≠ [] := fun z => by
      have := k2.zero
      rw [z] at this; cases this
    have s16 : q_lets_16 [.shr (encN n es), .shr st, .own (.list (R'.map encW)), .own (.dict met'), .shr a', .emp, .emp, .emp, .emp, .emp, .emp, .emp] = .rt (.tuple [.str "no", .tuple (intL ((R'.map (·.1)).mergeSort leZ))]) [.shr (encN n es), .shr st, .own (.list (R'.map encW)), .own (.dict met'), .shr a', .emp, .emp, .emp, .emp, .emp, .emp, .emp] :=
      rtn_ok (tupE_ok (consA_ok rfl (consA_ok (callD_ok (consA_ok (callD_ok (consA_ok (rdB_ok rfl) nilA_ok) (sorE_keys k2.keys (by rw [List.length_map]; omega) hne)) nilA_ok) rfl) nilA_ok)) (by show 2 ≤ sizeLine; decide))
    rw [s16]
    exact .inr ⟨k3, R'.map (·.1), rfl, k2.nd, by rw [List.length_map]; exact hl, fun p => ⟨fun z => k2.rch p z, fun z => k4 p z⟩⟩
end
end PV
/-! the law's walk with its levels: PVzza again, by a program -/
namespace PV
open PySem PySem.Spec PyProof.Rows
def encR (R : List (Int × Int)) : List (D × D) := R.map fun r => (.int r.1, .int r.2)
def fdK (k : Nat) (P0 : List (Int × Int)) (L : List Int) : List (D × D) := encR (P0 ++ L.map fun x => (x, (k : Int)))
theorem keysK (k : Nat) (P0 : List (Int × Int)) (L : List Int) : Keys (fdK k P0 L) (P0.map (·.1) ++ L) := by
  show (fdK k P0 L).map (·.1) = intL (P0.map (·.1) ++ L)
  unfold fdK encR intL
  rw [List.map_map, List.map_append, List.map_append, List.map_map, List.map_map]
  congr 1
theorem putK {k : Nat} {P0 : List (Int × Int)} {L : List Int} {x : Int} (hx : (P0.map (·.1) ++ L).contains x = false) : putE (fdK k P0 L) (.int x) (.int k) = fdK k P0 (L ++ [x]) := by
  have ha : ((fdK k P0 L).any fun e => PyData.eqv e.1 (.int x)) = (P0.map (·.1) ++ L).contains x := by
    rw [← intL_any, ← show (fdK k P0 L).map (·.1) = intL (P0.map (·.1) ++ L) from keysK k P0 L, List.any_map]; rfl
  unfold putE
  rw [ha, hx, if_neg (by decide)]
  unfold fdK encR
  rw [List.map_append (l₂ := [x]), ← List.append_assoc, List.map_append (l₂ := [x].map _)]; rfl
structure MD (G : Gr) (k : Nat) (P0 : List (Int × Int)) (L : List Int) : Prop where
  nd : (P0.map (·.1) ++ L).Nodup
  old : ∀ r ∈ P0, ∃ j : Nat, r.2 = j ∧ RchN G j r.1 ∧ j < k
  new : ∀ x ∈ L, RchN G k x
  zero : ((0 : Int), (0 : Int)) ∈ P0
theorem MD.rch {G : Gr} {k : Nat} {P0 : List (Int × Int)} {L : List Int} (h : MD G k P0 L) : ∀ p ∈ P0.map (·.1) ++ L, Rch G p := fun p hp => by
  rcases List.mem_append.mp hp with z | z
  · obtain ⟨r, hr, rfl⟩ := List.mem_map.mp z
    obtain ⟨j, _, h2, _⟩ := h.old r hr
    exact h2.rch
  · exact (h.new p z).rch
section
variable {m : Str → Bool} {st : D} {n : Nat} {es : List Edge}
theorem MD.len {G : Gr} {k : Nat} {P0 : List (Int × Int)} {L : List Int} (h : MD G k P0 L) (f : Few G n) : (P0.map (·.1) ++ L).length ≤ n := few_len h.nd fun p hp => rch_few f (h.rch p hp)
theorem met_offerD (hst : ∀ x, inD (.str x) st = some (.bool (m x))) (hN : NetOk n es) {e : Edge} (he : e ∈ es) {k : Nat} {P0 : List (Int × Int)} {L : List Int} (h : MD (grM m es) k P0 L) {q : D} {pt one other : Int} (hp : ∃ j, j + 1 = k ∧ RchN (grM m es) j pt) (ho : (one = e.a ∧ other = e.b) ∨ (one = e.b ∧ other = e.a)) :
    ∃ L', q__law_met_7 [.shr (encN n es), .shr st, .own (.dict (fdK k P0 L)), .shr q, .shr (.int k), .own (.list (intL L)), .shr (.int pt), .shr (.int e.a), .shr (.int e.b), .shr (.tuple [.str (onS e.on), .str e.x]), .shr (.int one), .shr (.int other)] = .nx [.shr (encN n es), .shr st, .own (.dict (fdK k P0 L')), .shr q, .shr (.int k), .own (.list (intL L')), .shr (.int pt), .shr (.int e.a), .shr (.int e.b), .shr (.tuple [.str (onS e.on), .str e.x]), .shr (.int one), .shr (.int other)] ∧
      MD (grM m es) k P0 L' ∧ (∀ x, x ∈ P0.map (·.1) ++ L → x ∈ P0.map (·.1) ++ L') ∧ (opn m e = true → one = pt → other ∈ P0.map (·.1) ++ L') := by
  have t1 : tcm (op2 eqD (rdS 10) (rdS 6)) [.shr (encN n es), .shr st, .own (.dict (fdK k P0 L)), .shr q, .shr (.int k), .own (.list (intL L)), .shr (.int pt), .shr (.int e.a), .shr (.int e.b), .shr (.tuple [.str (onS e.on), .str e.x]), .shr (.int one), .shr (.int other)] = .ok (one == pt) [.shr (encN n es), .shr st, .own (.dict (fdK k P0 L)), .shr q, .shr (.int k), .own (.list (intL L)), .shr (.int pt), .shr (.int e.a), .shr (.int e.b), .shr (.tuple [.str (onS e.on), .str e.x]), .shr (.int one), .shr (.int other)] := rfl
  have t2 : tcm (op2 ninD (rdS 11) (rdB 2)) [.shr (encN n es), .shr st, .own (.dict (fdK k P0 L)), .shr q, .shr (.int k), .own (.list (intL L)), .shr (.int pt), .shr (.int e.a), .shr (.int e.b), .shr (.tuple [.str (onS e.on), .str e.x]), .shr (.int one), .shr (.int other)] = .ok (!(P0.map (·.1) ++ L).contains other) [.shr (encN n es), .shr st, .own (.dict (fdK k P0 L)), .shr q, .shr (.int k), .own (.list (intL L)), .shr (.int pt), .shr (.int e.a), .shr (.int e.b), .shr (.tuple [.str (onS e.on), .str e.x]), .shr (.int one), .shr (.int other)] :=
    tcm_ok (op2_ok (rdS_ok rfl) (rdB_ok rfl) (ninD_keys other (keysK k P0 L)))
  have t3 : tru (cal (f__law_opens) (consA (rdS 9) (consA (rdS 1) (nilA)))) [.shr (encN n es), .shr st, .own (.dict (fdK k P0 L)), .shr q, .shr (.int k), .own (.list (intL L)), .shr (.int pt), .shr (.int e.a), .shr (.int e.b), .shr (.tuple [.str (onS e.on), .str e.x]), .shr (.int one), .shr (.int other)] = .ok (opn m e) [.shr (encN n es), .shr st, .own (.dict (fdK k P0 L)), .shr q, .shr (.int k), .own (.list (intL L)), .shr (.int pt), .shr (.int e.a), .shr (.int e.b), .shr (.tuple [.str (onS e.on), .str e.x]), .shr (.int one), .shr (.int other)] :=
    tru_ok (cal_ok (consA_ok (rdS_ok rfl) (consA_ok (rdS_ok rfl) nilA_ok)) (opens_ok hst e.on e.x)) rfl
  have stay : (opn m e = true → one = pt → other ∈ P0.map (·.1) ++ L) → q__law_met_7 [.shr (encN n es), .shr st, .own (.dict (fdK k P0 L)), .shr q, .shr (.int k), .own (.list (intL L)), .shr (.int pt), .shr (.int e.a), .shr (.int e.b), .shr (.tuple [.str (onS e.on), .str e.x]), .shr (.int one), .shr (.int other)] = .nx [.shr (encN n es), .shr st, .own (.dict (fdK k P0 L)), .shr q, .shr (.int k), .own (.list (intL L)), .shr (.int pt), .shr (.int e.a), .shr (.int e.b), .shr (.tuple [.str (onS e.on), .str e.x]), .shr (.int one), .shr (.int other)] →
      ∃ L', q__law_met_7 [.shr (encN n es), .shr st, .own (.dict (fdK k P0 L)), .shr q, .shr (.int k), .own (.list (intL L)), .shr (.int pt), .shr (.int e.a), .shr (.int e.b), .shr (.tuple [.str (onS e.on), .str e.x]), .shr (.int one), .shr (.int other)] = .nx [.shr (encN n es), .shr st, .own (.dict (fdK k P0 L')), .shr q, .shr (.int k), .own (.list (intL L')), .shr (.int pt), .shr (.int e.a), .shr (.int e.b), .shr (.tuple [.str (onS e.on), .str e.x]), .shr (.int one), .shr (.int other)] ∧
        MD (grM m es) k P0 L' ∧ (∀ x, x ∈ P0.map (·.1) ++ L → x ∈ P0.map (·.1) ++ L') ∧ (opn m e = true → one = pt → other ∈ P0.map (·.1) ++ L') := fun hm hs => ⟨L, hs, h, fun x z => z, hm⟩
  cases c1 : one == pt with
  | false =>
    rw [c1] at t1
    exact stay (fun _ z => by rw [z, beq_self_eq_true] at c1; cases c1) (Eq.trans (ifS_f (andT_f t1)) rfl)
  | true =>
    rw [c1] at t1
    cases c2 : (P0.map (·.1) ++ L).contains other with
    | true =>
      rw [c2] at t2
      exact stay (fun _ _ => by simpa using c2) (Eq.trans (ifS_f (Eq.trans (andT_t t1) (andT_f t2))) rfl)
    | false =>
      rw [c2] at t2
      rcases Bool.eq_false_or_eq_true (opn m e) with c3 | c3
      rotate_left
      · rw [c3] at t3
        exact stay (fun z => by rw [c3] at z; cases z) (Eq.trans (ifS_f (Eq.trans (andT_t t1) (Eq.trans (andT_t t2) t3))) rfl)
      · rw [c3] at t3
        have hone : one = pt := eq_of_beq c1
        have hlen := h.len (hN.few m)
        have hn2 := hN.n2
        have hkl := keys_len (keysK k P0 L)
        have s8 : q__law_met_8 [.shr (encN n es), .shr st, .own (.dict (fdK k P0 L)), .shr q, .shr (.int k), .own (.list (intL L)), .shr (.int pt), .shr (.int e.a), .shr (.int e.b), .shr (.tuple [.str (onS e.on), .str e.x]), .shr (.int one), .shr (.int other)] = .nx [.shr (encN n es), .shr st, .own (.dict (putE (fdK k P0 L) (.int other) (.int k))), .shr q, .shr (.int k), .own (.list (intL L)), .shr (.int pt), .shr (.int e.a), .shr (.int e.b), .shr (.tuple [.str (onS e.on), .str e.x]), .shr (.int one), .shr (.int other)] :=
          putS_ok (v := .int k) (i := .int other) (rdS_ok rfl) rfl (rdS_ok rfl) (by
            show (if (isKey (.int other) && decide ((fdK k P0 L).length < sizeLine)) = true then some (PyData.dict (putE (fdK k P0 L) (.int other) (.int k))) else none) = _
            rw [if_pos (by rw [decide_eq_true (by unfold sizeLine; omega)]; rfl)])
        have s9 : q__law_met_9 [.shr (encN n es), .shr st, .own (.dict (putE (fdK k P0 L) (.int other) (.int k))), .shr q, .shr (.int k), .own (.list (intL L)), .shr (.int pt), .shr (.int e.a), .shr (.int e.b), .shr (.tuple [.str (onS e.on), .str e.x]), .shr (.int one), .shr (.int other)] = .nx [.shr (encN n es), .shr st, .own (.dict (putE (fdK k P0 L) (.int other) (.int k))), .shr q, .shr (.int k), .own (.list (intL (L ++ [other]))), .shr (.int pt), .shr (.int e.a), .shr (.int e.b), .shr (.tuple [.str (onS e.on), .str e.x]), .shr (.int one), .shr (.int other)] := by
          refine Eq.trans (appS_ok (v := .int other) rfl (rdS_ok rfl) ?_) ?_
          · rw [List.length_append] at hlen
            show (L.map PyData.int).length < sizeLine
            rw [List.length_map]; unfold sizeLine; omega
          · unfold intL
            rw [List.map_append]; rfl
        obtain ⟨j, hjk, hj⟩ := hp
        have rq : RchN (grM m es) k other := by
          rw [← hjk]
          exact .on hj (List.mem_map.mpr ⟨e, he, by rw [c3]⟩ : (e.a, e.b, true) ∈ grM m es) (by rw [← hone]; exact ho)
        rw [putK c2] at s8 s9
        refine ⟨L ++ [other], Eq.trans (ifS_t (Eq.trans (andT_t t1) (Eq.trans (andT_t t2) t3))) (Eq.trans (sq_nx s8) s9), ?_, fun x z => ?_, fun _ _ => ?_⟩
        · refine ⟨?_, h.old, fun x hx => ?_, h.zero⟩
          · rw [← List.append_assoc]
            refine List.nodup_append.mpr ⟨h.nd, by simp, fun a ha b hb e => ?_⟩
            rw [List.mem_singleton.mp hb] at e
            subst e
            have : (P0.map (·.1) ++ L).contains a = true := by simpa using ha
            rw [c2] at this; cases this
          · rcases List.mem_append.mp hx with z | z
            · exact h.new x z
            · rw [List.mem_singleton.mp z]; exact rq
        · rw [← List.append_assoc]; exact List.mem_append_left _ z
        · rw [← List.append_assoc]; simp
/-- all edges, from one point -/
theorem met_edgesD (hst : ∀ x, inD (.str x) st = some (.bool (m x))) (hN : NetOk n es) {k : Nat} {P0 : List (Int × Int)} {L : List Int} (h : MD (grM m es) k P0 L) {q : D} {pt : Int} (hp : ∃ j, j + 1 = k ∧ RchN (grM m es) j pt) :
    ∃ L', q__law_met_5 [.shr (encN n es), .shr st, .own (.dict (fdK k P0 L)), .shr q, .shr (.int k), .own (.list (intL L)), .shr (.int pt), .emp, .emp, .emp, .emp, .emp] = .nx [.shr (encN n es), .shr st, .own (.dict (fdK k P0 L')), .shr q, .shr (.int k), .own (.list (intL L')), .shr (.int pt), .emp, .emp, .emp, .emp, .emp] ∧
      MD (grM m es) k P0 L' ∧ (∀ x, x ∈ P0.map (·.1) ++ L → x ∈ P0.map (·.1) ++ L') ∧ Into (grM m es) (P0.map (·.1) ++ L') pt := by
  have key : ∃ e2, q__law_met_5 [.shr (encN n es), .shr st, .own (.dict (fdK k P0 L)), .shr q, .shr (.int k), .own (.list (intL L)), .shr (.int pt), .emp, .emp, .emp, .emp, .emp] = .nx (wip [7, 8, 9, 10, 11] e2) ∧
      ∃ L' c7 c8 c9 c10 c11, e2 = [.shr (encN n es), .shr st, .own (.dict (fdK k P0 L')), .shr q, .shr (.int k), .own (.list (intL L')), .shr (.int pt), c7, c8, c9, c10, c11] ∧ MD (grM m es) k P0 L' ∧ (∀ x, x ∈ P0.map (·.1) ++ L → x ∈ P0.map (·.1) ++ L') ∧
        ∀ (j : Nat) (e : Edge), j < (es.map encE).length → es[j]? = some e → opn m e = true → (e.a = pt → e.b ∈ P0.map (·.1) ++ L') ∧ (e.b = pt → e.a ∈ P0.map (·.1) ++ L') := by
    refine frS_nx (t := .tp [.nm 7, .nm 8, .nm 9]) (dead := [7, 8, 9, 10, 11]) (m := seqI (op2 ixD (rdS 0) (ret (.int 1)))) (ds := es.map encE) (fun i e2 => ∃ L' c7 c8 c9 c10 c11, e2 = [.shr (encN n es), .shr st, .own (.dict (fdK k P0 L')), .shr q, .shr (.int k), .own (.list (intL L')), .shr (.int pt), c7, c8, c9, c10, c11] ∧ MD (grM m es) k P0 L' ∧ (∀ x, x ∈ P0.map (·.1) ++ L → x ∈ P0.map (·.1) ++ L') ∧
        ∀ (j : Nat) (e : Edge), j < i → es[j]? = some e → opn m e = true → (e.a = pt → e.b ∈ P0.map (·.1) ++ L') ∧ (e.b = pt → e.a ∈ P0.map (·.1) ++ L'))
      (e1 := [.shr (encN n es), .shr st, .own (.dict (fdK k P0 L)), .shr q, .shr (.int k), .own (.list (intL L)), .shr (.int pt), .emp, .emp, .emp, .emp, .emp]) (seqI_ok (op2_ok (rdS_ok rfl) rfl (net_1 n es)) rfl) ⟨L, _, _, _, _, _, rfl, h, fun x z => z, fun j e hj => absurd hj (Nat.not_lt_zero j)⟩ fun i d e hd hI => ?_
    obtain ⟨L', c7, c8, c9, c10, c11, rfl, hM, hs, hdone⟩ := hI
    rw [List.getElem?_map] at hd
    cases hei : es[i]? with
    | none => rw [hei] at hd; cases hd
    | some e =>
      rw [hei] at hd
      cases hd
      have hem := List.mem_of_getElem? hei
      obtain ⟨L1, o1, o2, o3, o4⟩ := met_offerD hst hN hem hM (q := q) (one := e.a) (other := e.b) hp (.inl ⟨rfl, rfl⟩)
      obtain ⟨L2, p1, p2, p3, p4⟩ := met_offerD hst hN hem o2 (q := q) (one := e.b) (other := e.a) hp (.inr ⟨rfl, rfl⟩)
      have s6 : q__law_met_6 [.shr (encN n es), .shr st, .own (.dict (fdK k P0 L')), .shr q, .shr (.int k), .own (.list (intL L')), .shr (.int pt), .shr (.int e.a), .shr (.int e.b), .shr (.tuple [.str (onS e.on), .str e.x]), .emp, .emp] = .nx [.shr (encN n es), .shr st, .own (.dict (fdK k P0 L2)), .shr q, .shr (.int k), .own (.list (intL L2)), .shr (.int pt), .shr (.int e.a), .shr (.int e.b), .shr (.tuple [.str (onS e.on), .str e.x]), .emp, .emp] := by
        have g : seqI (tupE (consA (tupE (consA (rdS 7) (consA (rdS 8) (nilA)))) (consA (tupE (consA (rdS 8) (consA (rdS 7) (nilA)))) (nilA)))) [.shr (encN n es), .shr st, .own (.dict (fdK k P0 L')), .shr q, .shr (.int k), .own (.list (intL L')), .shr (.int pt), .shr (.int e.a), .shr (.int e.b), .shr (.tuple [.str (onS e.on), .str e.x]), .emp, .emp] = .ok [.tuple [.int e.a, .int e.b], .tuple [.int e.b, .int e.a]] [.shr (encN n es), .shr st, .own (.dict (fdK k P0 L')), .shr q, .shr (.int k), .own (.list (intL L')), .shr (.int pt), .shr (.int e.a), .shr (.int e.b), .shr (.tuple [.str (onS e.on), .str e.x]), .emp, .emp] := rfl
        show frS _ _ _ _ _ = _
        unfold frS
        rw [thenS_ok g]
        rw [frL_cons (e1 := [.shr (encN n es), .shr st, .own (.dict (fdK k P0 L')), .shr q, .shr (.int k), .own (.list (intL L')), .shr (.int pt), .shr (.int e.a), .shr (.int e.b), .shr (.tuple [.str (onS e.on), .str e.x]), .shr (.int e.a), .shr (.int e.b)]) rfl o1]
        rw [frL_cons (e1 := [.shr (encN n es), .shr st, .own (.dict (fdK k P0 L1)), .shr q, .shr (.int k), .own (.list (intL L1)), .shr (.int pt), .shr (.int e.a), .shr (.int e.b), .shr (.tuple [.str (onS e.on), .str e.x]), .shr (.int e.b), .shr (.int e.a)]) rfl p1]
        rfl
      refine ⟨[.shr (encN n es), .shr st, .own (.dict (fdK k P0 L')), .shr q, .shr (.int k), .own (.list (intL L')), .shr (.int pt), .shr (.int e.a), .shr (.int e.b), .shr (.tuple [.str (onS e.on), .str e.x]), .emp, .emp], _, rfl, s6, L2, _, _, _, _, _, rfl, p2, fun x z => p3 _ (o3 _ (hs _ z)), fun j e' hj hje ho => ?_⟩
      rcases Nat.lt_succ_iff_lt_or_eq.mp hj with z | z
      · obtain ⟨k1, k2⟩ := hdone j e' z hje ho
        exact ⟨fun y => p3 _ (o3 _ (k1 y)), fun y => p3 _ (o3 _ (k2 y))⟩
      · subst z
        rw [hei] at hje
        cases hje
        exact ⟨fun y => p3 _ (o4 ho y), fun y => p4 ho y⟩
  obtain ⟨e2, s5, L', c7, c8, c9, c10, c11, rfl, hM, hs, hdone⟩ := key
  refine ⟨L', s5, hM, hs, fun a b he => ?_⟩
  obtain ⟨e, hm, hab⟩ := List.mem_map.mp he
  have h1 : e.a = a := congrArg Prod.fst hab
  have h2 : e.b = b := congrArg (fun z => z.2.1) hab
  have h3 : opn m e = true := congrArg (fun z => z.2.2) hab
  obtain ⟨j, hj⟩ := List.getElem?_of_mem hm
  have hjl : j < (es.map encE).length := by rw [List.length_map]; exact lt_of_some hj
  have := hdone j e hjl hj h3
  rw [h1, h2] at this
  exact this
/-- all points of a level -/
theorem met_levelD (hst : ∀ x, inD (.str x) st = some (.bool (m x))) (hN : NetOk n es) {k : Nat} {P0 : List (Int × Int)} {Q : List Int} (h : MD (grM m es) k P0 []) (hQ : ∀ x ∈ Q, ∃ j, j + 1 = k ∧ RchN (grM m es) j x) :
    ∃ L', q__law_met_4 [.shr (encN n es), .shr st, .own (.dict (fdK k P0 [])), .shr (.list (intL Q)), .shr (.int k), .own (.list (intL [])), .emp, .emp, .emp, .emp, .emp, .emp] = .nx [.shr (encN n es), .shr st, .own (.dict (fdK k P0 L')), .shr (.list (intL Q)), .shr (.int k), .own (.list (intL L')), .emp, .emp, .emp, .emp, .emp, .emp] ∧
      MD (grM m es) k P0 L' ∧ ∀ x ∈ Q, Into (grM m es) (P0.map (·.1) ++ L') x := by
  have key : ∃ e2, q__law_met_4 [.shr (encN n es), .shr st, .own (.dict (fdK k P0 [])), .shr (.list (intL Q)), .shr (.int k), .own (.list (intL [])), .emp, .emp, .emp, .emp, .emp, .emp] = .nx (wip [6, 7, 8, 9, 10, 11] e2) ∧
      ∃ L' c6, e2 = [.shr (encN n es), .shr st, .own (.dict (fdK k P0 L')), .shr (.list (intL Q)), .shr (.int k), .own (.list (intL L')), c6, .emp, .emp, .emp, .emp, .emp] ∧ MD (grM m es) k P0 L' ∧ ∀ (j : Nat) (x : Int), j < (intL Q).length → Q[j]? = some x → Into (grM m es) (P0.map (·.1) ++ L') x := by
    refine frS_nx (t := .nm 6) (dead := [6, 7, 8, 9, 10, 11]) (m := seqI (rdS 3)) (ds := intL Q) (fun i e2 => ∃ L' c6, e2 = [.shr (encN n es), .shr st, .own (.dict (fdK k P0 L')), .shr (.list (intL Q)), .shr (.int k), .own (.list (intL L')), c6, .emp, .emp, .emp, .emp, .emp] ∧ MD (grM m es) k P0 L' ∧ ∀ (j : Nat) (x : Int), j < i → Q[j]? = some x → Into (grM m es) (P0.map (·.1) ++ L') x)
      (e1 := [.shr (encN n es), .shr st, .own (.dict (fdK k P0 [])), .shr (.list (intL Q)), .shr (.int k), .own (.list (intL [])), .emp, .emp, .emp, .emp, .emp, .emp]) (seqI_ok (rdS_ok rfl) rfl) ⟨[], _, rfl, h, fun j x hj => absurd hj (Nat.not_lt_zero j)⟩ fun i d e hd hI => ?_
    obtain ⟨L', c6, rfl, hM, hdone⟩ := hI
    unfold intL at hd
    rw [List.getElem?_map] at hd
    cases hx : Q[i]? with
    | none => rw [hx] at hd; cases hd
    | some x =>
      rw [hx] at hd
      cases hd
      obtain ⟨L2, s5, p1, p2, p3⟩ := met_edgesD hst hN hM (q := .list (intL Q)) (pt := x) (hQ x (List.mem_of_getElem? hx))
      refine ⟨[.shr (encN n es), .shr st, .own (.dict (fdK k P0 L')), .shr (.list (intL Q)), .shr (.int k), .own (.list (intL L')), .shr (.int x), .emp, .emp, .emp, .emp, .emp], _, rfl, s5, L2, _, rfl, p1, fun j y hj hy => ?_⟩
      rcases Nat.lt_succ_iff_lt_or_eq.mp hj with z | z
      · exact (hdone j y z hy).mono p2
      · subst z
        rw [hx] at hy
        cases hy
        exact p3
  obtain ⟨e2, s4, L', c6, rfl, hM, hdone⟩ := key
  refine ⟨L', s4, hM, fun x hx => ?_⟩
  obtain ⟨j, hj⟩ := List.getElem?_of_mem hx
  exact hdone j x (by show j < (Q.map PyData.int).length; rw [List.length_map]; exact lt_of_some hj) hj
theorem met_outD (hst : ∀ x, inD (.str x) st = some (.bool (m x))) (hN : NetOk n es) : ∀ (d : Nat) (k : Nat) (P : List (Int × Int)) (Q : List Int), n - P.length + (if Q = [] then 0 else 1) ≤ d → MD (grM m es) (k + 1) P [] → (∀ x ∈ Q, (x, (k : Int)) ∈ P) → (∀ r ∈ P, r.1 ∉ Q → Into (grM m es) (P.map (·.1)) r.1) →
    (∀ j p, j ≤ k → RchN (grM m es) j p → ∃ i : Nat, i ≤ j ∧ (p, (i : Int)) ∈ P) → (∀ r ∈ P, r.2 = (k : Int) → r.1 ∈ Q) → ∀ F, d < F → ∀ c5 c6 c7 c8 c9 c10 c11 : PV.Cell,
    ∃ (P' : List (Int × Int)) (e' : EnvD), whL (tcm (op2 neD (rdS 3) (lstE (nilA)))) [5, 6, 7, 8, 9, 10, 11] (sq (q__law_met_3) (sq (q__law_met_4) (q__law_met_10))) F [.shr (encN n es), .shr st, .own (.dict (encR P)), .shr (.list (intL Q)), .shr (.int k), c5, c6, c7, c8, c9, c10, c11] = .nx e' ∧ e'[2]? = some (.own (.dict (encR P'))) ∧ (P'.map (·.1)).Nodup ∧ (∀ p, p ∈ P'.map (·.1) ↔ Rch (grM m es) p) ∧
      ∀ r ∈ P', ∃ j : Nat, r.2 = j ∧ RchN (grM m es) j r.1 ∧ ∀ i, RchN (grM m es) i r.1 → j ≤ i := by
  intro d
  have stop : ∀ (F k : Nat) (P : List (Int × Int)), MD (grM m es) (k + 1) P [] → (∀ r ∈ P, Into (grM m es) (P.map (·.1)) r.1) → (∀ j p, j ≤ k → RchN (grM m es) j p → ∃ i : Nat, i ≤ j ∧ (p, (i : Int)) ∈ P) → 0 < F → ∀ c5 c6 c7 c8 c9 c10 c11 : PV.Cell,
      ∃ (P' : List (Int × Int)) (e' : EnvD), whL (tcm (op2 neD (rdS 3) (lstE (nilA)))) [5, 6, 7, 8, 9, 10, 11] (sq (q__law_met_3) (sq (q__law_met_4) (q__law_met_10))) F [.shr (encN n es), .shr st, .own (.dict (encR P)), .shr (.list (intL [])), .shr (.int k), c5, c6, c7, c8, c9, c10, c11] = .nx e' ∧ e'[2]? = some (.own (.dict (encR P'))) ∧ (P'.map (·.1)).Nodup ∧ (∀ p, p ∈ P'.map (·.1) ↔ Rch (grM m es) p) ∧
        ∀ r ∈ P', ∃ j : Nat, r.2 = j ∧ RchN (grM m es) j r.1 ∧ ∀ i, RchN (grM m es) i r.1 → j ≤ i := by
    intro F k P h hI hlow hF c5 c6 c7 c8 c9 c10 c11
    obtain ⟨F, rfl⟩ : ∃ F', F = F' + 1 := ⟨F - 1, by omega⟩
    have ht : tcm (op2 neD (rdS 3) (lstE (nilA))) [.shr (encN n es), .shr st, .own (.dict (encR P)), .shr (.list (intL [])), .shr (.int k), .emp, .emp, .emp, .emp, .emp, .emp, .emp] = .ok false [.shr (encN n es), .shr st, .own (.dict (encR P)), .shr (.list (intL [])), .shr (.int k), .emp, .emp, .emp, .emp, .emp, .emp, .emp] := rfl
    have hnd := h.nd
    rw [List.append_nil] at hnd
    have hr := h.rch
    rw [List.append_nil] at hr
    refine ⟨P, _, whL_end ht, rfl, hnd, fun p => ⟨fun z => hr p z, fun z => rch_in (List.mem_map.mpr ⟨_, h.zero, rfl⟩) (fun p hp => by
      obtain ⟨r, hr, rfl⟩ := List.mem_map.mp hp
      exact hI r hr) z⟩, fun r hr => ?_⟩
    obtain ⟨j, h1, h2, h3⟩ := h.old r hr
    refine ⟨j, h1, h2, fun i hi => ?_⟩
    by_cases c : i ≤ k
    · obtain ⟨i', g1, g2⟩ := hlow i r.1 c hi
      obtain ⟨a, ha⟩ := List.getElem?_of_mem hr
      obtain ⟨b, hb⟩ := List.getElem?_of_mem g2
      have e1 : (P.map (·.1))[a]? = some r.1 := by rw [List.getElem?_map, ha]; rfl
      have e2 : (P.map (·.1))[b]? = some r.1 := by rw [List.getElem?_map, hb]; rfl
      obtain ⟨l1, m1⟩ := List.getElem?_eq_some_iff.mp e1
      obtain ⟨l2, m2⟩ := List.getElem?_eq_some_iff.mp e2
      have : a = b := (List.getElem_inj hnd).mp (m1.trans m2.symm)
      subst this
      rw [ha] at hb
      have h5 : r.2 = (i' : Int) := by rw [Option.some.inj hb]
      omega
    · omega
  induction d with
  | zero =>
    intro k P Q hd h hQ hI hlow hlev F hF c5 c6 c7 c8 c9 c10 c11
    have hq : Q = [] := by
      by_cases c : Q = []
      · exact c
      · rw [if_neg c] at hd; omega
    subst hq
    exact stop F k P h (fun r hr => hI r hr (by simp)) hlow hF c5 c6 c7 c8 c9 c10 c11
  | succ d ih =>
    intro k P Q hd h hQ hI hlow hlev F hF c5 c6 c7 c8 c9 c10 c11
    by_cases hq : Q = []
    · subst hq
      exact stop F k P h (fun r hr => hI r hr (by simp)) hlow (by omega) c5 c6 c7 c8 c9 c10 c11
    · obtain ⟨F, rfl⟩ : ∃ F', F = F' + 1 := ⟨F - 1, by omega⟩
      have ht : tcm (op2 neD (rdS 3) (lstE (nilA))) [.shr (encN n es), .shr st, .own (.dict (encR P)), .shr (.list (intL Q)), .shr (.int k), .emp, .emp, .emp, .emp, .emp, .emp, .emp] = .ok true [.shr (encN n es), .shr st, .own (.dict (encR P)), .shr (.list (intL Q)), .shr (.int k), .emp, .emp, .emp, .emp, .emp, .emp, .emp] := by
        refine tcm_ok (op2_ok (rdS_ok rfl) (lstE_ok nilA_ok (by show 0 ≤ sizeLine; decide)) ?_)
        rw [neD_l0 (intL_nd Q)]
        cases Q with
        | nil => exact absurd rfl hq
        | cons _ _ => rfl
      have s3 : q__law_met_3 [.shr (encN n es), .shr st, .own (.dict (encR P)), .shr (.list (intL Q)), .shr (.int k), .emp, .emp, .emp, .emp, .emp, .emp, .emp] = .nx [.shr (encN n es), .shr st, .own (.dict (encR P)), .shr (.list (intL Q)), .shr (.int ((k + 1 : Nat) : Int)), .own (.list (intL [])), .emp, .emp, .emp, .emp, .emp, .emp] := rfl
      have f0 : fdK (k + 1) P [] = encR P := by unfold fdK; rw [List.map_nil, List.append_nil]
      obtain ⟨L, s4, p1, p2⟩ := met_levelD hst hN h (Q := Q) fun x hx => by
        obtain ⟨j, g1, g2, _⟩ := h.old _ (hQ x hx)
        have : j = k := by
          have : (k : Int) = j := g1
          omega
        exact ⟨k, rfl, this ▸ g2⟩
      rw [f0] at s4
      have f1 : fdK (k + 1) P L = encR (P ++ L.map fun x => (x, ((k + 1 : Nat) : Int))) := rfl
      rw [f1] at s4
      have hmap : (P ++ L.map fun x => (x, ((k + 1 : Nat) : Int))).map (·.1) = P.map (·.1) ++ L := by
        rw [List.map_append, List.map_map]
        congr 1
        exact List.map_id' ..
      have s10 : q__law_met_10 [.shr (encN n es), .shr st, .own (.dict (encR (P ++ L.map fun x => (x, ((k + 1 : Nat) : Int))))), .shr (.list (intL Q)), .shr (.int ((k + 1 : Nat) : Int)), .own (.list (intL L)), .emp, .emp, .emp, .emp, .emp, .emp] = .nx [.shr (encN n es), .shr st, .own (.dict (encR (P ++ L.map fun x => (x, ((k + 1 : Nat) : Int))))), .shr (.list (intL L)), .shr (.int ((k + 1 : Nat) : Int)), .shr (.list (intL L)), .emp, .emp, .emp, .emp, .emp, .emp] := rfl
      have hlen := p1.len (hN.few m)
      rw [List.length_append, List.length_map] at hlen
      have h2 : MD (grM m es) (k + 1 + 1) (P ++ L.map fun x => (x, ((k + 1 : Nat) : Int))) [] := {
        nd := by rw [List.append_nil, hmap]; exact p1.nd
        old := fun r hr => by
          rcases List.mem_append.mp hr with z | z
          · obtain ⟨j, g1, g2, g3⟩ := h.old r z
            exact ⟨j, g1, g2, by omega⟩
          · obtain ⟨x, hx, rfl⟩ := List.mem_map.mp z
            exact ⟨k + 1, rfl, p1.new x hx, by omega⟩
        new := fun x hx => by cases hx
        zero := List.mem_append_left _ h.zero }
      obtain ⟨P3, e3, r1, r2, r3, r4, r5⟩ := ih (k + 1) (P ++ L.map fun x => (x, ((k + 1 : Nat) : Int))) L (by
        rw [List.length_append, List.length_map]
        rw [if_neg hq] at hd
        by_cases c : L = []
        · rw [if_pos c]; omega
        · rw [if_neg c]
          have := List.length_pos_iff.mpr c
          omega) h2 (fun x hx => List.mem_append_right _ (List.mem_map.mpr ⟨x, hx, rfl⟩)) (fun r hr hn => by
          rw [hmap]
          rcases List.mem_append.mp hr with z | z
          · by_cases c : r.1 ∈ Q
            · exact p2 r.1 c
            · exact (hI r z c).mono fun y hy => List.mem_append_left _ hy
          · obtain ⟨x, hx, rfl⟩ := List.mem_map.mp z
            exact absurd hx hn) (fun j p hj w => by
          by_cases cj : j ≤ k
          · obtain ⟨i, g1, g2⟩ := hlow j p cj w
            exact ⟨i, g1, List.mem_append_left _ g2⟩
          · have hjk : j = k + 1 := by omega
            subst hjk
            cases w with
            | @on _ q _ a b w' he hab =>
              obtain ⟨i, g1, g2⟩ := hlow k q (Nat.le_refl _) w'
              by_cases ci : i = k
              · subst ci
                have hqQ : q ∈ Q := hlev _ g2 rfl
                obtain ⟨n1, n2⟩ := p2 q hqQ _ _ he
                have hin : p ∈ P.map (·.1) ++ L := by
                  rcases hab with ⟨z1, z2⟩ | ⟨z1, z2⟩
                  · rw [z2]; exact n1 z1.symm
                  · rw [z2]; exact n2 z1.symm
                rcases List.mem_append.mp hin with z | z
                · obtain ⟨r, hr, rfl⟩ := List.mem_map.mp z
                  obtain ⟨j', x1, x2, x3⟩ := h.old r hr
                  exact ⟨j', by omega, List.mem_append_left _ (by rw [← x1]; exact hr)⟩
                · exact ⟨i + 1, Nat.le_refl _, List.mem_append_right _ (List.mem_map.mpr ⟨p, z, rfl⟩)⟩
              · obtain ⟨j', x1, x2, x3⟩ := h.old _ g2
                have hij : j' = i := by
                  have : (i : Int) = j' := x1
                  omega
                obtain ⟨i', y1, y2⟩ := hlow (i + 1) p (by omega) (.on (hij ▸ x2) he hab)
                exact ⟨i', by omega, List.mem_append_left _ y2⟩) (fun r hr hv => by
          rcases List.mem_append.mp hr with z | z
          · obtain ⟨j', x1, x2, x3⟩ := h.old r z
            rw [hv] at x1
            omega
          · obtain ⟨x, hx, rfl⟩ := List.mem_map.mp z
            exact hx) F (by omega) (.shr (.list (intL L))) .emp .emp .emp .emp .emp .emp
      exact ⟨P3, e3, (whL_nx (e1 := [.shr (encN n es), .shr st, .own (.dict (encR P)), .shr (.list (intL Q)), .shr (.int k), .emp, .emp, .emp, .emp, .emp, .emp, .emp]) ht (Eq.trans (sq_nx s3) (Eq.trans (sq_nx s4) s10))).trans r1, r2, r3, r4, r5⟩
theorem met_dist (hst : ∀ x, inD (.str x) st = some (.bool (m x))) (hN : NetOk n es) : ∃ P : List (Int × Int), f__law_met [encN n es, st] = .ok (.dict (encR P)) [] ∧ (P.map (·.1)).Nodup ∧ (∀ p, p ∈ P.map (·.1) ↔ Rch (grM m es) p) ∧
    ∀ r ∈ P, ∃ j : Nat, r.2 = j ∧ RchN (grM m es) j r.1 ∧ ∀ i, RchN (grM m es) i r.1 → j ≤ i := by
  have e1 : f__law_met [encN n es, st] = outF false [] (d__law_met [.shr (encN n es), .shr st, .emp, .emp, .emp, .emp, .emp, .emp, .emp, .emp, .emp, .emp]) := by unfold f__law_met; rw [fnD_ok (by rfl)]; rfl
  have s1 : q__law_met_1 [.shr (encN n es), .shr st, .emp, .emp, .emp, .emp, .emp, .emp, .emp, .emp, .emp, .emp] = .nx [.shr (encN n es), .shr st, .own (.dict (encR [(0, 0)])), .shr (.list (intL [0])), .shr (.int ((0 : Nat) : Int)), .emp, .emp, .emp, .emp, .emp, .emp, .emp] := rfl
  have h0 : MD (grM m es) (0 + 1) [(0, 0)] [] := {
    nd := by simp
    old := fun r hr => by rw [List.mem_singleton.mp hr]; exact ⟨0, rfl, .zero, by omega⟩
    new := fun x hx => by cases hx
    zero := by simp }
  obtain ⟨P, e', k1, k2, k3, k4, k5⟩ := met_outD hst hN (n + 1) 0 [(0, 0)] [0] (by simp) h0 (fun x hx => by rw [List.mem_singleton.mp hx]; simp) (fun r hr hn => absurd (by rw [List.mem_singleton.mp hr]; simp) hn) (fun j p hj w => by
    have : j = 0 := by omega
    subst this
    cases w
    exact ⟨0, Nat.le_refl _, by simp⟩) (fun r hr hv => by rw [List.mem_singleton.mp hr]; simp) 1000000 (by have := hN.n2; omega) .emp .emp .emp .emp .emp .emp .emp
  rw [e1]
  unfold d__law_met
  rw [sq_nx s1, sq_nx (f := q__law_met_2) k1]
  refine ⟨P, ?_, k3, k4, k5⟩
  unfold q__law_met_11 rtO
  rw [k2]; rfl
theorem look_R {P : List (Int × Int)} {p v : Int} (hn : (P.map (·.1)).Nodup) (h : (p, v) ∈ P) : lookD (encR P) (.int p) = some (.int v) := by
  induction P with
  | nil => cases h
  | cons r P ih =>
    obtain ⟨n1, n2⟩ := List.nodup_cons.mp (show (r.1 :: P.map (·.1)).Nodup from hn)
    unfold lookD encR at ih ⊢
    rw [List.map_cons, List.find?_cons]
    have e : PyData.eqv (.int r.1) (.int p) = (r.1 == p) := rfl
    show Option.map _ (match PyData.eqv (.int r.1) (.int p) with | true => _ | false => _) = _
    rw [e]
    by_cases c : r.1 = p
    · rw [show (r.1 == p) = true from beq_iff_eq.mpr c]
      rcases List.mem_cons.mp h with z | z
      · rw [← z]; rfl
      · exact absurd (List.mem_map.mpr ⟨(p, v), z, c.symm⟩) n1
    · rw [show (r.1 == p) = false from beq_eq_false_iff_ne.mpr c]
      rcases List.mem_cons.mp h with z | z
      · exact absurd (by rw [← z]) c
      · exact ih n2 z
theorem keys_R (P : List (Int × Int)) : Keys (encR P) (P.map (·.1)) := by
  show (encR P).map (·.1) = intL (P.map (·.1))
  unfold encR intL
  rw [List.map_map, List.map_map]; rfl
end
end PV
/-! // by large divisors; small lemmas -/
namespace PV
open PySem PySem.Calls PySem.Spec PyProof.Rows L2
def CDivW (i j : Int) : Prop := 0 < j ∧ j.natAbs < 2 ^ 200
def fdivW : D → D → Option D
  | .int i, .int j => if (decide (0 < j) && decide (j.natAbs < 2 ^ 200)) = true then some (.int (i / j)) else none
  | _, _ => none
section
variable {X : Cx}
theorem op_fdivW : OpR X (binaryOp .FloorDiv) (rI CDivW fun i j => .int (i / j)) := opI fun i j _ _ _ _ _ hc q => by
  have h1 : (0 : Int) < j := hc.1
  refine floordiv_int (by omega) (by rw [Int.fdiv_eq_ediv_of_nonneg i (by omega)]; exact q) (.inl (PyProof.noPylong_of_log2 ?_))
  have h0 : j.natAbs ≠ 0 := by omega
  have := (Nat.log2_lt h0).mpr hc.2
  omega
theorem oo_fdivW : OpR X (binaryOp .FloorDiv) (r2 X.K .fre fdivW) := o_int op_fdivW fun a b d e => by
  cases a <;> cases b <;> first | (obtain ⟨c, rfl⟩ := if_some (show (if _ then some _ else none) = some d from e); simp only [Bool.and_eq_true, decide_eq_true_eq] at c; exact ⟨_, _, rfl, rfl, c, .inl ⟨_, rfl, rfl⟩⟩) | cases e
end
theorem fdivW_ok {i j : Int} (h : 0 < j) (h2 : j.natAbs < 2 ^ 200) : fdivW (.int i) (.int j) = some (.int (i / j)) := by
  show (if (decide (0 < j) && decide (j.natAbs < 2 ^ 200)) = true then some (PyData.int (i / j)) else none) = _
  rw [if_pos (by rw [decide_eq_true h, decide_eq_true h2]; rfl)]
section
variable {e e1 e2 : EnvD}
theorem andT_ok {ta tb : M Bool} {ka kb : Bool} (h : ta e = .ok ka e1) (h2 : ka = true → tb e1 = .ok kb e1) : andT ta tb e = .ok (ka && kb) e1 := by
  cases ka with
  | false => exact andT_f h
  | true => exact Eq.trans (andT_t h) (h2 rfl)
theorem orT_ok {ta tb : M Bool} {ka kb : Bool} (h : ta e = .ok ka e1) (h2 : ka = false → tb e1 = .ok kb e1) : orT ta tb e = .ok (ka || kb) e1 := by
  cases ka with
  | true => exact orT_t h
  | false => exact Eq.trans (orT_f h) (h2 rfl)
theorem parS_ok {i j : Nat} {a b : M D} {x y : D} (h : a e = .ok x e1) (h2 : b e1 = .ok y e2) : parS i j a b e = .nx ((e2.set i (.shr x)).set j (.shr y)) := by
  show thenS _ _ _ = _
  rw [thenS_ok (consA_ok h (consA_ok h2 nilA_ok))]
theorem par3S_ok {i j k : Nat} {a b c : M D} {e3 : EnvD} {x y z : D} (h : a e = .ok x e1) (h2 : b e1 = .ok y e2) (h3 : c e2 = .ok z e3) : par3S i j k a b c e = .nx (((e3.set i (.shr x)).set j (.shr y)).set k (.shr z)) := by
  show thenS _ _ _ = _
  rw [thenS_ok (consA_ok h (consA_ok h2 (consA_ok h3 nilA_ok)))]
theorem notV_ok {a : M D} {k : Bool} (h : a e = .ok (.bool k) e1) : notV a e = .ok (.bool (!k)) e1 := by
  unfold notV
  rw [bnd_ok h]; rfl
theorem augS_ok {g : D → D → Option D} {k : Nat} {mi mv : M D} {o i x y z o' : D} (h0 : e[k]? = some (.own o)) (hi : mi e = .ok i e) (hx : ixD o i = some x) (hv : mv e = .ok y e) (hg : g x y = some z) (hp : putD o i z = some o') : augS g k mi mv e = .nx (e.set k (.own o')) := by
  unfold augS
  rw [h0]
  simp only
  rw [thenS_ok hi]
  simp only [h0, hx]
  rw [thenS_ok hv]
  simp only [h0, hg, hp]
end
theorem addT_ok {A B : List D} (h : A.length + B.length ≤ 100000) : addD (.tuple A) (.tuple B) = some (.tuple (A ++ B)) := by
  show (if _ then some _ else none) = _
  rw [if_pos (by show A.length + B.length ≤ sizeLine; unfold sizeLine; omega)]
theorem addL_ok {A B : List D} (h : A.length + B.length ≤ 100000) : addD (.list A) (.list B) = some (.list (A ++ B)) := by
  show (if _ then some _ else none) = _
  rw [if_pos (by show A.length + B.length ≤ sizeLine; unfold sizeLine; omega)]
def intT (P : List Int) : D := .tuple (intL P)
theorem inB_intT (P : List Int) (x : Int) : inB (.int x) (intT P) = some (P.contains x) := by
  have c : (noDict (.int x) && noDicts (intL P) && decide (min (PyData.depthAll (intL P)) (PyData.int x).depth ≤ 60)) = true := by
    rw [intL_nd, intL_dep]; rfl
  show (if _ then some ((intL P).any fun z => PyData.eqv z (.int x)) else none) = _
  rw [if_pos c, intL_any]
theorem inD_intT (P : List Int) (x : Int) : inD (.int x) (intT P) = some (.bool (P.contains x)) := by unfold inD; rw [inB_intT]; rfl
theorem ninD_intT (P : List Int) (x : Int) : ninD (.int x) (intT P) = some (.bool (!P.contains x)) := by unfold ninD; rw [inB_intT]; rfl
theorem intL_len (P : List Int) : (intL P).length = P.length := by unfold intL; rw [List.length_map]
theorem eqvAll_int : ∀ (S T : List Int), PyData.eqvAll (intL S) (intL T) = (S == T)
  | [], [] => rfl
  | [], _ :: _ => rfl
  | _ :: _, [] => rfl
  | x :: S, y :: T => by
    show ((x == y) && PyData.eqvAll (intL S) (intL T)) = _
    rw [eqvAll_int S T]; rfl
theorem eqD_intT (S T : List Int) : eqD (intT S) (intT T) = some (.bool (S == T)) := by
  rw [eqD_of (a := intT S) (b := intT T) (intL_nd S) (intL_nd T) (by show PyData.depthAll (intL S) + 1 ≤ 64; rw [intL_dep]; decide)]
  show some (PyData.bool (PyData.eqvAll (intL S) (intL T))) = _
  rw [eqvAll_int]
theorem plain_intT {P : List Int} (h : P.length ≤ 1000) (k : Nat) : plainD (k + 2) (intT P) = true := by
  show (decide ((intL P).length ≤ 16777216) && (intL P).all (plainD (k + 1))) = true
  rw [intL_len, decide_eq_true (by omega), Bool.true_and]
  exact List.all_eq_true.mpr fun d hd => by
    obtain ⟨x, _, rfl⟩ := List.mem_map.mp hd
    rfl
theorem ints_at {R : List Int} {i : Nat} {r : Int} (h : R[i]? = some r) : ixD (.list (intL R)) (.int i) = some (.int r) := by
  show L2.atI (R.map PyData.int) (i : Int) = _
  exact L2.atI_nat (by rw [List.getElem?_map, h]; rfl)
theorem intT_at {R : List Int} {i : Nat} {r : Int} (h : R[i]? = some r) : ixD (intT R) (.int i) = some (.int r) := by
  show L2.atI (R.map PyData.int) (i : Int) = _
  exact L2.atI_nat (by rw [List.getElem?_map, h]; rfl)
theorem net_at' {es : List Edge} {k : Nat} {e : Edge} (h : es[k]? = some e) : ixD (.tuple (es.map encE)) (.int k) = some (encE e) := by
  show L2.atI (es.map encE) (k : Int) = _
  exact L2.atI_nat (by rw [List.getElem?_map, h]; rfl)
end PV
/-! x.extend(v), v a list or a tuple -/
namespace PV
open PySem PySem.Calls PySem.Spec PyProof.Rows L2
def extE (k : Nat) (mv : M D) : Sm := fun e0 => match e0[k]? with
  | some (.own (.list _)) => thenS mv (fun v => fun e => match e[k]? with
    | some (.own (.list ds)) => match v with
      | .list zs => if ds.length + zs.length ≤ sizeLine then .nx (e.set k (.own (.list (ds ++ zs)))) else .no
      | .tuple zs => if ds.length + zs.length ≤ sizeLine then .nx (e.set k (.own (.list (ds ++ zs)))) else .no
      | _ => .no
    | _ => .no) e0
  | _ => .no
section
variable {prog : Program} {w : World} {A : Around} {E : Value → Shared → Prop} {s : Shared}
theorem extend_tup {l b : Addr} {xs ys : Array Value} {n : Nat} {Q : Value → Shared → Prop} (hl : s.heap.get? l = some { cls := .type "list", dict := none, data := .seq xs n, slots := #[] }) (hb : IsTup s.heap b ys) (hz : xs.size + ys.size ≤ sizeLine)
    (h : Q .none { s with heap := s.heap.update l (Obj.mapSeq (· ++ ys)) }) : wpAny (model prog w) A (call (.builtin "list.extend") [.ref l, .ref b]) Q E s := by
  have hlt : s.TypeIs (.ref l) "list" := ⟨_, hl, rfl⟩
  obtain ⟨o, ho, hc, n2, hd⟩ := id hb
  refine wpAny_call_entry PySem.F.slot_list_extend hlt PySem.F.entry_list_extend ?_ (PySem.F.args_list_extend_2 _ _)
  show wpAny _ _ (selfAndOne "list.extend" ⟨[.ref l, .ref b], []⟩ >>= _) _ _ s
  refine wpAny_bind (wpAny_bind (wpAny_pure (wpAny_pure ?_)))
  show wpAny _ _ (Builtin.List.listExtendWith (.ref l) (.ref b) .none) _ _ s
  unfold Builtin.List.listExtendWith
  refine wpAny_bind (wpAny_typeOf (T := "tuple") ⟨o, ho, hc⟩ ?_)
  have hq : (Value.type "tuple" == Value.type "tuple") = true := by rfl
  rw [if_pos (by rw [hq]; simp)]
  refine wpAny_bind (listItems_at ho hd ?_)
  refine wpAny_bind (listItems_at hl rfl ?_)
  have hno : ¬ (!xs.isEmpty && Builtin.List.listTooLong (xs.size + ys.size)) = true := by
    rw [notLongL hz, Bool.and_false]
    simp
  rw [if_neg hno]
  refine wpAny_bind (listUpdate_at hl rfl ?_ (by omega) (by show (xs ++ ys).size ≤ sizeLine + 1; simp only [Array.size_append]; omega))
  first
    | exact wpAny_pure ⟨_, rfl, h⟩
    | exact wpAny_pure ⟨_, rfl, wpAny_pure h⟩
    | exact wpAny_bind (wpAny_pure (wpAny_pure ⟨_, rfl, h⟩))
    | exact wpAny_bind (wpAny_pure (wpAny_pure ⟨_, rfl, wpAny_pure h⟩))
end
section
variable {X : Cx} {G : Amb} {p pa pb pc : Bool} {l la lb fl : Lvl} {e a b c : Expr} {es : List Expr} {f fa fb fc : M D} {pos apos p' p2 : Pos} {x : Str}
def rExtA (K : PySem.W.Frag) : V → List V → Hp → VK → Prop := fun x vs H Q => ∃ l b xs zs, x = .ref l ∧ vs = [.ref b] ∧ H l = some (.lst xs) ∧ (Rd H b (.lst zs) ∨ SqT K H b zs) ∧ xs.length + zs.length ≤ sizeLine ∧ Q .non (upd H l (.lst (xs ++ zs)))
theorem mt_extA : MtM X "list.extend" (rExtA X.K) := by
  intro pn s σ H x vs v us Q I rx rv h
  obtain ⟨l, b, xs, zs, rfl, rfl, hH, hB, hz, q⟩ := h
  rcases hB with hB | hB
  · exact mt_extR pn s σ H _ _ v us Q I rx rv ⟨l, b, xs, zs, rfl, rfl, hH, hB, hz, q⟩
  · cases rx
    obtain ⟨u, rfl, ru⟩ := rv.one
    cases ru
    obtain ⟨_, i1, n1, r1, l1, e1⟩ := lst_at I (.inl hH)
    obtain ⟨i2, r2, p2, l2⟩ := I.tuple hB
    have hz2 : i1.toArray.size + i2.toArray.size ≤ sizeLine := by
      have h1 := r1.length
      have h2 := r2.length
      simp only [List.size_toArray]; omega
    refine extend_tup e1 p2 hz2 ⟨.non, _, ?_, rfl, q⟩
    exact I.lset (its' := i1 ++ i2) hH e1 (by simp) (r1.append r2) (by rw [List.length_append]; omega)
theorem j_extE (k : Nat) (ho : PE X (.Name x p') (tVar k)) (hv : J X G pa la a fa) (hl : la.safe = true := by rfl) (hbase : attributeBase (.Name x p') "extend" X.env (eval (.Name x p') X.env) = eval (.Name x p') X.env := by rfl)
    (hfew : ((backTo p2 (starEach [a] X.env)).all (fun x => !x.1) && (backToKw p2 (keywordEach [] X.env)).all (fun x => x.1.isSome)
      && decide (([a] : List Expr).length + ([] : List Keyword).length + (if ([] : List Keyword).isEmpty then 0 else 1) < 30)) = true := by rfl)
    (hline : (apos.endLine == p2.line) = true := by rfl) (hst : starEach [a] X.env = (false, eval a X.env) :: starEach [] X.env := by rfl) (hplain : (backTo p2 (starEach [] X.env)).any (·.1) = false := by rfl)
    (hs : swapsWith (.Call (.Attribute (.Name x p') "extend" apos) [a] [] p2) none pos.line X.env = pure false := by rfl) :
    JS X G fl (.Expr (.Call (.Attribute (.Name x p') "extend" apos) [a] [] p2) pos) (extE k fa) :=
    ps_mono (ps_expr (pe_bm PySem.F.plainAttrs_list PySem.F.slot_list_extend PySem.F.type_list_extend mt_extA ho (pa_cons hv pa_nil hst) hbase hfew hline hst hplain) hs) fun Dn σ H ⟨env, S, q⟩ => by
  unfold extE at q
  cases ec : env[k]? with
  | none => rw [ec] at q; exact q.elim
  | some cc =>
    rw [ec] at q
    cases cc with
    | emp => exact q.elim
    | shr d => exact q.elim
    | own d =>
      cases d with
      | list ds0 =>
        simp only at q
        obtain ⟨a0, s0, r0, _⟩ := S.own k _ ec
        have hty : tyV X.K "list" (.ref a0) H := by
          cases r0 with
          | lst h _ => exact .inl ⟨rfl, _, .inl (.inl h)⟩
        refine ⟨.ref a0, s0, hty, env, S, (OkS.thenS pa q).mono fun v env1 H1 ⟨f1, q1⟩ vv rv => ?_⟩
        have rv1 : Rp X.K H1 (G.R σ env1) vv v := RpX.rp (fun a z => S.dom a (f1.sub a z)) hl rv
        cases e1 : env1[k]? with
        | none => rw [e1] at q1; exact q1.elim
        | some c1 =>
          rw [e1] at q1
          cases c1 with
          | emp => exact q1.elim
          | shr d => exact q1.elim
          | own d1 =>
            cases d1 with
            | list ds =>
              cases v with
              | list zs =>
                simp only at q1
                by_cases hlen : ds.length + zs.length ≤ sizeLine
                · rw [if_pos hlen] at q1
                  obtain ⟨a1, s1, r1, _⟩ := f1.st.own k _ e1
                  rw [s0] at s1
                  cases s1
                  obtain ⟨b, ys, rfl, h3, h4⟩ := (RpC.of rv1).list
                  cases r1 with
                  | lst h1 h2 =>
                    have ra : G.R σ env1 a0 := .inr ⟨k, _, e1, s0⟩
                    refine ⟨a0, b, _, ys, rfl, rfl, h1, .inl h3, by rw [h2.length, h4.length]; exact hlen, q1 σ _ (f1.st.mut e1 s0 h1 trivial trivial (.lst upd_same ?_))⟩
                    exact (h2.append h4).fwd (fwdM ra h1 trivial)
                · rw [if_neg hlen] at q1; exact q1.elim
              | tuple zs =>
                simp only at q1
                by_cases hlen : ds.length + zs.length ≤ sizeLine
                · rw [if_pos hlen] at q1
                  obtain ⟨a1, s1, r1, _⟩ := f1.st.own k _ e1
                  rw [s0] at s1
                  cases s1
                  obtain ⟨b, ys, rfl, h3, h4⟩ := (RpC.of rv1).tuple
                  cases r1 with
                  | lst h1 h2 =>
                    have ra : G.R σ env1 a0 := .inr ⟨k, _, e1, s0⟩
                    refine ⟨a0, b, _, ys, rfl, rfl, h1, .inr h3, by rw [h2.length, h4.length]; exact hlen, q1 σ _ (f1.st.mut e1 s0 h1 trivial trivial (.lst upd_same ?_))⟩
                    exact (h2.append h4).fwd (fwdM ra h1 trivial)
                · rw [if_neg hlen] at q1; exact q1.elim
              | _ => exact q1.elim
            | _ => exact q1.elim
      | _ => exact q.elim
end
end PV
namespace PV
open PySem PySem.Spec PyProof.Rows L2
/-! loops over typed rows -/
section
variable {α S : Type} {t : Tg} {dead vs : List Nat} {body : Sm} {m : M (List D)} {e e1 : EnvD} {l : List α} {tt : M Bool} {te : M D}
/-- one round -/
def stepW (t : Tg) (d : D) (body : Sm) (e : EnvD) : Out := match bindT t d e with
  | some e2 => body e2
  | none => .no
def nxW (dead : List Nat) (o : Out) (e : EnvD) : Prop := match o with
  | .nx e3 => wip dead e3 = wip dead e
  | .ct e3 => wip dead e3 = wip dead e
  | _ => False
def rtW (d : D) (o : Out) : Prop := match o with
  | .rt d2 _ => d2 = d
  | _ => False
theorem nxW_out {o : Out} (h : nxW dead o e) : ∃ e3, (o = .nx e3 ∨ o = .ct e3) ∧ wip dead e3 = wip dead e := by
  cases o with
  | nx e3 => exact ⟨e3, .inl rfl, h⟩
  | ct e3 => exact ⟨e3, .inr rfl, h⟩
  | rt _ _ => exact h.elim
  | bk _ => exact h.elim
  | exc _ _ => exact h.elim
  | no => exact h.elim
theorem rtW_out {o : Out} {d : D} (h : rtW d o) : ∃ e3, o = .rt d e3 := by
  cases o with
  | rt d2 e3 => exact ⟨e3, by rw [show d2 = d from h]⟩
  | nx _ => exact h.elim
  | ct _ => exact h.elim
  | bk _ => exact h.elim
  | exc _ _ => exact h.elim
  | no => exact h.elim
theorem frL_nxW {d : D} {ds : List D} (h : nxW dead (stepW t d body (wip dead e)) e1) : ∃ e3, wip dead e3 = wip dead e1 ∧ frL t dead body (d :: ds) e = frL t dead body ds e3 := by
  obtain ⟨e3, h1, h2⟩ := nxW_out h
  refine ⟨e3, h2, ?_⟩
  unfold stepW at h1
  cases hb : bindT t d (wip dead e) with
  | none => rw [hb] at h1; rcases h1 with h1 | h1 <;> cases h1
  | some e2 =>
    rw [hb] at h1
    simp only at h1
    rcases h1 with h1 | h1 <;> (conv => lhs; unfold frL) <;> simp only [hb, h1]
theorem frL_rtW {d x : D} {ds : List D} (h : rtW x (stepW t d body (wip dead e))) : ∃ e3, frL t dead body (d :: ds) e = .rt x e3 := by
  obtain ⟨e3, h1⟩ := rtW_out h
  refine ⟨e3, ?_⟩
  unfold stepW at h1
  cases hb : bindT t d (wip dead e) with
  | none => rw [hb] at h1; cases h1
  | some e2 =>
    rw [hb] at h1
    unfold frL
    rw [hb]
    simp only at h1 ⊢
    simp only [h1]
/-- a loop over a row: what holds of the part gone through and the state -/
theorem frR (enc : α → D) (env : S → EnvD) (P : List α → S → Prop) {s0 : S} (hm : m e = .ok (l.map enc) e1) (h0 : wip dead e1 = wip dead (env s0)) (p0 : P [] s0)
    (hs : ∀ pre a post s, l = pre ++ a :: post → P pre s → ∃ s', nxW dead (stepW t (enc a) body (wip dead (env s))) (env s') ∧ P (pre ++ [a]) s') :
    ∃ s, frS t dead m body e = .nx (wip dead (env s)) ∧ P l s := by
  unfold frS
  rw [thenS_ok hm]
  have key : ∀ (r pre : List α) (s : S) (ee : EnvD), l = pre ++ r → wip dead ee = wip dead (env s) → P pre s → ∃ s', frL t dead body (r.map enc) ee = .nx (wip dead (env s')) ∧ P l s' := by
    intro r
    induction r with
    | nil =>
      intro pre s ee hl he hp
      rw [List.append_nil] at hl
      subst hl
      exact ⟨s, by rw [← he]; rfl, hp⟩
    | cons a r ih =>
      intro pre s ee hl he hp
      obtain ⟨s', h2, h4⟩ := hs pre a r s hl hp
      rw [← he] at h2
      obtain ⟨e3, h3, h5⟩ := frL_nxW (ds := r.map enc) h2
      obtain ⟨s2, g1, g2⟩ := ih (pre ++ [a]) s' e3 (by rw [hl, List.append_assoc]; rfl) h3 h4
      exact ⟨s2, by rw [List.map_cons, h5]; exact g1, g2⟩
  exact key l [] s0 e1 rfl h0 p0
/-- a loop that changes nothing that is kept -/
theorem frK (enc : α → D) (hm : m e = .ok (l.map enc) e1) (hs : ∀ a ∈ l, nxW dead (stepW t (enc a) body (wip dead e1)) e1) : frS t dead m body e = .nx (wip dead e1) := by
  obtain ⟨s, h, _⟩ := frR (t := t) (dead := dead) (body := body) enc (fun _ : Unit => e1) (fun _ _ => True) (s0 := ()) hm rfl trivial fun pre a post s hl _ => ⟨(), hs a (by rw [hl]; simp), trivial⟩
  exact h
/-- a loop that ends at the first that is so -/
theorem frFind (enc : α → D) (p : α → Bool) (g : α → D) (hm : m e = .ok (l.map enc) e1)
    (hs : ∀ a ∈ l, if p a = true then rtW (g a) (stepW t (enc a) body (wip dead e1)) else nxW dead (stepW t (enc a) body (wip dead e1)) e1) :
    match l.find? p with
    | some a => ∃ e3, frS t dead m body e = .rt (g a) e3
    | none => frS t dead m body e = .nx (wip dead e1) := by
  unfold frS
  rw [thenS_ok hm]
  have key : ∀ (r : List α) (ee : EnvD), (∀ a ∈ r, a ∈ l) → wip dead ee = wip dead e1 → match r.find? p with
    | some a => ∃ e3, frL t dead body (r.map enc) ee = .rt (g a) e3
    | none => frL t dead body (r.map enc) ee = .nx (wip dead e1) := by
    intro r
    induction r with
    | nil => intro ee _ he; rw [← he]; rfl
    | cons a r ih =>
      intro ee hl he
      have h2 := hs a (hl a List.mem_cons_self)
      rw [← he] at h2
      rw [List.map_cons]
      by_cases hp : p a = true
      · rw [List.find?_cons_of_pos hp]
        rw [if_pos hp] at h2
        exact frL_rtW h2
      · rw [List.find?_cons_of_neg hp]
        rw [if_neg hp] at h2
        obtain ⟨e3, h3, h4⟩ := frL_nxW (ds := r.map enc) h2
        rw [h4]
        exact ih e3 (fun b hb => hl b (List.mem_cons_of_mem _ hb)) h3
  exact key l e1 (fun _ h => h) rfl
/-- a loop while, by a measure -/
theorem whR {tw : M Bool} (env : S → EnvD) (P Q : S → Prop) (mu : S → Nat) (hs : ∀ s, P s → (tw (wip dead (env s)) = .ok false (wip dead (env s)) ∧ Q s) ∨ (tw (wip dead (env s)) = .ok true (wip dead (env s)) ∧ ∃ s', nxW dead (body (wip dead (env s))) (env s') ∧ P s' ∧ mu s' < mu s)) :
    ∀ (F : Nat) (s0 : S) (e : EnvD), wip dead e = wip dead (env s0) → P s0 → mu s0 < F → ∃ s, whL tw dead body F e = .nx (wip dead (env s)) ∧ P s ∧ Q s := by
  intro F
  induction F with
  | zero => intro s0 e _ _ h; omega
  | succ F ih =>
    intro s0 e he hp hF
    rcases hs s0 hp with ⟨h1, h3⟩ | ⟨h1, s', h2, h4, h5⟩
    · refine ⟨s0, ?_, hp, h3⟩
      unfold whL
      rw [he, h1]
      simp
    · obtain ⟨e3, h6, h7⟩ := nxW_out h2
      obtain ⟨s, g1, g2⟩ := ih s' e3 h7 h4 (by omega)
      refine ⟨s, ?_, g2⟩
      unfold whL
      rw [he, h1]
      rcases h6 with h6 | h6 <;> simp only [h6, if_true] <;> exact g1
/-- [f x for x in l if p x] -/
theorem lcR (enc : α → D) (p : α → Bool) (f : α → D) (hm : m e = .ok (l.map enc) e1) (hno : noOwn vs e1 = true) (hr : rst vs e1 (wip vs e1) = e1)
    (h : ∀ a ∈ l, ∃ e2, bindT t (enc a) (wip vs e1) = some e2 ∧ tt e2 = .ok (p a) e2 ∧ (p a = true → te e2 = .ok (f a) e2) ∧ wip vs e2 = wip vs e1) :
    lcE t vs tt te m e = .ok (.list ((l.filter p).map f)) e1 := by
  unfold lcE
  rw [bnd_ok hm]
  simp only [hno, if_true]
  have key : ∀ (r : List α) (acc : List D), (∀ a ∈ r, a ∈ l) → lcL t vs tt te (r.map enc) acc (wip vs e1) = .ok (acc ++ (r.filter p).map f) (wip vs e1) := by
    intro r
    induction r with
    | nil => intro acc _; simp [lcL]
    | cons a r ih =>
      intro acc hl
      obtain ⟨e2, h1, h2, h3, h4⟩ := h a (hl a List.mem_cons_self)
      rw [List.map_cons]
      unfold lcL
      rw [h1]
      simp only [h2]
      have ih' := fun acc => ih acc fun b hb => hl b (List.mem_cons_of_mem _ hb)
      cases hp : p a with
      | true =>
        simp only [if_true, h3 hp]
        rw [h4, ih']
        simp [List.filter_cons, hp]
      | false =>
        simp only [Bool.false_eq_true, if_false]
        rw [h4, ih']
        simp [List.filter_cons, hp]
  rw [key l [] fun _ h => h]
  simp only [List.nil_append]
  rw [hr]
/-- [.. for x in l if p x], p never -/
theorem lcN (enc : α → D) (hm : m e = .ok (l.map enc) e1) (hno : noOwn vs e1 = true) (hr : rst vs e1 (wip vs e1) = e1)
    (h : ∀ a ∈ l, ∃ e2, bindT t (enc a) (wip vs e1) = some e2 ∧ tt e2 = .ok false e2 ∧ wip vs e2 = wip vs e1) :
    lcE t vs tt te m e = .ok (.list []) e1 := by
  rw [lcR (t := t) (vs := vs) (tt := tt) (te := te) enc (fun _ => false) (fun _ => .none) hm hno hr fun a ha => by
    obtain ⟨e2, h1, h2, h3⟩ := h a ha
    exact ⟨e2, h1, h2, nofun, h3⟩]
  have e3 : l.filter (fun _ => false) = [] := List.filter_eq_nil_iff.mpr fun _ _ z => by cases z
  rw [e3]
  rfl
/-- [f x for x in l] -/
theorem lcRa (enc : α → D) (f : α → D) (hm : m e = .ok (l.map enc) e1) (hno : noOwn vs e1 = true) (hr : rst vs e1 (wip vs e1) = e1)
    (h : ∀ a ∈ l, ∃ e2, bindT t (enc a) (wip vs e1) = some e2 ∧ te e2 = .ok (f a) e2 ∧ wip vs e2 = wip vs e1) :
    lcE t vs yesT te m e = .ok (.list (l.map f)) e1 := by
  have := lcR (t := t) (vs := vs) (tt := yesT) (te := te) enc (fun _ => true) f hm hno hr fun d hd => by
    obtain ⟨e2, h1, h2, h3⟩ := h d hd
    exact ⟨e2, h1, rfl, fun _ => h2, h3⟩
  rw [this]
  have e3 : l.filter (fun _ => true) = l := List.filter_eq_self.mpr fun _ _ => rfl
  rw [e3]
end
/-! primitive steps -/
theorem e_tup {ds : List D} {e : EnvD} (h : ds.length ≤ sizeLine) : (if ds.length ≤ sizeLine then some (PyData.tuple ds) else none) = some (.tuple ds) := if_pos h
theorem add_int (i j : Int) : addD (.int i) (.int j) = some (.int (i + j)) := rfl
theorem iadd_int (i j : Int) : iaddD (.int i) (.int j) = some (.int (i + j)) := rfl
theorem sub_int (i j : Int) : subD (.int i) (.int j) = some (.int (i - j)) := rfl
theorem ltD_int (i j : Int) : ltD (.int i) (.int j) = some (.bool (decide (i < j))) := rfl
theorem leD_int (i j : Int) : leD (.int i) (.int j) = some (.bool (decide (i ≤ j))) := rfl
theorem gtD_int (i j : Int) : gtD (.int i) (.int j) = some (.bool (decide (j < i))) := rfl
theorem geD_int (i j : Int) : geD (.int i) (.int j) = some (.bool (decide (j ≤ i))) := rfl
theorem neD_int (i j : Int) : neD (.int i) (.int j) = some (.bool (!(i == j))) := rfl
theorem neD_str (i j : Str) : neD (.str i) (.str j) = some (.bool (!(i == j))) := rfl
theorem lenD_l (ds : List D) : lenD [.list ds] = some (.int ds.length) := rfl
theorem lenD_t (ds : List D) : lenD [.tuple ds] = some (.int ds.length) := rfl
theorem tupD_l (ds : List D) : tupD [.list ds] = some (.tuple ds) := rfl
theorem tupD_t (ds : List D) : tupD [.tuple ds] = some (.tuple ds) := rfl
theorem lisD_l (ds : List D) : lisD [.list ds] = some (.list ds) := rfl
theorem lisD_t (ds : List D) : lisD [.tuple ds] = some (.list ds) := rfl
theorem intD_i (i : Int) : intD [.int i] = some (.int i) := rfl
theorem ix_l {ds : List D} {k : Nat} {d : D} (h : ds[k]? = some d) : ixD (.list ds) (.int (k : Int)) = some d := L2.atI_nat h
theorem ix_t {ds : List D} {k : Nat} {d : D} (h : ds[k]? = some d) : ixD (.tuple ds) (.int (k : Int)) = some d := L2.atI_nat h
theorem ix_t0 (a : D) (r : List D) : ixD (.tuple (a :: r)) (.int 0) = some a := L2.atI_nat (j := 0) rfl
theorem ix_t1 (a b : D) (r : List D) : ixD (.tuple (a :: b :: r)) (.int 1) = some b := L2.atI_nat (j := 1) rfl
theorem ix_t2 (a b c : D) (r : List D) : ixD (.tuple (a :: b :: c :: r)) (.int 2) = some c := L2.atI_nat (j := 2) rfl
abbrev natD (i : Nat) : D := .int (i : Int)
theorem rngN_ok {r : M (List D)} {e e1 : EnvD} {n : Nat} (h : r e = .ok [.int (n : Int)] e1) (hn : n ≤ 16777216) : rngI1 r e = .ok ((List.range n).map natD) e1 :=
  (rngI1_ok (n := (n : Int)) h (by omega) (by omega)).trans (by rw [rngD_nat])
theorem nat_eq (a b : Nat) : ((a : Int) == (b : Int)) = decide (a = b) := by
  rw [Bool.eq_iff_iff]; simp; omega
theorem eqD_nat (a b : Nat) : eqD (.int (a : Int)) (.int (b : Int)) = some (.bool (decide (a = b))) := by rw [eqD_int, nat_eq]
theorem neD_nat (a b : Nat) : neD (.int (a : Int)) (.int (b : Int)) = some (.bool (!decide (a = b))) := by rw [neD_int, nat_eq]
theorem sl0 : ([] : List D).length ≤ sizeLine := by unfold sizeLine; simp
theorem sl1 (a : D) : [a].length ≤ sizeLine := by unfold sizeLine; simp
theorem sl2 (a b : D) : [a, b].length ≤ sizeLine := by unfold sizeLine; simp
theorem sl3 (a b c : D) : [a, b, c].length ≤ sizeLine := by unfold sizeLine; simp
theorem sl4 (a b c d : D) : [a, b, c, d].length ≤ sizeLine := by unfold sizeLine; simp
theorem sortOk_int (P : List Int) : sortOk (intL P) = true := by
  unfold sortOk
  rw [intL_nd, Bool.true_and]
  have a1 : ((intL P).all fun a => (intL P).all fun b => PySem.W.alike a b) = true := List.all_eq_true.mpr fun a ha => List.all_eq_true.mpr fun b hb => by
    obtain ⟨x, _, rfl⟩ := List.mem_map.mp ha
    obtain ⟨y, _, rfl⟩ := List.mem_map.mp hb
    rfl
  have a2 : (intL P).all noTup = true := List.all_eq_true.mpr fun a ha => by
    obtain ⟨x, _, rfl⟩ := List.mem_map.mp ha
    rfl
  have a3 : (intL P).all (fun d => decide (d.depth ≤ 60)) = true := List.all_eq_true.mpr fun a ha => by
    obtain ⟨x, _, rfl⟩ := List.mem_map.mp ha
    rfl
  rw [a1, a2, a3, Bool.or_true]; rfl
theorem dLe_int (a b : Int) : dLe (.int a) (.int b) = leZ a b := congrFun (congrFun leZ_eq a) b
theorem merge_int (P : List Int) : (intL P).mergeSort dLe = intL (P.mergeSort leZ) := (List.map_mergeSort (r := leZ) (s := dLe) (f := PyData.int) (fun a _ b _ => (dLe_int a b).symm)).symm
theorem sorE_intL (P : List Int) : sorE [.list (intL P)] = some (.list (intL (P.mergeSort leZ))) := by
  show (if sortOk (intL P) = true then some (PyData.list ((intL P).mergeSort dLe)) else none) = _
  rw [if_pos (sortOk_int P), merge_int]
theorem sorE_intT (P : List Int) : sorE [intT P] = some (.list (intL (P.mergeSort leZ))) := by
  show (if sortOk (intL P) = true then some (PyData.list ((intL P).mergeSort dLe)) else none) = _
  rw [if_pos (sortOk_int P), merge_int]
/-- range(n - 1, -1, -1) -/
theorem rngR_ok {r : M (List D)} {e e1 : EnvD} {n : Nat} (h : r e = .ok [.int ((n : Int) - 1), .int (-1), .int (-1)] e1) (hn : n ≤ 16777216) : rngI3 r e = .ok ((List.range n).reverse.map natD) e1 := by
  unfold rngI3
  rw [bnd_ok h]
  have := rngOk_of (lo := -1) (hi := (n : Int) - 1) (by omega) (by omega) (by omega) (by omega) (by omega)
  unfold rngA3
  simp only [this, decide_true, Bool.true_and, if_true]
  show Res.ok _ _ = _
  congr 1
  unfold rdnD
  have e0 : ((n : Int) - 1 - -1).toNat = n := by omega
  rw [e0]
  apply List.ext_getElem?
  intro i
  by_cases hi : i < n
  · rw [List.getElem?_map, List.getElem?_map, List.getElem?_range hi, List.getElem?_reverse (by simpa using hi), List.length_range, List.getElem?_range (by omega)]
    simp only [Option.map_some]
    congr 2
    omega
  · rw [List.getElem?_eq_none (by simpa using hi), List.getElem?_eq_none (by simpa using hi)]
theorem neD_bool (a b : Bool) : neD (.bool a) (.bool b) = some (.bool (!(a == b))) := rfl
theorem isT_tup (ds : List D) : isT "tuple" (.tuple ds) = true := rfl
/-- no own thing -/
def NoO : PV.Cell → Prop
  | .own _ => False
  | _ => True
theorem notI_tup {e e1 : EnvD} {m : M D} {ds : List D} (h : m e = .ok (.tuple ds) e1) : notT (tru (isiE "tuple" m)) e = .ok false e1 :=
  notT_ok (kb := true) (tru_ok (d := .bool true) (by unfold isiE; rw [bnd_ok h]; rfl) rfl)
/-- a def, run to its end -/
theorem fn_rt {io : List Bool} {n : Nat} {b : Sm} {ds : List D} {v : D} {e' : EnvD} (hl : ds.length = io.length) (hx : fxOf 0 io = []) (h : b (startE io ds ++ List.replicate (n - ds.length) .emp) = .rt v e') : fnD io n b ds = .ok v [] := by
  unfold fnD
  rw [if_pos hl, hx, h]
  rfl
end PV
namespace PV
open PySem PySem.Calls PySem.Spec PyProof.Rows L2

/-! sorted of tuples, () among them -/
section
variable {prog : Program} {w : World} {A : Around} {E : Value → Shared → Prop} {s : Shared}
theorem call_tuple_ltT {Q : Value → Shared → Prop} {l b : Addr} {items items2 : Array Value} {e r : Nat → Bool} (hl : s.heap.IsTuple l items) (hb : s.heap.IsTuple b items2)
    (he : ∀ j (h1 : j < items.size) (h2 : j < items2.size), SeqAt.EqAt A.in1 s items[j] items2[j] (e j)) (hr : ∀ j (h1 : j < items.size) (h2 : j < items2.size), e j = false → SeqAt.RcLt A.in1 s items[j] items2[j] (r j))
    (h : Q (.bool (SeqAt.firstLt e r (decide (items.size < items2.size)) (List.range (min items.size items2.size)))) s) : wpAny (model prog w) A (call (.builtin "tuple.__lt__") [.ref l, .ref b]) Q E s := by
  obtain ⟨⟨cls, dd, data, sl⟩, ho, hc, n, hd⟩ := id hl
  obtain ⟨⟨cls2, dd2, data2, sl2⟩, ho2, hc2, n2, hd2⟩ := id hb
  simp only at hc hd hc2 hd2
  subst hc hd hc2 hd2
  exact call_meets F.slot_tuple_lt ⟨_, ho, rfl⟩ F.entry_tuple_lt (F.args_tuple_lt_2 _ _) (SeqAt.tuple_ltAt l b items items2 n n2 dd dd2 sl sl2 e r) ⟨ho, ho2, he, hr, h⟩
theorem oneLt_tupT {xs ys : List PyData} {a b : Value} {as bs : List Addr} {Q : Bool → Shared → Prop} (ra : Reads s.heap a (.tuple xs) as) (rb : Reads s.heap b (.tuple ys) bs) (h : PySem.W.alike (.tuple xs) (.tuple ys) = true)
    (hu : A.units + min (PyData.tuple xs).depth (PyData.tuple ys).depth < cLine) (hq : Q (PySem.W.dataLt (.tuple xs) (.tuple ys)) s) : wpAny (model prog w) A (oneLt' true a b) Q E s := by
  have hal : PySem.W.alikeAll xs ys = true := by simpa [PySem.W.alike] using h
  cases ra with
  | @tuple l o vs n _ as₁ h1 h2 h3 h4 =>
    cases rb with
    | @tuple l' o' vs' n' _ bs₁ k1 k2 k3 k4 =>
      have n1 : vs.size = xs.length := by simpa using SeqAt.ReadsAll.length _ _ _ h4
      have n2 : vs'.size = ys.length := by simpa using SeqAt.ReadsAll.length _ _ _ k4
      rw [PySem.W.dataLt_tuple, ← PySem.W.firstLt_toks xs ys hal, ← n1, ← n2] at hq
      rw [oneLt'_eq]
      simp only [if_true]
      refine wpAny_bind (wpAny_cRoomFor (SeqAt.room_here hu) ?_)
      refine wpAny_bind (wpAny_callSpecialIfBound?_slot (T := "tuple") ⟨_, h1, h2⟩ F.slot_tuple_lt (call_tuple_ltT (e := SeqAt.pairEq xs ys) (r := fun j => PySem.W.dataLt (xs.getD j .none) (ys.getD j .none)) ⟨_, h1, h2, _, h3⟩ ⟨_, k1, k2, _, k3⟩ (fun j j1 j2 => ?_) (fun j j1 j2 hj => ?_) ?_))
      · have := PySem.W.eqAt_alikeAll xs ys A.in1 s vs.toList vs'.toList _ _ h4 k4 hal (SeqAt.room_in hu) j (by simpa using j1) (by simpa using j2)
        simpa using this
      · have := PySem.W.rcLt_alikeAll xs ys A.in1 s vs.toList vs'.toList _ _ h4 k4 hal (SeqAt.room_in hu) j (by simpa using j1) (by simpa using j2) hj
        simpa using this
      · exact wpAny_truthy_bool hq
def isTupE : PyData → Option Bool
  | .tuple [] => some false
  | .tuple (_ :: _) => some true
  | _ => none
theorem firstsT : ∀ {vs : List Value} {ds : List PyData} {Q : List (Option Value) → Shared → Prop}, PySem.W.EachIs (fun v d => ∃ as, Reads s.heap v d as) vs ds → (∀ d, d ∈ ds → ∃ xs, d = .tuple xs) →
    (∀ fs : List (Option Value), fs.map (·.isSome) = ds.map neTup → Q fs s) → wpAny (model prog w) A (vs.mapM firstOfTuple') Q E s
  | [], [], Q, .nil, _, h => by rw [List.mapM_nil]; exact wpAny_pure (h [] rfl)
  | v :: vs, d :: ds, Q, .cons ⟨as, r⟩ t, ht, h => by
    obtain ⟨xs, rfl⟩ := ht d List.mem_cons_self
    cases r with
    | @tuple a o ws n _ _ ho hc hd hr =>
      rw [List.mapM_cons]
      refine wpAny_bind ?_
      rw [PySem.W.kas_first_eq]
      refine wpAny_bind (PySem.W.Looks.here (show PySem.W.Looks (model prog w) s.heap (typeOf (.ref a)) o.cls from (PySem.W.Looks.ld ho).andThen .now) ?_)
      rw [hc, if_neg (by first | decide | simp)]
      refine wpAny_bind (listItems_at ho hd (wpAny_pure ?_))
      have hn : ws.size = xs.length := by simpa using SeqAt.ReadsAll.length _ _ _ hr
      have hf : (ws[0]?).isSome = neTup (.tuple xs) := by
        cases xs with
        | nil =>
          have : ws[0]? = none := by rw [Array.getElem?_eq_none_iff, hn]; exact Nat.le_refl _
          rw [this]; rfl
        | cons x r =>
          have : 0 < ws.size := by rw [hn]; exact Nat.succ_pos _
          rw [Array.getElem?_eq_getElem this]; rfl
      refine wpAny_bind (firstsT (Q := fun bs s' => wpAny (model prog w) A (pure (ws[0]? :: bs)) Q E s') t (fun d hd => ht d (List.mem_cons_of_mem _ hd)) fun fs hfs => wpAny_pure (h _ ?_))
      rw [List.map_cons, List.map_cons, hf, hfs]
theorem sorts_tupT {vs : List Value} {ds : List PyData} (e : PySem.W.EachIs (fun v d => ∃ as, Reads s.heap v d as) vs ds) (hal : PySem.W.AllAlike ds) (ht : ∀ d, d ∈ ds → ∃ xs, d = .tuple xs) (hne : ds.all neTup = false) (hu : ∀ d, d ∈ ds → A.units + d.depth < cLine) :
    PySem.W.SortsAt prog w A s (PySem.W.dataKind s.heap ds) vs := by
  have room : ∀ {d d' : PyData}, d ∈ ds → A.units + min d.depth d'.depth < cLine := fun {d d'} hd => Nat.lt_of_le_of_lt (Nat.add_le_add_left (Nat.min_le_left _ _) _) (hu d hd)
  refine ⟨fun v hv => ?_, ?_⟩
  · obtain ⟨d, hd, as, r⟩ := e.left v hv
    exact ⟨_, PySem.W.dataKind_some hal hd r⟩
  have gen : H.LtAt prog w A s (PySem.W.dataKind s.heap ds) general' := by
    intro E x y a b Q ha hb hq
    obtain ⟨d, as, hd, ra, rfl⟩ := PySem.W.dataKind_inv ha
    obtain ⟨d', as', hd', rb, rfl⟩ := PySem.W.dataKind_inv hb
    obtain ⟨xs, rfl⟩ := ht d hd
    exact PySem.W.oneLt_alike (f := false) nofun ra rb (hal _ hd d' hd') nofun (room hd) hq
  have one : H.LtAt prog w A s (PySem.W.dataKind s.heap ds) oneType' := by
    intro E x y a b Q ha hb hq
    obtain ⟨d, as, hd, ra, rfl⟩ := PySem.W.dataKind_inv ha
    obtain ⟨d', as', hd', rb, rfl⟩ := PySem.W.dataKind_inv hb
    obtain ⟨xs, rfl⟩ := ht d hd
    obtain ⟨ys, rfl⟩ := ht d' hd'
    rw [keyLt'_oneType]
    exact oneLt_tupT ra rb (hal _ hd _ hd') (room hd) hq
  have hT : ∀ v ∈ vs, PySem.W.Looks (model prog w) s.heap (typeOf v) (Value.type "tuple") := fun v hv => by
    obtain ⟨d, hd, as, r⟩ := e.left v hv
    obtain ⟨xs, rfl⟩ := ht d hd
    exact PySem.W.looks_reads r
  cases ds with
  | nil => cases hne
  | cons d0 dr =>
    have kind : ∀ (E : Value → Shared → Prop) {Q : SortKind → Shared → Prop}, Q (if neTup d0 = true then general' else oneType') s → wpAny (model prog w) A (keyKind' vs.toArray) Q E s := by
      intro E Q hq
      rw [keyKind'_eq, List.mapM_toArray, map_eq_pure_bind]
      refine wpAny_bind (wpAny_bind (firstsT e ht fun fs hfs => wpAny_pure ?_))
      have h1 : (fs.toArray.all fun x => x.isSome) = false := by
        rw [List.all_toArray]
        have : fs.all (fun x => x.isSome) = (d0 :: dr).all neTup := by
          rw [show (fs.all fun x => x.isSome) = (fs.map fun x => x.isSome).all id by rw [List.all_map]; rfl, hfs, List.all_map]; rfl
        rw [this]; exact hne
      rw [if_neg (by rw [h1]; decide)]
      have h2 : (fs.toArray[0]?.bind id).isSome = neTup d0 := by
        match fs, hfs with
        | f :: fr, hfs =>
          have : f.isSome = neTup d0 := by injection hfs
          rw [← this]
          simp
      rw [h2]
      cases hz : neTup d0 with
      | true =>
        rw [hz] at hq
        rw [if_pos rfl]
        exact wpAny_pure hq
      | false =>
        rw [hz] at hq
        rw [if_neg (by decide), oneTypeOnly'_eq, List.mapM_toArray, map_eq_pure_bind]
        refine wpAny_bind (wpAny_bind (wpAny_bind (PySem.W.kas_mapM (r := Value.type "tuple") _ (fun v hv Q' hq => (hT v hv).here hq) (wpAny_pure ?_))))
        cases vs with
        | nil => cases e
        | cons v vr =>
          have hall : ((List.map (fun _ => Value.type "tuple") (v :: vr)).toArray.all fun x => x == Value.type "tuple") = true := by
            simp only [List.all_toArray, List.all_map, List.all_eq_true]
            intro _ _
            rfl
          have h0 : (List.map (fun _ => Value.type "tuple") (v :: vr)).toArray[0]? = some (Value.type "tuple") := by simp
          rw [h0]
          simp only [hall, if_true]
          exact wpAny_pure (wpAny_pure hq)
    refine ⟨if neTup d0 = true then general' else oneType', ?_, fun _ E Q hq => kind E hq⟩
    cases neTup d0 with
    | true => exact gen
    | false => exact one
end
end PV
namespace PV
open PySem PySem.Calls PySem.Spec PyProof.Rows L2

/-! sorted, of tuples too when () is among them -/
def isTup : D → Bool
  | .tuple _ => true
  | _ => false
def sortOkT (ds : List D) : Bool := noDicts ds && ((ds.all fun a => ds.all fun b => PySem.W.alike a b) && (ds.all isTup && (ds.all (fun d => decide (d.depth ≤ 60)))))
def sorT (as : List D) : Option D := (seqOf as).bind fun ds => if sortOkT ds = true then some (.list (ds.mergeSort dLe)) else none
def sorF (as : List D) : Option D := match sorE as with
  | some d => some d
  | none => sorT as
theorem sorF_of {as : List D} {d : D} (h : sorE as = some d) : sorF as = some d := by unfold sorF; rw [h]
section
variable {prog : Program} {w : World} {A : Around} {E : Value → Shared → Prop} {s : Shared}
theorem sortsT {vs : List Value} {ds : List PyData} (e : PySem.W.EachIs (fun v d => ∃ as, Reads s.heap v d as) vs ds) (hal : PySem.W.AllAlike ds) (ht : ds.all isTup = true) (hu : ∀ d, d ∈ ds → A.units + d.depth < cLine) :
    PySem.W.SortsAt prog w A s (PySem.W.dataKind s.heap ds) vs := by
  cases h : ds.all neTup with
  | true => exact PySem.W.SortsAt.data e hal (sortable_of (by rw [h]; rfl)) hu
  | false =>
    refine sorts_tupT e hal (fun d hd => ?_) h hu
    have := List.all_eq_true.mp ht d hd
    cases d with
    | tuple xs => exact ⟨xs, rfl⟩
    | _ => cases this
theorem sorted_gathT {β : Type} {vs : List Value} {bs : List β} {enc : β → PyData} {R : Value → β → Prop} {l : Addr} {Q : Value → Shared → Prop}
    (col : ∀ (A : Around) (E : Value → Shared → Prop) (Q : List Value → Shared → Prop), Q vs { s with heap := (s.heap.push (seqObj "list" #[] 0)).update s.heap.objs.size (Obj.mapSeq (· ++ vs.toArray)) } → wpAny (model prog w) A (collect (.ref l)) Q E s)
    (e : PySem.W.EachIs R vs bs) (er : PySem.W.EachIs (fun v b => ∃ as, Reads s.heap v (enc b) as) vs bs) (hal : PySem.W.AllAlike (bs.map enc)) (hk : (bs.map enc).all isTup = true) (hL : bs.length ≤ sizeLine) (hu : ∀ b, b ∈ bs → A.units + 2 + (enc b).depth < cLine)
    (h : ∀ out, out.length = bs.length → PySem.W.EachIs R out (bs.mergeSort (PySem.W.dataLe false enc)) → Q (.ref (s.heap.objs.size + 1)) { s with heap := sortedAll s.heap vs (List.toArray out) }) : wpAny (model prog w) A (call (.builtin "sorted") [.ref l]) Q E s := by
  have hv : vs.length ≤ sizeLine := by rw [e.length]; exact hL
  have er2 : PySem.W.EachIs (fun v b => ∃ as, Reads (PySem.W.sortingHeap (PySem.W.copyHeap s.heap vs) (s.heap.objs.size + 1) vs) v (enc b) as) vs bs := er.mono fun _ _ ⟨as, r⟩ => ⟨as, PyProof.Rows.Reads.keeps (fun _ _ => PySem.W.sorting_copy_old) r⟩
  refine call_function_entry_kw kind_sorted plain_sorted entry_sorted (args_sorted1 _) ?_; unfold Builtin.«sorted»
  refine wpAny_bind (m := checkCount "sorted" 1 1 _) (wpAny_pure (wpAny_bind (col _ _ _ (wpAny_bind (wpAny_newList ?_ hv)))))
  have z1 : ((s.heap.push (seqObj "list" #[] 0)).update s.heap.objs.size (Obj.mapSeq (· ++ vs.toArray))).objs.size = s.heap.objs.size + 1 := by rw [Heap.size_update, size_push']
  show wpAny _ _ _ _ _ { s with heap := PySem.W.copyHeap s.heap vs }; rw [z1]
  refine wpAny_bind (wpAny_holding (wpAny_call_entry_kw slot_list_sort ⟨_, PySem.W.copyHeap_at s.heap vs, rfl⟩ entry_list_sort ?_ (args_list_sort _))); show wpAny (model prog w) A.in1.in1 (Builtin.«list.sort» ⟨[.ref (s.heap.objs.size + 1)], []⟩) _ _ _
  refine PySem.W.list_sort_vals (s := { s with heap := PySem.W.copyHeap s.heap vs }) (PySem.W.copyHeap_at s.heap vs) (sortsT (s := { s with heap := PySem.W.sortingHeap (PySem.W.copyHeap s.heap vs) (s.heap.objs.size + 1) vs }) (PySem.W.each_map (R := fun v d => ∃ as, Reads (PySem.W.sortingHeap (PySem.W.copyHeap s.heap vs) (s.heap.objs.size + 1) vs) v d as) enc er2) hal hk (PySem.W.bound_map hu)) hv ?_
  exact ⟨_, rfl, wpAny_pure ⟨_, rfl, h _ (by rw [PySem.W.sortVals_length false rfl]; exact e.length) (PySem.W.sortVals_data false e er2 hal)⟩⟩
end
section
variable {X : Cx}
theorem oc_sortedT (hu : X.A.units + 64 < cLine) : CallR X (.builtin "sorted") (rC X.K .fre sorT) := by
  intro pins s σ H vs us Q I r ⟨N, as, d, dom, rr, e, q⟩
  have key : ∀ (ds : List D) (a : Addr) (xs : List V) (its : List Value), vs = [.ref a] → RpAll X.K H N xs ds → Vals xs its → xs.length ≤ sizeLine →
      (∀ (A : Around) (E : Value → Shared → Prop) (Q : List Value → Shared → Prop), Q its { s with heap := (s.heap.push (seqObj "list" #[] 0)).update s.heap.objs.size (Obj.mapSeq (· ++ its.toArray)) } → wpAny (model X.prog X.w) A (collect (.ref a)) Q E s) →
      (if sortOkT ds = true then some (PyData.list (ds.mergeSort dLe)) else none) = some d → wpAny (model X.prog X.w) X.A (call (.builtin "sorted") us) (fun v s' => EP X pins σ Q v s') X.xe s := by
    intro ds a xs its hvs h2 rv hz col e
    subst hvs
    obtain ⟨c, rfl⟩ := if_some e
    unfold sortOkT at c
    simp only [Bool.and_eq_true] at c
    obtain ⟨c1, c2, c3, c4⟩ := c
    rw [Vals.ref1 r]
    have nd := noDicts_iff.mp c1
    have e1 : PySem.W.EachIs (fun v (b : V × D) => RelV b.1 v ∧ Rp X.K H N b.1 b.2) its (xs.zip ds) := each_of rv h2 fun x v d _ r h => ⟨r, h⟩
    have e2 : PySem.W.EachIs (fun v (b : V × D) => ∃ as, Reads s.heap v b.2 as) its (xs.zip ds) := each_of rv h2 fun x v d hd r h => Dp.reads I d x v ((RpC.of h).dp (nd d hd)) r
    have es := zip_snd h2
    have hl : (xs.zip ds).length ≤ sizeLine := by rw [← List.length_map (f := fun b : V × D => b.2), es, ← RpAll.len h2]; exact hz
    refine sorted_gathT (enc := fun b : V × D => b.2) (bs := xs.zip ds) col e1 e2 ?_ ?_ hl ?_ fun out ho hout => ?_
    · rw [es]
      exact fun d hd d' hd' => List.all_eq_true.mp (List.all_eq_true.mp c2 d hd) d' hd'
    · rw [es]; exact c3
    · intro b hb
      have hm : b.2 ∈ ds := by rw [← es]; exact List.mem_map_of_mem hb
      have := of_decide_eq_true (List.all_eq_true.mp c4 _ hm)
      omega
    · obtain ⟨k1, k2⟩ := each_back hout
      have em : (((xs.zip ds).mergeSort (PySem.W.dataLe false fun b : V × D => b.2)).map (·.2)) = ds.mergeSort dLe := by
        refine (List.map_mergeSort (r := PySem.W.dataLe false fun b : V × D => b.2) (s := dLe) (f := fun b : V × D => b.2) (fun a _ b _ => rfl)).trans ?_
        rw [es]
      rw [em] at k2
      obtain ⟨ep, he'⟩ := PyProof.Rows.sortedAll_at s.heap its out.toArray
      have hlen : (((xs.zip ds).mergeSort (PySem.W.dataLe false fun b : V × D => b.2)).map (·.1)).length ≤ sizeLine := by
        rw [List.length_map, List.length_mergeSort]; exact hl
      have hn : H (s.heap.objs.size + 1) = none := I.hok.fresh (Nat.le_succ _)
      exact ⟨.ref _, upd H (s.heap.objs.size + 1) (.lst _), I.laid (t' := s.toks) (fun _ _ => PyProof.Rows.sortedAll_old) (Nat.le_succ _) ⟨hlen, out, ep, k1, he'⟩, rfl,
        q _ _ (same_new hn) ⟨_, _, rfl, hn, upd_same, k2.new hn⟩⟩
  match as, e with
  | [.list ds], e =>
    obtain ⟨v, rfl, cl⟩ := rr.one
    obtain ⟨a, xs, rfl, h1, h2⟩ := cl.list
    obtain ⟨its, rv, hl, hz⟩ := I.list (.inl h1)
    exact key ds a xs its rfl h2 rv hz (fun A E Q h => collect_list hl.isList h (by rw [← rv.length]; exact hz)) e
  | [.tuple ds], e =>
    obtain ⟨v, rfl, cl⟩ := rr.one
    obtain ⟨a, xs, rfl, h1, h2⟩ := cl.tuple
    obtain ⟨its, rv, hl, hz⟩ := I.tuple h1
    obtain ⟨o, ho, hc, n, hd⟩ := hl
    exact key ds a xs its rfl h2 rv hz (fun A E Q h => gather_tup ho hc hd (by rw [← rv.length]; exact hz) h) e
theorem oc_sortedF (hc : X.calm = true) (hu : X.A.units + 64 < cLine) : CallR X (.builtin "sorted") (rC X.K .fre sorF) := by
  refine callr_mono ((oc_sortedE hc hu).or (oc_sortedT hu)) fun xs H Q ⟨N, as, d, dom, rr, e, q⟩ => ?_
  unfold sorF at e
  cases h : sorE as with
  | some d' => rw [h] at e; cases e; exact .inl ⟨N, as, d, dom, rr, h, q⟩
  | none => rw [h] at e; exact .inr ⟨N, as, d, dom, rr, e, q⟩
end
/-! the order of data that are alike is total and antisymmetric, for texts, numbers and tuples of such -/
theorem sorT_L {ds : List D} (h1 : ∀ d ∈ ds, noDict d = true ∧ isTup d = true ∧ d.depth ≤ 60) (h2 : ∀ a ∈ ds, ∀ b ∈ ds, PySem.W.alike a b = true) : sorF [.list ds] = some (.list (ds.mergeSort dLe)) := by
  unfold sorF
  have ok : sortOkT ds = true := by
    unfold sortOkT
    simp only [Bool.and_eq_true]
    refine ⟨noDicts_iff.mpr fun d hd => (h1 d hd).1, List.all_eq_true.mpr fun a ha => List.all_eq_true.mpr fun b hb => h2 a ha b hb, List.all_eq_true.mpr fun d hd => (h1 d hd).2.1, List.all_eq_true.mpr fun d hd => decide_eq_true (h1 d hd).2.2⟩
  cases h : sorE [.list ds] with
  | none =>
    show (if sortOkT ds = true then some (PyData.list (ds.mergeSort dLe)) else none) = _
    rw [if_pos ok]
  | some d =>
    have h : (if sortOk ds = true then some (PyData.list (ds.mergeSort dLe)) else none) = some d := h
    obtain ⟨_, rfl⟩ := if_some h
    rfl
end PV
namespace PV
open PySem PySem.Spec PyProof.Rows L2

/-! a dict is walked: it is known (frz) meanwhile -/
def nf : HO → Prop
  | .frz _ _ => False
  | _ => True
section
variable {K : PySem.W.Frag} {N : Addr → Prop} {H H' : Hp}
mutual
theorem Rp.rd (h : ∀ a u, nf u → Rd H a u → Rd H' a u) : ∀ {v : V} {d : D}, Rp K H N v d → Rp K H' N v d
  | _, _, .non => .non
  | _, _, .bl b => .bl b
  | _, _, .int i => .int i
  | _, _, .str x q => .str x q
  | _, _, .tup q r => .tup (q.imp (h _ _ trivial) id) (RpAll.rd h r)
  | _, _, .lst q n r => .lst (h _ _ trivial q) n (RpAll.rd h r)
  | _, _, .dct q n r => .dct (h _ _ trivial q) n (RpKV.rd h r)
theorem RpAll.rd (h : ∀ a u, nf u → Rd H a u → Rd H' a u) : ∀ {vs : List V} {ds : List D}, RpAll K H N vs ds → RpAll K H' N vs ds
  | _, _, .nil => .nil
  | _, _, .cons q r => .cons (Rp.rd h q) (RpAll.rd h r)
theorem RpKV.rd (h : ∀ a u, nf u → Rd H a u → Rd H' a u) : ∀ {vs : List (Key × V)} {ds : List (D × D)}, RpKV K H N vs ds → RpKV K H' N vs ds
  | _, _, .nil => .nil
  | _, _, .cons q r => .cons (Rp.rd h q) (RpKV.rd h r)
end
end
theorem rd_lock' {H : Hp} {d : Addr} {o : Obj} {u : HO} (hu : nf u) (hd : H d = some u) (a : Addr) (w : HO) (hw : nf w) (q : Rd H a w) : Rd (upd H d (.frz o u)) a w := by
  by_cases e : a = d
  · subst e
    rcases q with q | ⟨o', q⟩
    · rw [hd] at q; cases q; exact .inr ⟨o, upd_same⟩
    · rw [hd] at q; cases q; exact hu.elim
  · rcases q with q | ⟨o', q⟩
    · exact .inl (by rw [upd_ne e]; exact q)
    · exact .inr ⟨o', by rw [upd_ne e]; exact q⟩
theorem rd_unlock {H : Hp} {d : Addr} {o : Obj} {u : HO} (hd : H d = some (.frz o u)) (a : Addr) (w : HO) (hw : nf w) (q : Rd H a w) : Rd (upd H d u) a w := by
  by_cases e : a = d
  · subst e
    rcases q with q | ⟨o', q⟩
    · rw [hd] at q; cases q; exact hw.elim
    · rw [hd] at q; cases q; exact .inl upd_same
  · rcases q with q | ⟨o', q⟩
    · exact .inl (by rw [upd_ne e]; exact q)
    · exact .inr ⟨o', by rw [upd_ne e]; exact q⟩
/-- the same place, with another entry -/
structure Alt (G : Amb) where
  h0 : Hp
  W : Value → Option Addr → L2.St → Hp → Prop
  XR : Ex → Value → Option Addr → Hp → Prop
  nd : ∀ a, G.N a → ∃ o, h0 a = some o
def Amb.alt (G : Amb) (A : Alt G) : Amb := { H0 := A.h0, N := G.N, fx := G.fx, fa := G.fa, Z := G.Z, W := A.W, XR := A.XR, nd := A.nd, ion := G.ion }
def Amb.idA (G : Amb) : Alt G := ⟨G.H0, G.W, G.XR, G.nd⟩
def Amb.lockA (G : Amb) (d : Addr) (o : Obj) (u : HO) : Alt G where
  h0 := fun a => if a = d then (G.H0 a).map (fun _ => .frz o u) else G.H0 a
  W := fun c dd σ H => G.W c dd σ (upd H d u)
  XR := fun x c dd H => G.XR x c dd (upd H d u)
  nd := fun a n => by
    obtain ⟨x, e⟩ := G.nd a n
    by_cases c : a = d
    · rw [if_pos c, e]; exact ⟨_, rfl⟩
    · rw [if_neg c]; exact ⟨x, e⟩
abbrev Amb.lock (G : Amb) (d : Addr) (o : Obj) (u : HO) : Amb := G.alt (G.lockA d o u)
section
variable {K : PySem.W.Frag} {G : Amb} {σ σ' : L2.St} {H H' : Hp} {env env' : EnvD} {d : Addr} {o : Obj} {u : HO}
theorem Root.rd {N : Addr → Prop} {a : Addr} {x : D} (h : ∀ a u, nf u → Rd H a u → Rd H' a u) (e : H' a = H a) (r : Root K H N a x) : Root K H' N a x := by
  cases r with
  | lst q r => exact .lst (e.trans q) (r.rd h)
  | dct q r => exact .dct (e.trans q) (r.rd h)
theorem rts_R (h : rts σ env d) : G.R σ env d := .inr h
theorem StR.lock (S : StR K G σ H env) (hu : nf u) (hd : H d = some u) (hn : ¬ G.R σ env d) : StR K (G.lock d o u) σ (upd H d (.frz o u)) env where
  len := S.len
  keep := fun a x e => by
    by_cases c : a = d
    · subst c
      have e : (if a = a then (G.H0 a).map (fun _ => HO.frz o u) else G.H0 a) = some x := e
      rw [if_pos rfl] at e
      cases h0 : G.H0 a with
      | none => rw [h0] at e; cases e
      | some y => rw [h0] at e; cases e; exact .inl upd_same
    · have e : (if a = d then (G.H0 a).map (fun _ => HO.frz o u) else G.H0 a) = some x := e
      rw [if_neg c] at e
      rw [upd_ne c]
      exact S.keep a x e
  shr := fun i x e => let ⟨v, e1, r⟩ := S.shr i x e; ⟨v, e1, r.rd (rd_lock' hu hd)⟩
  own := fun i x e => by
    obtain ⟨a, e1, r, h0, hz⟩ := S.own i x e
    have ne : a ≠ d := fun c => hn (by rw [← c]; exact .inr ⟨i, x, e, e1⟩)
    refine ⟨a, e1, r.rd (rd_lock' hu hd) (upd_ne ne), ?_, hz⟩
    rcases h0 with h0 | h0
    · exact .inl (by show (if a = d then _ else G.H0 a) = none; rw [if_neg ne]; exact h0)
    · exact .inr h0
  dis := S.dis
  zd := fun a z => by
    have ne : a ≠ d := fun c => hn (by rw [← c]; exact .inl (.inr z))
    obtain ⟨h1, h2⟩ := S.zd a z
    refine ⟨by rw [upd_ne ne]; exact h1, by show (if a = d then _ else G.H0 a) = none; rw [if_neg ne]; exact h2⟩
  fix := S.fix
theorem StR.unlock (S : StR K G σ H env) (hd : H d = some u) (hn : ¬ G.R σ env d) (S' : StR K (G.lock d o u) σ' H' env') (hd' : H' d = some (.frz o u)) (hn' : ¬ G.R σ' env' d) : StR K G σ' (upd H' d u) env' where
  len := S'.len
  keep := fun a x e => by
    by_cases c : a = d
    · subst c
      have : ¬ G.IO a := fun ⟨i, hi, e⟩ => hn (.inl (.inl (by rw [← e]; exact G.ion i hi)))
      have h := (S.keep a x e).resolve_right fun z => this z.1
      rw [hd] at h
      cases h
      exact .inl upd_same
    · have e' : (G.lock d o u).H0 a = some x := by show (if a = d then _ else G.H0 a) = some x; rw [if_neg c]; exact e
      rw [upd_ne c]
      exact S'.keep a x e'
  shr := fun i x e => let ⟨v, e1, r⟩ := S'.shr i x e; ⟨v, e1, r.rd (rd_unlock hd')⟩
  own := fun i x e => by
    obtain ⟨a, e1, r, h0, hz⟩ := S'.own i x e
    have ne : a ≠ d := fun c => hn' (by rw [← c]; exact .inr ⟨i, x, e, e1⟩)
    refine ⟨a, e1, r.rd (rd_unlock hd') (upd_ne ne), ?_, hz⟩
    rcases h0 with h0 | h0
    · have h0 : (if a = d then (G.H0 a).map (fun _ => HO.frz o u) else G.H0 a) = none := h0
      rw [if_neg ne] at h0
      exact .inl h0
    · exact .inr h0
  dis := S'.dis
  zd := fun a z => by
    have ne : a ≠ d := fun c => hn (by rw [← c]; exact .inl (.inr z))
    obtain ⟨h1, h2⟩ := S'.zd a z
    have h2 : (if a = d then (G.H0 a).map (fun _ => HO.frz o u) else G.H0 a) = none := h2
    rw [if_neg ne] at h2
    exact ⟨by rw [upd_ne ne]; exact h1, h2⟩
  fix := S'.fix
/-- the locked thing stands as it is, and is no root -/
theorem at_lock (hn : ¬ G.R σ env d) (k : Keep (rts σ env) (upd H d (.frz o u)) H') : H' d = some (.frz o u) := k.at upd_same fun z => hn (.inr z)
theorem keep_unlock (hd : H d = some u) (hn : ¬ G.R σ env d) (k : Keep (rts σ env) (upd H d (.frz o u)) H') : Keep (rts σ env) H (upd H' d u) := fun a x e => by
  by_cases c : a = d
  · subst c
    rw [hd] at e
    cases e
    exact .inl upd_same
  · rw [upd_ne c]
    exact k a x (by rw [upd_ne c]; exact e)
theorem Eff.unlock {p : Bool} (S : StR K G σ H env) (hd : H d = some u) (hn : ¬ G.R σ env d) (f : Eff K (G.lock d o u) p σ (upd H d (.frz o u)) env H' env') : Eff K G p σ H env (upd H' d u) env' where
  st := S.unlock hd hn f.st (at_lock hn f.keepo) fun z => hn (z.imp id (f.subo d))
  pure := fun hp => by
    obtain ⟨e, s⟩ := f.pure hp
    refine ⟨e, fun a x q => ?_⟩
    by_cases c : a = d
    · subst c; rw [hd] at q; cases q; exact upd_same
    · rw [upd_ne c]; exact s a x (by rw [upd_ne c]; exact q)
  keepo := keep_unlock hd hn f.keepo
  subo := f.subo
theorem Stp.unlock (S : StR K G σ H env) (hd : H d = some u) (hn : ¬ G.R σ env d) (f : Stp K (G.lock d o u) σ (upd H d (.frz o u)) env σ' H' env') : Stp K G σ H env σ' (upd H' d u) env' where
  st := S.unlock hd hn f.st (at_lock hn f.keepo) fun z => by
    rcases z with z | z
    · exact hn (.inl z)
    · rcases f.subo d z with q | q
      · exact hn (.inr q)
      · rw [upd_same] at q; cases q
  keepo := keep_unlock hd hn f.keepo
  subo := fun a z => (f.subo a z).imp id fun q => by
    by_cases c : a = d
    · subst c; rw [upd_same] at q; cases q
    · rw [upd_ne c] at q; exact q
theorem RpF.unlock {N N' : Addr → Prop} {H1 H1' : Hp} {v : V} {x : D} (hu : nf u) (h1 : ∀ a, H1' a = none → H1 a = none) (hd' : H' d = some (.frz o u)) (r : RpF K H1' H' N v x) : RpF K H1 (upd H' d u) N v x := by
  cases x with
  | list ds =>
    obtain ⟨a, xs, rfl, g1, g2, g3⟩ := r
    have ne : a ≠ d := fun c => by rw [c, hd'] at g2; cases g2
    exact ⟨a, xs, rfl, h1 a g1, by rw [upd_ne ne]; exact g2, g3.rd (rd_unlock hd')⟩
  | dict es =>
    obtain ⟨a, xs, rfl, g1, g2, g3⟩ := r
    have ne : a ≠ d := fun c => by rw [c, hd'] at g2; cases g2
    exact ⟨a, xs, rfl, h1 a g1, by rw [upd_ne ne]; exact g2, g3.rd (rd_unlock hd')⟩
  | none => exact Rp.rd (rd_unlock hd') (show Rp K H' N v .none from r)
  | bool b => exact Rp.rd (rd_unlock hd') (show Rp K H' N v (.bool b) from r)
  | int b => exact Rp.rd (rd_unlock hd') (show Rp K H' N v (.int b) from r)
  | str b => exact Rp.rd (rd_unlock hd') (show Rp K H' N v (.str b) from r)
  | tuple b => exact Rp.rd (rd_unlock hd') (show Rp K H' N v (.tuple b) from r)
theorem RpC.unlock {N : Addr → Prop} {v : V} {x : D} (hd' : H' d = some (.frz o u)) (r : RpC K H' N v x) : RpC K (upd H' d u) N v x := by
  cases r with
  | of r => exact .of (r.rd (rd_unlock hd'))
  | lst q r => exact .lst (rd_unlock hd' _ _ trivial q) (r.rd (rd_unlock hd'))
  | dct q r => exact .dct (rd_unlock hd' _ _ trivial q) (r.rd (rd_unlock hd'))
theorem RpX.unlock {l : Lvl} {N : Addr → Prop} {H1 H1' : Hp} {v : V} {x : D} (hu : nf u) (h1 : ∀ a, H1' a = none → H1 a = none) (hd' : H' d = some (.frz o u)) (r : RpX l K H1' H' N v x) : RpX l K H1 (upd H' d u) N v x := by
  cases l with
  | bor => exact RpC.unlock hd' r
  | saf => exact Rp.rd (rd_unlock hd') r
  | fre => exact RpF.unlock (N' := N) hu h1 hd' r
theorem none_lock (a : Addr) (h : upd H d (.frz o u) a = none) : H a = none := by
  by_cases c : a = d
  · subst c; rw [upd_same] at h; cases h
  · rw [upd_ne c] at h; exact h
end
/-! the walk over a dict's keys -/
def keysD (es : List (D × D)) : Option (List D) := if (es.all fun e => match e.1 with
  | .str x => PyData.strOk x
  | .int _ => true
  | _ => false) = true ∧ es.length ≤ sizeLine then some (es.map (·.1)) else none
/-- for x in d, d a name of a shared dict -/
def seqK (i : Nat) : M (List D) := fun e => match e[i]? with
  | some (.shr (.dict es)) => lft (keysD es) e
  | _ => .no
theorem seqK_ok {i : Nat} {e : EnvD} {es : List (D × D)} {ds : List D} (h : e[i]? = some (.shr (.dict es))) (hk : keysD es = some ds) : seqK i e = .ok ds e := by
  unfold seqK
  rw [h]
  simp only [hk]
  rfl
section
variable {K : PySem.W.Frag} {N : Addr → Prop} {H : Hp}
theorem keys_at : ∀ {kvs : List (Key × V)} {es : List (D × D)} {i : Nat} {k : Key} {v : V}, RpKV K H N kvs es → kvs[i]? = some (k, v) → (es.map (·.1))[i]? = some (keyD k)
  | _, _, _, _, _, .nil, e => by simp at e
  | _, _, 0, _, _, .cons _ _, e => by simp at e; obtain ⟨rfl, rfl⟩ := e; rfl
  | _, _, i + 1, _, _, .cons _ r, e => by
    have := keys_at (i := i) r (by simpa using e)
    simpa using this
theorem keys_at' : ∀ {kvs : List (Key × V)} {es : List (D × D)} {i : Nat}, RpKV K H N kvs es → i < (es.map (·.1)).length → i < kvs.length
  | _, _, _, .nil, h => by simp at h
  | _, _, 0, .cons _ _, _ => by simp
  | _, _, i + 1, .cons _ r, h => by
    have := keys_at' (i := i) r (by simpa using h)
    simpa using this
theorem itOk_keys {R1 : Addr → Prop} {H1 : Hp} {sf : Bool} {d : Addr} {o : Obj} {kvs : List (Key × V)} {es : List (D × D)} {ds : List D} (hd : H1 d = some (.frz o (.dK kvs))) (hn : ¬ R1 d) (r : RpKV K H1 N kvs es) (hk : keysD es = some ds) : ItOk K sf R1 H1 (Itk d o kvs) ds := by
  unfold keysD at hk
  split at hk
  case isFalse => cases hk
  rename_i c
  cases hk
  have hall := List.all_eq_true.mp c.1
  have hl : (es.map (·.1)).length = kvs.length := by rw [List.length_map, RpKV.length r]
  have stay : ∀ H2, Al sf R1 H1 H2 → H2 d = some (.frz o (.dK kvs)) := fun H2 al => by
    unfold Al at al
    cases sf with
    | true => exact Keep.at al hd hn
    | false => exact al d _ hd
  refine ⟨by rw [List.length_map]; exact c.2, fun H2 i x al e => ?_, fun H2 al => ⟨stay H2 al, by rw [hl]; exact Nat.le_refl _⟩⟩
  have hi : i < kvs.length := keys_at' r (List.getElem?_eq_some_iff.mp e).1
  refine ⟨⟨stay H2 al, hi⟩, fun y H3 hy => ?_⟩
  obtain ⟨rfl, k, v, hkv, rfl⟩ := hy
  refine ⟨Same.refl _, ?_⟩
  rw [keys_at r hkv] at e
  cases e
  have hm : keyD k ∈ es.map (·.1) := List.mem_of_getElem? (keys_at r hkv)
  cases k with
  | inl i => exact .int i
  | inr s =>
    obtain ⟨e0, he0, hk0⟩ := List.mem_map.mp hm
    have := hall e0 he0
    rw [hk0] at this
    exact .str s this
end
section
variable {K : PySem.W.Frag} {G : Amb} {σ : L2.St} {H : Hp} {i : Nat} {p sf : Bool}
/-- what stands in slot i, where the reading says that it is a known dict -/
theorem it_keys {R : It → Hp → Prop} (hf : ∀ a kvs, σ[i]? = some (some (.ref a)) → Rd H a (.dK kvs) → ∃ o, H a = some (.frz o (.dK kvs))) (h : tIt K G p sf (seqK i) σ H R) : iKeys (tVar i) σ H R := by
  obtain ⟨env, S, q⟩ := h
  unfold seqK at q
  cases ec : env[i]? with
  | none => rw [ec] at q; exact q.elim
  | some c =>
    rw [ec] at q
    cases c with
    | emp => exact q.elim
    | own x => exact q.elim
    | shr x =>
      cases x with
      | dict es =>
        simp only at q
        obtain ⟨v, e1, r⟩ := S.shr i _ ec
        cases hk : keysD es with
        | none => rw [hk] at q; exact q.elim
        | some ds =>
          rw [hk] at q
          cases r with
          | @dct a kvs _ h1 h2 h3 =>
            obtain ⟨o, ho⟩ := hf a kvs e1 h1
            refine ⟨_, e1, a, o, rfl, .inl ⟨kvs, ho, ?_⟩⟩
            have q2 : ∀ J, ItOk K sf (G.R σ env) H J ds → R J H := (show Ok K G p σ H env (.ok ds env) _ from q) H (.refl S)
            exact q2 _ (itOk_keys ho h2 h3 hk)
      | _ => exact q.elim
end
theorem pe_ex {X : Cx} {e : Expr} {α : Type} {t : α → TE} (h : ∀ a, PE X e (t a)) : PE X e (fun σ H Q => ∃ a, t a σ H Q) := ⟨fun pins s σ H Q I ⟨a, q⟩ => (h a).run pins s σ H Q I q⟩
theorem pe_or2 {X : Cx} {e : Expr} {t t' : TE} (h : PE X e t) (h' : PE X e t') : PE X e (fun σ H Q => t σ H Q ∨ t' σ H Q) := ⟨fun pins s σ H Q I q => by
  rcases q with q | q
  · exact h.run pins s σ H Q I q
  · exact h'.run pins s σ H Q I q⟩
theorem ps_ex {X : Cx} {e : Stmt} {α : Type} {t : α → TS} (h : ∀ a, PS X e (t a)) : PS X e (fun Dn σ H => ∃ a, t a Dn σ H) := ⟨fun pins s σ H Dn I ⟨a, q⟩ => (h a).run pins s σ H Dn I q⟩
theorem ps_or2 {X : Cx} {e : Stmt} {t t' : TS} (h : PS X e t) (h' : PS X e t') : PS X e (fun Dn σ H => t Dn σ H ∨ t' Dn σ H) := ⟨fun pins s σ H Dn I q => by
  rcases q with q | q
  · exact h.run pins s σ H Dn I q
  · exact h'.run pins s σ H Dn I q⟩
section
variable {X : Cx} {G : Amb} {p pt pe : Bool} {le fl : Lvl} {elt tg : Expr} {ifs : List Expr} {t : Tg} {tt : M Bool} {fe : M D} {pos pn : Pos} {y : Str}
/-- what stands in slot i: a dict's address, known or not -/
theorem dict_case {K : PySem.W.Frag} {σ : L2.St} {H : Hp} {env : EnvD} {i : Nat} (S : StR K G σ H env) (h : ∃ es, env[i]? = some (.shr (.dict es))) :
    (∀ a kvs, σ[i]? = some (some (.ref a)) → Rd H a (.dK kvs) → ∃ o, H a = some (.frz o (.dK kvs))) ∨ ∃ a kvs, σ[i]? = some (some (.ref a)) ∧ H a = some (.dK kvs) ∧ ¬ G.R σ env a := by
  obtain ⟨es, ec⟩ := h
  obtain ⟨v, e1, r⟩ := S.shr i _ ec
  cases r with
  | @dct a kvs _ h1 h2 h3 =>
    rcases h1 with h1 | ⟨o, h1⟩
    · exact .inr ⟨a, kvs, e1, h1, h2⟩
    · refine .inl fun b kvs' eb hb => ?_
      rw [e1] at eb
      cases eb
      rcases hb with hb | ⟨o', hb⟩
      · rw [h1] at hb; cases hb
      · rw [h1] at hb; cases hb; exact ⟨o, h1⟩
theorem seqK_dict {α : Type} {i : Nat} {env : EnvD} {k : List D → M α} {K : PySem.W.Frag} {σ : L2.St} {H : Hp} {P : α → EnvD → Hp → Prop} (q : Ok K G p σ H env (bnd (seqK i) k env) P) : ∃ es, env[i]? = some (.shr (.dict es)) := by
  unfold bnd seqK at q
  cases ec : env[i]? with
  | none => rw [ec] at q; exact q.elim
  | some c =>
    rw [ec] at q
    cases c with
    | emp => exact q.elim
    | own x => exact q.elim
    | shr x =>
      cases x with
      | dict es => exact ⟨es, rfl⟩
      | _ => exact q.elim
theorem lock_dict {K : PySem.W.Frag} {σ : L2.St} {H : Hp} {i : Nat} {a : Addr} {kvs : List (Key × V)} {o : Obj} (e1 : σ[i]? = some (some (V.ref a))) : ∀ b kvs', σ[i]? = some (some (.ref b)) → Rd (upd H a (.frz o (.dK kvs))) b (.dK kvs') → ∃ o', upd H a (.frz o (.dK kvs)) b = some (.frz o' (.dK kvs')) := fun b kvs' eb hb => by
  rw [e1] at eb
  cases eb
  rcases hb with hb | ⟨o', hb⟩
  · rw [upd_same] at hb; cases hb
  · rw [upd_same] at hb; cases hb; exact ⟨o, upd_same⟩
theorem Ok.lock {α : Type} {K : PySem.W.Frag} {σ : L2.St} {H : Hp} {env : EnvD} {d : Addr} {o : Obj} {u : HO} {r : Res α} {P : α → EnvD → Hp → Prop} (S : StR K G σ H env) (hd : H d = some u) (hn : ¬ G.R σ env d) (q : Ok K G p σ H env r P) :
    Ok K (G.lock d o u) p σ (upd H d (.frz o u)) env r fun a e H' => H' d = some (.frz o u) ∧ P a e (upd H' d u) := by
  cases r with
  | no => exact q
  | exc x e => exact fun c dd H' f hx => q c dd (upd H' d u) (f.unlock S hd hn) hx
  | ok a e => exact fun H' f => ⟨at_lock hn f.keepo, q (upd H' d u) (f.unlock S hd hn)⟩
/-- [e for x in d if c], d a name of a shared dict -/
theorem j_lcK (i : Nat) {scope : Scope} {own : List (Str × Nat)} (hv : PE X (.Name y pn) (tVar i)) (hc : X.calm = true) (hN : X.N.Nodup) (ok : BlkOk X.N X.env.scope scope own)
    (hg : ∀ (A : Alt G) (s : Shared) (H : Hp) (C : Addr) (cl : List (Str × Addr)) (fp : List Addr) (a : Addr), JG (X.blk s H scope (compEnvC scope cl C X.env) fp) ((G.alt A).blk a) tg t)
    (ht : ∀ (A : Alt G) (s : Shared) (H : Hp) (C : Addr) (cl : List (Str × Addr)) (fp : List Addr) (a : Addr), JPT (X.blk s H scope (compEnvC scope cl C X.env) fp) ((G.alt A).blk a) pt ifs tt)
    (he : ∀ (A : Alt G) (s : Shared) (H : Hp) (C : Addr) (cl : List (Str × Addr)) (fp : List Addr) (a : Addr), J (X.blk s H scope (compEnvC scope cl C X.env) fp) ((G.alt A).blk a) pe le elt fe)
    (hle : le.safe = true := by rfl) (hsf : (true || (pt && pe)) = true := by rfl) (hsl : (slT t).all (fun i => (own.map (·.2)).contains i) = true := by rfl) (hfx : okFx G (own.map (·.2)) = true := by rfl)
    (hs : ∀ x, foldedSetIterable (.Name y pn) X.env x = pure x := by intro _; rfl) :
    J X G (pt && pe) .fre (.ListComp elt [⟨tg, .Name y pn, ifs, 0⟩] scope pos) (lcE t (own.map (·.2)) tt fe (seqK i)) := by
  have base : ∀ A : Alt G, PE X (.ListComp elt [⟨tg, .Name y pn, ifs, 0⟩] scope pos) (tLc (iKeys (tVar i)) (gB X.K (G.alt A) t) (tB' X.K (G.alt A) pt tt) (eB X.K (G.alt A) pe le fe) (own.map (·.2))) := fun A =>
    pe_lc hc hN (pi_keys hv) ok (fun s H C cl fp => ⟨fun pn s1 σ1 H1 v u Q I r ⟨a, q⟩ => (hg A s H C cl fp a).run pn s1 σ1 H1 v u Q I r q⟩)
      (fun s H C cl fp => ⟨fun pn s1 σ1 H1 Q I ⟨a, q⟩ => (ht A s H C cl fp a).run pn s1 σ1 H1 Q I q⟩) (fun s H C cl fp => ⟨fun pn s1 σ1 H1 Q I ⟨a, q⟩ => (he A s H C cl fp a).run pn s1 σ1 H1 Q I q⟩) hs
  refine pe_mono (pe_or2 (pe_ex base) (pe_lock (pe_ex base))) fun σ H Q h => ?_
  obtain ⟨env, S, q⟩ := h
  have hq : ∃ es, env[i]? = some (.shr (.dict es)) := seqK_dict q
  have red : ∀ (G' : Amb), okFx G' (own.map (·.2)) = true → ∀ (H' : Hp) (Q' : VK), tM X.K G' (pt && pe) .fre (lcE t (own.map (·.2)) tt fe (seqK i)) σ H' Q' → (∀ a kvs, σ[i]? = some (some (.ref a)) → Rd H' a (.dK kvs) → ∃ o, H' a = some (.frz o (.dK kvs))) →
      tLc (iKeys (tVar i)) (gB X.K G' t) (tB' X.K G' pt tt) (eB X.K G' pe le fe) (own.map (·.2)) σ H' Q' := fun G' hfx' H' Q' h hf => it_keys hf (lc_red (p := true) (sf := true) hle hsf hsl hfx' h)
  rcases dict_case S hq with hf | ⟨a, kvs, e1, ha, hn⟩
  · exact .inl ⟨G.idA, red G hfx H Q ⟨env, S, q⟩ hf⟩
  · refine .inr ⟨a, .dK kvs, ha, trivial, fun od => ⟨G.lockA a od (.dK kvs), red (G.lock a od (.dK kvs)) hfx _ _ ?_ (lock_dict (K := X.K) e1)⟩⟩
    exact ⟨env, S.lock trivial ha hn, (Ok.lock S ha hn q).mono fun x e H' ⟨g1, g2⟩ v rv => ⟨g1, g2 v (RpX.unlock (l := .fre) trivial none_lock g1 rv)⟩⟩
theorem for_red {K : PySem.W.Frag} {m : M (List D)} {tb : Sm} {dead : List Nat} (hd : okFx G dead = true) {Dn : Ends} {σ : L2.St} {H : Hp} (h : tSt K G fl (frS t dead m tb) Dn σ H) : tFor (tIt K G p true m) (tTg K G t) (tSt K G fl tb) Dn σ H := by
  obtain ⟨env, S, q⟩ := h
  have hdx := okFx_iff hd
  refine ⟨env, S, (OkS.thenS p q).mono fun ds env1 H1 ⟨f1, q1⟩ J it => ?_⟩
  refine ⟨fun i m σ' H' => i + m = ds.length ∧ ∃ e', Stp K G σ H1 env1 σ' H' e' ∧ OkS K G fl σ H1 env1 (frL t dead tb (ds.drop i) e') Dn, ⟨ds.length, by omega, env1, .refl f1.st, by simpa using q1⟩, fun i m σ' H' hW => ?_⟩
  obtain ⟨em, e', st, qn⟩ := hW
  have al : Al true (G.R σ env1) H1 H' := st.keep
  have sw := Stp.wips st.st (is := dead) hdx
  by_cases hlt : i < ds.length
  · right
    have ed : ds[i]? = some ds[i] := List.getElem?_eq_getElem hlt
    obtain ⟨g1, g2⟩ := it.go H' i _ al ed
    rw [List.drop_eq_getElem_cons hlt] at qn
    unfold frL at qn
    cases eb : bindT t ds[i] (wip dead e') with
    | none => rw [eb] at qn; exact qn.elim
    | some e1 =>
      rw [eb] at qn
      simp only at qn
      refine ⟨g1, fun σ2 H2 => ∃ e2, Stp K G σ H1 env1 σ2 H2 e2 ∧ OkS K G fl σ H1 env1 (frL t dead tb (ds.drop (i + 1)) e2) Dn, fun σ2 H2 ⟨e2, h1, h2⟩ => ⟨m - 1, by omega, by omega, e2, h1, h2⟩, fun x H2 hy => ?_⟩
      obtain ⟨s2, r2⟩ := g2 x H2 hy
      have S2 : StR K G σ' H2 (wip dead e') := sw.st.same s2
      have t2 : Stp K G σ H1 env1 σ' H2 (wip dead e') := (st.trans sw).trans (.of_same sw.st s2)
      refine ⟨wip dead e', ds[i], e1, S2, r2.fwd (.sub_same (Same.refl _) t2.sub), eb, fun σ3 S3 sub3 _ _ => ⟨e1, S3, ?_⟩⟩
      have t3 : Stp K G σ H1 env1 σ3 H2 e1 := t2.trans ⟨S3, .refl _ _, fun a z => .inl (sub3 a z)⟩
      cases eo : tb e1 with
      | nx e2 =>
        rw [eo] at qn
        exact fun σ4 H4 t4 => ⟨e2, t3.trans t4, qn⟩
      | ct e2 =>
        rw [eo] at qn
        exact fun σ4 H4 t4 => ⟨e2, t3.trans t4, qn⟩
      | bk e2 =>
        rw [eo] at qn
        exact fun σ4 H4 t4 => qn σ4 H4 ((t3.trans t4).trans (.wips t4.st hdx))
      | rt d e2 =>
        rw [eo] at qn
        exact fun σ4 H4 v t4 r4 => qn σ4 H4 v (t3.trans t4) r4
      | exc y e2 =>
        rw [eo] at qn
        exact fun σ4 H4 c dd t4 r4 => qn σ4 H4 c dd (t3.trans t4) r4
      | no => rw [eo] at qn; exact qn.elim
  · left
    have ei : i = ds.length := by omega
    subst ei
    refine ⟨it.stop H' al, ?_⟩
    rw [List.drop_length] at qn
    exact qn σ' H' (st.trans sw)
theorem OkS.lock {K : PySem.W.Frag} {σ : L2.St} {H : Hp} {env : EnvD} {d : Addr} {o : Obj} {u : HO} {r : Out} {Dn : Ends} (hu : nf u) (S : StR K G σ H env) (hd : H d = some u) (hn : ¬ G.R σ env d) (q : OkS K G fl σ H env r Dn) :
    OkS K (G.lock d o u) fl σ (upd H d (.frz o u)) env r ⟨fun σ' H' => H' d = some (.frz o u) ∧ Dn.nx σ' (upd H' d u), fun v H' => H' d = some (.frz o u) ∧ Dn.rt v (upd H' d u), fun σ' H' => H' d = some (.frz o u) ∧ Dn.bk σ' (upd H' d u), fun σ' H' => H' d = some (.frz o u) ∧ Dn.ct σ' (upd H' d u)⟩ := by
  cases r with
  | no => exact q
  | nx e => exact fun σ' H' f => ⟨at_lock hn f.keepo, q σ' _ (f.unlock S hd hn)⟩
  | bk e => exact fun σ' H' f => ⟨at_lock hn f.keepo, q σ' _ (f.unlock S hd hn)⟩
  | ct e => exact fun σ' H' f => ⟨at_lock hn f.keepo, q σ' _ (f.unlock S hd hn)⟩
  | rt x e =>
    refine fun σ' H' v f rv => ⟨at_lock hn f.keepo, q σ' _ v (f.unlock S hd hn) (RpX.unlock hu (fun a z => ?_) (at_lock hn f.keepo) rv)⟩
    have z : (if a = d then (G.H0 a).map (fun _ => HO.frz o u) else G.H0 a) = none := z
    by_cases c : a = d
    · rw [if_pos c] at z
      cases h0 : G.H0 a with
      | none => rfl
      | some y => rw [h0] at z; cases z
    · rw [if_neg c] at z; exact z
  | exc x e => exact fun σ' H' c dd f hx => q σ' _ c dd (f.unlock S hd hn) hx
theorem seqK_dictS {K : PySem.W.Frag} {i : Nat} {env : EnvD} {k : List D → Sm} {σ : L2.St} {H : Hp} {Dn : Ends} (q : OkS K G fl σ H env (thenS (seqK i) k env) Dn) : ∃ es, env[i]? = some (.shr (.dict es)) := by
  unfold thenS seqK at q
  cases ec : env[i]? with
  | none => rw [ec] at q; exact q.elim
  | some c =>
    rw [ec] at q
    cases c with
    | emp => exact q.elim
    | own x => exact q.elim
    | shr x =>
      cases x with
      | dict es => exact ⟨es, rfl⟩
      | _ => exact q.elim
/-- for x in d: .., d a name of a shared dict -/
theorem js_forK (i : Nat) {tb : Sm} {body : List Stmt} {dead : List Nat} (hp : PassesOwn (model X.prog X.w) X.A X.env X.xe) (hc : X.calm = true) (hv : PE X (.Name y pn) (tVar i)) (hg : ∀ A : Alt G, JG X (G.alt A) tg t) (hb : ∀ A : Alt G, JB X (G.alt A) fl body tb) (hd : okFx G dead = true := by rfl)
    (hs : ∀ x, foldedSetIterable (.Name y pn) X.env x = pure x := by intro _; rfl) : JS X G fl (.For tg (.Name y pn) body [] pos) (frS t dead (seqK i) tb) := by
  have base : ∀ A : Alt G, PS X (.For tg (.Name y pn) body [] pos) (tFor (iKeys (tVar i)) (tTg X.K (G.alt A) t) (tSt X.K (G.alt A) fl tb)) := fun A => ps_for hp hc (pi_keys hv) (hg A) (hb A) hs
  refine ps_mono (ps_or2 (ps_ex base) (ps_lock (ps_ex base))) fun Dn σ H h => ?_
  obtain ⟨env, S, q⟩ := h
  have hq : ∃ es, env[i]? = some (.shr (.dict es)) := seqK_dictS q
  rcases dict_case S hq with hf | ⟨a, kvs, e1, ha, hn⟩
  · exact .inl ⟨G.idA, it_keys (p := true) (sf := true) hf (for_red hd ⟨env, S, q⟩)⟩
  · refine .inr ⟨a, .dK kvs, ha, trivial, fun od => ⟨G.lockA a od (.dK kvs), ?_⟩⟩
    exact it_keys (p := true) (sf := true) (lock_dict (K := X.K) e1) (for_red (G := G.lock a od (.dK kvs)) hd ⟨env, S.lock trivial ha hn, OkS.lock trivial S ha hn q⟩)
/-- y = [.. for x in d ..] on one line, y a local -/
theorem js_setLcK (j i : Nat) {z : Str} {py spos : Pos} {scope : Scope} {own : List (Str × Nat)} (hv : PE X (.Name y pn) (tVar i)) (hc : X.calm = true) (hN : X.N.Nodup) (hz : X.N[j]? = some z) (hzl : X.env.scope.names.lookup z = some .local)
    (hsw : swapsWith (.ListComp elt [⟨tg, .Name y pn, ifs, 0⟩] scope pos) (some (.Name z py)) spos.line X.env = pure true) (ok : BlkOk X.N X.env.scope scope own)
    (hg : ∀ (A : Alt G) (s : Shared) (H : Hp) (C : Addr) (cl : List (Str × Addr)) (fp : List Addr) (a : Addr), JG (X.blk s H scope (compEnvC scope cl C X.env) fp) ((G.alt A).blk a) tg t)
    (ht : ∀ (A : Alt G) (s : Shared) (H : Hp) (C : Addr) (cl : List (Str × Addr)) (fp : List Addr) (a : Addr), JPT (X.blk s H scope (compEnvC scope cl C X.env) fp) ((G.alt A).blk a) pt ifs tt)
    (he : ∀ (A : Alt G) (s : Shared) (H : Hp) (C : Addr) (cl : List (Str × Addr)) (fp : List Addr) (a : Addr), J (X.blk s H scope (compEnvC scope cl C X.env) fp) ((G.alt A).blk a) pe le elt fe)
    (hle : le.safe = true := by rfl) (hsl : (slT t).all (fun i => (own.map (·.2)).contains i) = true := by rfl) (hfx : okFx G (own.map (·.2)) = true := by rfl)
    (hs : ∀ x, foldedSetIterable (.Name y pn) X.env x = pure x := by intro _; rfl) (hf : G.fx.contains j = false := by rfl) :
    JS X G fl (.Assign [.Name z py] (.ListComp elt [⟨tg, .Name y pn, ifs, 0⟩] scope pos) spos) (setS j (lcE t (own.map (·.2)) tt fe (seqK i))) := by
  have base : ∀ A : Alt G, PS X (.Assign [.Name z py] (.ListComp elt [⟨tg, .Name y pn, ifs, 0⟩] scope pos) spos) (fun Dn σ H => tLc (iKeys (tVar i)) (gB X.K (G.alt A) t) (tB' X.K (G.alt A) pt tt) (eB X.K (G.alt A) pe le fe) (own.map (·.2)) σ H fun v H' => Dn.nx (σ.set j (some v)) H') := fun A =>
    ps_mono (ps_setLc hc hN hz hzl hsw (pi_keys hv) ok (g := gB X.K (G.alt A) t) (tt := tB' X.K (G.alt A) pt tt) (te := eB X.K (G.alt A) pe le fe) (fun s H C cl fp => ⟨fun pn s1 σ1 H1 v u Q I r ⟨a, q⟩ => (hg A s H C cl fp a).run pn s1 σ1 H1 v u Q I r q⟩)
      (fun s H C cl fp => ⟨fun pn s1 σ1 H1 Q I ⟨a, q⟩ => (ht A s H C cl fp a).run pn s1 σ1 H1 Q I q⟩) (fun s H C cl fp => ⟨fun pn s1 σ1 H1 Q I ⟨a, q⟩ => (he A s H C cl fp a).run pn s1 σ1 H1 Q I q⟩) hs) fun Dn σ H h => h
  refine ps_mono (ps_or2 (ps_ex base) (ps_lock (ps_ex base))) fun Dn σ H h => ?_
  obtain ⟨env, S, q⟩ := h
  have q' : OkS X.K G fl σ H env (thenS (lcE t (own.map (·.2)) tt fe (seqK i)) (fun d e => .nx (e.set j (.shr d))) env) Dn := q
  have hm : Ok X.K G (pt && pe) σ H env (lcE t (own.map (·.2)) tt fe (seqK i) env) fun d env1 H1 => ∀ v, RpX .fre X.K H H1 (G.R σ env1) v d → Dn.nx (σ.set j (some v)) H1 := (OkS.thenS (pt && pe) q').mono fun d env1 H1 ⟨f1, q1⟩ v rv => by
    obtain ⟨S2, sub⟩ := f1.st.putS (i := j) (v := v) (d := d) (not_fx hf) (RpX.rp (fun a z => S.dom a (f1.sub a z)) (l := .fre) rfl rv)
    exact q1 _ H1 ⟨S2, .refl _ _, fun a z => .inl (sub a z)⟩
  have hq : ∃ es, env[i]? = some (.shr (.dict es)) := seqK_dict hm
  have red : ∀ (G' : Amb), okFx G' (own.map (·.2)) = true → ∀ (H' : Hp) (Q' : VK), tM X.K G' (pt && pe) .fre (lcE t (own.map (·.2)) tt fe (seqK i)) σ H' Q' → (∀ a kvs, σ[i]? = some (some (.ref a)) → Rd H' a (.dK kvs) → ∃ o, H' a = some (.frz o (.dK kvs))) →
      tLc (iKeys (tVar i)) (gB X.K G' t) (tB' X.K G' pt tt) (eB X.K G' pe le fe) (own.map (·.2)) σ H' Q' := fun G' hfx' H' Q' h hf => it_keys hf (lc_red (p := true) (sf := true) hle rfl hsl hfx' h)
  rcases dict_case S hq with hfz | ⟨a, kvs, e1, ha, hn⟩
  · exact .inl ⟨G.idA, red G hfx H _ ⟨env, S, hm⟩ hfz⟩
  · refine .inr ⟨a, .dK kvs, ha, trivial, fun od => ⟨G.lockA a od (.dK kvs), red (G.lock a od (.dK kvs)) hfx _ (fun v H' => H' a = some (.frz od (.dK kvs)) ∧ Dn.nx (σ.set j (some v)) (upd H' a (.dK kvs))) ?_ (lock_dict (K := X.K) e1)⟩⟩
    exact ⟨env, S.lock trivial ha hn, (Ok.lock S ha hn hm).mono fun x e H' ⟨g1, g2⟩ v rv => ⟨g1, g2 v (RpX.unlock (l := .fre) trivial none_lock g1 rv)⟩⟩
end
end PV
namespace L_rungward_k72_presses_for_lamps
open PySem PySem.Spec PyProof.Rows L2 PV
def top (i : Nat) : Stmt := PySem.Challenge.pw_rungward_k72_presses_for_lamps.main.body.getD i (.Pass ⟨0, 0, 0, 0⟩)
abbrev s_turn : Stmt := top 1
abbrev s_pressed : Stmt := top 2
abbrev s_all_sets : Stmt := top 3
abbrev s_reduced : Stmt := top 4
abbrev s_left_over : Stmt := top 5
abbrev s_paper_for : Stmt := top 6
abbrev s_press_for : Stmt := top 7
abbrev s_is_no_press : Stmt := top 8
abbrev s__law_draws : Stmt := top 10
abbrev s__law_next : Stmt := top 11
abbrev s__law_same : Stmt := top 12
abbrev s__law_pick : Stmt := top 13
abbrev s__law_buttons : Stmt := top 14
abbrev s__law_on : Stmt := top 15
abbrev s__law_sets : Stmt := top 16
abbrev s__law_tells : Stmt := top 17
abbrev s_law : Stmt := top 18
def fn : List He.DefD := [dOf "turn" s_turn, dOf "pressed" s_pressed, dOf "all_sets" s_all_sets, dOf "reduced" s_reduced, dOf "left_over" s_left_over, dOf "paper_for" s_paper_for, dOf "press_for" s_press_for, dOf "is_no_press" s_is_no_press, dOf "_law_draws" s__law_draws, dOf "_law_next" s__law_next, dOf "_law_same" s__law_same, dOf "_law_pick" s__law_pick, dOf "_law_buttons" s__law_buttons, dOf "_law_on" s__law_on, dOf "_law_sets" s__law_sets, dOf "_law_tells" s__law_tells, dOf "law" s_law]
def fa : List He.Fa := [.glo "turn", .glo "pressed", .glo "all_sets", .glo "reduced", .glo "left_over", .glo "paper_for", .glo "press_for", .glo "is_no_press", .glo "_law_draws", .glo "_law_next", .glo "_law_same", .glo "_law_pick", .glo "_law_buttons", .glo "_law_on", .glo "_law_sets", .glo "_law_tells", .glo "law", .free "abs", .free "any", .free "bool", .free "dict", .free "int", .free "isinstance", .free "len", .free "list", .free "range", .free "repr", .free "set", .free "sorted", .free "tuple"]
def cs : List Cst := []
def q_turn_1 : Sm :=
 rtn (callD tupD (consA (callD sorE (consA (op2 addD (lcE (.nm 2) [2] (tcm (op2 ninD (rdS 2) (rdS 1))) (rdS 2) (seqI (rdS 0))) (lcE (.nm 2) [2] (tcm (op2 ninD (rdS 2) (rdS 0))) (rdS 2) (seqI (rdS 1)))) (nilA))) (nilA)))
def d_turn : Sm := q_turn_1
def f_turn : Fn := fnD [false, false] 3 d_turn
def q_pressed_1 : Sm :=
 setS 2 (tupE (nilA))
def q_pressed_3 : Sm :=
 setS 2 (cal (f_turn) (consA (rdS 2) (consA (op2 ixD (rdS 0) (rdS 3)) (nilA))))
def q_pressed_2 : Sm :=
 frS (.nm 3) [3] (seqI (rdS 1))
 (q_pressed_3)
def q_pressed_4 : Sm :=
 rtn (rdS 2)
def d_pressed : Sm := sq (q_pressed_1) (sq (q_pressed_2) (q_pressed_4))
def f_pressed : Fn := fnD [false, false] 4 d_pressed
def q_all_sets_1 : Sm :=
 setS 1 (lstE (consA (tupE (nilA)) (nilA)))
def q_all_sets_3 : Sm :=
 setS 1 (op2 addD (rdS 1) (lcE (.nm 3) [3] (yesT) (op2 addD (rdS 3) (tupE (consA (rdS 2) (nilA)))) (seqI (rdS 1))))
def q_all_sets_2 : Sm :=
 frS (.nm 2) [2] (seqI (rdS 0))
 (q_all_sets_3)
def q_all_sets_4 : Sm :=
 rtn (lcE (.tp [.nm 4, .nm 3]) [4, 3] (yesT) (rdS 3) (seqI (callD sorE (consA (lcE (.nm 3) [3] (yesT) (tupE (consA (callD lenD (consA (rdS 3) (nilA))) (consA (rdS 3) (nilA)))) (seqI (rdS 1))) (nilA)))))
def d_all_sets : Sm := sq (q_all_sets_1) (sq (q_all_sets_2) (q_all_sets_4))
def f_all_sets : Fn := fnD [false] 5 d_all_sets
def q_reduced_1 : Sm :=
 setS 1 (lstE (nilA))
def q_reduced_3 : Sm :=
 setS 3 (op2 ixD (rdS 0) (rdS 2))
def q_reduced_6 : Sm :=
 setS 3 (cal (f_turn) (consA (rdS 3) (consA (rdS 5) (nilA))))
def q_reduced_5 : Sm :=
 ifS (tcm (op2 inD (rdS 4) (rdS 3)))
 (q_reduced_6)
 (nxt)
def q_reduced_4 : Sm :=
 frS (.tp [.nm 4, .nm 5]) [] (seqI (rdS 1))
 (q_reduced_5)
def q_reduced_8 : Sm :=
 setS 1 (op2 addD (lcE (.tp [.nm 4, .nm 5]) [4, 5] (yesT) (tupE (consA (rdS 4) (consA (ifE (tcm (op2 inD (op2 ixD (rdS 3) (ret (.int 0))) (rdS 5))) (cal (f_turn) (consA (rdS 5) (consA (rdS 3) (nilA)))) (rdS 5)) (nilA)))) (seqI (rdS 1))) (lstE (consA (tupE (consA (op2 ixD (rdS 3) (ret (.int 0))) (consA (rdS 3) (nilA)))) (nilA))))
def q_reduced_7 : Sm :=
 ifS (tcm (op2 neD (rdS 3) (tupE (nilA))))
 (q_reduced_8)
 (nxt)
def q_reduced_2 : Sm :=
 frS (.nm 2) [2, 3] (seqI (callD sorE (consA (rdS 0) (nilA))))
 (sq (q_reduced_3) (sq (q_reduced_4) (q_reduced_7)))
def q_reduced_9 : Sm :=
 rtn (rdS 1)
def d_reduced : Sm := sq (q_reduced_1) (sq (q_reduced_2) (q_reduced_9))
def f_reduced : Fn := fnD [false] 6 d_reduced
def q_left_over_1 : Sm :=
 setS 2 (rdS 1)
def q_left_over_4 : Sm :=
 setS 2 (cal (f_turn) (consA (rdS 2) (consA (rdS 4) (nilA))))
def q_left_over_3 : Sm :=
 ifS (tcm (op2 inD (rdS 3) (rdS 2)))
 (q_left_over_4)
 (nxt)
def q_left_over_2 : Sm :=
 frS (.tp [.nm 3, .nm 4]) [3, 4] (seqI (cal (f_reduced) (consA (rdS 0) (nilA))))
 (q_left_over_3)
def q_left_over_5 : Sm :=
 rtn (rdS 2)
def d_left_over : Sm := sq (q_left_over_1) (sq (q_left_over_2) (q_left_over_5))
def f_left_over : Fn := fnD [false, false] 5 d_left_over
def q_paper_for_1 : Sm :=
 rtn (callD tupD (consA (callD sorE (consA (op2 addD (lstE (consA (rdS 1) (nilA))) (lcE (.tp [.nm 2, .nm 3]) [2, 3] (tcm (op2 inD (rdS 1) (rdS 3))) (rdS 2) (seqI (cal (f_reduced) (consA (rdS 0) (nilA)))))) (nilA))) (nilA)))
def d_paper_for : Sm := q_paper_for_1
def f_paper_for : Fn := fnD [false, false] 4 d_paper_for
def q_press_for_1 : Sm :=
 setS 2 (cal (f_left_over) (consA (rdS 0) (consA (rdS 1) (nilA))))
def q_press_for_3 : Sm :=
 rtn (tupE (consA (ret (.str "no")) (consA (cal (f_paper_for) (consA (rdS 0) (consA (op2 ixD (rdS 2) (ret (.int 0))) (nilA)))) (nilA))))
def q_press_for_2 : Sm :=
 ifS (tcm (op2 neD (rdS 2) (tupE (nilA))))
 (q_press_for_3)
 (nxt)
def q_press_for_6 : Sm :=
 rtn (tupE (consA (ret (.str "yes")) (consA (rdS 3) (nilA))))
def q_press_for_5 : Sm :=
 ifS (tcm (op2 eqD (cal (f_pressed) (consA (rdS 0) (consA (rdS 3) (nilA)))) (rdS 1)))
 (q_press_for_6)
 (nxt)
def q_press_for_4 : Sm :=
 frS (.nm 3) [3] (seqI (cal (f_all_sets) (consA (callD sorE (consA (rdS 0) (nilA))) (nilA))))
 (q_press_for_5)
def q_press_for_7 : Sm :=
 rtn (tupE (consA (ret (.str "no")) (consA (tupE (nilA)) (nilA))))
def d_press_for : Sm := sq (q_press_for_1) (sq (q_press_for_2) (sq (q_press_for_4) (q_press_for_7)))
def f_press_for : Fn := fnD [false, false] 4 d_press_for
def q_is_no_press_2 : Sm :=
 rtn (ret (.bool false))
def q_is_no_press_1 : Sm :=
 ifS (orT (notT (tru (isiE "tuple" (rdS 2)))) (tcm (op2 neD (callD lisD (consA (rdS 2) (nilA))) (op1 ssZ (rdS 2)))))
 (q_is_no_press_2)
 (nxt)
def q_is_no_press_4 : Sm :=
 rtn (ret (.bool false))
def q_is_no_press_3 : Sm :=
 ifS (tru (callD anyD (consA (lcE (.nm 3) [3] (yesT) (op2 eqD (op2 modD (callD lenD (consA (lcE (.nm 4) [4] (tcm (op2 inD (rdS 4) (rdS 2))) (rdS 4) (seqI (op2 ixD (rdS 0) (rdS 3)))) (nilA))) (ret (.int 2))) (ret (.int 1))) (seqK 0)) (nilA))))
 (q_is_no_press_4)
 (nxt)
def q_is_no_press_5 : Sm :=
 rtn (op2 eqD (op2 modD (callD lenD (consA (lcE (.nm 4) [4] (tcm (op2 inD (rdS 4) (rdS 2))) (rdS 4) (seqI (rdS 1))) (nilA))) (ret (.int 2))) (ret (.int 1)))
def d_is_no_press : Sm := sq (q_is_no_press_1) (sq (q_is_no_press_3) (q_is_no_press_5))
def f_is_no_press : Fn := fnD [false, false, false] 5 d_is_no_press
def q__law_buttons_1 : Sm :=
 setO 1 (dicE [])
def q__law_buttons_3 : Sm :=
 putS 1 (rdS 2) (callD tupD (consA (lcE (.nm 3) [3] (tcm (op2 eqD (calH (f__law_next) [some 0, none] (holeA 0 (consA (ret (.int 2)) (nilA)))) (ret (.int 0)))) (rdS 3) (seqI (calH (f__law_pick) [some 0, none] (holeA 0 (consA (lstE (consA (tupE (consA (ret (.int 0)) (consA (ret (.int 1)) (consA (ret (.int 2)) (consA (ret (.int 3)) (consA (ret (.int 4)) (consA (ret (.int 5)) (nilA)))))))) (consA (tupE (consA (ret (.int 0)) (consA (ret (.int 1)) (consA (ret (.int 2)) (nilA))))) (consA (tupE (consA (ret (.int 2)) (consA (ret (.int 7)) (consA (ret (.int 30)) (nilA))))) (nilA))))) (nilA)))))) (nilA)))
def q__law_buttons_2 : Sm :=
 frS (.nm 2) [2] (seqI (slE slD (lstE (consA (ret (.str "a")) (consA (ret (.str "b2")) (consA (ret (.str "c")) (consA (ret (.str "k")) (consA (ret (.str "m")) (consA (ret (.str "z")) (nilA)))))))) (none) (some (calH (f__law_next) [some 0, none] (holeA 0 (consA (ret (.int 7)) (nilA)))))))
 (q__law_buttons_3)
def q__law_buttons_5 : Sm :=
 putS 1 (ret (.str "c")) (callD tupD (consA (lcE (.nm 3) [3] (tcm (op2 neD (op2 inD (rdS 3) (op2 ixD (rdB 1) (ret (.str "a")))) (op2 inD (rdS 3) (op2 ixD (rdB 1) (ret (.str "b2")))))) (rdS 3) (rngI1 (consA (ret (.int 31)) (nilA)))) (nilA)))
def q__law_buttons_4 : Sm :=
 ifS (andT (tcm (op2 gtD (callD lenD (consA (rdB 1) (nilA))) (ret (.int 2)))) (tcm (op2 eqD (calH (f__law_next) [some 0, none] (holeA 0 (consA (ret (.int 2)) (nilA)))) (ret (.int 0)))))
 (q__law_buttons_5)
 (nxt)
def q__law_buttons_6 : Sm :=
 rtO 1
def d__law_buttons : Sm := sq (q__law_buttons_1) (sq (q__law_buttons_2) (sq (q__law_buttons_4) (q__law_buttons_6)))
def f__law_buttons : Fn := fnD [true] 4 d__law_buttons
def q__law_on_1 : Sm :=
 rtn (callD tupD (consA (lcE (.nm 2) [2] (tcm (op2 eqD (op2 modD (callD intD (consA (callD lenD (consA (lcE (.nm 3) [3] (tcm (op2 inD (rdS 2) (op2 ixD (rdS 0) (rdS 3)))) (rdS 3) (seqI (rdS 1))) (nilA))) (nilA))) (ret (.int 2))) (ret (.int 1)))) (rdS 2) (rngI1 (consA (ret (.int 31)) (nilA)))) (nilA)))
def d__law_on : Sm := q__law_on_1
def f__law_on : Fn := fnD [false, false] 4 d__law_on
def q__law_sets_1 : Sm :=
 setS 1 (lstE (consA (tupE (nilA)) (nilA)))
def q__law_sets_3 : Sm :=
 setS 1 (op2 addD (rdS 1) (lcE (.nm 3) [3] (yesT) (op2 addD (rdS 3) (tupE (consA (rdS 2) (nilA)))) (seqI (rdS 1))))
def q__law_sets_2 : Sm :=
 frS (.nm 2) [2] (seqI (rdS 0))
 (q__law_sets_3)
def q__law_sets_4 : Sm :=
 rtn (callD sorF (consA (rdS 1) (nilA)))
def d__law_sets : Sm := sq (q__law_sets_1) (sq (q__law_sets_2) (q__law_sets_4))
def f__law_sets : Fn := fnD [false] 4 d__law_sets
def q__law_tells_2 : Sm :=
 rtn (ret (.bool false))
def q__law_tells_1 : Sm :=
 ifS (orT (notT (tru (isiE "tuple" (rdS 2)))) (tcm (op2 neD (lcE (.nm 4) [4] (orT (notT (tru (isiE "int" (rdS 4)))) (tru (isiE "bool" (rdS 4)))) (rdS 4) (seqI (rdS 2))) (lstE (nilA)))))
 (q__law_tells_2)
 (nxt)
def q__law_tells_4 : Sm :=
 rtn (ret (.bool false))
def q__law_tells_3 : Sm :=
 ifS (tcm (op2 neD (lcE (.nm 5) [5] (tcm (op2 geD (op2 ixD (rdS 2) (rdS 5)) (op2 ixD (rdS 2) (op2 addD (rdS 5) (ret (.int 1)))))) (rdS 5) (rngI1 (consA (op2 subD (callD lenD (consA (rdS 2) (nilA))) (ret (.int 1))) (nilA)))) (lstE (nilA))))
 (q__law_tells_4)
 (nxt)
def q__law_tells_5 : Sm :=
 setS 3 (lcE (.nm 6) [6] (tcm (op2 eqD (op2 modD (callD intD (consA (callD lenD (consA (lcE (.nm 4) [4] (tcm (op2 inD (rdS 4) (rdS 2))) (rdS 4) (seqI (op2 ixD (rdS 0) (rdS 6)))) (nilA))) (nilA))) (ret (.int 2))) (ret (.int 1)))) (rdS 6) (seqK 0))
def q__law_tells_6 : Sm :=
 rtn (andV (op2 eqD (rdS 3) (lstE (nilA))) (op2 eqD (op2 modD (callD intD (consA (callD lenD (consA (lcE (.nm 4) [4] (tcm (op2 inD (rdS 4) (rdS 2))) (rdS 4) (seqI (rdS 1))) (nilA))) (nilA))) (ret (.int 2))) (ret (.int 1))))
def d__law_tells : Sm := sq (q__law_tells_1) (sq (q__law_tells_3) (sq (q__law_tells_5) (q__law_tells_6)))
def f__law_tells : Fn := fnD [false, false, false] 7 d__law_tells
def q_law_1 : Sm :=
 setO 1 (dicE [(ret (.str "draws"), cal (f__law_draws) (consA (rdS 0) (consA (ret (.int 200)) (nilA)))), (ret (.str "at"), ret (.int 0))])
def q_law_3 : Sm :=
 setS 3 (calH (f__law_buttons) [some 1] (holeA 1 (nilA)))
def q_law_4 : Sm :=
 setS 4 (lcE (.tp [.nm 12, .nm 13]) [12, 13] (yesT) (rdS 13) (seqI (callD sorE (consA (lcE (.nm 13) [13] (yesT) (tupE (consA (callD lenD (consA (rdS 13) (nilA))) (consA (rdS 13) (nilA)))) (seqI (cal (f__law_sets) (consA (callD sorE (consA (rdS 3) (nilA))) (nilA))))) (nilA)))))
def q_law_6 : Sm :=
 setS 6 (cal (f__law_on) (consA (rdS 3) (consA (calH (f__law_pick) [some 1, none] (holeA 1 (consA (rdS 4) (nilA)))) (nilA))))
def q_law_8 : Sm :=
 setS 6 (callD tupD (consA (callD sorE (consA (callD dicD (consA (lcE (.nm 14) [14] (yesT) (tupE (consA (rdS 14) (consA (ret (.bool true)) (nilA)))) (seqI (op2 addD (rdS 6) (tupE (consA (calH (f__law_next) [some 1, none] (holeA 1 (consA (ret (.int 9)) (nilA)))) (nilA)))))) (nilA))) (nilA))) (nilA)))
def q_law_7 : Sm :=
 ifS (tcm (op2 eqD (calH (f__law_next) [some 1, none] (holeA 1 (consA (ret (.int 2)) (nilA)))) (ret (.int 0))))
 (q_law_8)
 (nxt)
def q_law_9 : Sm :=
 setS 7 (lcE (.nm 13) [13] (tcm (op2 eqD (cal (f__law_on) (consA (rdS 3) (consA (rdS 13) (nilA)))) (rdS 6))) (rdS 13) (seqI (rdS 4)))
def q_law_10 : Sm :=
 setS 8 (cal (f_press_for) (consA (rdS 3) (consA (rdS 6) (nilA))))
def q_law_13 : Sm :=
 rtn (ret (.bool false))
def q_law_12 : Sm :=
 ifS (notT (tru (cal (f__law_same) (consA (rdS 8) (consA (tupE (consA (ret (.str "yes")) (consA (op2 ixD (rdS 7) (ret (.int 0))) (nilA)))) (nilA))))))
 (q_law_13)
 (nxt)
def q_law_15 : Sm :=
 rtn (ret (.bool false))
def q_law_14 : Sm :=
 ifS (orT (notT (tru (isiE "tuple" (rdS 8)))) (orT (tcm (op2 neD (callD lenD (consA (rdS 8) (nilA))) (ret (.int 2)))) (orT (tcm (op2 neD (op2 ixD (rdS 8) (ret (.int 0))) (ret (.str "no")))) (orT (notT (tru (cal (f__law_tells) (consA (rdS 3) (consA (rdS 6) (consA (op2 ixD (rdS 8) (ret (.int 1))) (nilA))))))) (tcm (op2 notD (cal (f_is_no_press) (consA (rdS 3) (consA (rdS 6) (consA (op2 ixD (rdS 8) (ret (.int 1))) (nilA))))) (ret (.bool true))))))))
 (q_law_15)
 (nxt)
def q_law_11 : Sm :=
 ifS (tcm (op2 neD (rdS 7) (lstE (nilA))))
 (q_law_12)
 (q_law_14)
def q_law_16 : Sm :=
 setS 9 (callD tupD (consA (lcE (.nm 14) [14] (tcm (op2 eqD (calH (f__law_next) [some 1, none] (holeA 1 (consA (ret (.int 3)) (nilA)))) (ret (.int 0)))) (rdS 14) (rngI1 (consA (ret (.int 8)) (nilA)))) (nilA)))
def q_law_17 : Sm :=
 setS 10 (op2 addD (lstE (consA (rdS 9) (consA (rdS 9) (consA (rdS 9) (consA (op1 revE (rdS 9)) (consA (op2 addD (rdS 9) (slE slD (rdS 9) (none) (some (ret (.int 1))))) (consA (callD lisD (consA (rdS 9) (nilA))) (consA (ret .none) (consA (tupE (nilA)) (consA (rdS 6) (nilA))))))))))) (ifE (tcm (op2 eqD (rdS 7) (lstE (nilA)))) (lstE (consA (op2 ixD (rdS 8) (ret (.int 1))) (consA (op2 ixD (rdS 8) (ret (.int 1))) (consA (op2 addD (op2 ixD (rdS 8) (ret (.int 1))) (tupE (consA (ret (.int 40)) (nilA)))) (nilA))))) (lstE (nilA))))
def q_law_18 : Sm :=
 setS 11 (calH (f__law_pick) [some 1, none] (holeA 1 (consA (rdS 10) (nilA))))
def q_law_20 : Sm :=
 rtn (ret (.bool false))
def q_law_19 : Sm :=
 ifS (tcm (op2 neD (cal (f_is_no_press) (consA (rdS 3) (consA (rdS 6) (consA (rdS 11) (nilA))))) (cal (f__law_tells) (consA (rdS 3) (consA (rdS 6) (consA (rdS 11) (nilA)))))))
 (q_law_20)
 (nxt)
def q_law_5 : Sm :=
 frS (.nm 5) [5, 6, 7, 8, 9, 10, 11] (rngI1 (consA (ret (.int 4)) (nilA)))
 (sq (q_law_6) (sq (q_law_7) (sq (q_law_9) (sq (q_law_10) (sq (q_law_11) (sq (q_law_16) (sq (q_law_17) (sq (q_law_18) (q_law_19)))))))))
def q_law_2 : Sm :=
 frS (.nm 2) [2, 3, 4, 5, 6, 7, 8, 9, 10, 11] (rngI1 (consA (ret (.int 4)) (nilA)))
 (sq (q_law_3) (sq (q_law_4) (q_law_5)))
def q_law_21 : Sm :=
 rtn (ret (.bool true))
def d_law : Sm := sq (q_law_1) (sq (q_law_2) (q_law_21))
def f_law : Fn := fnD [false] 15 d_law
section
variable {P : Program} {w : World} {K : PySem.W.Frag} {mg : Str → Option Value} {base : Heap}
abbrev XR0 : XRT := fun _ _ _ _ => False
theorem sc_turn : FnScope ["one", "other", "k"] ["one", "other"] (defScope s_turn) := ⟨rfl, rfl, rfl, by decide +kernel, rfl, by decide +kernel, by decide +kernel⟩
theorem ok_turn (Z : Fx fa fn cs K mg) : FnI P w K mg base CX0 XR0 "turn" 1 .fre [false, false] f_turn := by
  have sc := sc_turn
  obtain ⟨f, fd, F, hm⟩ := Z.def_ 0 0 (x := "turn") (st := s_turn) rfl rfl
  refine fn_ok F hm (F.binds (ps := ["one", "other"]) (fun _ _ _ _ _ _ us hl => match us, hl with | [_, _], _ => rfl)) sc rfl ?_
  exact fun cdv A outer s H E q hn hr => by
    have hu64 : A.units + 3 + 64 < cLine := by have := hr.un; simp only [Around.deeper] at this; omega
    have hu1 : A.units + 3 + 1 < cLine := by omega
    have hu65 : A.units + 3 + 65 < cLine := by have := hr.un; simp only [Around.deeper] at this; omega
    exact jb_one (js_ret (j_callT oc_tuple (by rfl) (Z.free 29 rfl) (by rfl) (ja_cons (j_callB (oc_sortedE (by rfl) hu64) (by rfl) (Z.free 28 rfl) (by rfl) (ja_cons (j_op oo_add (j_lc (sf := false) (by rfl) sc.nd (ji_seq (j_rdS 0 (pv 0))) (own := [("k", 2)]) (blkOk_by (by kernel_rfl)) (fun _ _ _ _ _ _ => jg_nm 2 sc.nd (by rfl) (by first | exact Or.inl rfl | exact Or.inr rfl)) (fun _ _ _ _ _ _ => jpt_one (jt_cmp (oo_nin hu64) (j_rdS 2 (pv 2)) (j_rdS 1 (pv 1)))) (fun _ _ _ _ _ _ => j_rdS 2 (pv 2))) (j_lc (sf := false) (by rfl) sc.nd (ji_seq (j_rdS 1 (pv 1))) (own := [("k", 2)]) (blkOk_by (by kernel_rfl)) (fun _ _ _ _ _ _ => jg_nm 2 sc.nd (by rfl) (by first | exact Or.inl rfl | exact Or.inr rfl)) (fun _ _ _ _ _ _ => jpt_one (jt_cmp (oo_nin hu64) (j_rdS 2 (pv 2)) (j_rdS 0 (pv 0)))) (fun _ _ _ _ _ _ => j_rdS 2 (pv 2)))) (ja_nil false))) (ja_nil false))))
theorem sc_pressed : FnScope ["buttons", "names", "found", "name"] ["buttons", "names"] (defScope s_pressed) := ⟨rfl, rfl, rfl, by decide +kernel, rfl, by decide +kernel, by decide +kernel⟩
theorem ok_pressed (Z : Fx fa fn cs K mg) : FnI P w K mg base CX0 XR0 "pressed" 2 .saf [false, false] f_pressed := by
  have sc := sc_pressed
  obtain ⟨f, fd, F, hm⟩ := Z.def_ 1 1 (x := "pressed") (st := s_pressed) rfl rfl
  refine fn_ok F hm (F.binds (ps := ["buttons", "names"]) (fun _ _ _ _ _ _ us hl => match us, hl with | [_, _], _ => rfl)) sc rfl ?_
  exact fun cdv A outer s H E q hn hr => by
    have hu64 : A.units + 3 + 64 < cLine := by have := hr.un; simp only [Around.deeper] at this; omega
    have hu1 : A.units + 3 + 1 < cLine := by omega
    have hu65 : A.units + 3 + 65 < cLine := by have := hr.un; simp only [Around.deeper] at this; omega
    exact jb_cons (js_set 2 sc.nd (by rfl) (by first | exact Or.inl rfl | exact Or.inr rfl) (j_tup (ja_nil true)))  (jb_cons (js_for PassesOwn.never (by rfl) (ji_seq (j_rdS 1 (pv 1))) (jg_nm 3 sc.nd (by rfl) (by first | exact Or.inl rfl | exact Or.inr rfl))  (jb_one (js_set 2 sc.nd (by rfl) (by first | exact Or.inl rfl | exact Or.inr rfl) (j_call (n := 2) (ok_turn Z) hn (hr.mono (by omega)) passW0 (by rfl) (ja_cons (j_rdS 2 (pv 2)) (ja_cons (j_ix (oi_ix hu1) (j_rdS 0 (pv 0)) (j_rdS 3 (pv 3))) (ja_nil true)))))))  (jb_one (js_ret (j_rdS 2 (pv 2)))))
theorem sc_all_sets : FnScope ["names", "rows", "name", "row", "_"] ["names"] (defScope s_all_sets) := ⟨rfl, rfl, rfl, by decide +kernel, rfl, by decide +kernel, by decide +kernel⟩
theorem ok_all_sets (Z : Fx fa fn cs K mg) : FnI P w K mg base CX0 XR0 "all_sets" 1 .fre [false] f_all_sets := by
  have sc := sc_all_sets
  obtain ⟨f, fd, F, hm⟩ := Z.def_ 2 2 (x := "all_sets") (st := s_all_sets) rfl rfl
  refine fn_ok F hm (F.binds (ps := ["names"]) (fun _ _ _ _ _ _ us hl => match us, hl with | [_], _ => rfl)) sc rfl ?_
  exact fun cdv A outer s H E q hn hr => by
    have hu64 : A.units + 3 + 64 < cLine := by have := hr.un; simp only [Around.deeper] at this; omega
    have hu1 : A.units + 3 + 1 < cLine := by omega
    have hu65 : A.units + 3 + 65 < cLine := by have := hr.un; simp only [Around.deeper] at this; omega
    exact jb_cons (js_set 1 sc.nd (by rfl) (by first | exact Or.inl rfl | exact Or.inr rfl) (j_lst (ja_cons (j_tup (ja_nil true)) (ja_nil true))))  (jb_cons (js_for PassesOwn.never (by rfl) (ji_seq (j_rdS 0 (pv 0))) (jg_nm 2 sc.nd (by rfl) (by first | exact Or.inl rfl | exact Or.inr rfl))  (jb_one (js_set 1 sc.nd (by rfl) (by first | exact Or.inl rfl | exact Or.inr rfl) (j_op oo_add (j_rdS 1 (pv 1)) (j_lc (sf := false) (by rfl) sc.nd (ji_seq (j_rdS 1 (pv 1))) (own := [("row", 3)]) (blkOk_by (by kernel_rfl)) (fun _ _ _ _ _ _ => jg_nm 3 sc.nd (by rfl) (by first | exact Or.inl rfl | exact Or.inr rfl)) (fun _ _ _ _ _ _ => jpt_nil) (fun _ _ _ _ _ _ => j_op oo_add (j_rdS 3 (pv 3)) (j_tup (ja_cons (j_rdS 2 (pv 2)) (ja_nil true)))))))))  (jb_one (js_ret (j_lc (sf := false) (by rfl) sc.nd (ji_seq (j_callB (oc_sortedE (by rfl) hu64) (by rfl) (Z.free 28 rfl) (by rfl) (ja_cons (j_lc (sf := false) (by rfl) sc.nd (ji_seq (j_rdS 1 (pv 1))) (own := [("row", 3)]) (blkOk_by (by kernel_rfl)) (fun _ _ _ _ _ _ => jg_nm 3 sc.nd (by rfl) (by first | exact Or.inl rfl | exact Or.inr rfl)) (fun _ _ _ _ _ _ => jpt_nil) (fun _ _ _ _ _ _ => j_tup (ja_cons (j_callB oc_len (by rfl) (Z.free 23 rfl) (by rfl) (ja_cons (j_rdS 3 (pv 3)) (ja_nil false))) (ja_cons (j_rdS 3 (pv 3)) (ja_nil true))))) (ja_nil false)))) (own := [("_", 4), ("row", 3)]) (blkOk_by (by kernel_rfl)) (fun _ _ _ _ _ _ => jg_tp (by rfl) (jgs_cons (jg_nm 4 sc.nd (by rfl) (by first | exact Or.inl rfl | exact Or.inr rfl)) (jgs_cons (jg_nm 3 sc.nd (by rfl) (by first | exact Or.inl rfl | exact Or.inr rfl)) (jgs_nil)))) (fun _ _ _ _ _ _ => jpt_nil) (fun _ _ _ _ _ _ => j_rdS 3 (pv 3))))))
theorem sc_reduced : FnScope ["buttons", "found", "name", "row", "lead", "own"] ["buttons"] (defScope s_reduced) := ⟨rfl, rfl, rfl, by decide +kernel, rfl, by decide +kernel, by decide +kernel⟩
theorem ok_reduced (Z : Fx fa fn cs K mg) : FnI P w K mg base CX0 XR0 "reduced" 2 .saf [false] f_reduced := by
  have sc := sc_reduced
  obtain ⟨f, fd, F, hm⟩ := Z.def_ 3 3 (x := "reduced") (st := s_reduced) rfl rfl
  refine fn_ok F hm (F.binds (ps := ["buttons"]) (fun _ _ _ _ _ _ us hl => match us, hl with | [_], _ => rfl)) sc rfl ?_
  exact fun cdv A outer s H E q hn hr => by
    have hu64 : A.units + 3 + 64 < cLine := by have := hr.un; simp only [Around.deeper] at this; omega
    have hu1 : A.units + 3 + 1 < cLine := by omega
    have hu65 : A.units + 3 + 65 < cLine := by have := hr.un; simp only [Around.deeper] at this; omega
    exact jb_cons (js_set 1 sc.nd (by rfl) (by first | exact Or.inl rfl | exact Or.inr rfl) (j_lst (ja_nil true)))  (jb_cons (js_for PassesOwn.never (by rfl) (ji_seq (j_callB (oc_sortedE (by rfl) hu64) (by rfl) (Z.free 28 rfl) (by rfl) (ja_cons (j_rdS 0 (pv 0)) (ja_nil false)))) (jg_nm 2 sc.nd (by rfl) (by first | exact Or.inl rfl | exact Or.inr rfl))  (jb_cons (js_set 3 sc.nd (by rfl) (by first | exact Or.inl rfl | exact Or.inr rfl) (j_ix (oi_ix hu1) (j_rdS 0 (pv 0)) (j_rdS 2 (pv 2))))  (jb_cons (js_for PassesOwn.never (by rfl) (ji_seq (j_rdS 1 (pv 1))) (jg_tp (by rfl) (jgs_cons (jg_nm 4 sc.nd (by rfl) (by first | exact Or.inl rfl | exact Or.inr rfl)) (jgs_cons (jg_nm 5 sc.nd (by rfl) (by first | exact Or.inl rfl | exact Or.inr rfl)) (jgs_nil))))  (jb_one (js_if (jt_cmp (oo_in hu64) (j_rdS 4 (pv 4)) (j_rdS 3 (pv 3)))  (jb_one (js_set 3 sc.nd (by rfl) (by first | exact Or.inl rfl | exact Or.inr rfl) (j_call (n := 2) (ok_turn Z) hn (hr.mono (by omega)) passW0 (by rfl) (ja_cons (j_rdS 3 (pv 3)) (ja_cons (j_rdS 5 (pv 5)) (ja_nil true))))))  (jb_nil))))  (jb_one (js_if (jt_cmp (oo_ne hu64) (j_rdS 3 (pv 3)) (j_tup (ja_nil true)))  (jb_one (js_set 1 sc.nd (by rfl) (by first | exact Or.inl rfl | exact Or.inr rfl) (j_op oo_add (j_lc (sf := false) (by rfl) sc.nd (ji_seq (j_rdS 1 (pv 1))) (own := [("lead", 4), ("own", 5)]) (blkOk_by (by kernel_rfl)) (fun _ _ _ _ _ _ => jg_tp (by rfl) (jgs_cons (jg_nm 4 sc.nd (by rfl) (by first | exact Or.inl rfl | exact Or.inr rfl)) (jgs_cons (jg_nm 5 sc.nd (by rfl) (by first | exact Or.inl rfl | exact Or.inr rfl)) (jgs_nil)))) (fun _ _ _ _ _ _ => jpt_nil) (fun _ _ _ _ _ _ => j_tup (ja_cons (j_rdS 4 (pv 4)) (ja_cons (j_if (jt_cmp (oo_in hu64) (j_ix (oi_ix hu1) (j_rdS 3 (pv 3)) (j_int)) (j_rdS 5 (pv 5))) ((j_call (n := 2) (ok_turn Z) hn (hr.mono (by omega)) passW0 (by rfl) (ja_cons (j_rdS 5 (pv 5)) (ja_cons (j_rdS 3 (pv 3)) (ja_nil true)))).saf) (j_rdS 5 (pv 5))) (ja_nil true))))) (j_lst (ja_cons (j_tup (ja_cons (j_ix (oi_ix hu1) (j_rdS 3 (pv 3)) (j_int)) (ja_cons (j_rdS 3 (pv 3)) (ja_nil true)))) (ja_nil true))))))  (jb_nil))))))  (jb_one (js_ret (j_rdS 1 (pv 1)))))
theorem sc_left_over : FnScope ["buttons", "lamps", "rest", "lead", "own"] ["buttons", "lamps"] (defScope s_left_over) := ⟨rfl, rfl, rfl, by decide +kernel, rfl, by decide +kernel, by decide +kernel⟩
theorem ok_left_over (Z : Fx fa fn cs K mg) : FnI P w K mg base CX0 XR0 "left_over" 3 .saf [false, false] f_left_over := by
  have sc := sc_left_over
  obtain ⟨f, fd, F, hm⟩ := Z.def_ 4 4 (x := "left_over") (st := s_left_over) rfl rfl
  refine fn_ok F hm (F.binds (ps := ["buttons", "lamps"]) (fun _ _ _ _ _ _ us hl => match us, hl with | [_, _], _ => rfl)) sc rfl ?_
  exact fun cdv A outer s H E q hn hr => by
    have hu64 : A.units + 3 + 64 < cLine := by have := hr.un; simp only [Around.deeper] at this; omega
    have hu1 : A.units + 3 + 1 < cLine := by omega
    have hu65 : A.units + 3 + 65 < cLine := by have := hr.un; simp only [Around.deeper] at this; omega
    exact jb_cons (js_set 2 sc.nd (by rfl) (by first | exact Or.inl rfl | exact Or.inr rfl) (j_rdS 1 (pv 1)))  (jb_cons (js_for PassesOwn.never (by rfl) (ji_seq (j_call (n := 1) (ok_reduced Z) hn (hr.mono (by omega)) passW0 (by rfl) (ja_cons (j_rdS 0 (pv 0)) (ja_nil true)))) (jg_tp (by rfl) (jgs_cons (jg_nm 3 sc.nd (by rfl) (by first | exact Or.inl rfl | exact Or.inr rfl)) (jgs_cons (jg_nm 4 sc.nd (by rfl) (by first | exact Or.inl rfl | exact Or.inr rfl)) (jgs_nil))))  (jb_one (js_if (jt_cmp (oo_in hu64) (j_rdS 3 (pv 3)) (j_rdS 2 (pv 2)))  (jb_one (js_set 2 sc.nd (by rfl) (by first | exact Or.inl rfl | exact Or.inr rfl) (j_call (n := 2) (ok_turn Z) hn (hr.mono (by omega)) passW0 (by rfl) (ja_cons (j_rdS 2 (pv 2)) (ja_cons (j_rdS 4 (pv 4)) (ja_nil true))))))  (jb_nil))))  (jb_one (js_ret (j_rdS 2 (pv 2)))))
theorem sc_paper_for : FnScope ["buttons", "lamp", "lead", "own"] ["buttons", "lamp"] (defScope s_paper_for) := ⟨rfl, rfl, rfl, by decide +kernel, rfl, by decide +kernel, by decide +kernel⟩
theorem ok_paper_for (Z : Fx fa fn cs K mg) : FnI P w K mg base CX0 XR0 "paper_for" 3 .fre [false, false] f_paper_for := by
  have sc := sc_paper_for
  obtain ⟨f, fd, F, hm⟩ := Z.def_ 5 5 (x := "paper_for") (st := s_paper_for) rfl rfl
  refine fn_ok F hm (F.binds (ps := ["buttons", "lamp"]) (fun _ _ _ _ _ _ us hl => match us, hl with | [_, _], _ => rfl)) sc rfl ?_
  exact fun cdv A outer s H E q hn hr => by
    have hu64 : A.units + 3 + 64 < cLine := by have := hr.un; simp only [Around.deeper] at this; omega
    have hu1 : A.units + 3 + 1 < cLine := by omega
    have hu65 : A.units + 3 + 65 < cLine := by have := hr.un; simp only [Around.deeper] at this; omega
    exact jb_one (js_ret (j_callT oc_tuple (by rfl) (Z.free 29 rfl) (by rfl) (ja_cons (j_callB (oc_sortedE (by rfl) hu64) (by rfl) (Z.free 28 rfl) (by rfl) (ja_cons (j_op oo_add (j_lst (ja_cons (j_rdS 1 (pv 1)) (ja_nil true))) (j_lc (sf := false) (by rfl) sc.nd (ji_seq (j_call (n := 1) (ok_reduced Z) hn (hr.mono (by omega)) passW0 (by rfl) (ja_cons (j_rdS 0 (pv 0)) (ja_nil true)))) (own := [("lead", 2), ("own", 3)]) (blkOk_by (by kernel_rfl)) (fun _ _ _ _ _ _ => jg_tp (by rfl) (jgs_cons (jg_nm 2 sc.nd (by rfl) (by first | exact Or.inl rfl | exact Or.inr rfl)) (jgs_cons (jg_nm 3 sc.nd (by rfl) (by first | exact Or.inl rfl | exact Or.inr rfl)) (jgs_nil)))) (fun _ _ _ _ _ _ => jpt_one (jt_cmp (oo_in hu64) (j_rdS 1 (pv 1)) (j_rdS 3 (pv 3)))) (fun _ _ _ _ _ _ => j_rdS 2 (pv 2)))) (ja_nil false))) (ja_nil false))))
theorem sc_press_for : FnScope ["buttons", "lamps", "rest", "names"] ["buttons", "lamps"] (defScope s_press_for) := ⟨rfl, rfl, rfl, by decide +kernel, rfl, by decide +kernel, by decide +kernel⟩
theorem ok_press_for (Z : Fx fa fn cs K mg) : FnI P w K mg base CX0 XR0 "press_for" 4 .fre [false, false] f_press_for := by
  have sc := sc_press_for
  obtain ⟨f, fd, F, hm⟩ := Z.def_ 6 6 (x := "press_for") (st := s_press_for) rfl rfl
  refine fn_ok F hm (F.binds (ps := ["buttons", "lamps"]) (fun _ _ _ _ _ _ us hl => match us, hl with | [_, _], _ => rfl)) sc rfl ?_
  exact fun cdv A outer s H E q hn hr => by
    have hu64 : A.units + 3 + 64 < cLine := by have := hr.un; simp only [Around.deeper] at this; omega
    have hu1 : A.units + 3 + 1 < cLine := by omega
    have hu65 : A.units + 3 + 65 < cLine := by have := hr.un; simp only [Around.deeper] at this; omega
    exact jb_cons (js_set 2 sc.nd (by rfl) (by first | exact Or.inl rfl | exact Or.inr rfl) (j_call (n := 2) (ok_left_over Z) hn (hr.mono (by omega)) passW0 (by rfl) (ja_cons (j_rdS 0 (pv 0)) (ja_cons (j_rdS 1 (pv 1)) (ja_nil true)))))  (jb_cons (js_if (jt_cmp (oo_ne hu64) (j_rdS 2 (pv 2)) (j_tup (ja_nil true)))  (jb_one (js_ret (j_tup (ja_cons (j_str (h := by decide +kernel)) (ja_cons (j_call (n := 2) (ok_paper_for Z) hn (hr.mono (by omega)) passW0 (by rfl) (ja_cons (j_rdS 0 (pv 0)) (ja_cons (j_ix (oi_ix hu1) (j_rdS 2 (pv 2)) (j_int)) (ja_nil true)))) (ja_nil true))))))  (jb_nil))  (jb_cons (js_for PassesOwn.never (by rfl) (ji_seq (j_call (n := 1) (ok_all_sets Z) hn (hr.mono (by omega)) passW0 (by rfl) (ja_cons (j_callB (oc_sortedE (by rfl) hu64) (by rfl) (Z.free 28 rfl) (by rfl) (ja_cons (j_rdS 0 (pv 0)) (ja_nil false))) (ja_nil true)))) (jg_nm 3 sc.nd (by rfl) (by first | exact Or.inl rfl | exact Or.inr rfl))  (jb_one (js_if (jt_cmp (oo_eq hu64) (j_call (n := 2) (ok_pressed Z) hn (hr.mono (by omega)) passW0 (by rfl) (ja_cons (j_rdS 0 (pv 0)) (ja_cons (j_rdS 3 (pv 3)) (ja_nil true)))) (j_rdS 1 (pv 1)))  (jb_one (js_ret (j_tup (ja_cons (j_str (h := by decide +kernel)) (ja_cons (j_rdS 3 (pv 3)) (ja_nil true))))))  (jb_nil))))  (jb_one (js_ret (j_tup (ja_cons (j_str (h := by decide +kernel)) (ja_cons (j_tup (ja_nil true)) (ja_nil true))))))))
theorem sc_is_no_press : FnScope ["buttons", "lamps", "paper", "name", "k"] ["buttons", "lamps", "paper"] (defScope s_is_no_press) := ⟨rfl, rfl, rfl, by decide +kernel, rfl, by decide +kernel, by decide +kernel⟩
theorem ok_is_no_press (Z : Fx fa fn cs K mg) : FnI P w K mg base CX0 XR0 "is_no_press" 1 .fre [false, false, false] f_is_no_press := by
  have sc := sc_is_no_press
  obtain ⟨f, fd, F, hm⟩ := Z.def_ 7 7 (x := "is_no_press") (st := s_is_no_press) rfl rfl
  refine fn_ok F hm (F.binds (ps := ["buttons", "lamps", "paper"]) (fun _ _ _ _ _ _ us hl => match us, hl with | [_, _, _], _ => rfl)) sc rfl ?_
  exact fun cdv A outer s H E q hn hr => by
    have hu64 : A.units + 3 + 64 < cLine := by have := hr.un; simp only [Around.deeper] at this; omega
    have hu1 : A.units + 3 + 1 < cLine := by omega
    have hu65 : A.units + 3 + 65 < cLine := by have := hr.un; simp only [Around.deeper] at this; omega
    exact jb_cons (js_if (JW.jt (jw_or (jt_not (jt_tru (j_isi (T := "tuple") (j_rdS 2 (pv 2)) (by decide) (by rfl) (Z.free 22 rfl) (by rfl) (by rfl) (Z.free 29 rfl) (by rfl)))) (jw_or1 (jt_cmp (oo_ne hu64) (j_callT oc_list (by rfl) (Z.free 24 rfl) (by rfl) (ja_cons (j_rdS 2 (pv 2)) (ja_nil false))) (j_ssetZ (by rfl) hu64 (by rfl) (Z.free 28 rfl) (by rfl) (by rfl) (Z.free 27 rfl) (by rfl) (j_rdS 2 (pv 2)))))))  (jb_one (js_ret (j_bl)))  (jb_nil))  (jb_cons (js_if (jt_tru (j_callB (oc_any (by rfl)) (by rfl) (Z.free 18 rfl) (by rfl) (ja_cons (j_lcK 0 (pv 0) (by rfl) sc.nd (own := [("name", 3)]) (blkOk_by (by kernel_rfl)) (fun _ _ _ _ _ _ _ => jg_nm 3 sc.nd (by rfl) (by first | exact Or.inl rfl | exact Or.inr rfl)) (fun _ _ _ _ _ _ _ => jpt_nil) (fun _ _ _ _ _ _ _ => j_cmp (oo_eq hu64) (j_op oo_mod (j_callB oc_len (by rfl) (Z.free 23 rfl) (by rfl) (ja_cons (j_lc (sf := false) (by rfl) sc.nd (ji_seq (j_ix (oi_ix hu1) (j_rdS 0 (pv 0)) (j_rdS 3 (pv 3)))) (own := [("k", 4)]) (blkOk_by (by kernel_rfl)) (fun _ _ _ _ _ _ => jg_nm 4 sc.nd (by rfl) (by first | exact Or.inl rfl | exact Or.inr rfl)) (fun _ _ _ _ _ _ => jpt_one (jt_cmp (oo_in hu64) (j_rdS 4 (pv 4)) (j_rdS 2 (pv 2)))) (fun _ _ _ _ _ _ => j_rdS 4 (pv 4))) (ja_nil false))) (j_int)) (j_int))) (ja_nil false))))  (jb_one (js_ret (j_bl)))  (jb_nil))  (jb_one (js_ret (j_cmp (oo_eq hu64) (j_op oo_mod (j_callB oc_len (by rfl) (Z.free 23 rfl) (by rfl) (ja_cons (j_lc (sf := false) (by rfl) sc.nd (ji_seq (j_rdS 1 (pv 1))) (own := [("k", 4)]) (blkOk_by (by kernel_rfl)) (fun _ _ _ _ _ _ => jg_nm 4 sc.nd (by rfl) (by first | exact Or.inl rfl | exact Or.inr rfl)) (fun _ _ _ _ _ _ => jpt_one (jt_cmp (oo_in hu64) (j_rdS 4 (pv 4)) (j_rdS 2 (pv 2)))) (fun _ _ _ _ _ _ => j_rdS 4 (pv 4))) (ja_nil false))) (j_int)) (j_int)))))
theorem sc__law_draws : FnScope ["script", "many", "draws", "mixed", "k", "cell", "rest", "turn_v"] ["script", "many"] (defScope s__law_draws) := ⟨rfl, rfl, rfl, by decide +kernel, rfl, by decide +kernel, by decide +kernel⟩
theorem ok__law_draws (Z : Fx fa fn cs K mg) : FnI P w K mg base CX0 XR0 "_law_draws" 1 .fre [false, false] f__law_draws := by
  have sc := sc__law_draws
  obtain ⟨f, fd, F, hm⟩ := Z.def_ 8 8 (x := "_law_draws") (st := s__law_draws) rfl rfl
  refine fn_ok F hm (F.binds (ps := ["script", "many"]) (fun _ _ _ _ _ _ us hl => match us, hl with | [_, _], _ => rfl)) sc rfl ?_
  exact fun cdv A outer s H E q hn hr => by
    have hu64 : A.units + 3 + 64 < cLine := by have := hr.un; simp only [Around.deeper] at this; omega
    have hu1 : A.units + 3 + 1 < cLine := by omega
    have hu65 : A.units + 3 + 65 < cLine := by have := hr.un; simp only [Around.deeper] at this; omega
    exact jb_cons (js_setO 2 sc.nd (by rfl) (by first | exact Or.inl rfl | exact Or.inr rfl) (j_lst (ja_nil true)))  (jb_cons (js_set 3 sc.nd (by rfl) (by first | exact Or.inl rfl | exact Or.inr rfl) (j_int))  (jb_cons (js_for PassesOwn.never (by rfl) (ji_range1 (by rfl) (Z.free 25 rfl) (ja_cons (j_callB oc_len (by rfl) (Z.free 23 rfl) (by rfl) (ja_cons (j_rdS 0 (pv 0)) (ja_nil false))) (ja_nil true))) (jg_nm 4 sc.nd (by rfl) (by first | exact Or.inl rfl | exact Or.inr rfl))  (jb_cons (js_set 5 sc.nd (by rfl) (by first | exact Or.inl rfl | exact Or.inr rfl) (j_callB oc_abs (by rfl) (Z.free 17 rfl) (by rfl) (ja_cons (j_callT oc_int (by rfl) (Z.free 21 rfl) (by rfl) (ja_cons (j_ix (oi_ix hu1) (j_rdS 0 (pv 0)) (j_rdS 4 (pv 4))) (ja_nil false))) (ja_nil false))))  (jb_cons (js_set 3 sc.nd (by rfl) (by first | exact Or.inl rfl | exact Or.inr rfl) (j_op oo_mod (j_callT oc_int (by rfl) (Z.free 21 rfl) (by rfl) (ja_cons (j_op oo_add (j_op oo_add (j_op oo_mul (j_rdS 3 (pv 3)) (j_int)) (j_op oo_mod (j_rdS 5 (pv 5)) (j_int))) (j_rdS 4 (pv 4))) (ja_nil false))) (j_int)))  (jb_cons (js_set 6 sc.nd (by rfl) (by first | exact Or.inl rfl | exact Or.inr rfl) (j_int))  (jb_cons (js_if (jt_cmp oo_ge (j_rdS 5 (pv 5)) (j_op oo_pow (j_int) (j_int)))  (jb_one (js_set 6 sc.nd (by rfl) (by first | exact Or.inl rfl | exact Or.inr rfl) (j_rdS 5 (pv 5))))  (jb_cons (j_app 2 (pv 2) (j_op oo_mod (j_callT oc_int (by rfl) (Z.free 21 rfl) (by rfl) (ja_cons (j_rdS 5 (pv 5)) (ja_nil false))) (j_int)))  (jb_one (j_app 2 (pv 2) (j_op oo_mod (j_op oo_mod (j_callT oc_int (by rfl) (Z.free 21 rfl) (by rfl) (ja_cons (j_op oo_add (j_op oo_mul (j_rdS 3 (pv 3)) (j_int)) (j_int)) (ja_nil false))) (j_int)) (j_int))))))  (jb_one (js_for PassesOwn.never (by rfl) (ji_range1 (by rfl) (Z.free 25 rfl) (ja_cons (j_int) (ja_nil true))) (jg_nm 7 sc.nd (by rfl) (by first | exact Or.inl rfl | exact Or.inr rfl))  (jb_one (js_if (jt_cmp oo_gt (j_rdS 6 (pv 6)) (j_int))  (jb_cons (j_app 2 (pv 2) (j_op oo_mod (j_callT oc_int (by rfl) (Z.free 21 rfl) (by rfl) (ja_cons (j_rdS 6 (pv 6)) (ja_nil false))) (j_int)))  (jb_one (js_set 6 sc.nd (by rfl) (by first | exact Or.inl rfl | exact Or.inr rfl) (j_op oo_fdiv (j_rdS 6 (pv 6)) (j_int)))))  (jb_nil))))))))))  (jb_cons (js_for PassesOwn.never (by rfl) (ji_range1 (by rfl) (Z.free 25 rfl) (ja_cons (j_rdS 1 (pv 1)) (ja_nil true))) (jg_nm 4 sc.nd (by rfl) (by first | exact Or.inl rfl | exact Or.inr rfl))  (jb_cons (js_set 3 sc.nd (by rfl) (by first | exact Or.inl rfl | exact Or.inr rfl) (j_op oo_mod (j_callT oc_int (by rfl) (Z.free 21 rfl) (by rfl) (ja_cons (j_op oo_add (j_op oo_add (j_op oo_mul (j_rdS 3 (pv 3)) (j_int)) (j_rdS 4 (pv 4))) (j_int)) (ja_nil false))) (j_int)))  (jb_one (j_app 2 (pv 2) (j_op oo_mod (j_callT oc_int (by rfl) (Z.free 21 rfl) (by rfl) (ja_cons (j_rdS 3 (pv 3)) (ja_nil false))) (j_int))))))  (jb_one (js_ret (j_slice os_sl (j_rdB 2 (pv 2)) (jo_none) (jo_some (j_rdS 1 (pv 1)))))))))
theorem sc__law_next : FnScope ["w", "many"] ["w", "many"] (defScope s__law_next) := ⟨rfl, rfl, rfl, by decide +kernel, rfl, by decide +kernel, by decide +kernel⟩
theorem ok__law_next (Z : Fx fa fn cs K mg) : FnI P w K mg base CX0 XR0 "_law_next" 1 .fre [true, false] f__law_next := by
  have sc := sc__law_next
  obtain ⟨f, fd, F, hm⟩ := Z.def_ 9 9 (x := "_law_next") (st := s__law_next) rfl rfl
  refine fn_ok F hm (F.binds (ps := ["w", "many"]) (fun _ _ _ _ _ _ us hl => match us, hl with | [_, _], _ => rfl)) sc rfl ?_
  exact fun cdv A outer s H E q hn hr => by
    have hu64 : A.units + 3 + 64 < cLine := by have := hr.un; simp only [Around.deeper] at this; omega
    have hu1 : A.units + 3 + 1 < cLine := by omega
    have hu65 : A.units + 3 + 65 < cLine := by have := hr.un; simp only [Around.deeper] at this; omega
    exact jb_cons (js_augI 0 hu1 (pv 0) (j_str (h := by decide +kernel)) (j_int) oa_add)  (jb_cons (js_if (jt_cmp oo_gt (j_ix (oi_ix hu1) (j_rdB 0 (pv 0)) (j_str (h := by decide +kernel))) (j_callB oc_len (by rfl) (Z.free 23 rfl) (by rfl) (ja_cons (j_ix (oi_ix hu1) (j_rdB 0 (pv 0)) (j_str (h := by decide +kernel))) (ja_nil false))))  (jb_one (js_ret (j_int)))  (jb_nil))  (jb_one (js_ret (j_op oo_mod (j_callT oc_int (by rfl) (Z.free 21 rfl) (by rfl) (ja_cons (j_ix (oi_ix hu1) (j_ix (oi_ix hu1) (j_rdB 0 (pv 0)) (j_str (h := by decide +kernel))) (j_op oo_sub (j_ix (oi_ix hu1) (j_rdB 0 (pv 0)) (j_str (h := by decide +kernel))) (j_int))) (ja_nil false))) (j_rdS 1 (pv 1))))))
theorem sc__law_same : FnScope ["seen", "due"] ["seen", "due"] (defScope s__law_same) := ⟨rfl, rfl, rfl, by decide +kernel, rfl, by decide +kernel, by decide +kernel⟩
theorem ok__law_same (Z : Fx fa fn cs K mg) : FnI P w K mg base CX0 XR0 "_law_same" 1 .fre [false, false] f__law_same := by
  have sc := sc__law_same
  obtain ⟨f, fd, F, hm⟩ := Z.def_ 10 10 (x := "_law_same") (st := s__law_same) rfl rfl
  refine fn_ok F hm (F.binds (ps := ["seen", "due"]) (fun _ _ _ _ _ _ us hl => match us, hl with | [_, _], _ => rfl)) sc rfl ?_
  exact fun cdv A outer s H E q hn hr => by
    have hu64 : A.units + 3 + 64 < cLine := by have := hr.un; simp only [Around.deeper] at this; omega
    have hu1 : A.units + 3 + 1 < cLine := by omega
    have hu65 : A.units + 3 + 65 < cLine := by have := hr.un; simp only [Around.deeper] at this; omega
    exact jb_one (js_ret (j_and (j_cmp (oo_eq hu64) (j_rdS 0 (pv 0)) (j_rdS 1 (pv 1))) (j_one (j_req hn hu64 (by rfl) (Z.free 26 rfl) (by rfl) (j_rdS 0 (pv 0)) (j_rdS 1 (pv 1))))))
theorem sc__law_pick : FnScope ["w", "rows"] ["w", "rows"] (defScope s__law_pick) := ⟨rfl, rfl, rfl, by decide +kernel, rfl, by decide +kernel, by decide +kernel⟩
theorem ok__law_pick (Z : Fx fa fn cs K mg) : FnI P w K mg base CX0 XR0 "_law_pick" 2 .saf [true, false] f__law_pick := by
  have sc := sc__law_pick
  obtain ⟨f, fd, F, hm⟩ := Z.def_ 11 11 (x := "_law_pick") (st := s__law_pick) rfl rfl
  refine fn_ok F hm (F.binds (ps := ["w", "rows"]) (fun _ _ _ _ _ _ us hl => match us, hl with | [_, _], _ => rfl)) sc rfl ?_
  exact fun cdv A outer s H E q hn hr => by
    have hu64 : A.units + 3 + 64 < cLine := by have := hr.un; simp only [Around.deeper] at this; omega
    have hu1 : A.units + 3 + 1 < cLine := by omega
    have hu65 : A.units + 3 + 65 < cLine := by have := hr.un; simp only [Around.deeper] at this; omega
    exact jb_one (js_ret (j_ix (oi_ix hu1) (j_rdS 1 (pv 1)) (j_callH (js := [some 0, none]) (ok__law_next Z) hn (hr.mono (by omega)) passW0 (by decide) (by rfl) (jh_hole 0 (pv 0) (jh_val (j_callB oc_len (by rfl) (Z.free 23 rfl) (by rfl) (ja_cons (j_rdS 1 (pv 1)) (ja_nil false))) (jh_nil))))))
theorem sc__law_buttons : FnScope ["w", "buttons", "name", "lamp"] ["w"] (defScope s__law_buttons) := ⟨rfl, rfl, rfl, by decide +kernel, rfl, by decide +kernel, by decide +kernel⟩
theorem ok__law_buttons (Z : Fx fa fn cs K mg) : FnI P w K mg base CX0 XR0 "_law_buttons" 3 .fre [true] f__law_buttons := by
  have sc := sc__law_buttons
  obtain ⟨f, fd, F, hm⟩ := Z.def_ 12 12 (x := "_law_buttons") (st := s__law_buttons) rfl rfl
  refine fn_ok F hm (F.binds (ps := ["w"]) (fun _ _ _ _ _ _ us hl => match us, hl with | [_], _ => rfl)) sc rfl ?_
  exact fun cdv A outer s H E q hn hr => by
    have hu64 : A.units + 3 + 64 < cLine := by have := hr.un; simp only [Around.deeper] at this; omega
    have hu1 : A.units + 3 + 1 < cLine := by omega
    have hu65 : A.units + 3 + 65 < cLine := by have := hr.un; simp only [Around.deeper] at this; omega
    exact jb_cons (js_setO 1 sc.nd (by rfl) (by first | exact Or.inl rfl | exact Or.inr rfl) (j_dict0))  (jb_cons (js_for PassesOwn.never (by rfl) (ji_seq (j_slice os_sl (j_lst (ja_cons (j_str (h := by decide +kernel)) (ja_cons (j_str (h := by decide +kernel)) (ja_cons (j_str (h := by decide +kernel)) (ja_cons (j_str (h := by decide +kernel)) (ja_cons (j_str (h := by decide +kernel)) (ja_cons (j_str (h := by decide +kernel)) (ja_nil true)))))))) (jo_none) (jo_some (j_callH (js := [some 0, none]) (ok__law_next Z) hn (hr.mono (by omega)) passW0 (by decide) (by rfl) (jh_hole 0 (pv 0) (jh_val (j_int) (jh_nil))))))) (jg_nm 2 sc.nd (by rfl) (by first | exact Or.inl rfl | exact Or.inr rfl))  (jb_one (js_putG 1 hu1 (pv 1) (j_rdS 2 (pv 2)) (j_callT oc_tuple (by rfl) (Z.free 29 rfl) (by rfl) (ja_cons (j_lc (sf := true) (by rfl) sc.nd (ji_seq (j_callH (js := [some 0, none]) (ok__law_pick Z) hn (hr.mono (by omega)) passW0 (by decide) (by rfl) (jh_hole 0 (pv 0) (jh_val (j_lst (ja_cons (j_tup (ja_cons (j_int) (ja_cons (j_int) (ja_cons (j_int) (ja_cons (j_int) (ja_cons (j_int) (ja_cons (j_int) (ja_nil true)))))))) (ja_cons (j_tup (ja_cons (j_int) (ja_cons (j_int) (ja_cons (j_int) (ja_nil true))))) (ja_cons (j_tup (ja_cons (j_int) (ja_cons (j_int) (ja_cons (j_int) (ja_nil true))))) (ja_nil true))))) (jh_nil))))) (own := [("lamp", 3)]) (blkOk_by (by kernel_rfl)) (fun _ _ _ _ _ _ => jg_nm 3 sc.nd (by rfl) (by first | exact Or.inl rfl | exact Or.inr rfl)) (fun _ _ _ _ _ _ => jpt_one (jt_cmp (oo_eq hu64) (j_callH (js := [some 0, none]) (ok__law_next Z) hn (hr.mono (by omega)) passW0 (by decide) (by rfl) (jh_hole 0 (pv 0) (jh_val (j_int) (jh_nil)))) (j_int))) (fun _ _ _ _ _ _ => j_rdS 3 (pv 3))) (ja_nil false))))))  (jb_cons (js_if (JW.jt (jw_and (jt_cmp oo_gt (j_callB oc_len (by rfl) (Z.free 23 rfl) (by rfl) (ja_cons (j_rdB 1 (pv 1)) (ja_nil false))) (j_int)) (jw_and1 (jt_cmp (oo_eq hu64) (j_callH (js := [some 0, none]) (ok__law_next Z) hn (hr.mono (by omega)) passW0 (by decide) (by rfl) (jh_hole 0 (pv 0) (jh_val (j_int) (jh_nil)))) (j_int)))))  (jb_one (js_putG 1 hu1 (pv 1) (j_str (h := by decide +kernel)) (j_callT oc_tuple (by rfl) (Z.free 29 rfl) (by rfl) (ja_cons (j_lc (sf := false) (by rfl) sc.nd (ji_range1 (by rfl) (Z.free 25 rfl) (ja_cons (j_int) (ja_nil true))) (own := [("lamp", 3)]) (blkOk_by (by kernel_rfl)) (fun _ _ _ _ _ _ => jg_nm 3 sc.nd (by rfl) (by first | exact Or.inl rfl | exact Or.inr rfl)) (fun _ _ _ _ _ _ => jpt_one (jt_cmp (oo_ne hu64) (j_cmp (oo_in hu64) (j_rdS 3 (pv 3)) (j_ix (oi_ix hu1) (j_rdB 1 (pv 1)) (j_str (h := by decide +kernel)))) (j_cmp (oo_in hu64) (j_rdS 3 (pv 3)) (j_ix (oi_ix hu1) (j_rdB 1 (pv 1)) (j_str (h := by decide +kernel)))))) (fun _ _ _ _ _ _ => j_rdS 3 (pv 3))) (ja_nil false)))))  (jb_nil))  (jb_one (js_retO 1 (pv 1)))))
theorem sc__law_on : FnScope ["buttons", "names", "lamp", "name"] ["buttons", "names"] (defScope s__law_on) := ⟨rfl, rfl, rfl, by decide +kernel, rfl, by decide +kernel, by decide +kernel⟩
theorem ok__law_on (Z : Fx fa fn cs K mg) : FnI P w K mg base CX0 XR0 "_law_on" 1 .fre [false, false] f__law_on := by
  have sc := sc__law_on
  obtain ⟨f, fd, F, hm⟩ := Z.def_ 13 13 (x := "_law_on") (st := s__law_on) rfl rfl
  refine fn_ok F hm (F.binds (ps := ["buttons", "names"]) (fun _ _ _ _ _ _ us hl => match us, hl with | [_, _], _ => rfl)) sc rfl ?_
  exact fun cdv A outer s H E q hn hr => by
    have hu64 : A.units + 3 + 64 < cLine := by have := hr.un; simp only [Around.deeper] at this; omega
    have hu1 : A.units + 3 + 1 < cLine := by omega
    have hu65 : A.units + 3 + 65 < cLine := by have := hr.un; simp only [Around.deeper] at this; omega
    exact jb_one (js_ret (j_callT oc_tuple (by rfl) (Z.free 29 rfl) (by rfl) (ja_cons (j_lc (sf := false) (by rfl) sc.nd (ji_range1 (by rfl) (Z.free 25 rfl) (ja_cons (j_int) (ja_nil true))) (own := [("lamp", 2)]) (blkOk_by (by kernel_rfl)) (fun _ _ _ _ _ _ => jg_nm 2 sc.nd (by rfl) (by first | exact Or.inl rfl | exact Or.inr rfl)) (fun _ _ _ _ _ _ => jpt_one (jt_cmp (oo_eq hu64) (j_op oo_mod (j_callT oc_int (by rfl) (Z.free 21 rfl) (by rfl) (ja_cons (j_callB oc_len (by rfl) (Z.free 23 rfl) (by rfl) (ja_cons (j_lc (sf := false) (by rfl) sc.nd (ji_seq (j_rdS 1 (pv 1))) (own := [("name", 3)]) (blkOk_by (by kernel_rfl)) (fun _ _ _ _ _ _ => jg_nm 3 sc.nd (by rfl) (by first | exact Or.inl rfl | exact Or.inr rfl)) (fun _ _ _ _ _ _ => jpt_one (jt_cmp (oo_in hu64) (j_rdS 2 (pv 2)) (j_ix (oi_ix hu1) (j_rdS 0 (pv 0)) (j_rdS 3 (pv 3))))) (fun _ _ _ _ _ _ => j_rdS 3 (pv 3))) (ja_nil false))) (ja_nil false))) (j_int)) (j_int))) (fun _ _ _ _ _ _ => j_rdS 2 (pv 2))) (ja_nil false))))
theorem sc__law_sets : FnScope ["names", "rows", "name", "row"] ["names"] (defScope s__law_sets) := ⟨rfl, rfl, rfl, by decide +kernel, rfl, by decide +kernel, by decide +kernel⟩
theorem ok__law_sets (Z : Fx fa fn cs K mg) : FnI P w K mg base CX0 XR0 "_law_sets" 1 .fre [false] f__law_sets := by
  have sc := sc__law_sets
  obtain ⟨f, fd, F, hm⟩ := Z.def_ 14 14 (x := "_law_sets") (st := s__law_sets) rfl rfl
  refine fn_ok F hm (F.binds (ps := ["names"]) (fun _ _ _ _ _ _ us hl => match us, hl with | [_], _ => rfl)) sc rfl ?_
  exact fun cdv A outer s H E q hn hr => by
    have hu64 : A.units + 3 + 64 < cLine := by have := hr.un; simp only [Around.deeper] at this; omega
    have hu1 : A.units + 3 + 1 < cLine := by omega
    have hu65 : A.units + 3 + 65 < cLine := by have := hr.un; simp only [Around.deeper] at this; omega
    exact jb_cons (js_set 1 sc.nd (by rfl) (by first | exact Or.inl rfl | exact Or.inr rfl) (j_lst (ja_cons (j_tup (ja_nil true)) (ja_nil true))))  (jb_cons (js_for PassesOwn.never (by rfl) (ji_seq (j_rdS 0 (pv 0))) (jg_nm 2 sc.nd (by rfl) (by first | exact Or.inl rfl | exact Or.inr rfl))  (jb_one (js_set 1 sc.nd (by rfl) (by first | exact Or.inl rfl | exact Or.inr rfl) (j_op oo_add (j_rdS 1 (pv 1)) (j_lc (sf := false) (by rfl) sc.nd (ji_seq (j_rdS 1 (pv 1))) (own := [("row", 3)]) (blkOk_by (by kernel_rfl)) (fun _ _ _ _ _ _ => jg_nm 3 sc.nd (by rfl) (by first | exact Or.inl rfl | exact Or.inr rfl)) (fun _ _ _ _ _ _ => jpt_nil) (fun _ _ _ _ _ _ => j_op oo_add (j_rdS 3 (pv 3)) (j_tup (ja_cons (j_rdS 2 (pv 2)) (ja_nil true)))))))))  (jb_one (js_ret (j_callB (oc_sortedF (by rfl) hu64) (by rfl) (Z.free 28 rfl) (by rfl) (ja_cons (j_rdS 1 (pv 1)) (ja_nil false))))))
theorem sc__law_tells : FnScope ["buttons", "lit", "paper", "odd", "lamp", "k", "name"] ["buttons", "lit", "paper"] (defScope s__law_tells) := ⟨rfl, rfl, rfl, by decide +kernel, rfl, by decide +kernel, by decide +kernel⟩
theorem ok__law_tells (Z : Fx fa fn cs K mg) : FnI P w K mg base CX0 XR0 "_law_tells" 1 .fre [false, false, false] f__law_tells := by
  have sc := sc__law_tells
  obtain ⟨f, fd, F, hm⟩ := Z.def_ 15 15 (x := "_law_tells") (st := s__law_tells) rfl rfl
  refine fn_ok F hm (F.binds (ps := ["buttons", "lit", "paper"]) (fun _ _ _ _ _ _ us hl => match us, hl with | [_, _, _], _ => rfl)) sc rfl ?_
  exact fun cdv A outer s H E q hn hr => by
    have hu64 : A.units + 3 + 64 < cLine := by have := hr.un; simp only [Around.deeper] at this; omega
    have hu1 : A.units + 3 + 1 < cLine := by omega
    have hu65 : A.units + 3 + 65 < cLine := by have := hr.un; simp only [Around.deeper] at this; omega
    exact jb_cons (js_if (JW.jt (jw_or (jt_not (jt_tru (j_isi (T := "tuple") (j_rdS 2 (pv 2)) (by decide) (by rfl) (Z.free 22 rfl) (by rfl) (by rfl) (Z.free 29 rfl) (by rfl)))) (jw_or1 (jt_cmp (oo_ne hu64) (j_lc (sf := false) (by rfl) sc.nd (ji_seq (j_rdS 2 (pv 2))) (own := [("lamp", 4)]) (blkOk_by (by kernel_rfl)) (fun _ _ _ _ _ _ => jg_nm 4 sc.nd (by rfl) (by first | exact Or.inl rfl | exact Or.inr rfl)) (fun _ _ _ _ _ _ => jpt_one (JW.jt (jw_or (jt_not (jt_tru (j_isi (T := "int") (j_rdS 4 (pv 4)) (by decide) (by rfl) (Z.free 22 rfl) (by rfl) (by rfl) (Z.free 21 rfl) (by rfl)))) (jw_or1 (jt_tru (j_isi (T := "bool") (j_rdS 4 (pv 4)) (by decide) (by rfl) (Z.free 22 rfl) (by rfl) (by rfl) (Z.free 19 rfl) (by rfl))))))) (fun _ _ _ _ _ _ => j_rdS 4 (pv 4))) (j_lst (ja_nil true))))))  (jb_one (js_ret (j_bl)))  (jb_nil))  (jb_cons (js_if (jt_cmp (oo_ne hu64) (j_lc (sf := false) (by rfl) sc.nd (ji_range1 (by rfl) (Z.free 25 rfl) (ja_cons (j_op oo_sub (j_callB oc_len (by rfl) (Z.free 23 rfl) (by rfl) (ja_cons (j_rdS 2 (pv 2)) (ja_nil false))) (j_int)) (ja_nil true))) (own := [("k", 5)]) (blkOk_by (by kernel_rfl)) (fun _ _ _ _ _ _ => jg_nm 5 sc.nd (by rfl) (by first | exact Or.inl rfl | exact Or.inr rfl)) (fun _ _ _ _ _ _ => jpt_one (jt_cmp oo_ge (j_ix (oi_ix hu1) (j_rdS 2 (pv 2)) (j_rdS 5 (pv 5))) (j_ix (oi_ix hu1) (j_rdS 2 (pv 2)) (j_op oo_add (j_rdS 5 (pv 5)) (j_int))))) (fun _ _ _ _ _ _ => j_rdS 5 (pv 5))) (j_lst (ja_nil true)))  (jb_one (js_ret (j_bl)))  (jb_nil))  (jb_cons (js_setLcK 3 0 (pv 0) (by rfl) sc.nd (by rfl) (by rfl) (sw_true (by rfl) (by rfl) (by rfl) (by decide)) (own := [("name", 6)]) (blkOk_by (by kernel_rfl)) (fun _ _ _ _ _ _ _ => jg_nm 6 sc.nd (by rfl) (by first | exact Or.inl rfl | exact Or.inr rfl)) (fun _ _ _ _ _ _ _ => jpt_one (jt_cmp (oo_eq hu64) (j_op oo_mod (j_callT oc_int (by rfl) (Z.free 21 rfl) (by rfl) (ja_cons (j_callB oc_len (by rfl) (Z.free 23 rfl) (by rfl) (ja_cons (j_lc (sf := false) (by rfl) sc.nd (ji_seq (j_ix (oi_ix hu1) (j_rdS 0 (pv 0)) (j_rdS 6 (pv 6)))) (own := [("lamp", 4)]) (blkOk_by (by kernel_rfl)) (fun _ _ _ _ _ _ => jg_nm 4 sc.nd (by rfl) (by first | exact Or.inl rfl | exact Or.inr rfl)) (fun _ _ _ _ _ _ => jpt_one (jt_cmp (oo_in hu64) (j_rdS 4 (pv 4)) (j_rdS 2 (pv 2)))) (fun _ _ _ _ _ _ => j_rdS 4 (pv 4))) (ja_nil false))) (ja_nil false))) (j_int)) (j_int))) (fun _ _ _ _ _ _ _ => j_rdS 6 (pv 6)))  (jb_one (js_ret (j_and (j_cmp (oo_eq hu64) (j_rdS 3 (pv 3)) (j_lst (ja_nil true))) (j_one (j_cmp (oo_eq hu64) (j_op oo_mod (j_callT oc_int (by rfl) (Z.free 21 rfl) (by rfl) (ja_cons (j_callB oc_len (by rfl) (Z.free 23 rfl) (by rfl) (ja_cons (j_lc (sf := false) (by rfl) sc.nd (ji_seq (j_rdS 1 (pv 1))) (own := [("lamp", 4)]) (blkOk_by (by kernel_rfl)) (fun _ _ _ _ _ _ => jg_nm 4 sc.nd (by rfl) (by first | exact Or.inl rfl | exact Or.inr rfl)) (fun _ _ _ _ _ _ => jpt_one (jt_cmp (oo_in hu64) (j_rdS 4 (pv 4)) (j_rdS 2 (pv 2)))) (fun _ _ _ _ _ _ => j_rdS 4 (pv 4))) (ja_nil false))) (ja_nil false))) (j_int)) (j_int))))))))
theorem sc_law : FnScope ["script", "w", "turn_v", "buttons", "every", "k", "lit", "good", "paper", "some", "near", "bent", "size", "names", "lamp"] ["script"] (defScope s_law) := ⟨rfl, rfl, rfl, by decide +kernel, rfl, by decide +kernel, by decide +kernel⟩
theorem ok_law (Z : Fx fa fn cs K mg) (f : Addr) (fd : FuncData) (F : L2.Fun K "law" "law" s_law f fd) : FnG P w K mg base CX0 5 f fd ["script"] (spF K XR0 .fre [false] f_law) := by
  have sc := sc_law
  refine fn_ok0 F sc rfl ?_
  exact fun cdv A outer s H E q hn hr => by
    have hu64 : A.units + 3 + 64 < cLine := by have := hr.un; simp only [Around.deeper] at this; omega
    have hu1 : A.units + 3 + 1 < cLine := by omega
    have hu65 : A.units + 3 + 65 < cLine := by have := hr.un; simp only [Around.deeper] at this; omega
    exact jb_cons (js_setO 1 sc.nd (by rfl) (by first | exact Or.inl rfl | exact Or.inr rfl) (j_dict (jp_cons (fun _ => j_str (h := by decide +kernel)) (fun _ => j_call (n := 2) (ok__law_draws Z) hn (hr.mono (by omega)) passW0 (by rfl) (ja_cons (j_rdS 0 (pv 0)) (ja_cons (j_int) (ja_nil true)))) (jp_cons (fun _ => j_str (h := by decide +kernel)) (fun _ => j_int) (jp_nil)))))  (jb_cons (js_for PassesOwn.never (by rfl) (ji_range1 (by rfl) (Z.free 25 rfl) (ja_cons (j_int) (ja_nil true))) (jg_nm 2 sc.nd (by rfl) (by first | exact Or.inl rfl | exact Or.inr rfl))  (jb_cons (js_set 3 sc.nd (by rfl) (by first | exact Or.inl rfl | exact Or.inr rfl) (j_callH (js := [some 1]) (ok__law_buttons Z) hn (hr.mono (by omega)) passW0 (by decide) (by rfl) (jh_hole 1 (pv 1) (jh_nil))))  (jb_cons (js_setLc 4 (sf := false) (by rfl) sc.nd (by rfl) (by rfl) (sw_true (by rfl) (by rfl) (by rfl) (by decide)) (ji_seq (j_callB (oc_sortedE (by rfl) hu64) (by rfl) (Z.free 28 rfl) (by rfl) (ja_cons (j_lc (sf := false) (by rfl) sc.nd (ji_seq (j_call (n := 1) (ok__law_sets Z) hn (hr.mono (by omega)) passW0 (by rfl) (ja_cons (j_callB (oc_sortedE (by rfl) hu64) (by rfl) (Z.free 28 rfl) (by rfl) (ja_cons (j_rdS 3 (pv 3)) (ja_nil false))) (ja_nil true)))) (own := [("names", 13)]) (blkOk_by (by kernel_rfl)) (fun _ _ _ _ _ _ => jg_nm 13 sc.nd (by rfl) (by first | exact Or.inl rfl | exact Or.inr rfl)) (fun _ _ _ _ _ _ => jpt_nil) (fun _ _ _ _ _ _ => j_tup (ja_cons (j_callB oc_len (by rfl) (Z.free 23 rfl) (by rfl) (ja_cons (j_rdS 13 (pv 13)) (ja_nil false))) (ja_cons (j_rdS 13 (pv 13)) (ja_nil true))))) (ja_nil false)))) (own := [("size", 12), ("names", 13)]) (blkOk_by (by kernel_rfl)) (fun _ _ _ _ _ _ => jg_tp (by rfl) (jgs_cons (jg_nm 12 sc.nd (by rfl) (by first | exact Or.inl rfl | exact Or.inr rfl)) (jgs_cons (jg_nm 13 sc.nd (by rfl) (by first | exact Or.inl rfl | exact Or.inr rfl)) (jgs_nil)))) (fun _ _ _ _ _ _ => jpt_nil) (fun _ _ _ _ _ _ => j_rdS 13 (pv 13)))  (jb_one (js_for PassesOwn.never (by rfl) (ji_range1 (by rfl) (Z.free 25 rfl) (ja_cons (j_int) (ja_nil true))) (jg_nm 5 sc.nd (by rfl) (by first | exact Or.inl rfl | exact Or.inr rfl))  (jb_cons (js_set 6 sc.nd (by rfl) (by first | exact Or.inl rfl | exact Or.inr rfl) (j_call (n := 2) (ok__law_on Z) hn (hr.mono (by omega)) passW0 (by rfl) (ja_cons (j_rdS 3 (pv 3)) (ja_cons (j_callH (js := [some 1, none]) (ok__law_pick Z) hn (hr.mono (by omega)) passW0 (by decide) (by rfl) (jh_hole 1 (pv 1) (jh_val (j_rdS 4 (pv 4)) (jh_nil)))) (ja_nil true)))))  (jb_cons (js_if (jt_cmp (oo_eq hu64) (j_callH (js := [some 1, none]) (ok__law_next Z) hn (hr.mono (by omega)) passW0 (by decide) (by rfl) (jh_hole 1 (pv 1) (jh_val (j_int) (jh_nil)))) (j_int))  (jb_one (js_set 6 sc.nd (by rfl) (by first | exact Or.inl rfl | exact Or.inr rfl) (j_callT oc_tuple (by rfl) (Z.free 29 rfl) (by rfl) (ja_cons (j_callB (oc_sortedE (by rfl) hu64) (by rfl) (Z.free 28 rfl) (by rfl) (ja_cons (j_callT (oc_dict (by rfl)) (by rfl) (Z.free 20 rfl) (by rfl) (ja_cons (j_lc (sf := false) (by rfl) sc.nd (ji_seq (j_op oo_add (j_rdS 6 (pv 6)) (j_tup (ja_cons (j_callH (js := [some 1, none]) (ok__law_next Z) hn (hr.mono (by omega)) passW0 (by decide) (by rfl) (jh_hole 1 (pv 1) (jh_val (j_int) (jh_nil)))) (ja_nil true))))) (own := [("lamp", 14)]) (blkOk_by (by kernel_rfl)) (fun _ _ _ _ _ _ => jg_nm 14 sc.nd (by rfl) (by first | exact Or.inl rfl | exact Or.inr rfl)) (fun _ _ _ _ _ _ => jpt_nil) (fun _ _ _ _ _ _ => j_tup (ja_cons (j_rdS 14 (pv 14)) (ja_cons (j_bl) (ja_nil true))))) (ja_nil false))) (ja_nil false))) (ja_nil false)))))  (jb_nil))  (jb_cons (js_setLc 7 (sf := false) (by rfl) sc.nd (by rfl) (by rfl) (sw_true (by rfl) (by rfl) (by rfl) (by decide)) (ji_seq (j_rdS 4 (pv 4))) (own := [("names", 13)]) (blkOk_by (by kernel_rfl)) (fun _ _ _ _ _ _ => jg_nm 13 sc.nd (by rfl) (by first | exact Or.inl rfl | exact Or.inr rfl)) (fun _ _ _ _ _ _ => jpt_one (jt_cmp (oo_eq hu64) (j_call (n := 2) (ok__law_on Z) hn (hr.mono (by omega)) passW0 (by rfl) (ja_cons (j_rdS 3 (pv 3)) (ja_cons (j_rdS 13 (pv 13)) (ja_nil true)))) (j_rdS 6 (pv 6)))) (fun _ _ _ _ _ _ => j_rdS 13 (pv 13)))  (jb_cons (js_set 8 sc.nd (by rfl) (by first | exact Or.inl rfl | exact Or.inr rfl) (j_call (n := 2) (ok_press_for Z) hn (hr.mono (by omega)) passW0 (by rfl) (ja_cons (j_rdS 3 (pv 3)) (ja_cons (j_rdS 6 (pv 6)) (ja_nil true)))))  (jb_cons (js_if (jt_cmp (oo_ne hu64) (j_rdS 7 (pv 7)) (j_lst (ja_nil true)))  (jb_one (js_if (jt_not (jt_tru (j_call (n := 2) (ok__law_same Z) hn (hr.mono (by omega)) passW0 (by rfl) (ja_cons (j_rdS 8 (pv 8)) (ja_cons (j_tup (ja_cons (j_str (h := by decide +kernel)) (ja_cons (j_ix (oi_ix hu1) (j_rdS 7 (pv 7)) (j_int)) (ja_nil true)))) (ja_nil true))))))  (jb_one (js_ret (j_bl)))  (jb_nil)))  (jb_one (js_if (JW.jt (jw_or (jt_not (jt_tru (j_isi (T := "tuple") (j_rdS 8 (pv 8)) (by decide) (by rfl) (Z.free 22 rfl) (by rfl) (by rfl) (Z.free 29 rfl) (by rfl)))) (jw_or (jt_cmp (oo_ne hu64) (j_callB oc_len (by rfl) (Z.free 23 rfl) (by rfl) (ja_cons (j_rdS 8 (pv 8)) (ja_nil false))) (j_int)) (jw_or (jt_cmp (oo_ne hu64) (j_ix (oi_ix hu1) (j_rdS 8 (pv 8)) (j_int)) (j_str (h := by decide +kernel))) (jw_or (jt_not (jt_tru (j_call (n := 3) (ok__law_tells Z) hn (hr.mono (by omega)) passW0 (by rfl) (ja_cons (j_rdS 3 (pv 3)) (ja_cons (j_rdS 6 (pv 6)) (ja_cons (j_ix (oi_ix hu1) (j_rdS 8 (pv 8)) (j_int)) (ja_nil true))))))) (jw_or1 (jt_cmp oo_isnot (j_call (n := 3) (ok_is_no_press Z) hn (hr.mono (by omega)) passW0 (by rfl) (ja_cons (j_rdS 3 (pv 3)) (ja_cons (j_rdS 6 (pv 6)) (ja_cons (j_ix (oi_ix hu1) (j_rdS 8 (pv 8)) (j_int)) (ja_nil true))))) (j_bl))))))))  (jb_one (js_ret (j_bl)))  (jb_nil))))  (jb_cons (js_set 9 sc.nd (by rfl) (by first | exact Or.inl rfl | exact Or.inr rfl) (j_callT oc_tuple (by rfl) (Z.free 29 rfl) (by rfl) (ja_cons (j_lc (sf := true) (by rfl) sc.nd (ji_range1 (by rfl) (Z.free 25 rfl) (ja_cons (j_int) (ja_nil true))) (own := [("lamp", 14)]) (blkOk_by (by kernel_rfl)) (fun _ _ _ _ _ _ => jg_nm 14 sc.nd (by rfl) (by first | exact Or.inl rfl | exact Or.inr rfl)) (fun _ _ _ _ _ _ => jpt_one (jt_cmp (oo_eq hu64) (j_callH (js := [some 1, none]) (ok__law_next Z) hn (hr.mono (by omega)) passW0 (by decide) (by rfl) (jh_hole 1 (pv 1) (jh_val (j_int) (jh_nil)))) (j_int))) (fun _ _ _ _ _ _ => j_rdS 14 (pv 14))) (ja_nil false))))  (jb_cons (js_set 10 sc.nd (by rfl) (by first | exact Or.inl rfl | exact Or.inr rfl) (j_op oo_add (j_lst (ja_cons (j_rdS 9 (pv 9)) (ja_cons (j_rdS 9 (pv 9)) (ja_cons (j_rdS 9 (pv 9)) (ja_cons (j_revE (j_rdS 9 (pv 9))) (ja_cons (j_op oo_add (j_rdS 9 (pv 9)) (j_slice os_sl (j_rdS 9 (pv 9)) (jo_none) (jo_some (j_int)))) (ja_cons (j_callT oc_list (by rfl) (Z.free 24 rfl) (by rfl) (ja_cons (j_rdS 9 (pv 9)) (ja_nil false))) (ja_cons (j_non) (ja_cons (j_tup (ja_nil true)) (ja_cons (j_rdS 6 (pv 6)) (ja_nil true))))))))))) (j_if (jt_cmp (oo_eq hu64) (j_rdS 7 (pv 7)) (j_lst (ja_nil true))) (j_lst (ja_cons (j_ix (oi_ix hu1) (j_rdS 8 (pv 8)) (j_int)) (ja_cons (j_ix (oi_ix hu1) (j_rdS 8 (pv 8)) (j_int)) (ja_cons (j_op oo_add (j_ix (oi_ix hu1) (j_rdS 8 (pv 8)) (j_int)) (j_tup (ja_cons (j_int) (ja_nil true)))) (ja_nil true))))) (j_lst (ja_nil true)))))  (jb_cons (js_set 11 sc.nd (by rfl) (by first | exact Or.inl rfl | exact Or.inr rfl) (j_callH (js := [some 1, none]) (ok__law_pick Z) hn (hr.mono (by omega)) passW0 (by decide) (by rfl) (jh_hole 1 (pv 1) (jh_val (j_rdS 10 (pv 10)) (jh_nil)))))  (jb_one (js_if (jt_cmp (oo_ne hu64) (j_call (n := 3) (ok_is_no_press Z) hn (hr.mono (by omega)) passW0 (by rfl) (ja_cons (j_rdS 3 (pv 3)) (ja_cons (j_rdS 6 (pv 6)) (ja_cons (j_rdS 11 (pv 11)) (ja_nil true))))) (j_call (n := 3) (ok__law_tells Z) hn (hr.mono (by omega)) passW0 (by rfl) (ja_cons (j_rdS 3 (pv 3)) (ja_cons (j_rdS 6 (pv 6)) (ja_cons (j_rdS 11 (pv 11)) (ja_nil true))))))  (jb_one (js_ret (j_bl)))  (jb_nil))))))))))))))))  (jb_one (js_ret (j_bl))))
end
end L_rungward_k72_presses_for_lamps
namespace L_rungward_k72_presses_for_lamps
open PySem PySem.Spec PV
/-! rising rows of numbers -/
def PW (P : List Int) : Prop := P.Pairwise (· < ·)
structure RG (P : List Int) : Prop where
  pw : PW P
  rg : ∀ x ∈ P, 0 ≤ x ∧ x < 41
theorem PW.nd {P : List Int} (h : PW P) : P.Nodup := h.imp fun h e => by omega
theorem RG.len {P : List Int} (h : RG P) : P.length ≤ 41 := few_len (n := 41) h.pw.nd fun p hp => h.rg p hp
theorem pw_ext : ∀ {A B : List Int}, PW A → PW B → (∀ x, x ∈ A ↔ x ∈ B) → A = B
  | [], [], _, _, _ => rfl
  | [], b :: r, _, _, h => absurd ((h b).mpr List.mem_cons_self) (by simp)
  | a :: r, [], _, _, h => absurd ((h a).mp List.mem_cons_self) (by simp)
  | a :: r, b :: t, ha, hb, h => by
    obtain ⟨a1, a2⟩ := List.pairwise_cons.mp ha
    obtain ⟨b1, b2⟩ := List.pairwise_cons.mp hb
    have e : a = b := by
      rcases List.mem_cons.mp ((h a).mp List.mem_cons_self) with e | e
      · exact e
      · rcases List.mem_cons.mp ((h b).mpr List.mem_cons_self) with f | f
        · exact f.symm
        · have := a1 b f; have := b1 a e; omega
    subst e
    have : r = t := pw_ext a2 b2 fun x => by
      have hx := h x
      simp only [List.mem_cons] at hx
      constructor
      · intro q
        rcases hx.mp (.inr q) with e | e
        · have := a1 x q; omega
        · exact e
      · intro q
        rcases hx.mpr (.inr q) with e | e
        · have := b1 x q; omega
        · exact e
    rw [this]
theorem pw_ext' {A B : List Int} (h1 : PW A) (h2 : PW B) (h : ∀ x, A.contains x = B.contains x) : A = B := pw_ext h1 h2 fun x => by
  rw [← List.contains_iff_mem, ← List.contains_iff_mem, h x]
theorem pw_filter {P : List Int} (h : PW P) (p : Int → Bool) : PW (P.filter p) := h.filter p
def rng31 : List Int := (List.range 31).map fun (i : Nat) => (i : Int)
theorem rng31_pw : PW rng31 := by
  unfold rng31 PW
  rw [List.pairwise_map]
  exact List.pairwise_lt_range.imp fun h => by omega
theorem rng31_mem {x : Int} : x ∈ rng31 ↔ 0 ≤ x ∧ x < 31 := by
  unfold rng31
  rw [List.mem_map]
  constructor
  · rintro ⟨i, hi, rfl⟩
    have := List.mem_range.mp hi
    omega
  · intro h
    exact ⟨x.toNat, List.mem_range.mpr (by omega), by omega⟩
theorem merge_pw {P : List Int} (h : P.Nodup) : PW (P.mergeSort leZ) := by
  have h1 : (P.mergeSort leZ).Pairwise fun a b => leZ a b = true := List.pairwise_mergeSort leZ_trans leZ_total _
  have h2 : (P.mergeSort leZ).Nodup := (List.mergeSort_perm P leZ).nodup_iff.mpr h
  refine (h1.and h2).imp fun {a b} ⟨x, y⟩ => ?_
  have : a ≤ b := of_decide_eq_true x
  omega
/-- just one of two sets -/
def tn (A B : List Int) : List Int := ((A.filter fun x => !B.contains x) ++ B.filter fun x => !A.contains x).mergeSort leZ
theorem tn_mem {A B : List Int} {x : Int} : x ∈ tn A B ↔ (x ∈ A ∧ x ∉ B) ∨ (x ∈ B ∧ x ∉ A) := by
  unfold tn
  rw [(List.mergeSort_perm _ leZ).mem_iff, List.mem_append, List.mem_filter, List.mem_filter]
  simp
theorem tn_con (A B : List Int) (x : Int) : (tn A B).contains x = (A.contains x ^^ B.contains x) := by
  have h := tn_mem (A := A) (B := B) (x := x)
  rw [Bool.eq_iff_iff, List.contains_iff_mem, h]
  by_cases a : x ∈ A <;> by_cases b : x ∈ B <;> simp [a, b]
theorem tn_rg {A B : List Int} (ha : RG A) (hb : RG B) : RG (tn A B) where
  pw := by
    refine merge_pw (List.nodup_append.mpr ⟨(pw_filter ha.pw _).nd, (pw_filter hb.pw _).nd, fun a h1 b h2 e => ?_⟩)
    subst e
    have h1 := (List.mem_filter.mp h1).2
    have h2 := (List.mem_filter.mp h2).1
    simp [h2] at h1
  rg := fun x hx => by
    rcases tn_mem.mp hx with ⟨q, _⟩ | ⟨q, _⟩
    · exact ha.rg x q
    · exact hb.rg x q
theorem flt_int {i : Nat} {tt : M Bool} {m : M (List D)} {e e1 : EnvD} {P : List Int} (q : Int → Bool) (hi : i < e1.length) (hm : m e = .ok (intL P) e1) (hno : noOwn [i] e1 = true)
    (h : ∀ x ∈ P, tt (e1.set i (.shr (.int x))) = .ok (q x) (e1.set i (.shr (.int x)))) : lcE (.nm i) [i] tt (rdS i) m e = .ok (.list (intL (P.filter q))) e1 := by
  have hr : rst [i] e1 (wip [i] e1) = e1 := by
    show (match e1[i]? with | some c => (e1.set i .emp).set i c | none => e1.set i .emp) = e1
    rw [List.getElem?_eq_getElem hi]
    simp
  refine (lcR (l := P) PyData.int q PyData.int hm hno hr fun x hx => ?_).trans rfl
  refine ⟨(wip [i] e1).set i (.shr (.int x)), rfl, ?_, fun _ => ?_, ?_⟩
  · have e : (wip [i] e1).set i (.shr (.int x)) = e1.set i (.shr (.int x)) := by
      show (e1.set i .emp).set i _ = _
      rw [List.set_set]
    rw [e]
    exact h x hx
  · exact rdS_ok (by show ((e1.set i .emp).set i _)[i]? = _; rw [List.getElem?_set_self (by simpa using hi)])
  · show ((e1.set i .emp).set i _).set i .emp = e1.set i .emp
    rw [List.set_set, List.set_set]
theorem turn_ok {A B : List Int} (ha : RG A) (hb : RG B) : f_turn [intT A, intT B] = .ok (intT (tn A B)) [] := by
  refine fn_rt rfl rfl (e' := [.shr (intT A), .shr (intT B), .emp]) ?_
  show d_turn [.shr (intT A), .shr (intT B), .emp] = _
  have l1 : lcE (.nm 2) [2] (tcm (op2 ninD (rdS 2) (rdS 1))) (rdS 2) (seqI (rdS 0)) [.shr (intT A), .shr (intT B), .emp] = .ok (.list (intL (A.filter fun x => !B.contains x))) [.shr (intT A), .shr (intT B), .emp] :=
    flt_int (fun x => !B.contains x) (by simp) (seqI_ok (rdS_ok rfl) rfl) rfl fun x _ => tcm_ok (op2_ok (rdS_ok rfl) (rdS_ok rfl) (ninD_intT B x))
  have l2 : lcE (.nm 2) [2] (tcm (op2 ninD (rdS 2) (rdS 0))) (rdS 2) (seqI (rdS 1)) [.shr (intT A), .shr (intT B), .emp] = .ok (.list (intL (B.filter fun x => !A.contains x))) [.shr (intT A), .shr (intT B), .emp] :=
    flt_int (fun x => !A.contains x) (by simp) (seqI_ok (rdS_ok rfl) rfl) rfl fun x _ => tcm_ok (op2_ok (rdS_ok rfl) (rdS_ok rfl) (ninD_intT A x))
  have a1 := ha.len
  have a2 := hb.len
  have a3 := List.length_filter_le (fun x => !B.contains x) A
  have a4 := List.length_filter_le (fun x => !A.contains x) B
  have l3 : addD (.list (intL (A.filter fun x => !B.contains x))) (.list (intL (B.filter fun x => !A.contains x))) = some (.list (intL ((A.filter fun x => !B.contains x) ++ B.filter fun x => !A.contains x))) := by
    rw [addL_ok (by rw [intL_len, intL_len]; omega)]
    unfold intL; rw [List.map_append]
  have l4 := sorE_intL ((A.filter fun x => !B.contains x) ++ B.filter fun x => !A.contains x)
  exact rtn_ok (callD_ok (consA_ok (callD_ok (consA_ok (op2_ok l1 l2 l3) nilA_ok) l4) nilA_ok) rfl)
/-! buttons -/
abbrev Bt := List (Str × List Int)
def bD (B : Bt) : D := .dict (B.map fun p => (.str p.1, intT p.2))
def look (B : Bt) (x : Str) : List Int := ((B.find? fun p => p.1 == x).map (·.2)).getD []
structure BOk (B : Bt) : Prop where
  asc : Asc (B.map (·.1))
  len : B.length ≤ 6
  ok : ∀ p ∈ B, PyData.strOk p.1 = true
  rg : ∀ p ∈ B, PW p.2 ∧ ∀ x ∈ p.2, 0 ≤ x ∧ x < 31
theorem BOk.rg' {B : Bt} (h : BOk B) {p : Str × List Int} (hp : p ∈ B) : RG p.2 := ⟨(h.rg p hp).1, fun x hx => by have := (h.rg p hp).2 x hx; omega⟩
theorem look_some {B : Bt} {x : Str} (h : x ∈ B.map (·.1)) : ∃ p ∈ B, p.1 = x ∧ look B x = p.2 ∧ (B.find? fun p => p.1 == x) = some p := by
  cases hf : B.find? fun p => p.1 == x with
  | none =>
    obtain ⟨p, hp, rfl⟩ := List.mem_map.mp h
    have := List.find?_eq_none.mp hf p hp
    simp at this
  | some p => exact ⟨p, List.mem_of_find?_eq_some hf, by simpa using List.find?_some hf, by unfold look; rw [hf]; rfl, rfl⟩
theorem ix_b {B : Bt} {x : Str} (h : x ∈ B.map (·.1)) : ixD (bD B) (.str x) = some (intT (look B x)) := by
  obtain ⟨p, hp, h1, h2, h3⟩ := look_some h
  show (if isKey (.str x) = true then lookD _ (.str x) else none) = _
  rw [if_pos (show isKey (.str x) = true from rfl)]
  unfold lookD
  rw [List.find?_map]
  have : ((fun e : D × D => PyData.eqv e.1 (.str x)) ∘ fun p : Str × List Int => (PyData.str p.1, intT p.2)) = fun p => p.1 == x := rfl
  rw [this, h3, h2]
  rfl
theorem look_rg {B : Bt} (h : BOk B) {x : Str} (hx : x ∈ B.map (·.1)) : RG (look B x) := by
  obtain ⟨p, hp, _, h2, _⟩ := look_some hx
  rw [h2]; exact h.rg' hp
theorem look_rg31 {B : Bt} (h : BOk B) {x : Str} (hx : x ∈ B.map (·.1)) : ∀ y ∈ look B x, 0 ≤ y ∧ y < 31 := by
  obtain ⟨p, hp, _, h2, _⟩ := look_some hx
  rw [h2]; exact (h.rg p hp).2
/-- turned an odd number of times -/
def onB (B : Bt) (S : List Str) (x : Int) : Bool := (S.filter fun n => (look B n).contains x).length % 2 == 1
theorem odd_cons (k : Nat) : ((k + 1) % 2 == 1) = !(k % 2 == 1) := by
  rcases Nat.mod_two_eq_zero_or_one k with h | h <;> simp [Nat.add_mod, h]
theorem onB_cons (B : Bt) (n : Str) (S : List Str) (x : Int) : onB B (n :: S) x = ((look B n).contains x ^^ onB B S x) := by
  unfold onB
  rw [List.filter_cons]
  cases (look B n).contains x with
  | false => simp
  | true => rw [if_pos rfl, List.length_cons, odd_cons]; simp
theorem onB_nil (B : Bt) (x : Int) : onB B [] x = false := rfl
def pL (B : Bt) (S : List Str) : List Int := S.foldl (fun r n => tn r (look B n)) []
theorem pF_con {B : Bt} : ∀ (S : List Str) (r : List Int) (x : Int), (S.foldl (fun r n => tn r (look B n)) r).contains x = (r.contains x ^^ onB B S x)
  | [], r, x => by rw [onB_nil, Bool.xor_false]; rfl
  | n :: S, r, x => by
    rw [List.foldl_cons, pF_con S, tn_con, onB_cons, Bool.xor_assoc]
theorem pF_rg {B : Bt} (h : BOk B) : ∀ (S : List Str) (r : List Int), (∀ n ∈ S, n ∈ B.map (·.1)) → RG r → RG (S.foldl (fun r n => tn r (look B n)) r)
  | [], _, _, hr => hr
  | n :: S, r, hS, hr => pF_rg h S _ (fun m hm => hS m (List.mem_cons_of_mem _ hm)) (tn_rg hr (look_rg h (hS n List.mem_cons_self)))
theorem rg_nil : RG [] := ⟨List.Pairwise.nil, nofun⟩
theorem pressed_ok {B : Bt} (h : BOk B) {S : List Str} (hS : ∀ n ∈ S, n ∈ B.map (·.1)) : f_pressed [bD B, stD S] = .ok (intT (pL B S)) [] := by
  obtain ⟨r, l1, l2⟩ := frR (l := S) (t := .nm 3) (dead := [3]) (body := q_pressed_3) (m := seqI (rdS 1)) (e := [.shr (bD B), .shr (stD S), .shr (intT []), .emp]) (e1 := [.shr (bD B), .shr (stD S), .shr (intT []), .emp]) PyData.str
    (fun r => [.shr (bD B), .shr (stD S), .shr (intT r), .emp]) (fun pre r => r = pL B pre) (s0 := []) rfl rfl rfl fun pre n post r hl hp => by
      have hn : n ∈ B.map (·.1) := hS n (by rw [hl]; simp)
      have hr : RG r := by rw [hp]; exact pF_rg h pre [] (fun m hm => hS m (by rw [hl]; simp [hm])) rg_nil
      have h1 := turn_ok hr (look_rg h hn)
      have h2 := ix_b hn
      refine ⟨tn r (look B n), ?_, by rw [hp]; unfold pL; rw [List.foldl_append]; rfl⟩
      have g : q_pressed_3 [.shr (bD B), .shr (stD S), .shr (intT r), .shr (.str n)] = .nx [.shr (bD B), .shr (stD S), .shr (intT (tn r (look B n))), .shr (.str n)] := setS_ok (cal_ok (consA_ok (rdS_ok rfl) (consA_ok (op2_ok (rdS_ok rfl) (rdS_ok rfl) h2) nilA_ok)) h1)
      simp only [stepW, bindT, bindTs, wip, natD, List.set_cons_succ, List.set_cons_zero]
      rw [g]
      rfl
  refine fn_rt rfl rfl (e' := [.shr (bD B), .shr (stD S), .shr (intT r), .emp]) ?_
  show d_pressed [.shr (bD B), .shr (stD S), .emp, .emp] = _
  have s1 : q_pressed_1 [.shr (bD B), .shr (stD S), .emp, .emp] = .nx [.shr (bD B), .shr (stD S), .shr (intT []), .emp] := rfl
  have s2 : q_pressed_2 [.shr (bD B), .shr (stD S), .shr (intT []), .emp] = .nx [.shr (bD B), .shr (stD S), .shr (intT r), .emp] := l1
  unfold d_pressed
  rw [sq_nx s1, sq_nx s2, ← l2]
  rfl
/-- the lamps that are on -/
def onL (B : Bt) (S : List Str) : List Int := rng31.filter (onB B S)
theorem onL_pw (B : Bt) (S : List Str) : PW (onL B S) := pw_filter rng31_pw _
theorem onL_rg (B : Bt) (S : List Str) : RG (onL B S) := ⟨onL_pw B S, fun x hx => by have := rng31_mem.mp (List.mem_filter.mp hx).1; omega⟩
theorem onB_rng {B : Bt} (h : BOk B) : ∀ {S : List Str}, (∀ n ∈ S, n ∈ B.map (·.1)) → ∀ {x : Int}, onB B S x = true → 0 ≤ x ∧ x < 31
  | [], _, x, hx => by rw [onB_nil] at hx; cases hx
  | n :: S, hS, x, hx => by
    rw [onB_cons] at hx
    cases hc : (look B n).contains x with
    | true => exact look_rg31 h (hS n List.mem_cons_self) x (List.contains_iff_mem.mp hc)
    | false =>
      rw [hc, Bool.false_xor] at hx
      exact onB_rng h (fun m hm => hS m (List.mem_cons_of_mem _ hm)) hx
theorem onL_con {B : Bt} (h : BOk B) {S : List Str} (hS : ∀ n ∈ S, n ∈ B.map (·.1)) (x : Int) : (onL B S).contains x = onB B S x := by
  rw [Bool.eq_iff_iff, List.contains_iff_mem]
  unfold onL
  rw [List.mem_filter]
  exact ⟨fun z => z.2, fun z => ⟨rng31_mem.mpr (onB_rng h hS z), z⟩⟩
theorem pL_eq {B : Bt} (h : BOk B) {S : List Str} (hS : ∀ n ∈ S, n ∈ B.map (·.1)) : pL B S = onL B S :=
  pw_ext' (pF_rg h S [] hS rg_nil).pw (onL_pw B S) fun x => by
    rw [onL_con h hS]
    unfold pL
    rw [pF_con]
    simp
theorem law_on_ok {B : Bt} {S : List Str} (hS : ∀ n ∈ S, n ∈ B.map (·.1)) (hl : S.length ≤ 1000) : f__law_on [bD B, stD S] = .ok (intT (onL B S)) [] := by
  refine fn_rt rfl rfl (e' := [.shr (bD B), .shr (stD S), .emp, .emp]) ?_
  show d__law_on [.shr (bD B), .shr (stD S), .emp, .emp] = _
  have inner : ∀ x : Int, lcE (.nm 3) [3] (tcm (op2 inD (rdS 2) (op2 ixD (rdS 0) (rdS 3)))) (rdS 3) (seqI (rdS 1)) [.shr (bD B), .shr (stD S), .shr (.int x), .emp] = .ok (.list (strL (S.filter fun n => (look B n).contains x))) [.shr (bD B), .shr (stD S), .shr (.int x), .emp] := fun x =>
    flt_in (fun n => (look B n).contains x) (by simp) (seqI_ok (rdS_ok rfl) rfl) rfl fun n hn => tcm_ok (op2_ok (rdS_ok rfl) (op2_ok (rdS_ok rfl) (rdS_ok rfl) (ix_b (hS n hn))) (inD_intT _ x))
  have outer : lcE (.nm 2) [2] (tcm (op2 eqD (op2 modD (callD intD (consA (callD lenD (consA (lcE (.nm 3) [3] (tcm (op2 inD (rdS 2) (op2 ixD (rdS 0) (rdS 3)))) (rdS 3) (seqI (rdS 1))) (nilA))) (nilA))) (PV.ret (.int 2))) (PV.ret (.int 1)))) (rdS 2) (rngI1 (consA (PV.ret (.int 31)) (nilA))) [.shr (bD B), .shr (stD S), .emp, .emp] = .ok (.list (intL (onL B S))) [.shr (bD B), .shr (stD S), .emp, .emp] := by
    refine flt_int (P := rng31) (onB B S) (by simp) ?_ rfl fun x hx => ?_
    · refine (rngN_ok (n := 31) (consA_ok rfl nilA_ok) (by omega)).trans ?_
      unfold rng31 intL
      rw [List.map_map]
      rfl
    · have h1 := inner x
      refine tcm_ok (op2_ok (op2_ok (callD_ok (consA_ok (callD_ok (consA_ok h1 nilA_ok) (lenD_l _)) nilA_ok) rfl) rfl (mod_ok (by omega))) rfl ?_)
      rw [eqD_int, strL_len]
      unfold onB
      congr 2
      rw [Bool.eq_iff_iff]
      simp
      omega
  exact rtn_ok (callD_ok (consA_ok outer nilA_ok) rfl)
end L_rungward_k72_presses_for_lamps
namespace L_rungward_k72_presses_for_lamps
open PySem PySem.Spec PV
/-! the order of rows of texts -/
theorem lt_nil_cons (y : D) (ys : List D) : PySem.W.dataLt (.tuple []) (.tuple (y :: ys)) = true := by
  rw [PySem.W.dataLt_tuple, PySem.W.toks_all_cons]
  simp only [PySem.W.keyToksAll]
  rw [PyProof.Rows.lex_diff (O := PyProof.Rows.itemOrd) (by simp)]
  simp [PyProof.Rows.itemOrd, PyProof.Rows.itemLt]
theorem st_anti : ∀ (S T : List Str), PySem.W.dataLt (stD S) (stD T) = false → PySem.W.dataLt (stD T) (stD S) = false → S = T
  | [], [], _, _ => rfl
  | [], y :: T, h, _ => by rw [show stD [] = .tuple [] from rfl, show stD (y :: T) = .tuple (.str y :: strL T) from rfl, lt_nil_cons] at h; cases h
  | x :: S, [], _, h => by rw [show stD [] = .tuple [] from rfl, show stD (x :: S) = .tuple (.str x :: strL S) from rfl, lt_nil_cons] at h; cases h
  | x :: S, y :: T, h1, h2 => by
    have e1 : PySem.W.dataLt (stD (x :: S)) (stD (y :: T)) = if PyData.eqv (.str x) (.str y) = true then PySem.W.dataLt (stD S) (stD T) else PySem.W.dataLt (.str x) (.str y) := lt_tup (xs := strL S) (ys := strL T) rfl
    have e2 : PySem.W.dataLt (stD (y :: T)) (stD (x :: S)) = if PyData.eqv (.str y) (.str x) = true then PySem.W.dataLt (stD T) (stD S) else PySem.W.dataLt (.str y) (.str x) := lt_tup (xs := strL T) (ys := strL S) rfl
    rw [e1] at h1
    rw [e2] at h2
    by_cases c : x = y
    · subst c
      have q : PyData.eqv (.str x) (.str x) = true := beq_self_eq_true x
      rw [if_pos q] at h1 h2
      rw [st_anti S T h1 h2]
    · have q1 : ¬ PyData.eqv (.str x) (.str y) = true := fun z => c (eq_of_beq (show (x == y) = true from z))
      have q2 : ¬ PyData.eqv (.str y) (.str x) = true := fun z => c (eq_of_beq (show (y == x) = true from z)).symm
      rw [if_neg q1] at h1
      rw [if_neg q2] at h2
      exfalso
      have a1 : leS y x = true := by show (!(PySem.W.dataLt (.str x) (.str y))) = true; rw [h1]; rfl
      have a2 : leS x y = true := by show (!(PySem.W.dataLt (.str y) (.str x))) = true; rw [h2]; rfl
      exact c (leS_anti _ _ a2 a1)
theorem qLe_anti {S T : List Str} (h1 : qLe S T = true) (h2 : qLe T S = true) : S = T := by
  have h1 : PySem.W.dataLt (encQ T) (encQ S) = false := by
    have : (!PySem.W.dataLt (encQ T) (encQ S)) = true := h1
    simpa using this
  have h2 : PySem.W.dataLt (encQ S) (encQ T) = false := by
    have : (!PySem.W.dataLt (encQ S) (encQ T)) = true := h2
    simpa using this
  have e1 : ∀ A B : List Str, PySem.W.dataLt (encQ A) (encQ B) = if PyData.eqv (.int A.length) (.int B.length) = true then PySem.W.dataLt (.tuple [stD A]) (.tuple [stD B]) else PySem.W.dataLt (.int A.length) (.int B.length) := fun A B => lt_tup (xs := [stD A]) (ys := [stD B]) rfl
  have e2 : ∀ A B : List Str, PySem.W.dataLt (.tuple [stD A]) (.tuple [stD B]) = if PyData.eqv (stD A) (stD B) = true then PySem.W.dataLt (.tuple []) (.tuple []) else PySem.W.dataLt (stD A) (stD B) := fun A B => lt_tup (xs := []) (ys := []) (alike_st A B)
  rw [e1] at h1 h2
  by_cases c : T.length = S.length
  · have q : ∀ a b : Nat, a = b → PyData.eqv (.int a) (.int b) = true := fun a b e => by subst e; exact beq_self_eq_true _
    rw [if_pos (q _ _ c), e2] at h1
    rw [if_pos (q _ _ c.symm), e2] at h2
    by_cases d : T = S
    · exact d.symm
    · have n1 : ¬ PyData.eqv (stD T) (stD S) = true := fun z => d (by rw [eqv_st] at z; exact eq_of_beq z)
      have n2 : ¬ PyData.eqv (stD S) (stD T) = true := fun z => d (by rw [eqv_st] at z; exact (eq_of_beq z).symm)
      rw [if_neg n1] at h1
      rw [if_neg n2] at h2
      exact st_anti S T h2 h1
  · have q : ∀ a b : Nat, a ≠ b → ¬ PyData.eqv (.int a) (.int b) = true := fun a b e z => e (by have := eq_of_beq (show ((a : Int) == (b : Int)) = true from z); omega)
    rw [if_neg (q _ _ c), lt_int] at h1
    rw [if_neg (q _ _ (Ne.symm c)), lt_int] at h2
    have := of_decide_eq_false h1
    have := of_decide_eq_false h2
    omega
theorem ordS_of {names : List Str} {L : List (List Str)} (h : L.Perm (allS names)) : L.mergeSort qLe = ordS names := by
  refine List.Perm.eq_of_pairwise (le := fun a b => qLe a b = true) (fun a b _ _ h1 h2 => qLe_anti h1 h2) ?_ (ordS_pw names) ?_
  · exact List.pairwise_mergeSort (le := qLe) (fun a b c => dLe_trans (encQ a) (encQ b) (encQ c)) (fun a b => dLe_total (encQ a) (encQ b)) _
  · exact (List.mergeSort_perm _ _).trans (h.trans (ordS_perm names).symm)
/-! all sets of names -/
theorem grow_rows {f : Sm} {names : List Str} (hl : names.length ≤ 8) (env : List (List Str) → PV.Cell → EnvD) (hb : ∀ L x, L.length ≤ 1024 → (∀ S ∈ L, S.length ≤ 1000) → f (env L (.shr (.str x))) = .nx (env (L ++ L.map (· ++ [x])) (.shr (.str x))))
    {m : M (List D)} {k : Nat} (hm : m (env [[]] .emp) = .ok (strL names) (env [[]] .emp)) (hw : ∀ L c, (env L c).set k .emp = env L .emp) (hs : ∀ L d, (env L .emp).set k (.shr d) = env L (.shr d)) : frS (.nm k) [k] m f (env [[]] .emp) = .nx (env (allS names) .emp) := by
  obtain ⟨L, l1, l2⟩ := frR (l := names) (t := .nm k) (dead := [k]) (body := f) (m := m) (e := env [[]] .emp) (e1 := env [[]] .emp) PyData.str (fun L => env L .emp) (fun pre L => L = allS pre) (s0 := [[]]) hm rfl rfl fun pre x post L hl' hp => by
    have hlen : pre.length ≤ 8 := by
      have := congrArg List.length hl'
      simp at this; omega
    refine ⟨L ++ L.map (· ++ [x]), ?_, by rw [hp, allS_snoc]⟩
    have hL : L.length ≤ 1024 := by rw [hp, allS_len]; exact pow_le (by omega)
    have hS : ∀ S ∈ L, S.length ≤ 1000 := fun S q => by
      rw [hp] at q
      have := (allS_sub _ S q).length_le
      omega
    show nxW [k] (f (((env L .emp).set k .emp).set k (.shr (.str x)))) (env _ .emp)
    rw [hw, hs, hb L x hL hS]
    show ((env _ _).set k .emp) = (env _ _).set k .emp
    rw [hw, hw]
  rw [← l2]
  rw [l1]
  show Out.nx ((env L .emp).set k .emp) = _
  rw [hw]
theorem add_rows {L : List (List Str)} {x : Str} (h : L.length ≤ 1024) : addD (.list (stL L)) (.list (stL (L.map (· ++ [x])))) = some (.list (stL (L ++ L.map (· ++ [x])))) := by
  rw [addL_ok (by rw [stL_len', stL_len', List.length_map]; omega), stL_append]
theorem all_sets_ok {names : List Str} (hl : names.length ≤ 8) : f_all_sets [.list (strL names)] = .ok (.list (stL (ordS names))) [] := by
  have s1 : q_all_sets_1 [.shr (.list (strL names)), .emp, .emp, .emp, .emp] = .nx [.shr (.list (strL names)), .shr (.list (stL [[]])), .emp, .emp, .emp] := rfl
  have s2 : q_all_sets_2 [.shr (.list (strL names)), .shr (.list (stL [[]])), .emp, .emp, .emp] = .nx [.shr (.list (strL names)), .shr (.list (stL (allS names))), .emp, .emp, .emp] :=
    grow_rows (f := q_all_sets_3) (k := 2) hl (fun L c => [.shr (.list (strL names)), .shr (.list (stL L)), c, .emp, .emp]) (fun L x h1 h2 => setS_ok (op2_ok (rdS_ok rfl) (grow_ok (by decide) (by simp) rfl rfl (seqI_ok (rdS_ok rfl) rfl) h2) (add_rows h1))) (seqI_ok (rdS_ok rfl) rfl) (fun _ _ => rfl) (fun _ _ => rfl)
  have g1 : lcE (.nm 3) [3] (yesT) (tupE (consA (callD lenD (consA (rdS 3) (nilA))) (consA (rdS 3) (nilA)))) (seqI (rdS 1)) [.shr (.list (strL names)), .shr (.list (stL (allS names))), .emp, .emp, .emp] = .ok (.list ((allS names).map encQ)) [.shr (.list (strL names)), .shr (.list (stL (allS names))), .emp, .emp, .emp] := by
    refine lcRa (l := allS names) stD encQ (seqI_ok (rdS_ok rfl) rfl) rfl rfl fun S hS => ?_
    refine ⟨_, rfl, tupE_ok (consA_ok (callD_ok (consA_ok (rdS_ok rfl) nilA_ok) (lenD_t _)) (consA_ok (rdS_ok rfl) nilA_ok)) (by show 2 ≤ sizeLine; decide) |>.trans ?_, rfl⟩
    rw [strL_len]; rfl
  have g2 : lcE (.tp [.nm 4, .nm 3]) [4, 3] (yesT) (rdS 3) (seqI (callD sorE (consA (lcE (.nm 3) [3] (yesT) (tupE (consA (callD lenD (consA (rdS 3) (nilA))) (consA (rdS 3) (nilA)))) (seqI (rdS 1))) (nilA)))) [.shr (.list (strL names)), .shr (.list (stL (allS names))), .emp, .emp, .emp] = .ok (.list ((ordS names).map stD)) [.shr (.list (strL names)), .shr (.list (stL (allS names))), .emp, .emp, .emp] :=
    lcRa (l := ordS names) encQ stD (seqI_ok (callD_ok (consA_ok g1 nilA_ok) (sorE_Q _)) rfl) rfl rfl fun S hS => ⟨_, rfl, rdS_ok rfl, rfl⟩
  refine fn_rt rfl rfl (e' := [.shr (.list (strL names)), .shr (.list (stL (allS names))), .emp, .emp, .emp]) ?_
  show d_all_sets [.shr (.list (strL names)), .emp, .emp, .emp, .emp] = _
  unfold d_all_sets
  rw [sq_nx s1, sq_nx s2]
  exact rtn_ok g2
def stLe (S T : List Str) : Bool := dLe (stD S) (stD T)
theorem law_sets_ok {names : List Str} (hl : names.length ≤ 8) : f__law_sets [.list (strL names)] = .ok (.list (stL ((allS names).mergeSort stLe))) [] := by
  have s1 : q__law_sets_1 [.shr (.list (strL names)), .emp, .emp, .emp] = .nx [.shr (.list (strL names)), .shr (.list (stL [[]])), .emp, .emp] := rfl
  have s2 : q__law_sets_2 [.shr (.list (strL names)), .shr (.list (stL [[]])), .emp, .emp] = .nx [.shr (.list (strL names)), .shr (.list (stL (allS names))), .emp, .emp] :=
    grow_rows (f := q__law_sets_3) (k := 2) hl (fun L c => [.shr (.list (strL names)), .shr (.list (stL L)), c, .emp]) (fun L x h1 h2 => setS_ok (op2_ok (rdS_ok rfl) (grow_ok (by decide) (by simp) rfl rfl (seqI_ok (rdS_ok rfl) rfl) h2) (add_rows h1))) (seqI_ok (rdS_ok rfl) rfl) (fun _ _ => rfl) (fun _ _ => rfl)
  have g : sorF [.list (stL (allS names))] = some (.list (stL ((allS names).mergeSort stLe))) := by
    rw [sorT_L]
    · congr 2
      exact (List.map_mergeSort (r := stLe) (s := dLe) (f := stD) (fun a _ b _ => rfl)).symm
    · intro d hd
      obtain ⟨S, _, rfl⟩ := List.mem_map.mp hd
      exact ⟨nd_st S, rfl, Nat.le_trans (dep_st S) (by omega)⟩
    · intro a ha b hb
      obtain ⟨S, _, rfl⟩ := List.mem_map.mp ha
      obtain ⟨T, _, rfl⟩ := List.mem_map.mp hb
      exact alike_st S T
  refine fn_rt rfl rfl (e' := [.shr (.list (strL names)), .shr (.list (stL (allS names))), .emp, .emp]) ?_
  show d__law_sets [.shr (.list (strL names)), .emp, .emp, .emp] = _
  unfold d__law_sets
  rw [sq_nx s1, sq_nx s2]
  exact rtn_ok (callD_ok (consA_ok (rdS_ok rfl) nilA_ok) g)
theorem law_sets_ord (names : List Str) : ((allS names).mergeSort stLe).mergeSort qLe = ordS names := ordS_of (List.mergeSort_perm _ _)
theorem sor_b {B : Bt} (h : BOk B) : sorE [bD B] = some (.list (strL (B.map (·.1)))) := by
  have hk : strsD ((B.map fun p => (PyData.str p.1, intT p.2)).map (·.1)) = some (B.map (·.1)) := by
    rw [List.map_map]
    have : ((fun x : D × D => x.1) ∘ fun p : Str × List Int => (PyData.str p.1, intT p.2)) = PyData.str ∘ fun p : Str × List Int => p.1 := rfl
    rw [this, ← List.map_map]
    exact strsD_L _
  show sorK (B.map fun p => (PyData.str p.1, intT p.2)) = _
  unfold sorK
  rw [hk]
  have hl := h.len
  have c : (decide ((B.map (·.1)).length < 64) && (B.map (·.1)).all PyData.strOk) = true := by
    rw [List.length_map, decide_eq_true (by omega), Bool.true_and]
    exact List.all_eq_true.mpr fun x hx => by
      obtain ⟨p, hp, rfl⟩ := List.mem_map.mp hx
      exact h.ok p hp
  simp only [c, if_true]
  rw [merge_asc h.asc]
  rfl
end L_rungward_k72_presses_for_lamps
namespace L_rungward_k72_presses_for_lamps
open PySem PySem.Spec PV
/-! what rows make together -/
inductive Span (R : List (List Int)) : (Int → Bool) → Prop
  | zero {f : Int → Bool} : (∀ x, f x = false) → Span R f
  | add {f g : Int → Bool} {r : List Int} : Span R g → r ∈ R → (∀ x, f x = (g x ^^ r.contains x)) → Span R f
theorem Span.cong {R : List (List Int)} {f g : Int → Bool} (h : Span R f) (e : ∀ x, g x = f x) : Span R g := by
  cases h with
  | zero z => exact .zero fun x => (e x).trans (z x)
  | add s m q => exact .add s m fun x => (e x).trans (q x)
theorem Span.of_mem {R : List (List Int)} {r : List Int} (h : r ∈ R) : Span R r.contains := .add (.zero fun _ => rfl) h fun x => by simp
theorem Span.xor {R : List (List Int)} {f g h : Int → Bool} (a : Span R f) (b : Span R g) (e : ∀ x, h x = (f x ^^ g x)) : Span R h := by
  induction b generalizing h with
  | zero z => exact a.cong fun x => by rw [e, z]; simp
  | @add g g' r s m q ih => exact .add (ih fun x => rfl) m fun x => by rw [e, q, Bool.xor_assoc]
theorem Span.trans {R R' : List (List Int)} (h : ∀ r ∈ R, Span R' r.contains) {f : Int → Bool} (s : Span R f) : Span R' f := by
  induction s with
  | zero z => exact .zero z
  | add _ m q ih => exact ih.xor (h _ m) q
abbrev Fd := List (Int × List Int)
def clr (r : List Int) (p : Int × List Int) : List Int := if r.contains p.1 = true then tn r p.2 else r
def clear (F : Fd) (row : List Int) : List Int := F.foldl clr row
structure FI (B : Bt) (done : List (List Int)) (F : Fd) : Prop where
  rg : ∀ p ∈ F, RG p.2
  ld : ∀ p ∈ F, p.2.contains p.1 = true
  nd : (F.map (·.1)).Nodup
  un : ∀ p ∈ F, ∀ q ∈ F, q.2.contains p.1 = true → p.1 = q.1
  sp : ∀ p ∈ F, Span (B.map (·.2)) p.2.contains
  cov : ∀ r ∈ done, Span (F.map (·.2)) r.contains
theorem clr_rg {r : List Int} {p : Int × List Int} (hr : RG r) (hp : RG p.2) : RG (clr r p) := by
  unfold clr
  by_cases c : r.contains p.1 = true
  · rw [if_pos c]; exact tn_rg hr hp
  · rw [if_neg c]; exact hr
theorem clear_rg : ∀ {F : Fd} {row : List Int}, (∀ p ∈ F, RG p.2) → RG row → RG (clear F row)
  | [], _, _, h => h
  | p :: F, row, hF, h => clear_rg (F := F) (row := clr row p) (fun q hq => hF q (List.mem_cons_of_mem _ hq)) (clr_rg h (hF p List.mem_cons_self))
theorem clear_span : ∀ {F : Fd} (R : List (List Int)) (row : List Int), (∀ p ∈ F, p.2 ∈ R) → ∃ g, Span R g ∧ ∀ x, row.contains x = ((clear F row).contains x ^^ g x)
  | [], R, row, _ => ⟨fun _ => false, .zero fun _ => rfl, fun x => by simp [clear]⟩
  | p :: F, R, row, hF => by
    obtain ⟨g, s, e⟩ := clear_span R (clr row p) (F := F) fun q hq => hF q (List.mem_cons_of_mem _ hq)
    by_cases c : row.contains p.1 = true
    · refine ⟨fun x => g x ^^ p.2.contains x, .add s (hF p List.mem_cons_self) fun _ => rfl, fun x => ?_⟩
      have h := e x
      have : clear (p :: F) row = clear F (clr row p) := rfl
      rw [this]
      unfold clr at h ⊢
      rw [if_pos c] at h ⊢
      rw [tn_con] at h
      cases h1 : row.contains x <;> cases h2 : p.2.contains x <;> cases h3 : g x <;> simp_all
    · refine ⟨g, s, fun x => ?_⟩
      have h := e x
      have h0 : clr row p = row := if_neg c
      rw [h0] at h
      have : clear (p :: F) row = clear F (clr row p) := rfl
      rw [this, h0]
      exact h
theorem clear_lead {F : Fd} (nd : (F.map (·.1)).Nodup) (ld : ∀ p ∈ F, p.2.contains p.1 = true) (un : ∀ p ∈ F, ∀ q ∈ F, q.2.contains p.1 = true → p.1 = q.1) (row : List Int) : ∀ p ∈ F, (clear F row).contains p.1 = false := by
  have key : ∀ (suf pre : Fd) (r : List Int), F = pre ++ suf → (∀ p ∈ pre, r.contains p.1 = false) → ∀ p ∈ F, (suf.foldl clr r).contains p.1 = false := by
    intro suf
    induction suf with
    | nil => intro pre r hF h p hp; rw [hF, List.append_nil] at hp; exact h p hp
    | cons q suf ih =>
      intro pre r hF h
      have mq : q ∈ F := by rw [hF]; simp
      refine ih (pre ++ [q]) (clr r q) (by rw [hF, List.append_assoc]; rfl) fun p hp => ?_
      have hne : p ∈ pre → p.1 ≠ q.1 := fun hp e => by
        rw [hF, List.map_append, List.map_cons] at nd
        have := (List.nodup_append.mp nd).2.2 p.1 (List.mem_map_of_mem hp) q.1 List.mem_cons_self
        exact this e
      unfold clr
      rcases List.mem_append.mp hp with hp | hp
      · have h0 := h p hp
        have mp : p ∈ F := by rw [hF]; exact List.mem_append_left _ hp
        by_cases c : r.contains q.1 = true
        · rw [if_pos c, tn_con, h0]
          cases hz : q.2.contains p.1 with
          | false => rfl
          | true => exact absurd (un p mp q mq hz) (hne hp)
        · rw [if_neg c]; exact h0
      · rw [List.mem_singleton.mp hp]
        by_cases c : r.contains q.1 = true
        · rw [if_pos c, tn_con, c, ld q mq]; rfl
        · rw [if_neg c]; simpa using c
  exact key F [] row rfl nofun
def upd1 (h : Int) (r : List Int) (p : Int × List Int) : Int × List Int := (p.1, if p.2.contains h = true then tn p.2 r else p.2)
def redS (F : Fd) (row : List Int) : Fd := match clear F row with
  | [] => F
  | h :: t => F.map (upd1 h (h :: t)) ++ [(h, h :: t)]
theorem redS_fi {B : Bt} {done : List (List Int)} {F : Fd} {row : List Int} (I : FI B done F) (hr : RG row) (hs : Span (B.map (·.2)) row.contains) : FI B (done ++ [row]) (redS F row) := by
  have hc := clear_rg I.rg hr
  obtain ⟨g, sg, eg⟩ := clear_span (F.map (·.2)) row (F := F) fun p hp => List.mem_map_of_mem hp
  have hl := clear_lead I.nd I.ld I.un row
  have sgB : Span (B.map (·.2)) g := sg.trans fun r hr => by
    obtain ⟨p, hp, rfl⟩ := List.mem_map.mp hr
    exact I.sp p hp
  unfold redS
  cases hcl : clear F row with
  | nil =>
    rw [hcl] at eg
    refine ⟨I.rg, I.ld, I.nd, I.un, I.sp, fun r hr => ?_⟩
    rcases List.mem_append.mp hr with z | z
    · exact I.cov r z
    · rw [List.mem_singleton.mp z]
      exact sg.cong fun x => by rw [eg x]; simp
  | cons h t =>
    rw [hcl] at eg hl hc
    simp only
    generalize hrr : h :: t = r at eg hl hc
    have hh : r.contains h = true := by rw [← hrr]; simp
    have srB : Span (B.map (·.2)) r.contains := hs.xor sgB fun x => by
      rw [eg x]; cases r.contains x <;> cases g x <;> rfl
    have uc : ∀ p x, (upd1 h r p).2.contains x = (p.2.contains x ^^ (p.2.contains h && r.contains x)) := fun p x => by
      unfold upd1
      cases hp : p.2.contains h with
      | true => rw [if_pos rfl, tn_con]; simp
      | false => rw [if_neg (by decide)]; simp
    have hnl : ∀ p ∈ F, p.1 ≠ h := fun p hp e => by
      have := hl p hp
      rw [e, hh] at this
      cases this
    have mem : ∀ p', p' ∈ F.map (upd1 h r) ++ [(h, r)] → (∃ p ∈ F, p' = upd1 h r p) ∨ p' = (h, r) := fun p' hp => by
      rcases List.mem_append.mp hp with z | z
      · obtain ⟨p, hp1, e1⟩ := List.mem_map.mp z
        exact .inl ⟨p, hp1, e1.symm⟩
      · exact .inr (List.mem_singleton.mp z)
    have toF : ∀ p ∈ F, Span ((F.map (upd1 h r) ++ [(h, r)]).map (·.2)) p.2.contains := fun p hp => by
      have m1 : (upd1 h r p).2 ∈ (F.map (upd1 h r) ++ [(h, r)]).map (·.2) := List.mem_map_of_mem (List.mem_append_left _ (List.mem_map_of_mem hp))
      have m2 : r ∈ (F.map (upd1 h r) ++ [(h, r)]).map (·.2) := List.mem_map.mpr ⟨(h, r), by simp, rfl⟩
      cases hc : p.2.contains h with
      | true =>
        refine (Span.of_mem m1).xor (Span.of_mem m2) fun x => ?_
        rw [uc, hc]
        cases p.2.contains x <;> cases r.contains x <;> rfl
      | false => exact (Span.of_mem m1).cong fun x => by rw [uc, hc]; simp
    refine ⟨fun p' hp0 => ?_, fun p' hp0 => ?_, ?_, fun p' hp0 q' hq0 hz => ?_, fun p' hp0 => ?_, fun r0 hr0 => ?_⟩
    · rcases mem p' hp0 with ⟨p, hp, rfl⟩ | rfl
      · show RG (if _ then _ else _)
        by_cases c : p.2.contains h = true
        · rw [if_pos c]; exact tn_rg (I.rg p hp) hc
        · rw [if_neg c]; exact I.rg p hp
      · exact hc
    · rcases mem p' hp0 with ⟨p, hp, rfl⟩ | rfl
      · rw [uc]
        show (p.2.contains p.1 ^^ (_ && r.contains p.1)) = true
        rw [I.ld p hp, hl p hp]; simp
      · exact hh
    · rw [List.map_append, List.map_map]
      have e : ((fun p : Int × List Int => p.1) ∘ upd1 h r) = fun p => p.1 := rfl
      rw [e]
      refine List.nodup_append.mpr ⟨I.nd, by simp, fun a ha b hb e => ?_⟩
      obtain ⟨p, hp, rfl⟩ := List.mem_map.mp ha
      simp only [List.map_cons, List.map_nil, List.mem_singleton] at hb
      exact hnl p hp (e.trans hb)
    · rcases mem p' hp0 with ⟨p, hp, rfl⟩ | rfl
      · rcases mem q' hq0 with ⟨q, hq, rfl⟩ | rfl
        · rw [uc] at hz
          have hz : (q.2.contains p.1 ^^ (q.2.contains h && r.contains p.1)) = true := hz
          rw [hl p hp] at hz
          exact I.un p hp q hq (by simpa using hz)
        · have hz : r.contains p.1 = true := hz
          rw [hl p hp] at hz; cases hz
      · rcases mem q' hq0 with ⟨q, hq, rfl⟩ | rfl
        · rw [uc] at hz
          have hz : (q.2.contains h ^^ (q.2.contains h && r.contains h)) = true := hz
          rw [hh] at hz
          simp at hz
        · rfl
    · rcases mem p' hp0 with ⟨p, hp, rfl⟩ | rfl
      · cases hc : p.2.contains h with
        | true => exact (I.sp p hp).xor srB fun x => by rw [uc, hc]; simp
        | false => exact (I.sp p hp).cong fun x => by rw [uc, hc]; simp
      · exact srB
    · have key : Span (F.map (·.2)) r0.contains ∨ r0 = row := by
        rcases List.mem_append.mp hr0 with z | z
        · exact .inl (I.cov r0 z)
        · exact .inr (List.mem_singleton.mp z)
      have up : ∀ f, Span (F.map (·.2)) f → Span ((F.map (upd1 h r) ++ [(h, r)]).map (·.2)) f := fun f sf => sf.trans fun r1 hr1 => by
        obtain ⟨p, hp, rfl⟩ := List.mem_map.mp hr1
        exact toF p hp
      rcases key with z | rfl
      · exact up _ z
      · have m2 : r ∈ (F.map (upd1 h r) ++ [(h, r)]).map (·.2) := List.mem_map.mpr ⟨(h, r), by simp, rfl⟩
        exact (Span.of_mem m2).xor (up g sg) eg
def redB (B : Bt) : Fd := B.foldl (fun F p => redS F p.2) []
theorem red_fi {B : Bt} (h : BOk B) : FI B (B.map (·.2)) (redB B) := by
  have key : ∀ (suf pre : Bt) (F : Fd), B = pre ++ suf → FI B (pre.map (·.2)) F → FI B (B.map (·.2)) (suf.foldl (fun F p => redS F p.2) F) := by
    intro suf
    induction suf with
    | nil => intro pre F e I; rw [List.append_nil] at e; rw [← e] at I; exact I
    | cons p suf ih =>
      intro pre F e I
      have mp : p ∈ B := by rw [e]; simp
      refine ih (pre ++ [p]) (redS F p.2) (by rw [e, List.append_assoc]; rfl) ?_
      rw [List.map_append]
      exact redS_fi I (h.rg' mp) (Span.of_mem (List.mem_map_of_mem mp))
  exact key B [] [] rfl ⟨nofun, nofun, List.nodup_nil, nofun, nofun, nofun⟩
/-! parity -/
def odd (P : List Int) (f : Int → Bool) : Bool := (P.filter f).length % 2 == 1
theorem odd_xor {f g h : Int → Bool} (e : ∀ x, h x = (f x ^^ g x)) : ∀ P : List Int, odd P h = (odd P f ^^ odd P g)
  | [] => rfl
  | x :: P => by
    have ih := odd_xor e P
    unfold odd at ih ⊢
    rw [List.filter_cons, List.filter_cons, List.filter_cons, e x]
    cases f x <;> cases g x <;> simp only [Bool.false_xor, Bool.true_xor, Bool.not_true, Bool.not_false, Bool.false_eq_true, if_false, if_true, List.length_cons, odd_cons, ih, Bool.xor_false, Bool.xor_true] <;> (try cases ((P.filter f).length % 2 == 1) <;> cases ((P.filter g).length % 2 == 1) <;> rfl)
theorem odd_zero {f : Int → Bool} (e : ∀ x, f x = false) (P : List Int) : odd P f = false := by
  unfold odd
  have : P.filter f = [] := List.filter_eq_nil_iff.mpr fun x _ => by rw [e]; decide
  rw [this]; rfl
theorem span_odd {R : List (List Int)} {P : List Int} (h : ∀ r ∈ R, odd P r.contains = false) {f : Int → Bool} (s : Span R f) : odd P f = false := by
  induction s with
  | zero z => exact odd_zero z P
  | add _ m q ih => rw [odd_xor q, ih, h _ m]; rfl
/-- the paper -/
def papL (F : Fd) (lamp : Int) : List Int := lamp :: (F.filter fun p => p.2.contains lamp).map (·.1)
theorem lead_filter {F : Fd} (nd : (F.map (·.1)).Nodup) {q : Int × List Int} (hq : q ∈ F) (s : Int × List Int → Bool) : ((F.filter s).map (·.1)).filter (fun x => x == q.1) = if s q = true then [q.1] else [] := by
  induction F with
  | nil => cases hq
  | cons p F ih =>
    obtain ⟨h1, h2⟩ := List.nodup_cons.mp (show (p.1 :: F.map (·.1)).Nodup from nd)
    rcases List.mem_cons.mp hq with rfl | hq
    · have none : ((F.filter s).map (·.1)).filter (fun x => x == q.1) = [] := List.filter_eq_nil_iff.mpr fun x hx e => by
        obtain ⟨p, hp, rfl⟩ := List.mem_map.mp hx
        have e := eq_of_beq e
        exact h1 (by rw [← e]; exact List.mem_map_of_mem (List.mem_filter.mp hp).1)
      rw [List.filter_cons]
      cases hs : s q with
      | true => rw [if_pos rfl, if_pos rfl, List.map_cons, List.filter_cons, if_pos (beq_self_eq_true _), none]
      | false => rw [if_neg (by decide), if_neg (by decide), none]
    · have ne : (p.1 == q.1) = false := by
        rw [beq_eq_false_iff_ne]
        intro e
        exact h1 (by rw [e]; exact List.mem_map_of_mem hq)
      rw [List.filter_cons]
      cases hs : s p with
      | true => rw [if_pos rfl, List.map_cons, List.filter_cons, ne, if_neg (by decide), ih h2 hq]
      | false => rw [if_neg (by decide), ih h2 hq]
theorem pap_even {B : Bt} {done : List (List Int)} {F : Fd} (I : FI B done F) {lamp : Int} (hl : ∀ p ∈ F, p.1 ≠ lamp) {q : Int × List Int} (hq : q ∈ F) : odd (papL F lamp) q.2.contains = false := by
  have e1 : ((F.filter fun p => p.2.contains lamp).map (·.1)).filter q.2.contains = ((F.filter fun p => p.2.contains lamp).map (·.1)).filter fun x => x == q.1 := by
    apply List.filter_congr
    intro x hx
    obtain ⟨p, hp, rfl⟩ := List.mem_map.mp hx
    have mp := (List.mem_filter.mp hp).1
    rw [Bool.eq_iff_iff]
    constructor
    · intro z; rw [I.un p mp q hq z]; exact beq_self_eq_true _
    · intro z
      rw [eq_of_beq z]
      exact I.ld q hq
  unfold odd papL
  rw [List.filter_cons, e1, lead_filter I.nd hq]
  cases q.2.contains lamp <;> simp
/-- nothing is left: it can be had -/
theorem flen_cons (p : Str → Bool) (n : Str) (l : List Str) : ((n :: l).filter p).length = (if p n = true then 1 else 0) + (l.filter p).length := by
  rw [List.filter_cons]
  by_cases c : p n = true
  · rw [if_pos c, if_pos c, List.length_cons]; omega
  · rw [if_neg c, if_neg c]; omega
theorem toggle (f : Str → List Int) (a : Str) (s : Str → Bool) (x : Int) : ∀ l : List Str, l.Nodup → ((l.filter fun n => s n ^^ (n == a)).filter fun n => (f n).contains x).length % 2 = (((l.filter s).filter fun n => (f n).contains x).length + if a ∈ l ∧ (f a).contains x = true then 1 else 0) % 2
  | [], _ => by simp
  | n :: l, hn => by
    obtain ⟨h1, h2⟩ := List.nodup_cons.mp hn
    have ih := toggle f a s x l h2
    rw [List.filter_filter, List.filter_filter] at ih ⊢
    rw [flen_cons, flen_cons]
    by_cases e : n = a
    · subst e
      have hno : ¬ (n ∈ l ∧ (f n).contains x = true) := fun z => h1 z.1
      rw [if_neg hno] at ih
      have hm : (n ∈ n :: l ∧ (f n).contains x = true) ↔ (f n).contains x = true := ⟨fun z => z.2, fun z => ⟨List.mem_cons_self, z⟩⟩
      simp only [hm, beq_self_eq_true, Bool.xor_true]
      cases hs : s n <;> cases hf : (f n).contains x <;> simp only [Bool.not_true, Bool.not_false, Bool.and_true, Bool.and_false, Bool.false_eq_true, if_true, if_false] <;> omega
    · have e2 : (n == a) = false := by rw [beq_eq_false_iff_ne]; exact e
      have hm : (a ∈ n :: l ∧ (f a).contains x = true) ↔ (a ∈ l ∧ (f a).contains x = true) := by
        rw [List.mem_cons]
        constructor
        · rintro ⟨q | q, w⟩
          · exact absurd q.symm e
          · exact ⟨q, w⟩
        · exact fun z => ⟨.inr z.1, z.2⟩
      simp only [hm, e2, Bool.xor_false]
      omega
theorem filter_allS (s : Str → Bool) (l : List Str) : l.filter s ∈ allS l := by
  induction l using allS_ind with
  | h0 => simp [allS]
  | h1 l x ih =>
    rw [allS_snoc, List.filter_append, List.mem_append]
    cases hs : s x with
    | true => exact .inr (List.mem_map.mpr ⟨_, ih, by simp [hs]⟩)
    | false => exact .inl (by simpa [hs] using ih)
theorem span_set {B : Bt} (h : BOk B) {f : Int → Bool} (s : Span (B.map (·.2)) f) : ∃ t : Str → Bool, ∀ x, onB B ((B.map (·.1)).filter t) x = f x := by
  induction s with
  | zero z => exact ⟨fun _ => false, fun x => by
      have : (B.map (·.1)).filter (fun _ => false) = [] := List.filter_eq_nil_iff.mpr fun _ _ z => by cases z
      rw [this, onB_nil, z]⟩
  | @add f g r _ m q ih =>
    obtain ⟨t, ht⟩ := ih
    obtain ⟨p, hp, rfl⟩ := List.mem_map.mp m
    have hm : p.1 ∈ B.map (·.1) := List.mem_map_of_mem hp
    have hlk : look B p.1 = p.2 := by
      obtain ⟨p', hp', e1, e2, _⟩ := look_some hm
      rw [e2]
      have hnd := h.asc.2
      have : p' = p := by
        obtain ⟨i, hi, e⟩ := List.mem_iff_getElem.mp hp'
        obtain ⟨j, hj, e'⟩ := List.mem_iff_getElem.mp hp
        have : i = j := by
          apply (List.getElem?_inj (l := B.map (·.1)) (by simpa using hi) hnd).mp
          rw [List.getElem?_map, List.getElem?_map, List.getElem?_eq_getElem hi, List.getElem?_eq_getElem hj, e, e']
          all_goals simp [e1]
        subst this
        rw [← e, ← e']
      rw [this]
    refine ⟨fun n => t n ^^ (n == p.1), fun x => ?_⟩
    have := toggle (look B) p.1 t x (B.map (·.1)) h.asc.2
    rw [q, ← ht x]
    unfold onB
    rw [this, hlk]
    generalize (((B.map (·.1)).filter t).filter fun n => (look B n).contains x).length = k
    cases hc : p.2.contains x with
    | true => rw [if_pos ⟨hm, rfl⟩, odd_cons]; simp
    | false => rw [if_neg (fun z => by cases z.2)]; simp
end L_rungward_k72_presses_for_lamps
namespace L_rungward_k72_presses_for_lamps
open PySem PySem.Spec PV
def encF (p : Int × List Int) : D := .tuple [.int p.1, intT p.2]
theorem turn_con (b FL nm : D) {r : List Int} {p : Int × List Int} (hr : RG r) (hp : RG p.2) :
    q_reduced_5 [.shr b, .shr FL, .shr nm, .shr (intT r), .shr (.int p.1), .shr (intT p.2)] = .nx [.shr b, .shr FL, .shr nm, .shr (intT (clr r p)), .shr (.int p.1), .shr (intT p.2)] := by
  have h1 := inD_intT r p.1
  have h2 := turn_ok hr hp
  unfold clr
  cases c : r.contains p.1 with
  | true =>
    rw [if_pos rfl]
    rw [c] at h1
    exact (ifS_t (tcm_ok (op2_ok (rdS_ok rfl) (rdS_ok rfl) h1))).trans (setS_ok (cal_ok (consA_ok (rdS_ok rfl) (consA_ok (rdS_ok rfl) nilA_ok)) h2))
  | false =>
    rw [if_neg (by decide)]
    rw [c] at h1
    exact (ifS_f (tcm_ok (op2_ok (rdS_ok rfl) (rdS_ok rfl) h1))).trans rfl
theorem red_clear (b nm : D) {F : Fd} {row : List Int} (hF : ∀ p ∈ F, RG p.2) (hr : RG row) (c4 c5 : PV.Cell) (h4 : NoO c4) (h5 : NoO c5) :
    ∃ c4' c5', NoO c4' ∧ NoO c5' ∧ q_reduced_4 [.shr b, .shr (.list (F.map encF)), .shr nm, .shr (intT row), c4, c5] = .nx [.shr b, .shr (.list (F.map encF)), .shr nm, .shr (intT (clear F row)), c4', c5'] := by
  obtain ⟨⟨r, d4, d5⟩, l1, l2, l3, l4⟩ := frR (l := F) (t := .tp [.nm 4, .nm 5]) (dead := []) (body := q_reduced_5) (m := seqI (rdS 1)) (e := [.shr b, .shr (.list (F.map encF)), .shr nm, .shr (intT row), c4, c5]) (e1 := [.shr b, .shr (.list (F.map encF)), .shr nm, .shr (intT row), c4, c5]) encF
    (fun s : List Int × PV.Cell × PV.Cell => [.shr b, .shr (.list (F.map encF)), .shr nm, .shr (intT s.1), s.2.1, s.2.2]) (fun pre s => s.1 = clear pre row ∧ NoO s.2.1 ∧ NoO s.2.2) (s0 := (row, c4, c5)) (seqI_ok (rdS_ok rfl) rfl) rfl ⟨rfl, h4, h5⟩
    fun pre p post s hl ⟨p1, _, _⟩ => by
      have hp : p ∈ F := by rw [hl]; simp
      have hr' : RG s.1 := by rw [p1]; exact clear_rg (fun q hq => hF q (by rw [hl]; simp [hq])) hr
      have g := turn_con b (.list (F.map encF)) nm hr' (hF p hp)
      refine ⟨(clr s.1 p, .shr (.int p.1), .shr (intT p.2)), ?_, by rw [p1]; unfold clear; rw [List.foldl_append]; rfl, trivial, trivial⟩
      simp only [stepW, bindT, bindTs, wip, natD, List.set_cons_succ, List.set_cons_zero, encF]
      rw [g]
      rfl
  exact ⟨d4, d5, l3, l4, by rw [← l2]; exact l1⟩
theorem encF_at (p : Int × List Int) : encF p = .tuple [.int p.1, intT p.2] := rfl
theorem red_step (b nm : D) {F : Fd} {row : List Int} (hF : ∀ p ∈ F, RG p.2) (hr : RG (clear F row)) (hn : F.length ≤ 1000) (c4 c5 : PV.Cell) (h4 : NoO c4) (h5 : NoO c5) :
    q_reduced_7 [.shr b, .shr (.list (F.map encF)), .shr nm, .shr (intT (clear F row)), c4, c5] = .nx [.shr b, .shr (.list ((redS F row).map encF)), .shr nm, .shr (intT (clear F row)), c4, c5] := by
  have h1 : neD (intT (clear F row)) (.tuple []) = some (.bool (!(intL (clear F row)).isEmpty)) := neD_t0 (intL_nd _)
  unfold redS
  cases hc : clear F row with
  | nil =>
    rw [hc] at h1
    exact (ifS_f (tcm_ok (op2_ok (rdS_ok rfl) rfl h1))).trans rfl
  | cons h t =>
    rw [hc] at h1 hr
    refine (ifS_t (tcm_ok (op2_ok (rdS_ok rfl) rfl h1))).trans ?_
    simp only
    have hx : ixD (intT (h :: t)) (.int 0) = some (.int h) := ix_t0 _ _
    have l1 : lcE (.tp [.nm 4, .nm 5]) [4, 5] (yesT) (tupE (consA (rdS 4) (consA (ifE (tcm (op2 inD (op2 ixD (rdS 3) (PV.ret (.int 0))) (rdS 5))) (cal (f_turn) (consA (rdS 5) (consA (rdS 3) (nilA)))) (rdS 5)) (nilA)))) (seqI (rdS 1)) [.shr b, .shr (.list (F.map encF)), .shr nm, .shr (intT (h :: t)), c4, c5] = .ok (.list (F.map fun p => encF (upd1 h (h :: t) p))) [.shr b, .shr (.list (F.map encF)), .shr nm, .shr (intT (h :: t)), c4, c5] := by
      refine lcRa (l := F) encF (fun p => encF (upd1 h (h :: t) p)) (seqI_ok (rdS_ok rfl) rfl) (by cases c4 <;> first | exact h4.elim | (cases c5 <;> first | rfl | exact h5.elim)) rfl fun p hp => ?_
      refine ⟨[.shr b, .shr (.list (F.map encF)), .shr nm, .shr (intT (h :: t)), .shr (.int p.1), .shr (intT p.2)], rfl, ?_, rfl⟩
      have hi := inD_intT p.2 h
      have ht := turn_ok (hF p hp) hr
      refine tupE_ok (consA_ok (rdS_ok rfl) (consA_ok (x := intT (upd1 h (h :: t) p).2) ?_ nilA_ok)) (by show 2 ≤ sizeLine; decide)
      unfold upd1
      cases c : p.2.contains h with
      | true =>
        rw [c] at hi
        rw [if_pos rfl]
        exact (ifE_t (tcm_ok (op2_ok (op2_ok (rdS_ok rfl) rfl hx) (rdS_ok rfl) hi))).trans (cal_ok (consA_ok (rdS_ok rfl) (consA_ok (rdS_ok rfl) nilA_ok)) ht)
      | false =>
        rw [c] at hi
        rw [if_neg (by decide)]
        exact (ifE_f (tcm_ok (op2_ok (op2_ok (rdS_ok rfl) rfl hx) (rdS_ok rfl) hi))).trans (rdS_ok rfl)
    have l2 : lstE (consA (tupE (consA (op2 ixD (rdS 3) (PV.ret (.int 0))) (consA (rdS 3) (nilA)))) (nilA)) [.shr b, .shr (.list (F.map encF)), .shr nm, .shr (intT (h :: t)), c4, c5] = .ok (.list [encF (h, h :: t)]) [.shr b, .shr (.list (F.map encF)), .shr nm, .shr (intT (h :: t)), c4, c5] :=
      lstE_ok (consA_ok (tupE_ok (consA_ok (op2_ok (rdS_ok rfl) rfl hx) (consA_ok (rdS_ok rfl) nilA_ok)) (by show 2 ≤ sizeLine; decide)) nilA_ok) (by show 1 ≤ sizeLine; decide)
    refine (setS_ok (op2_ok l1 l2 (addL_ok (by rw [List.length_map]; show F.length + 1 ≤ _; omega)))).trans ?_
    rw [List.map_append, List.map_map]
    rfl
theorem redS_len (F : Fd) (row : List Int) : (redS F row).length ≤ F.length + 1 := by
  unfold redS
  cases clear F row with
  | nil => simp
  | cons h t => simp
theorem look_mem {B : Bt} (h : BOk B) {p : Str × List Int} (hp : p ∈ B) : look B p.1 = p.2 := by
  have hm : p.1 ∈ B.map (·.1) := List.mem_map_of_mem hp
  obtain ⟨p', hp', e1, e2, _⟩ := look_some hm
  rw [e2]
  have hnd := h.asc.2
  have : p' = p := by
    obtain ⟨i, hi, e⟩ := List.mem_iff_getElem.mp hp'
    obtain ⟨j, hj, e'⟩ := List.mem_iff_getElem.mp hp
    have : i = j := by
      apply (List.getElem?_inj (l := B.map (·.1)) (by simpa using hi) hnd).mp
      rw [List.getElem?_map, List.getElem?_map, List.getElem?_eq_getElem hi, List.getElem?_eq_getElem hj, e, e']
      all_goals simp [e1]
    subst this
    rw [← e, ← e']
  rw [this]
theorem reduced_ok {B : Bt} (h : BOk B) : f_reduced [bD B] = .ok (.list ((redB B).map encF)) [] := by
  obtain ⟨⟨F, d4, d5⟩, l1, l2, _⟩ := frR (l := B) (t := .nm 2) (dead := [2, 3]) (body := sq (q_reduced_3) (sq (q_reduced_4) (q_reduced_7))) (m := seqI (callD sorE (consA (rdS 0) (nilA)))) (e := [.shr (bD B), .shr (.list []), .emp, .emp, .emp, .emp]) (e1 := [.shr (bD B), .shr (.list []), .emp, .emp, .emp, .emp]) (fun p => PyData.str p.1)
    (fun s : Fd × PV.Cell × PV.Cell => [.shr (bD B), .shr (.list (s.1.map encF)), .emp, .emp, s.2.1, s.2.2]) (fun pre s => s.1 = redB pre ∧ s.1.length ≤ pre.length ∧ (∃ done, FI B done s.1) ∧ NoO s.2.1 ∧ NoO s.2.2) (s0 := ([], .emp, .emp))
    (by
      have := seqI_ok (e := [PV.Cell.shr (bD B), .shr (.list []), .emp, .emp, .emp, .emp]) (callD_ok (consA_ok (rdS_ok (i := 0) rfl) nilA_ok) (sor_b h)) (ds := strL (B.map (·.1))) rfl
      rw [this]
      unfold strL
      rw [List.map_map]
      rfl) rfl ⟨rfl, Nat.le_refl _, ⟨[], nofun, nofun, List.nodup_nil, nofun, nofun, nofun⟩, trivial, trivial⟩
    fun pre p post s hl ⟨p1, p2, ⟨done, p3⟩, p4, p5⟩ => by
      have mp : p ∈ B := by rw [hl]; simp
      have hlen : pre.length ≤ 6 := by have := h.len; rw [hl] at this; simp at this; omega
      obtain ⟨c4', c5', n4, n5, g4⟩ := red_clear (bD B) (.str p.1) p3.rg (h.rg' mp) s.2.1 s.2.2 p4 p5
      have g7 := red_step (bD B) (.str p.1) (row := p.2) p3.rg (clear_rg p3.rg (h.rg' mp)) (by omega) c4' c5' n4 n5
      have hix := ix_b (B := B) (List.mem_map_of_mem (f := fun p => p.1) mp)
      rw [look_mem h mp] at hix
      have g3 : q_reduced_3 [.shr (bD B), .shr (.list (s.1.map encF)), .shr (.str p.1), .emp, s.2.1, s.2.2] = .nx [.shr (bD B), .shr (.list (s.1.map encF)), .shr (.str p.1), .shr (intT p.2), s.2.1, s.2.2] := setS_ok (op2_ok (rdS_ok rfl) (rdS_ok rfl) hix)
      refine ⟨(redS s.1 p.2, c4', c5'), ?_, by rw [p1]; unfold redB; rw [List.foldl_append]; rfl, by rw [List.length_append]; have := redS_len s.1 p.2; show (redS s.1 p.2).length ≤ pre.length + 1; omega, ⟨_, redS_fi p3 (h.rg' mp) (Span.of_mem (List.mem_map_of_mem mp))⟩, n4, n5⟩
      simp only [stepW, bindT, bindTs, wip, natD, List.set_cons_succ, List.set_cons_zero]
      rw [sq_nx g3, sq_nx g4, g7]
      rfl
  have s1 : q_reduced_1 [.shr (bD B), .emp, .emp, .emp, .emp, .emp] = .nx [.shr (bD B), .shr (.list []), .emp, .emp, .emp, .emp] := rfl
  have s2 : q_reduced_2 [.shr (bD B), .shr (.list []), .emp, .emp, .emp, .emp] = .nx [.shr (bD B), .shr (.list (F.map encF)), .emp, .emp, d4, d5] := l1
  refine fn_rt rfl rfl (e' := [.shr (bD B), .shr (.list (F.map encF)), .emp, .emp, d4, d5]) ?_
  show d_reduced [.shr (bD B), .emp, .emp, .emp, .emp, .emp] = _
  unfold d_reduced
  rw [sq_nx s1, sq_nx s2, ← l2]
  rfl
theorem left_over_ok {B : Bt} (h : BOk B) {lit : List Int} (hl : RG lit) : f_left_over [bD B, intT lit] = .ok (intT (clear (redB B) lit)) [] := by
  have I := red_fi h
  obtain ⟨r, l1, l2⟩ := frR (l := redB B) (t := .tp [.nm 3, .nm 4]) (dead := [3, 4]) (body := q_left_over_3) (m := seqI (cal (f_reduced) (consA (rdS 0) (nilA)))) (e := [.shr (bD B), .shr (intT lit), .shr (intT lit), .emp, .emp]) (e1 := [.shr (bD B), .shr (intT lit), .shr (intT lit), .emp, .emp]) encF
    (fun r => [.shr (bD B), .shr (intT lit), .shr (intT r), .emp, .emp]) (fun pre r => r = clear pre lit) (s0 := lit) (seqI_ok (cal_ok (consA_ok (rdS_ok rfl) nilA_ok) (reduced_ok h)) rfl) rfl rfl fun pre p post r hl' p1 => by
      have hp : p ∈ redB B := by rw [hl']; simp
      have hr' : RG r := by rw [p1]; exact clear_rg (fun q hq => I.rg q (by rw [hl']; simp [hq])) hl
      have h1 := inD_intT r p.1
      have h2 := turn_ok hr' (I.rg p hp)
      have g : q_left_over_3 [.shr (bD B), .shr (intT lit), .shr (intT r), .shr (.int p.1), .shr (intT p.2)] = .nx [.shr (bD B), .shr (intT lit), .shr (intT (clr r p)), .shr (.int p.1), .shr (intT p.2)] := by
        unfold clr
        cases c : r.contains p.1 with
        | true =>
          rw [if_pos rfl]
          rw [c] at h1
          exact (ifS_t (tcm_ok (op2_ok (rdS_ok rfl) (rdS_ok rfl) h1))).trans (setS_ok (cal_ok (consA_ok (rdS_ok rfl) (consA_ok (rdS_ok rfl) nilA_ok)) h2))
        | false =>
          rw [if_neg (by decide)]
          rw [c] at h1
          exact (ifS_f (tcm_ok (op2_ok (rdS_ok rfl) (rdS_ok rfl) h1))).trans rfl
      refine ⟨clr r p, ?_, by rw [p1]; unfold clear; rw [List.foldl_append]; rfl⟩
      simp only [stepW, bindT, bindTs, wip, natD, List.set_cons_succ, List.set_cons_zero, encF]
      rw [g]
      rfl
  have s1 : q_left_over_1 [.shr (bD B), .shr (intT lit), .emp, .emp, .emp] = .nx [.shr (bD B), .shr (intT lit), .shr (intT lit), .emp, .emp] := rfl
  have s2 : q_left_over_2 [.shr (bD B), .shr (intT lit), .shr (intT lit), .emp, .emp] = .nx [.shr (bD B), .shr (intT lit), .shr (intT r), .emp, .emp] := l1
  refine fn_rt rfl rfl (e' := [.shr (bD B), .shr (intT lit), .shr (intT r), .emp, .emp]) ?_
  show d_left_over [.shr (bD B), .shr (intT lit), .emp, .emp, .emp] = _
  unfold d_left_over
  rw [sq_nx s1, sq_nx s2, ← l2]
  rfl
def paper (B : Bt) (lamp : Int) : List Int := (papL (redB B) lamp).mergeSort leZ
theorem fd_len {B : Bt} : ∀ (suf : Bt) (F : Fd), (suf.foldl (fun F p => redS F p.2) F).length ≤ F.length + suf.length
  | [], F => Nat.le_refl _
  | p :: suf, F => by
    have h1 := fd_len (B := B) suf (redS F p.2)
    have h2 := redS_len F p.2
    rw [List.foldl_cons, List.length_cons]
    omega
theorem red_len {B : Bt} (h : BOk B) : (redB B).length ≤ 6 := by
  have := fd_len (B := B) B []
  have := h.len
  unfold redB
  simp at *
  omega
theorem paper_ok {B : Bt} (h : BOk B) (lamp : Int) : f_paper_for [bD B, .int lamp] = .ok (intT (paper B lamp)) [] := by
  have l1 : lcE (.tp [.nm 2, .nm 3]) [2, 3] (tcm (op2 inD (rdS 1) (rdS 3))) (rdS 2) (seqI (cal (f_reduced) (consA (rdS 0) (nilA)))) [.shr (bD B), .shr (.int lamp), .emp, .emp] = .ok (.list (intL (((redB B).filter fun p => p.2.contains lamp).map (·.1)))) [.shr (bD B), .shr (.int lamp), .emp, .emp] := by
    refine (lcR (l := redB B) encF (fun p => p.2.contains lamp) (fun p => .int p.1) (seqI_ok (cal_ok (consA_ok (rdS_ok rfl) nilA_ok) (reduced_ok h)) rfl) rfl rfl fun p hp => ?_).trans ?_
    · refine ⟨[.shr (bD B), .shr (.int lamp), .shr (.int p.1), .shr (intT p.2)], rfl, ?_, fun _ => rfl, rfl⟩
      exact tcm_ok (op2_ok (rdS_ok rfl) (rdS_ok rfl) (inD_intT p.2 lamp))
    · unfold intL; rw [List.map_map]; rfl
  have hl := red_len h
  have h3 : addD (.list [.int lamp]) (.list (intL (((redB B).filter fun p => p.2.contains lamp).map (·.1)))) = some (.list (intL (papL (redB B) lamp))) := by
    refine addL_ok ?_
    rw [intL_len, List.length_map]
    have := List.length_filter_le (fun p : Int × List Int => p.2.contains lamp) (redB B)
    show 1 + _ ≤ _
    omega
  refine fn_rt rfl rfl (e' := [.shr (bD B), .shr (.int lamp), .emp, .emp]) ?_
  show d_paper_for [.shr (bD B), .shr (.int lamp), .emp, .emp] = _
  exact rtn_ok (callD_ok (consA_ok (callD_ok (consA_ok (op2_ok (lstE_ok (consA_ok (rdS_ok rfl) nilA_ok) (by show 1 ≤ sizeLine; decide)) l1 h3) nilA_ok) (sorE_intL _)) nilA_ok) rfl)
/-- what press_for gives -/
def pressR (B : Bt) (lit : List Int) : D := match clear (redB B) lit with
  | h :: _ => .tuple [.str "no", intT (paper B h)]
  | [] => match (ordS (B.map (·.1))).find? fun S => onL B S == lit with
    | some S => .tuple [.str "yes", stD S]
    | none => .tuple [.str "no", .tuple []]
theorem ord_names {B : Bt} {S : List Str} (h : S ∈ ordS (B.map (·.1))) : ∀ n ∈ S, n ∈ B.map (·.1) := fun n hn => (ordS_sub h).subset hn
theorem press_ok {B : Bt} (h : BOk B) {lit : List Int} (hl : RG lit) : f_press_for [bD B, intT lit] = .ok (pressR B lit) [] := by
  have h0 : f_press_for [bD B, intT lit] = outF false [] (d_press_for [.shr (bD B), .shr (intT lit), .emp, .emp]) := rfl
  have s1 : q_press_for_1 [.shr (bD B), .shr (intT lit), .emp, .emp] = .nx [.shr (bD B), .shr (intT lit), .shr (intT (clear (redB B) lit)), .emp] := setS_ok (cal_ok (consA_ok (rdS_ok rfl) (consA_ok (rdS_ok rfl) nilA_ok)) (left_over_ok h hl))
  have h1 : neD (intT (clear (redB B) lit)) (.tuple []) = some (.bool (!(intL (clear (redB B) lit)).isEmpty)) := neD_t0 (intL_nd _)
  rw [h0]
  unfold d_press_for
  rw [sq_nx s1]
  unfold pressR
  cases hc : clear (redB B) lit with
  | cons x t =>
    rw [hc] at h1
    have hx : ixD (intT (x :: t)) (.int 0) = some (.int x) := ix_t0 _ _
    have s2 : q_press_for_2 [.shr (bD B), .shr (intT lit), .shr (intT (x :: t)), .emp] = .rt (.tuple [.str "no", intT (paper B x)]) [.shr (bD B), .shr (intT lit), .shr (intT (x :: t)), .emp] :=
      (ifS_t (tcm_ok (op2_ok (rdS_ok rfl) rfl h1))).trans (rtn_ok (tupE_ok (consA_ok rfl (consA_ok (cal_ok (consA_ok (rdS_ok rfl) (consA_ok (op2_ok (rdS_ok rfl) rfl hx) nilA_ok)) (paper_ok h x)) nilA_ok)) (by show 2 ≤ sizeLine; decide)))
    rw [sq_rt s2]
    rfl
  | nil =>
    rw [hc] at h1
    have s2 : q_press_for_2 [.shr (bD B), .shr (intT lit), .shr (intT []), .emp] = .nx [.shr (bD B), .shr (intT lit), .shr (intT []), .emp] := (ifS_f (tcm_ok (op2_ok (rdS_ok rfl) rfl h1))).trans rfl
    rw [sq_nx s2]
    have key := frFind (l := ordS (B.map (·.1))) (t := .nm 3) (dead := [3]) (body := q_press_for_5) (m := seqI (cal (f_all_sets) (consA (callD sorE (consA (rdS 0) (nilA))) (nilA)))) (e := [.shr (bD B), .shr (intT lit), .shr (intT []), .emp]) (e1 := [.shr (bD B), .shr (intT lit), .shr (intT []), .emp]) stD (fun S => onL B S == lit) (fun S => .tuple [.str "yes", stD S])
      (seqI_ok (cal_ok (consA_ok (callD_ok (consA_ok (rdS_ok rfl) nilA_ok) (sor_b h)) nilA_ok) (all_sets_ok (by rw [List.length_map]; have := h.len; omega))) rfl) fun S hS => by
        have hp := pressed_ok h (ord_names hS)
        rw [pL_eq h (ord_names hS)] at hp
        have he := eqD_intT (onL B S) lit
        cases c : (onL B S == lit) with
        | true =>
          rw [c] at he
          rw [if_pos rfl]
          have g : q_press_for_5 [.shr (bD B), .shr (intT lit), .shr (intT []), .shr (stD S)] = .rt (.tuple [.str "yes", stD S]) [.shr (bD B), .shr (intT lit), .shr (intT []), .shr (stD S)] :=
            (ifS_t (tcm_ok (op2_ok (cal_ok (consA_ok (rdS_ok rfl) (consA_ok (rdS_ok rfl) nilA_ok)) hp) (rdS_ok rfl) he))).trans (rtn_ok (tupE_ok (consA_ok rfl (consA_ok (rdS_ok rfl) nilA_ok)) (by show 2 ≤ sizeLine; decide)))
          simp only [stepW, bindT, bindTs, wip, natD, List.set_cons_succ, List.set_cons_zero]
          rw [g]
          rfl
        | false =>
          rw [c] at he
          rw [if_neg (by decide)]
          have g : q_press_for_5 [.shr (bD B), .shr (intT lit), .shr (intT []), .shr (stD S)] = .nx [.shr (bD B), .shr (intT lit), .shr (intT []), .shr (stD S)] :=
            (ifS_f (tcm_ok (op2_ok (cal_ok (consA_ok (rdS_ok rfl) (consA_ok (rdS_ok rfl) nilA_ok)) hp) (rdS_ok rfl) he))).trans rfl
          simp only [stepW, bindT, bindTs, wip, natD, List.set_cons_succ, List.set_cons_zero]
          rw [g]
          rfl
    simp only
    cases hf : (ordS (B.map (·.1))).find? fun S => onL B S == lit with
    | some S =>
      rw [hf] at key
      obtain ⟨e3, key⟩ := key
      have s4 : q_press_for_4 [.shr (bD B), .shr (intT lit), .shr (intT []), .emp] = .rt (.tuple [.str "yes", stD S]) e3 := key
      rw [sq_rt s4]
      rfl
    | none =>
      rw [hf] at key
      have s4 : q_press_for_4 [.shr (bD B), .shr (intT lit), .shr (intT []), .emp] = .nx [.shr (bD B), .shr (intT lit), .shr (intT []), .emp] := key
      rw [sq_nx s4]
      rfl
end L_rungward_k72_presses_for_lamps
namespace L_rungward_k72_presses_for_lamps
open PySem PySem.Spec PV
theorem contains_len {A P : List Int} (ha : A.Nodup) (hp : P.Nodup) : (A.filter P.contains).length = (P.filter A.contains).length := by
  refine List.Perm.length_eq ((List.perm_ext_iff_of_nodup (ha.filter _) (hp.filter _)).mpr fun x => ?_)
  rw [List.mem_filter, List.mem_filter, List.contains_iff_mem, List.contains_iff_mem]
  exact ⟨fun z => ⟨z.2, z.1⟩, fun z => ⟨z.2, z.1⟩⟩
/-- how the laws count -/
def par (A P : List Int) : Bool := (A.filter P.contains).length % 2 == 1
theorem par_odd {A P : List Int} (ha : A.Nodup) (hp : P.Nodup) : par A P = odd P A.contains := by
  unfold par odd
  rw [contains_len ha hp]
structure Rest (B : Bt) (lit : List Int) (x : Int) : Prop where
  nd : (papL (redB B) x).Nodup
  bt : ∀ p ∈ B, odd (papL (redB B) x) p.2.contains = false
  lit : odd (papL (redB B) x) lit.contains = true
theorem rest_of {B : Bt} (h : BOk B) {lit : List Int} (hl : RG lit) {x : Int} {t : List Int} (hc : clear (redB B) lit = x :: t) : Rest B lit x := by
  have I := red_fi h
  have hlead := clear_lead I.nd I.ld I.un lit
  have hrg := clear_rg I.rg hl
  rw [hc] at hlead hrg
  have hx : ∀ p ∈ redB B, p.1 ≠ x := fun p hp e => by
    have := hlead p hp
    rw [e] at this
    simp at this
  have hev : ∀ r ∈ (redB B).map (·.2), odd (papL (redB B) x) r.contains = false := fun r hr => by
    obtain ⟨p, hp, rfl⟩ := List.mem_map.mp hr
    exact pap_even I hx hp
  refine ⟨?_, fun p hp => span_odd hev (I.cov p.2 (List.mem_map_of_mem hp)), ?_⟩
  · refine List.nodup_cons.mpr ⟨fun hm => ?_, (List.filter_sublist.map _).nodup I.nd⟩
    obtain ⟨p, hp, e⟩ := List.mem_map.mp hm
    exact hx p (List.mem_filter.mp hp).1 e
  · obtain ⟨g, sg, eg⟩ := clear_span ((redB B).map (·.2)) lit (F := redB B) fun p hp => List.mem_map_of_mem hp
    rw [hc] at eg
    rw [odd_xor eg, span_odd hev sg, Bool.xor_false]
    unfold odd papL
    have e2 : ((redB B).filter fun p => p.2.contains x).map (·.1) = ((redB B).filter fun p => p.2.contains x).map (·.1) := rfl
    have e3 : (((redB B).filter fun p => p.2.contains x).map (·.1)).filter (x :: t).contains = [] := List.filter_eq_nil_iff.mpr fun y hy => by
      obtain ⟨p, hp, rfl⟩ := List.mem_map.mp hy
      rw [hlead p (List.mem_filter.mp hp).1]
      decide
    rw [List.filter_cons, if_pos (by simp), e3]
    rfl
theorem span_on {B : Bt} : ∀ {S : List Str}, (∀ n ∈ S, n ∈ B.map (·.1)) → Span (B.map (·.2)) (onB B S)
  | [], _ => .zero fun x => rfl
  | n :: S, h => by
    obtain ⟨p, hp, _, e2, _⟩ := look_some (h n List.mem_cons_self)
    refine .add (span_on fun m hm => h m (List.mem_cons_of_mem _ hm)) (List.mem_map_of_mem (f := fun p => p.2) hp) fun x => ?_
    rw [onB_cons, e2, Bool.xor_comm]
theorem no_rest {B : Bt} (h : BOk B) {lit : List Int} (hl : RG lit) {S : List Str} (hS : ∀ n ∈ S, n ∈ B.map (·.1)) (e : onL B S = lit) : clear (redB B) lit = [] := by
  cases hc : clear (redB B) lit with
  | nil => rfl
  | cons x t =>
    have R := rest_of h hl hc
    have s := span_on hS
    have := span_odd (P := papL (redB B) x) (fun r hr => by
      obtain ⟨p, hp, rfl⟩ := List.mem_map.mp hr
      exact R.bt p hp) s
    have e2 : odd (papL (redB B) x) lit.contains = odd (papL (redB B) x) (onB B S) := by
      unfold odd
      congr 3
      apply List.filter_congr
      intro y _
      rw [← e, onL_con h hS]
    rw [R.lit, this] at e2
    cases e2
theorem have_set {B : Bt} (h : BOk B) {lit : List Int} (hp : PW lit) (hc : clear (redB B) lit = []) : ∃ S ∈ ordS (B.map (·.1)), onL B S = lit := by
  have I := red_fi h
  obtain ⟨g, sg, eg⟩ := clear_span ((redB B).map (·.2)) lit (F := redB B) fun p hp => List.mem_map_of_mem hp
  rw [hc] at eg
  obtain ⟨t, ht⟩ := span_set h (sg.trans fun r hr => by
    obtain ⟨p, hp, rfl⟩ := List.mem_map.mp hr
    exact I.sp p hp)
  have hm := filter_allS t (B.map (·.1))
  refine ⟨_, ordS_mem.mpr hm, pw_ext' (onL_pw B _) hp fun x => ?_⟩
  rw [onL_con h (ord_names (ordS_mem.mpr hm)), ht, eg]
  simp
/-! papers -/
def tellB (B : Bt) (lit P : List Int) : Bool := decide (P.Pairwise (· < ·)) && ((B.all fun p => !par p.2 P) && par lit P)
theorem once_pw (P : List Int) : PW (onceZ P) := merge_pw (ddZ_nd P)
theorem once_eq (P : List Int) : (P == onceZ P) = decide (P.Pairwise (· < ·)) := by
  rw [Bool.eq_iff_iff, beq_iff_eq, decide_eq_true_eq]
  constructor
  · intro e; rw [e]; exact once_pw P
  · intro h; exact pw_ext h (once_pw P) fun x => onceZ_mem.symm
theorem len_mod {k : Nat} : (((k : Int) % 2) == 1) = (k % 2 == 1) := by
  rw [Bool.eq_iff_iff]; simp; omega
theorem ssZ_T {P : List Int} (h : P.length ≤ 4000) : ssZ (intT P) = some (.list (intL (onceZ P))) := by
  show ((intsD (intL P)).bind fun ss => if decide (ss.length + 1 < scanBound) = true then some (PyData.list ((onceZ ss).map .int)) else none) = _
  rw [intsD_L]
  show (if decide (P.length + 1 < scanBound) = true then some (PyData.list ((onceZ P).map .int)) else none) = _
  rw [if_pos (decide_eq_true (show P.length + 1 < scanBound by show P.length + 1 < 4096; omega))]; rfl
theorem neD_intL (S T : List Int) : neD (.list (intL S)) (.list (intL T)) = some (.bool (!(S == T))) := by
  have c : eqOk (.list (intL S)) (.list (intL T)) = true := by
    show (noDicts (intL S) && noDicts (intL T) && decide (min (PyData.depthAll (intL S) + 1) (PyData.depthAll (intL T) + 1) ≤ 64)) = true
    rw [intL_nd, intL_nd, intL_dep, intL_dep]; rfl
  unfold neD
  rw [if_pos c]
  show some (PyData.bool (!PyData.eqvAll (intL S) (intL T))) = _
  rw [eqvAll_int]
theorem boolsD_map {α : Type} (f : α → Bool) : ∀ l : List α, boolsD (l.map fun a => PyData.bool (f a)) = some (l.map f)
  | [] => rfl
  | a :: r => by
    show (boolsD (r.map fun a => PyData.bool (f a))).map (f a :: ·) = _
    rw [boolsD_map f r]; rfl
theorem keys_b {B : Bt} (h : BOk B) : keysD (B.map fun p => (PyData.str p.1, intT p.2)) = some (B.map fun p => PyData.str p.1) := by
  have hl := h.len
  unfold keysD
  rw [if_pos ⟨List.all_eq_true.mpr fun e he => by
    obtain ⟨p, hp, rfl⟩ := List.mem_map.mp he
    exact h.ok p hp, by rw [List.length_map]; unfold sizeLine; omega⟩, List.map_map]
  rfl
theorem is_no_ok {B : Bt} (h : BOk B) {lit P : List Int} (hP : P.length ≤ 4000) : f_is_no_press [bD B, intT lit, intT P] = .ok (.bool (tellB B lit P)) [] := by
  have h0 : f_is_no_press [bD B, intT lit, intT P] = outF false [] (d_is_no_press [.shr (bD B), .shr (intT lit), .shr (intT P), .emp, .emp]) := rfl
  rw [h0]
  have n1 := neD_intL P (onceZ P)
  rw [once_eq] at n1
  unfold tellB d_is_no_press
  cases c : decide (P.Pairwise (· < ·)) with
  | false =>
    rw [c] at n1
    have s1 : q_is_no_press_1 [.shr (bD B), .shr (intT lit), .shr (intT P), .emp, .emp] = .rt (.bool false) [.shr (bD B), .shr (intT lit), .shr (intT P), .emp, .emp] :=
      (ifS_t (orT_ok (ka := false) (kb := true) (notI_tup (m := rdS 2) rfl) fun _ => tcm_ok (op2_ok (callD_ok (consA_ok (rdS_ok rfl) nilA_ok) (lisD_t _)) (op1_ok (rdS_ok rfl) (ssZ_T hP)) n1))).trans rfl
    rw [sq_rt s1]; rfl
  | true =>
    rw [c] at n1
    have s1 : q_is_no_press_1 [.shr (bD B), .shr (intT lit), .shr (intT P), .emp, .emp] = .nx [.shr (bD B), .shr (intT lit), .shr (intT P), .emp, .emp] :=
      (ifS_f (orT_ok (ka := false) (kb := false) (notI_tup (m := rdS 2) rfl) fun _ => tcm_ok (op2_ok (callD_ok (consA_ok (rdS_ok rfl) nilA_ok) (lisD_t _)) (op1_ok (rdS_ok rfl) (ssZ_T hP)) n1))).trans rfl
    rw [sq_nx s1]
    have cnt : ∀ (A : List Int) (m : M D) (c3 : PV.Cell), m [.shr (bD B), .shr (intT lit), .shr (intT P), c3, .emp] = .ok (intT A) [.shr (bD B), .shr (intT lit), .shr (intT P), c3, .emp] →
        op2 eqD (op2 modD (callD lenD (consA (lcE (.nm 4) [4] (tcm (op2 inD (rdS 4) (rdS 2))) (rdS 4) (seqI m)) (nilA))) (PV.ret (.int 2))) (PV.ret (.int 1)) [.shr (bD B), .shr (intT lit), .shr (intT P), c3, .emp] = .ok (.bool (par A P)) [.shr (bD B), .shr (intT lit), .shr (intT P), c3, .emp] := fun A m c3 hm => by
      have l1 : lcE (.nm 4) [4] (tcm (op2 inD (rdS 4) (rdS 2))) (rdS 4) (seqI m) [.shr (bD B), .shr (intT lit), .shr (intT P), c3, .emp] = .ok (.list (intL (A.filter P.contains))) [.shr (bD B), .shr (intT lit), .shr (intT P), c3, .emp] :=
        flt_int P.contains (by simp) (seqI_ok hm rfl) rfl fun x _ => tcm_ok (op2_ok (rdS_ok rfl) (rdS_ok rfl) (inD_intT P x))
      refine op2_ok (op2_ok (callD_ok (consA_ok l1 nilA_ok) (lenD_l _)) rfl (mod_ok (by omega))) rfl ?_
      rw [eqD_int, intL_len, len_mod]
      rfl
    have l3 : lcE (.nm 3) [3] (yesT) (op2 eqD (op2 modD (callD lenD (consA (lcE (.nm 4) [4] (tcm (op2 inD (rdS 4) (rdS 2))) (rdS 4) (seqI (op2 ixD (rdS 0) (rdS 3)))) (nilA))) (PV.ret (.int 2))) (PV.ret (.int 1))) (seqK 0) [.shr (bD B), .shr (intT lit), .shr (intT P), .emp, .emp] = .ok (.list (B.map fun p => .bool (par p.2 P))) [.shr (bD B), .shr (intT lit), .shr (intT P), .emp, .emp] := by
      refine lcRa (l := B) (fun p => PyData.str p.1) (fun p => .bool (par p.2 P)) (seqK_ok rfl (keys_b h)) rfl rfl fun p hp => ?_
      refine ⟨[.shr (bD B), .shr (intT lit), .shr (intT P), .shr (.str p.1), .emp], rfl, ?_, rfl⟩
      have hix := ix_b (B := B) (List.mem_map_of_mem (f := fun p => p.1) hp)
      rw [look_mem h hp] at hix
      exact cnt p.2 _ _ (op2_ok (rdS_ok rfl) (rdS_ok rfl) hix)
    have ha : anyD [.list (B.map fun p => .bool (par p.2 P))] = some (.bool (B.any fun p => par p.2 P)) := by
      show (boolsD _).map _ = _
      rw [boolsD_map]
      show some (PyData.bool ((B.map fun p => par p.2 P).any id)) = _
      rw [List.any_map]; rfl
    have hq : (B.all fun p => !par p.2 P) = !(B.any fun p => par p.2 P) := by rw [List.not_any_eq_all_not]
    rw [hq]
    cases k : (B.any fun p => par p.2 P) with
    | true =>
      rw [k] at ha
      have s3 : q_is_no_press_3 [.shr (bD B), .shr (intT lit), .shr (intT P), .emp, .emp] = .rt (.bool false) [.shr (bD B), .shr (intT lit), .shr (intT P), .emp, .emp] := (ifS_t (tru_ok (callD_ok (consA_ok l3 nilA_ok) ha) rfl)).trans rfl
      rw [sq_rt s3]; rfl
    | false =>
      rw [k] at ha
      have s3 : q_is_no_press_3 [.shr (bD B), .shr (intT lit), .shr (intT P), .emp, .emp] = .nx [.shr (bD B), .shr (intT lit), .shr (intT P), .emp, .emp] := (ifS_f (tru_ok (callD_ok (consA_ok l3 nilA_ok) ha) rfl)).trans rfl
      rw [sq_nx s3]
      have s5 : q_is_no_press_5 [.shr (bD B), .shr (intT lit), .shr (intT P), .emp, .emp] = .rt (.bool (par lit P)) [.shr (bD B), .shr (intT lit), .shr (intT P), .emp, .emp] := rtn_ok (cnt lit _ _ (rdS_ok rfl))
      rw [s5]
      rfl
theorem asc_idx : ∀ P : List Int, ((List.range (P.length - 1)).filter fun i => decide (P.getD (i + 1) 0 ≤ P.getD i 0)) = [] ↔ P.Pairwise (· < ·)
  | [] => by simp
  | [x] => by simp
  | x :: y :: r => by
    have ih := asc_idx (y :: r)
    have e1 : (x :: y :: r).length - 1 = ((y :: r).length - 1) + 1 := by simp
    rw [e1, List.range_succ_eq_map, List.filter_cons]
    have e2 : (List.map Nat.succ (List.range ((y :: r).length - 1))).filter (fun i => decide ((x :: y :: r).getD (i + 1) 0 ≤ (x :: y :: r).getD i 0)) = ((List.range ((y :: r).length - 1)).filter fun i => decide ((y :: r).getD (i + 1) 0 ≤ (y :: r).getD i 0)).map Nat.succ := by
      rw [List.filter_map]; rfl
    rw [e2]
    by_cases c : y ≤ x
    · have : decide ((x :: y :: r).getD (0 + 1) 0 ≤ (x :: y :: r).getD 0 0) = true := decide_eq_true c
      rw [if_pos this]
      constructor
      · intro z; cases z
      · intro z
        have := (List.pairwise_cons.mp z).1 y List.mem_cons_self
        omega
    · have : decide ((x :: y :: r).getD (0 + 1) 0 ≤ (x :: y :: r).getD 0 0) = false := decide_eq_false c
      rw [this, if_neg (by decide), List.map_eq_nil_iff, ih]
      constructor
      · intro z
        refine List.pairwise_cons.mpr ⟨fun w hw => ?_, z⟩
        rcases List.mem_cons.mp hw with rfl | hw
        · omega
        · have := (List.pairwise_cons.mp z).1 w hw
          omega
      · intro z; exact (List.pairwise_cons.mp z).2
/-! the law's own judging -/
theorem getD_ix {P : List Int} {i : Nat} (h : i < P.length) : ixD (intT P) (.int (i : Int)) = some (.int (P.getD i 0)) := intT_at (by rw [List.getD_eq_getElem?_getD, List.getElem?_eq_getElem h]; rfl)
theorem tells_ok {B : Bt} (h : BOk B) {lit P : List Int} (hP : P.length ≤ 4000) : f__law_tells [bD B, intT lit, intT P] = .ok (.bool (tellB B lit P)) [] := by
  have h0 : f__law_tells [bD B, intT lit, intT P] = outF false [] (d__law_tells [.shr (bD B), .shr (intT lit), .shr (intT P), .emp, .emp, .emp, .emp]) := by unfold f__law_tells; rw [fnD_ok (by rfl)]; rfl
  rw [h0]
  have l1 : lcE (.nm 4) [4] (orT (notT (tru (isiE "int" (rdS 4)))) (tru (isiE "bool" (rdS 4)))) (rdS 4) (seqI (rdS 2)) [.shr (bD B), .shr (intT lit), .shr (intT P), .emp, .emp, .emp, .emp] = .ok (.list []) [.shr (bD B), .shr (intT lit), .shr (intT P), .emp, .emp, .emp, .emp] :=
    lcN (l := P) PyData.int (seqI_ok (rdS_ok rfl) rfl) rfl rfl fun x _ => ⟨_, rfl, rfl, rfl⟩
  have s1 : q__law_tells_1 [.shr (bD B), .shr (intT lit), .shr (intT P), .emp, .emp, .emp, .emp] = .nx [.shr (bD B), .shr (intT lit), .shr (intT P), .emp, .emp, .emp, .emp] :=
    (ifS_f (orT_ok (ka := false) (kb := false) (notI_tup (m := rdS 2) rfl) fun _ => tcm_ok (op2_ok l1 rfl rfl))).trans rfl
  unfold tellB d__law_tells
  rw [sq_nx s1]
  have hr : rngI1 (consA (op2 subD (callD lenD (consA (rdS 2) (nilA))) (PV.ret (.int 1))) (nilA)) [.shr (bD B), .shr (intT lit), .shr (intT P), .emp, .emp, .emp, .emp] = .ok ((List.range (P.length - 1)).map natD) [.shr (bD B), .shr (intT lit), .shr (intT P), .emp, .emp, .emp, .emp] := by
    have hl : callD lenD (consA (rdS 2) (nilA)) [.shr (bD B), .shr (intT lit), .shr (intT P), .emp, .emp, .emp, .emp] = .ok (.int P.length) [.shr (bD B), .shr (intT lit), .shr (intT P), .emp, .emp, .emp, .emp] := callD_ok (consA_ok (rdS_ok rfl) nilA_ok) (by unfold intT; rw [lenD_t, intL_len])
    have hs : op2 subD (callD lenD (consA (rdS 2) (nilA))) (PV.ret (.int 1)) [.shr (bD B), .shr (intT lit), .shr (intT P), .emp, .emp, .emp, .emp] = .ok (.int ((P.length : Int) - 1)) [.shr (bD B), .shr (intT lit), .shr (intT P), .emp, .emp, .emp, .emp] := op2_ok hl rfl rfl
    by_cases c : P.length = 0
    · refine (rngI1_ok (n := (P.length : Int) - 1) (consA_ok hs nilA_ok) (by omega) (by omega)).trans ?_
      rw [c]; rfl
    · refine (rngN_ok (n := P.length - 1) (consA_ok (x := .int ((P.length - 1 : Nat) : Int)) ?_ nilA_ok) (by omega))
      rw [hs]
      congr 2
      omega
  have l3 : lcE (.nm 5) [5] (tcm (op2 geD (op2 ixD (rdS 2) (rdS 5)) (op2 ixD (rdS 2) (op2 addD (rdS 5) (PV.ret (.int 1)))))) (rdS 5) (rngI1 (consA (op2 subD (callD lenD (consA (rdS 2) (nilA))) (PV.ret (.int 1))) (nilA))) [.shr (bD B), .shr (intT lit), .shr (intT P), .emp, .emp, .emp, .emp] = .ok (.list (((List.range (P.length - 1)).filter fun i => decide (P.getD (i + 1) 0 ≤ P.getD i 0)).map natD)) [.shr (bD B), .shr (intT lit), .shr (intT P), .emp, .emp, .emp, .emp] := by
    refine lcR (l := List.range (P.length - 1)) natD _ natD hr rfl rfl fun i hi => ?_
    refine ⟨_, rfl, ?_, fun _ => rfl, rfl⟩
    have hi' := List.mem_range.mp hi
    exact tcm_ok (op2_ok (op2_ok (rdS_ok rfl) (rdS_ok rfl) (getD_ix (by omega))) (op2_ok (rdS_ok rfl) (op2_ok (rdS_ok rfl) rfl rfl) (getD_ix (i := i + 1) (by omega))) rfl)
  have nat_nd : ∀ l : List Nat, noDicts (l.map natD) = true := fun l => nds_all fun d hd => by
    obtain ⟨x, _, rfl⟩ := List.mem_map.mp hd
    rfl
  have n3 := neD_l0 (nat_nd ((List.range (P.length - 1)).filter fun i => decide (P.getD (i + 1) 0 ≤ P.getD i 0)))
  rw [List.isEmpty_map] at n3
  have hasc := asc_idx P
  cases c : decide (P.Pairwise (· < ·)) with
  | false =>
    have : ((List.range (P.length - 1)).filter fun i => decide (P.getD (i + 1) 0 ≤ P.getD i 0)).isEmpty = false := by
      rw [Bool.eq_false_iff]
      intro z
      exact of_decide_eq_false c (hasc.mp (List.isEmpty_iff.mp z))
    rw [this] at n3
    have s3 : q__law_tells_3 [.shr (bD B), .shr (intT lit), .shr (intT P), .emp, .emp, .emp, .emp] = .rt (.bool false) [.shr (bD B), .shr (intT lit), .shr (intT P), .emp, .emp, .emp, .emp] := (ifS_t (tcm_ok (op2_ok l3 rfl n3))).trans rfl
    rw [sq_rt s3]
    rfl
  | true =>
    have : ((List.range (P.length - 1)).filter fun i => decide (P.getD (i + 1) 0 ≤ P.getD i 0)).isEmpty = true := List.isEmpty_iff.mpr (hasc.mpr (of_decide_eq_true c))
    rw [this] at n3
    have s3 : q__law_tells_3 [.shr (bD B), .shr (intT lit), .shr (intT P), .emp, .emp, .emp, .emp] = .nx [.shr (bD B), .shr (intT lit), .shr (intT P), .emp, .emp, .emp, .emp] := (ifS_f (tcm_ok (op2_ok l3 rfl n3))).trans rfl
    rw [sq_nx s3]
    have cnt : ∀ (A : List Int) (m : M D) (c3 c6 : PV.Cell), m [.shr (bD B), .shr (intT lit), .shr (intT P), c3, .emp, .emp, c6] = .ok (intT A) [.shr (bD B), .shr (intT lit), .shr (intT P), c3, .emp, .emp, c6] →
        op2 eqD (op2 modD (callD intD (consA (callD lenD (consA (lcE (.nm 4) [4] (tcm (op2 inD (rdS 4) (rdS 2))) (rdS 4) (seqI m)) (nilA))) (nilA))) (PV.ret (.int 2))) (PV.ret (.int 1)) [.shr (bD B), .shr (intT lit), .shr (intT P), c3, .emp, .emp, c6] = .ok (.bool (par A P)) [.shr (bD B), .shr (intT lit), .shr (intT P), c3, .emp, .emp, c6] := fun A m c3 c6 hm => by
      have l1 : lcE (.nm 4) [4] (tcm (op2 inD (rdS 4) (rdS 2))) (rdS 4) (seqI m) [.shr (bD B), .shr (intT lit), .shr (intT P), c3, .emp, .emp, c6] = .ok (.list (intL (A.filter P.contains))) [.shr (bD B), .shr (intT lit), .shr (intT P), c3, .emp, .emp, c6] :=
        flt_int P.contains (by simp) (seqI_ok hm rfl) rfl fun x _ => tcm_ok (op2_ok (rdS_ok rfl) (rdS_ok rfl) (inD_intT P x))
      refine op2_ok (op2_ok (callD_ok (consA_ok (callD_ok (consA_ok l1 nilA_ok) (lenD_l _)) nilA_ok) rfl) rfl (mod_ok (by omega))) rfl ?_
      rw [eqD_int, intL_len, len_mod]
      rfl
    have l5 : lcE (.nm 6) [6] (tcm (op2 eqD (op2 modD (callD intD (consA (callD lenD (consA (lcE (.nm 4) [4] (tcm (op2 inD (rdS 4) (rdS 2))) (rdS 4) (seqI (op2 ixD (rdS 0) (rdS 6)))) (nilA))) (nilA))) (PV.ret (.int 2))) (PV.ret (.int 1)))) (rdS 6) (seqK 0) [.shr (bD B), .shr (intT lit), .shr (intT P), .emp, .emp, .emp, .emp] = .ok (.list ((B.filter fun p => par p.2 P).map fun p => .str p.1)) [.shr (bD B), .shr (intT lit), .shr (intT P), .emp, .emp, .emp, .emp] := by
      refine lcR (l := B) (fun p => PyData.str p.1) (fun p => par p.2 P) (fun p => .str p.1) (seqK_ok rfl (keys_b h)) rfl rfl fun p hp => ?_
      refine ⟨[.shr (bD B), .shr (intT lit), .shr (intT P), .emp, .emp, .emp, .shr (.str p.1)], rfl, ?_, fun _ => rfl, rfl⟩
      have hix := ix_b (B := B) (List.mem_map_of_mem (f := fun p => p.1) hp)
      rw [look_mem h hp] at hix
      exact tcm_ok (cnt p.2 _ _ _ (op2_ok (rdS_ok rfl) (rdS_ok rfl) hix))
    have s5 : q__law_tells_5 [.shr (bD B), .shr (intT lit), .shr (intT P), .emp, .emp, .emp, .emp] = .nx [.shr (bD B), .shr (intT lit), .shr (intT P), .shr (.list ((B.filter fun p => par p.2 P).map fun p => .str p.1)), .emp, .emp, .emp] := setS_ok l5
    rw [sq_nx s5]
    have nd5 : noDicts ((B.filter fun p => par p.2 P).map fun p => PyData.str p.1) = true := nds_all fun d hd => by
      obtain ⟨x, _, rfl⟩ := List.mem_map.mp hd
      rfl
    have e6 := eqD_l0 nd5
    rw [List.isEmpty_map] at e6
    have hq : (B.filter fun p => par p.2 P).isEmpty = (B.all fun p => !par p.2 P) := by
      rw [Bool.eq_iff_iff, List.isEmpty_iff, List.filter_eq_nil_iff, List.all_eq_true]
      exact ⟨fun z p hp => by simpa using z p hp, fun z p hp => by simpa using z p hp⟩
    rw [hq] at e6
    have s6 : q__law_tells_6 [.shr (bD B), .shr (intT lit), .shr (intT P), .shr (.list ((B.filter fun p => par p.2 P).map fun p => .str p.1)), .emp, .emp, .emp] = .rt (.bool ((B.all fun p => !par p.2 P) && par lit P)) [.shr (bD B), .shr (intT lit), .shr (intT P), .shr (.list ((B.filter fun p => par p.2 P).map fun p => .str p.1)), .emp, .emp, .emp] := by
      refine rtn_ok ?_
      have a1 : op2 eqD (rdS 3) (lstE (nilA)) [.shr (bD B), .shr (intT lit), .shr (intT P), .shr (.list ((B.filter fun p => par p.2 P).map fun p => .str p.1)), .emp, .emp, .emp] = .ok (.bool (B.all fun p => !par p.2 P)) [.shr (bD B), .shr (intT lit), .shr (intT P), .shr (.list ((B.filter fun p => par p.2 P).map fun p => .str p.1)), .emp, .emp, .emp] := op2_ok (rdS_ok rfl) rfl e6
      cases k : (B.all fun p => !par p.2 P) with
      | true =>
        rw [k] at a1
        exact (andV_t a1).trans (cnt lit _ _ _ (rdS_ok rfl))
      | false =>
        rw [k] at a1
        exact andV_f a1
    rw [s6]
    rfl
theorem is_no_other {B lit d : D} (h : isT "tuple" d = false) : f_is_no_press [B, lit, d] = .ok (.bool false) [] := by
  have h0 : f_is_no_press [B, lit, d] = outF false [] (d_is_no_press [.shr B, .shr lit, .shr d, .emp, .emp]) := rfl
  have hi : isiE "tuple" (rdS 2) [.shr B, .shr lit, .shr d, .emp, .emp] = .ok (.bool false) [.shr B, .shr lit, .shr d, .emp, .emp] := by
    show Res.ok (PyData.bool (isT "tuple" d)) _ = _
    rw [h]
  have s1 : q_is_no_press_1 [.shr B, .shr lit, .shr d, .emp, .emp] = .rt (.bool false) [.shr B, .shr lit, .shr d, .emp, .emp] := (ifS_t (orT_t (notT_ok (kb := false) (tru_ok hi rfl)))).trans rfl
  rw [h0]
  unfold d_is_no_press
  rw [sq_rt s1]
  rfl
theorem tells_other {B lit d : D} (h : isT "tuple" d = false) : f__law_tells [B, lit, d] = .ok (.bool false) [] := by
  have h0 : f__law_tells [B, lit, d] = outF false [] (d__law_tells [.shr B, .shr lit, .shr d, .emp, .emp, .emp, .emp]) := by unfold f__law_tells; rw [fnD_ok (by rfl)]; rfl
  have hi : isiE "tuple" (rdS 2) [.shr B, .shr lit, .shr d, .emp, .emp, .emp, .emp] = .ok (.bool false) [.shr B, .shr lit, .shr d, .emp, .emp, .emp, .emp] := by
    show Res.ok (PyData.bool (isT "tuple" d)) _ = _
    rw [h]
  have s1 : q__law_tells_1 [.shr B, .shr lit, .shr d, .emp, .emp, .emp, .emp] = .rt (.bool false) [.shr B, .shr lit, .shr d, .emp, .emp, .emp, .emp] := (ifS_t (orT_t (notT_ok (kb := false) (tru_ok hi rfl)))).trans rfl
  rw [h0]
  unfold d__law_tells
  rw [sq_rt s1]
  rfl
end L_rungward_k72_presses_for_lamps
namespace L_rungward_k72_presses_for_lamps
open PySem PySem.Spec PV
theorem putS_ok2 {e e1 : EnvD} {k : Nat} {mi mv : M D} {o o' i v : D} (hv : mv e = .ok v e1) (h : e1[k]? = some (.own o)) (hi : mi e1 = .ok i e1) (hp : putD o i v = some o') : putS k mi mv e = .nx (e1.set k (.own o')) := by
  unfold putS
  rw [thenS_ok hv, h]
  simp only [thenS_ok hi, h, hp]
def N6 : List Str := ["a", "b2", "c", "k", "m", "z"]
theorem N6_asc : Asc N6 := by
  constructor
  · unfold N6
    simp only [List.pairwise_cons, List.mem_cons, List.not_mem_nil, or_false]
    refine ⟨?_, ?_, ?_, ?_, ?_, ?_, .nil⟩ <;> (intro x hx; (try (rcases hx with rfl | rfl | rfl | rfl | rfl <;> decide +kernel)); (try (rcases hx with rfl | rfl | rfl | rfl <;> decide +kernel)); (try (rcases hx with rfl | rfl | rfl <;> decide +kernel)); (try (rcases hx with rfl | rfl <;> decide +kernel)); (try (rcases hx with rfl; decide +kernel)); (try exact hx.elim))
  · unfold N6; decide +kernel
theorem N6_ok : ∀ x ∈ N6, PyData.strOk x = true := by
  unfold N6
  decide +kernel
def rowsL : List (List Int) := [[0, 1, 2, 3, 4, 5], [0, 1, 2], [2, 7, 30]]
theorem rows_ok : ∀ R ∈ rowsL, PW R ∧ ∀ x ∈ R, 0 ≤ x ∧ x < 31 := by
  unfold rowsL PW
  decide
theorem sub_int {out : List D} {L : List Int} (h : out.Sublist (intL L)) : ∃ S, out = intL S ∧ S.Sublist L := by
  obtain ⟨l, h1, h2⟩ := List.sublist_map_iff.mp h
  exact ⟨l, h2, h1⟩
theorem put_new {B : Bt} {x : Str} {P : List Int} (h : x ∉ B.map (·.1)) (hl : B.length ≤ 100) : putD (bD B) (.str x) (intT P) = some (bD (B ++ [(x, P)])) := by
  have c : (isKey (.str x) && decide ((B.map fun p => (PyData.str p.1, intT p.2)).length < sizeLine)) = true := by
    rw [List.length_map, decide_eq_true (by unfold sizeLine; omega)]; rfl
  show (if _ then _ else _) = _
  rw [if_pos c]
  congr 1
  unfold bD putE
  have hn : ((B.map fun p => (PyData.str p.1, intT p.2)).any fun e => PyData.eqv e.1 (.str x)) = false := by
    rw [List.any_eq_false]
    intro e he z
    obtain ⟨p, hp, rfl⟩ := List.mem_map.mp he
    have : p.1 = x := eq_of_beq (show (p.1 == x) = true from z)
    exact h (by rw [← this]; exact List.mem_map_of_mem hp)
  rw [hn, if_neg (by decide), List.map_append]
  rfl
def updB (B : Bt) (x : Str) (P : List Int) : Bt := B.map fun p => if (p.1 == x) = true then (p.1, P) else p
theorem put_old {B : Bt} {x : Str} {P : List Int} (h : x ∈ B.map (·.1)) (hl : B.length ≤ 100) : putD (bD B) (.str x) (intT P) = some (bD (updB B x P)) := by
  have c : (isKey (.str x) && decide ((B.map fun p => (PyData.str p.1, intT p.2)).length < sizeLine)) = true := by
    rw [List.length_map, decide_eq_true (by unfold sizeLine; omega)]; rfl
  show (if _ then _ else _) = _
  rw [if_pos c]
  congr 1
  unfold bD putE
  have hn : ((B.map fun p => (PyData.str p.1, intT p.2)).any fun e => PyData.eqv e.1 (.str x)) = true := by
    obtain ⟨p, hp, rfl⟩ := List.mem_map.mp h
    exact List.any_eq_true.mpr ⟨_, List.mem_map_of_mem hp, beq_self_eq_true p.1⟩
  rw [hn, if_pos rfl]
  unfold updB
  rw [List.map_map, List.map_map]
  congr 1
  apply List.map_congr_left
  intro p _
  show (if (p.1 == x) = true then _ else _) = (fun p : Str × List Int => (PyData.str p.1, intT p.2)) (if (p.1 == x) = true then (p.1, P) else p)
  by_cases c : (p.1 == x) = true
  · rw [if_pos c, if_pos c]
  · rw [if_neg c, if_neg c]
abbrev nextM (k : Int) : M D := calH (f__law_next) [some 0, none] (holeA 0 (consA (PV.ret (.int k)) (nilA)))
abbrev rowsM : M (List D) := seqI (calH (f__law_pick) [some 0, none] (holeA 0 (consA (lstE (consA (tupE (consA (PV.ret (.int 0)) (consA (PV.ret (.int 1)) (consA (PV.ret (.int 2)) (consA (PV.ret (.int 3)) (consA (PV.ret (.int 4)) (consA (PV.ret (.int 5)) (nilA)))))))) (consA (tupE (consA (PV.ret (.int 0)) (consA (PV.ret (.int 1)) (consA (PV.ret (.int 2)) (nilA))))) (consA (tupE (consA (PV.ret (.int 2)) (consA (PV.ret (.int 7)) (consA (PV.ret (.int 30)) (nilA))))) (nilA))))) (nilA))))
theorem row_ok {W b nm : D} (hW : WD W) : ∃ (R : List Int) (W' : D), rowsM [.own W, .own b, .shr nm, .emp] = .ok (intL R) [.own W', .own b, .shr nm, .emp] ∧ WD W' ∧ PW R ∧ ∀ x ∈ R, 0 ≤ x ∧ x < 31 := by
  obtain ⟨i, d, W', g, hW', hd⟩ := pick_ok hW (rows := rowsL.map intT) (by simp [rowsL])
  rw [List.getElem?_map] at hd
  cases hr : rowsL[i]? with
  | none => rw [hr] at hd; cases hd
  | some R =>
    rw [hr] at hd
    cases hd
    obtain ⟨h1, h2⟩ := rows_ok R (List.mem_of_getElem? hr)
    exact ⟨R, W', seqI_ok (calH2 rfl rfl rfl g) rfl, hW', h1, h2⟩
theorem lamps_ok {W b nm : D} (hW : WD W) : ∃ (P : List Int) (W' : D), callD tupD (consA (lcE (.nm 3) [3] (tcm (op2 eqD (nextM 2) (PV.ret (.int 0)))) (rdS 3) rowsM) (nilA)) [.own W, .own b, .shr nm, .emp] = .ok (intT P) [.own W', .own b, .shr nm, .emp] ∧ WD W' ∧ PW P ∧ ∀ x ∈ P, 0 ≤ x ∧ x < 31 := by
  obtain ⟨R, W1, g1, hW1, r1, r2⟩ := row_ok (b := b) (nm := nm) hW
  obtain ⟨out, e', l1, ⟨W2, rfl, hW2⟩, l3⟩ := lcE_sub (i := 3) (tt := tcm (op2 eqD (nextM 2) (PV.ret (.int 0)))) (m := rowsM) (e := [.own W, .own b, .shr nm, .emp]) (fun e => ∃ W', e = [.own W', .own b, .shr nm, .emp] ∧ WD W') g1 rfl ⟨W1, rfl, hW1⟩
    fun d _ e ⟨Wx, he, hWx⟩ => by
      subst he
      obtain ⟨r, W', gn, hW', _, _⟩ := next_ok hWx (m := 2) (by omega)
      exact ⟨r == 0, [.own W', .own b, .shr nm, .shr d], tcm_ok (op2_ok (calH2 rfl rfl rfl gn) rfl (eqD_int r 0)), rfl, W', rfl, hW'⟩
  obtain ⟨P, rfl, hs⟩ := sub_int l3
  exact ⟨P, W2, callD_ok (consA_ok l1 nilA_ok) rfl, hW2, List.Pairwise.sublist hs r1, fun x hx => r2 x (hs.subset hx)⟩
structure BOk' (B : Bt) (names : List Str) : Prop where
  nm : B.map (·.1) = names
  rg : ∀ p ∈ B, PW p.2 ∧ ∀ x ∈ p.2, 0 ≤ x ∧ x < 31
theorem BOk'.ok {B : Bt} {k : Nat} (h : BOk' B (N6.take k)) : BOk B where
  asc := by rw [h.nm]; exact asc_sub N6_asc (List.take_sublist _ _)
  len := by
    have := congrArg List.length h.nm
    rw [List.length_map] at this
    rw [this]
    exact Nat.le_trans (List.length_take_le' ..) (by simp [N6])
  ok := fun p hp => by
    have : p.1 ∈ N6.take k := by rw [← h.nm]; exact List.mem_map_of_mem hp
    exact N6_ok _ (List.mem_of_mem_take this)
  rg := h.rg
theorem draw_ok {W : D} (hW : WD W) : ∃ (k : Nat) (B : Bt) (W' : D), sq (q__law_buttons_1) (q__law_buttons_2) [.own W, .emp, .emp, .emp] = .nx [.own W', .own (bD B), .emp, .emp] ∧ WD W' ∧ BOk' B (N6.take k) := by
  obtain ⟨r, W1, g1, hW1, r1, r2⟩ := next_ok hW (m := 7) (by omega)
  obtain ⟨k, rfl⟩ : ∃ k : Nat, r = (k : Int) := ⟨r.toNat, by omega⟩
  have s1 : q__law_buttons_1 [.own W, .emp, .emp, .emp] = .nx [.own W, .own (bD []), .emp, .emp] := rfl
  have hm : seqI (slE slD (lstE (consA (PV.ret (.str "a")) (consA (PV.ret (.str "b2")) (consA (PV.ret (.str "c")) (consA (PV.ret (.str "k")) (consA (PV.ret (.str "m")) (consA (PV.ret (.str "z")) (nilA)))))))) (none) (some (nextM 7))) [.own W, .own (bD []), .emp, .emp] = .ok (strL (N6.take k)) [.own W1, .own (bD []), .emp, .emp] := by
    refine seqI_ok (d := .list (strL (N6.take k))) (slE_hi (x := .list (strL N6)) rfl (calH2 rfl rfl rfl g1) ?_) rfl
    show some (PyData.list (cutD (strL N6) none (some (k : Int)))) = _
    rw [cutD_hi (by rw [strL_len]; show k ≤ 6; omega)]
    unfold strL
    rw [List.map_take]
  obtain ⟨⟨W2, B⟩, l1, l2, l3⟩ := frR (l := N6.take k) (t := .nm 2) (dead := [2]) (body := q__law_buttons_3) (e := [.own W, .own (bD []), .emp, .emp]) (e1 := [.own W1, .own (bD []), .emp, .emp]) PyData.str
    (fun s : D × Bt => [.own s.1, .own (bD s.2), .emp, .emp]) (fun pre s => WD s.1 ∧ BOk' s.2 pre) (s0 := (W1, [])) hm rfl ⟨hW1, rfl, nofun⟩ fun pre x post s hl ⟨p1, p2⟩ => by
      obtain ⟨P, W', g, hW', q1, q2⟩ := lamps_ok (b := bD s.2) (nm := .str x) p1
      have hnd : (N6.take k).Nodup := (List.take_sublist _ _).nodup N6_asc.2
      rw [hl] at hnd
      have hx : x ∉ s.2.map (·.1) := by
        rw [p2.nm]
        intro hx
        exact (List.nodup_append.mp hnd).2.2 x hx x List.mem_cons_self rfl
      have hlen : s.2.length ≤ 100 := by
        have h1 := congrArg List.length p2.nm
        rw [List.length_map] at h1
        have h2 := congrArg List.length hl
        rw [List.length_append] at h2
        have h3 : (N6.take k).length ≤ 6 := Nat.le_trans (List.length_take_le' ..) (by simp [N6])
        omega
      have gp : q__law_buttons_3 [.own s.1, .own (bD s.2), .shr (.str x), .emp] = .nx [.own W', .own (bD (s.2 ++ [(x, P)])), .shr (.str x), .emp] := putS_ok2 g rfl (rdS_ok rfl) (put_new hx hlen)
      refine ⟨(W', s.2 ++ [(x, P)]), ?_, hW', by rw [List.map_append, p2.nm]; rfl, fun p hp => ?_⟩
      · simp only [stepW, bindT, bindTs, wip, natD, List.set_cons_succ, List.set_cons_zero]
        rw [gp]
        rfl
      · rcases List.mem_append.mp hp with z | z
        · exact p2.rg p z
        · rw [List.mem_singleton.mp z]; exact ⟨q1, q2⟩
  have s2 : q__law_buttons_2 [.own W, .own (bD []), .emp, .emp] = .nx [.own W2, .own (bD B), .emp, .emp] := l1
  exact ⟨k, B, W2, by rw [sq_nx s1, s2], l2, l3⟩
theorem upd_ok {B : Bt} {names : List Str} (h : BOk' B names) {x : Str} {P : List Int} (hP : PW P ∧ ∀ x ∈ P, 0 ≤ x ∧ x < 31) : BOk' (updB B x P) names where
  nm := by
    unfold updB
    rw [List.map_map, ← h.nm]
    apply List.map_congr_left
    intro p _
    show (if _ then _ else _ : Str × List Int).1 = p.1
    by_cases c : (p.1 == x) = true
    · rw [if_pos c]
    · rw [if_neg c]
  rg := fun p hp => by
    obtain ⟨q, hq, rfl⟩ := List.mem_map.mp hp
    by_cases c : (q.1 == x) = true
    · rw [if_pos c]; exact hP
    · rw [if_neg c]; exact h.rg q hq
theorem ix_own {B : Bt} {x : Str} (h : x ∈ B.map (·.1)) {e : EnvD} (he : rdB 1 e = .ok (bD B) e) : op2 ixD (rdB 1) (PV.ret (.str x)) e = .ok (intT (look B x)) e := op2_ok he rfl (ix_b h)
theorem buttons_ok {W : D} (hW : WD W) : ∃ (B : Bt) (W' : D), f__law_buttons [W] = .ok (bD B) [W'] ∧ WD W' ∧ BOk B ∧ ∀ x ∈ B.map (·.1), x ∈ N6 := by
  obtain ⟨k, B, W1, g, hW1, hB⟩ := draw_ok hW
  have fin : ∀ (B' : Bt) (W' : D), q__law_buttons_4 [.own W1, .own (bD B), .emp, .emp] = .nx [.own W', .own (bD B'), .emp, .emp] → f__law_buttons [W] = .ok (bD B') [W'] := fun B' W' h4 => by
    have h0 : f__law_buttons [W] = outF false [0] (d__law_buttons [.own W, .emp, .emp, .emp]) := rfl
    have h1 : d__law_buttons [.own W, .emp, .emp, .emp] = .rt (bD B') [.own W', .own (bD B'), .emp, .emp] := by
      have g' : sq (q__law_buttons_1) (sq (q__law_buttons_2) (sq (q__law_buttons_4) (q__law_buttons_6))) [.own W, .emp, .emp, .emp] = sq (q__law_buttons_4) (q__law_buttons_6) [.own W1, .own (bD B), .emp, .emp] := by
        have s1 : q__law_buttons_1 [.own W, .emp, .emp, .emp] = .nx [.own W, .own (bD []), .emp, .emp] := rfl
        rw [sq_nx s1] at g
        rw [sq_nx s1, sq_nx g]
      unfold d__law_buttons
      rw [g', sq_nx h4]
      rfl
    rw [h0, h1]
    rfl
  have hlen : callD lenD (consA (rdB 1) (nilA)) [.own W1, .own (bD B), .emp, .emp] = .ok (.int B.length) [.own W1, .own (bD B), .emp, .emp] := by
    refine callD_ok (consA_ok rfl nilA_ok) ?_
    show some (PyData.int ((B.map fun p => (PyData.str p.1, intT p.2)).length : Nat)) = _
    rw [List.length_map]
  by_cases c : 2 < B.length
  · obtain ⟨r, W2, gn, hW2, _, _⟩ := next_ok hW1 (m := 2) (by omega)
    have hc : (N6.take k).length = B.length := by rw [← hB.nm, List.length_map]
    have h3 : 3 ≤ k := by
      have := List.length_take_le k N6
      omega
    have mem : ∀ x, x ∈ N6.take 3 → x ∈ B.map (·.1) := fun x hx => by
      rw [hB.nm]
      have : N6.take 3 = (N6.take k).take 3 := by rw [List.take_take, Nat.min_eq_left h3]
      rw [this] at hx
      exact List.mem_of_mem_take hx
    have ha : ("a" : Str) ∈ B.map (·.1) := mem _ (by simp [N6])
    have hb : ("b2" : Str) ∈ B.map (·.1) := mem _ (by simp [N6])
    have hcc : ("c" : Str) ∈ B.map (·.1) := mem _ (by simp [N6])
    have t1 : tcm (op2 gtD (callD lenD (consA (rdB 1) (nilA))) (PV.ret (.int 2))) [.own W1, .own (bD B), .emp, .emp] = .ok true [.own W1, .own (bD B), .emp, .emp] := tcm_ok (op2_ok hlen rfl (by rw [gtD_int, decide_eq_true (by omega)]))
    have t2 : tcm (op2 eqD (nextM 2) (PV.ret (.int 0))) [.own W1, .own (bD B), .emp, .emp] = .ok (r == 0) [.own W2, .own (bD B), .emp, .emp] := tcm_ok (op2_ok (calH2 rfl rfl rfl gn) rfl (eqD_int r 0))
    cases hr : (r == 0) with
    | false =>
      rw [hr] at t2
      have s4 : q__law_buttons_4 [.own W1, .own (bD B), .emp, .emp] = .nx [.own W2, .own (bD B), .emp, .emp] := (ifS_f ((andT_t t1).trans t2)).trans rfl
      exact ⟨B, W2, fin B W2 s4, hW2, hB.ok, fun x hx => List.mem_of_mem_take (by rw [hB.nm] at hx; exact hx)⟩
    | true =>
      rw [hr] at t2
      have l5 : lcE (.nm 3) [3] (tcm (op2 neD (op2 inD (rdS 3) (op2 ixD (rdB 1) (PV.ret (.str "a")))) (op2 inD (rdS 3) (op2 ixD (rdB 1) (PV.ret (.str "b2")))))) (rdS 3) (rngI1 (consA (PV.ret (.int 31)) (nilA))) [.own W2, .own (bD B), .emp, .emp] = .ok (.list (intL (rng31.filter fun x => !((look B "a").contains x == (look B "b2").contains x)))) [.own W2, .own (bD B), .emp, .emp] := by
        refine flt_int (P := rng31) _ (by simp) ?_ rfl fun x hx => ?_
        · refine (rngN_ok (n := 31) (consA_ok rfl nilA_ok) (by omega)).trans ?_
          unfold rng31 intL
          rw [List.map_map]
          rfl
        · exact tcm_ok (op2_ok (op2_ok (rdS_ok rfl) (ix_own ha rfl) (inD_intT _ x)) (op2_ok (rdS_ok rfl) (ix_own hb rfl) (inD_intT _ x)) (neD_bool _ _))
      have hlen2 : B.length ≤ 100 := by have := hB.ok.len; omega
      have s5 : q__law_buttons_5 [.own W2, .own (bD B), .emp, .emp] = .nx [.own W2, .own (bD (updB B "c" (rng31.filter fun x => !((look B "a").contains x == (look B "b2").contains x)))), .emp, .emp] :=
        putS_ok2 (callD_ok (consA_ok l5 nilA_ok) rfl) rfl rfl (put_old hcc hlen2)
      have s4 : q__law_buttons_4 [.own W1, .own (bD B), .emp, .emp] = .nx [.own W2, .own (bD (updB B "c" (rng31.filter fun x => !((look B "a").contains x == (look B "b2").contains x)))), .emp, .emp] := (ifS_t ((andT_t t1).trans t2)).trans s5
      have hB2 := upd_ok hB (x := "c") (P := rng31.filter fun x => !((look B "a").contains x == (look B "b2").contains x)) ⟨pw_filter rng31_pw _, fun x hx => rng31_mem.mp (List.mem_filter.mp hx).1⟩
      exact ⟨_, W2, fin _ W2 s4, hW2, hB2.ok, fun x hx => List.mem_of_mem_take (by rw [hB2.nm] at hx; exact hx)⟩
  · have t1 : tcm (op2 gtD (callD lenD (consA (rdB 1) (nilA))) (PV.ret (.int 2))) [.own W1, .own (bD B), .emp, .emp] = .ok false [.own W1, .own (bD B), .emp, .emp] := tcm_ok (op2_ok hlen rfl (by rw [gtD_int, decide_eq_false (by omega)]))
    have s4 : q__law_buttons_4 [.own W1, .own (bD B), .emp, .emp] = .nx [.own W1, .own (bD B), .emp, .emp] := (ifS_f (andT_f t1)).trans rfl
    exact ⟨B, W1, fin B W1 s4, hW1, hB.ok, fun x hx => List.mem_of_mem_take (by rw [hB.nm] at hx; exact hx)⟩
end L_rungward_k72_presses_for_lamps
namespace L_rungward_k72_presses_for_lamps
open PySem PySem.Spec PV
/-! sorted(dict([(x, True) for x in ..])) of numbers -/
theorem put_int {es : List (D × D)} {ks : List Int} (h : Keys es ks) (x : Int) (v : D) : Keys (putE es (.int x) v) (if ks.contains x = true then ks else ks ++ [x]) := by
  by_cases c : ks.contains x = true
  · rw [if_pos c]
    unfold putE
    by_cases q : (es.any fun e => PyData.eqv e.1 (.int x)) = true
    · rw [if_pos q]
      unfold Keys at h ⊢
      rw [List.map_map, ← h]
      apply List.map_congr_left
      intro e _
      show (if _ then _ else e : D × D).1 = e.1
      by_cases z : PyData.eqv e.1 (.int x) = true
      · rw [if_pos z]
      · rw [if_neg z]
    · exfalso
      apply q
      have hx : x ∈ ks := by simpa using c
      have : PyData.int x ∈ es.map (·.1) := by rw [h]; exact List.mem_map_of_mem hx
      obtain ⟨e, he, e1⟩ := List.mem_map.mp this
      exact List.any_eq_true.mpr ⟨e, he, by rw [e1]; exact beq_self_eq_true x⟩
  · rw [if_neg c]
    exact put_key v h (by simpa using c)
theorem merge_int' (v : D) : ∀ (L : List Int) (es : List (D × D)) (ks : List Int), Keys es ks → ks.Nodup →
    ∃ ks', Keys ((L.map fun x => (PyData.int x, v)).foldl (fun acc kv => putE acc kv.1 kv.2) es) ks' ∧ ks'.Nodup ∧ (∀ x, x ∈ ks' ↔ x ∈ ks ∨ x ∈ L) ∧ ks'.length ≤ ks.length + L.length
  | [], es, ks, h, hn => ⟨ks, h, hn, by simp, by simp⟩
  | x :: L, es, ks, h, hn => by
    have hp := put_int h x v
    have hn2 : (if ks.contains x = true then ks else ks ++ [x]).Nodup := by
      by_cases c : ks.contains x = true
      · rw [if_pos c]; exact hn
      · rw [if_neg c]
        refine List.nodup_append.mpr ⟨hn, by simp, fun a ha b hb e => c ?_⟩
        rw [List.mem_singleton.mp hb] at e
        subst e
        simpa using ha
    obtain ⟨ks', g1, g2, g3, g4⟩ := merge_int' v L _ _ hp hn2
    refine ⟨ks', g1, g2, fun y => (g3 y).trans ?_, ?_⟩
    · by_cases c : ks.contains x = true
      · rw [if_pos c, List.mem_cons]
        have hx : x ∈ ks := by simpa using c
        constructor
        · rintro (q | q)
          · exact .inl q
          · exact .inr (.inr q)
        · rintro (q | q | q)
          · exact .inl q
          · exact .inl (q ▸ hx)
          · exact .inr q
      · rw [if_neg c, List.mem_append, List.mem_singleton, List.mem_cons]
        constructor
        · rintro ((q | q) | q)
          · exact .inl q
          · exact .inr (.inl q)
          · exact .inr (.inr q)
        · rintro (q | q | q)
          · exact .inl (.inl q)
          · exact .inl (.inr q)
          · exact .inr q
    · rw [List.length_cons]
      by_cases c : ks.contains x = true
      · rw [if_pos c] at g4; omega
      · rw [if_neg c, List.length_append, List.length_singleton] at g4; omega
theorem pairs_int (v : D) : ∀ L : List Int, pairsD (L.map fun x => PyData.tuple [.int x, v]) = some (L.map fun x => (PyData.int x, v))
  | [] => rfl
  | x :: r => by
    show (pairD (.tuple [.int x, v])).bind (fun p => (pairsD (r.map fun x => PyData.tuple [.int x, v])).map (p :: ·)) = _
    rw [pairs_int v r]; rfl
theorem once_zd {L : List Int} (v : D) (h0 : L ≠ []) (hl : L.length < 64) : ∃ d, dicD [.list (L.map fun x => .tuple [.int x, v])] = some d ∧ sorE [d] = some (.list (intL (onceZ L))) := by
  obtain ⟨ks, g1, g2, g3, g4⟩ := merge_int' v L [] [] rfl List.nodup_nil
  refine ⟨.dict (mergeE [] (L.map fun x => (PyData.int x, v))), ?_, ?_⟩
  · show (pairsD (L.map fun x => PyData.tuple [.int x, v])).map (fun es => PyData.dict (mergeE [] es)) = _
    rw [pairs_int]; rfl
  · have hne : ks ≠ [] := by
      intro e
      obtain ⟨x, hx⟩ := List.exists_mem_of_ne_nil L h0
      have := (g3 x).mpr (.inr hx)
      rw [e] at this
      cases this
    have e2 : ks.mergeSort leZ = onceZ L := onceZ_of g2 fun x => (g3 x).trans (by simp)
    rw [← e2]
    exact sorE_keys (es := mergeE [] (L.map fun x => (PyData.int x, v))) g1 (by simp at g4; omega) hne
/-! what is said by both judges -/
def Agree (B lit d : D) : Prop := ∃ b : Bool, f_is_no_press [B, lit, d] = .ok (.bool b) [] ∧ f__law_tells [B, lit, d] = .ok (.bool b) []
theorem agree_T {B : Bt} (h : BOk B) {lit P : List Int} (hP : P.length ≤ 4000) : Agree (bD B) (intT lit) (intT P) := ⟨_, is_no_ok h hP, tells_ok h hP⟩
theorem agree_o {B lit d : D} (h : isT "tuple" d = false) : Agree B lit d := ⟨false, is_no_other h, tells_other h⟩
abbrev EL (C W d2 b ev kk lit : D) (c7 c8 c9 c10 c11 c12 c13 c14 : PV.Cell) : EnvD := [.shr C, .own W, .shr d2, .shr b, .shr ev, .shr kk, .shr lit, c7, c8, c9, c10, c11, c12, c13, c14]
variable {C W d2 kk : D} {B : Bt} {lit : List Int}
abbrev everyD (B : Bt) : D := .list (stL (ordS (B.map (·.1))))
theorem lit6 (h : BOk B) (hW : WD W) {c7 c8 c9 c10 c11 : PV.Cell} : ∃ (S : List Str) (W' : D), q_law_6 [.shr C, .own W, .shr d2, .shr (bD B), .shr (everyD B), .shr kk, .emp, c7, c8, c9, c10, c11, .emp, .emp, .emp] = .nx (EL C W' d2 (bD B) (everyD B) kk (intT (onL B S)) c7 c8 c9 c10 c11 .emp .emp .emp) ∧ WD W' := by
  have hne : stL (ordS (B.map (·.1))) ≠ [] := by
    have : (stL (ordS (B.map (·.1)))).length ≠ 0 := by
      rw [stL_len', ordS_len]
      exact Nat.ne_of_gt (Nat.pow_pos (by omega))
    intro e
    rw [e] at this
    exact this rfl
  obtain ⟨i, d, W', g, hW', hd⟩ := pick_ok hW hne
  obtain ⟨S, hS, rfl⟩ := List.mem_map.mp (List.mem_of_getElem? hd)
  have hsub := ordS_sub hS
  have hl := h.len
  have hlen : S.length ≤ 1000 := by have := hsub.length_le; rw [List.length_map] at this; omega
  refine ⟨S, W', ?_, hW'⟩
  have hc : consA (rdS 3) (consA (calH (f__law_pick) [some 1, none] (holeA 1 (consA (rdS 4) (nilA)))) (nilA)) [.shr C, .own W, .shr d2, .shr (bD B), .shr (everyD B), .shr kk, .emp, c7, c8, c9, c10, c11, .emp, .emp, .emp] = .ok [bD B, stD S] [.shr C, .own W', .shr d2, .shr (bD B), .shr (everyD B), .shr kk, .emp, c7, c8, c9, c10, c11, .emp, .emp, .emp] := consA_ok (rdS_ok rfl) (consA_ok (calH2 rfl (rdS_ok rfl) rfl g) nilA_ok)
  exact setS_ok (cal_ok hc (law_on_ok (ord_names hS) hlen))
theorem lit7 (hl : RG lit) (hW : WD W) {c7 c8 c9 c10 c11 : PV.Cell} {b ev : D} : ∃ (lit' : List Int) (W' : D), q_law_7 (EL C W d2 b ev kk (intT lit) c7 c8 c9 c10 c11 .emp .emp .emp) = .nx (EL C W' d2 b ev kk (intT lit') c7 c8 c9 c10 c11 .emp .emp .emp) ∧ WD W' ∧ RG lit' := by
  obtain ⟨r, W1, g1, hW1, _, _⟩ := next_ok hW (m := 2) (by omega)
  have t : tcm (op2 eqD (calH (f__law_next) [some 1, none] (holeA 1 (consA (PV.ret (.int 2)) (nilA)))) (PV.ret (.int 0))) (EL C W d2 b ev kk (intT lit) c7 c8 c9 c10 c11 .emp .emp .emp) = .ok (r == 0) (EL C W1 d2 b ev kk (intT lit) c7 c8 c9 c10 c11 .emp .emp .emp) := tcm_ok (op2_ok (calH2 rfl rfl rfl g1) rfl (eqD_int r 0))
  cases hr : (r == 0) with
  | false =>
    rw [hr] at t
    exact ⟨lit, W1, (ifS_f t).trans rfl, hW1, hl⟩
  | true =>
    rw [hr] at t
    obtain ⟨x, W2, g2, hW2, x1, x2⟩ := next_ok hW1 (m := 9) (by omega)
    have hlen := hl.len
    obtain ⟨d, d1, d2'⟩ := once_zd (L := lit ++ [x]) (.bool true) (by simp) (by rw [List.length_append]; show lit.length + 1 < 64; omega)
    have hm : seqI (op2 addD (rdS 6) (tupE (consA (calH (f__law_next) [some 1, none] (holeA 1 (consA (PV.ret (.int 9)) (nilA)))) (nilA)))) (EL C W1 d2 b ev kk (intT lit) c7 c8 c9 c10 c11 .emp .emp .emp) = .ok ((lit ++ [x]).map PyData.int) (EL C W2 d2 b ev kk (intT lit) c7 c8 c9 c10 c11 .emp .emp .emp) := by
      refine seqI_ok (d := PyData.tuple (intL lit ++ [PyData.int x])) (op2_ok (rdS_ok rfl) (tupE_ok (consA_ok (calH2 rfl rfl rfl g2) nilA_ok) (by show 1 ≤ sizeLine; decide)) (addT_ok (A := intL lit) (B := [.int x]) (by rw [intL_len]; show lit.length + 1 ≤ _; omega))) ?_
      rw [List.map_append]; rfl
    have lc : lcE (.nm 14) [14] (yesT) (tupE (consA (rdS 14) (consA (PV.ret (.bool true)) (nilA)))) (seqI (op2 addD (rdS 6) (tupE (consA (calH (f__law_next) [some 1, none] (holeA 1 (consA (PV.ret (.int 9)) (nilA)))) (nilA))))) (EL C W1 d2 b ev kk (intT lit) c7 c8 c9 c10 c11 .emp .emp .emp) = .ok (.list ((lit ++ [x]).map fun x => .tuple [.int x, .bool true])) (EL C W2 d2 b ev kk (intT lit) c7 c8 c9 c10 c11 .emp .emp .emp) :=
      lcRa (l := lit ++ [x]) PyData.int (fun x => .tuple [.int x, .bool true]) hm rfl rfl fun y _ => ⟨_, rfl, tupE_ok (consA_ok (rdS_ok rfl) (consA_ok rfl nilA_ok)) (by show 2 ≤ sizeLine; decide), rfl⟩
    refine ⟨onceZ (lit ++ [x]), W2, (ifS_t t).trans (setS_ok (callD_ok (consA_ok (callD_ok (consA_ok (callD_ok (consA_ok lc nilA_ok) d1) nilA_ok) d2') nilA_ok) rfl)), hW2, once_pw _, fun y hy => ?_⟩
    rcases List.mem_append.mp (onceZ_mem.mp hy) with z | z
    · exact hl.rg y z
    · rw [List.mem_singleton.mp z]; omega
def goodL (B : Bt) (lit : List Int) : List (List Str) := (ordS (B.map (·.1))).filter fun S => onL B S == lit
theorem good9 (h : BOk B) {c8 c9 c10 c11 : PV.Cell} : q_law_9 (EL C W d2 (bD B) (everyD B) kk (intT lit) .emp c8 c9 c10 c11 .emp .emp .emp) = .nx (EL C W d2 (bD B) (everyD B) kk (intT lit) (.shr (.list (stL (goodL B lit)))) c8 c9 c10 c11 .emp .emp .emp) := by
  refine setS_ok (e1 := EL C W d2 (bD B) (everyD B) kk (intT lit) .emp c8 c9 c10 c11 .emp .emp .emp) (lcR (l := ordS (B.map (·.1))) stD (fun S => onL B S == lit) stD (seqI_ok (rdS_ok rfl) rfl) rfl rfl fun S hS => ?_)
  refine ⟨_, rfl, ?_, fun _ => rdS_ok rfl, rfl⟩
  have hsub := ordS_sub hS
  have hl := h.len
  have hlen : S.length ≤ 1000 := by have := hsub.length_le; rw [List.length_map] at this; omega
  exact tcm_ok (op2_ok (cal_ok (consA_ok (rdS_ok rfl) (consA_ok (rdS_ok rfl) nilA_ok)) (law_on_ok (ord_names hS) hlen)) (rdS_ok rfl) (eqD_intT _ _))
theorem paper10 (h : BOk B) (hl : RG lit) {c7 c9 c10 c11 : PV.Cell} : q_law_10 (EL C W d2 (bD B) (everyD B) kk (intT lit) c7 .emp c9 c10 c11 .emp .emp .emp) = .nx (EL C W d2 (bD B) (everyD B) kk (intT lit) c7 (.shr (pressR B lit)) c9 c10 c11 .emp .emp .emp) :=
  setS_ok (cal_ok (consA_ok (rdS_ok rfl) (consA_ok (rdS_ok rfl) nilA_ok)) (press_ok h hl))
theorem head_find (p : List Str → Bool) : ∀ l : List (List Str), (l.filter p)[0]? = l.find? p
  | [] => rfl
  | x :: r => by
    rw [List.filter_cons, List.find?_cons]
    cases p x with
    | true => rfl
    | false => exact head_find p r
theorem shN {S : List Str} (h : ∀ x ∈ S, x ∈ N6) : PyData.showableAll (strL S) = true ∧ shBs (strL S) ≤ 20 * S.length := by
  have hN : ∀ x ∈ N6, (reprText x).length ≤ 10 := by unfold N6; decide +kernel
  induction S with
  | nil => exact ⟨rfl, Nat.le_refl _⟩
  | cons x S ih =>
    obtain ⟨i1, i2⟩ := ih fun y hy => h y (List.mem_cons_of_mem _ hy)
    have := hN x (h x List.mem_cons_self)
    refine ⟨?_, ?_⟩
    · show PyData.showableAll (.str x :: strL S) = true
      rw [PyData.showableAll, i1]
      simp [PyData.showable]
    · show shB (.str x) + 2 + shBs (strL S) ≤ _
      have e : shB (.str x) = (reprText x).length := by rw [shB]
      rw [e, List.length_cons]
      omega
theorem same_yes {S : List Str} (h : ∀ x ∈ S, x ∈ N6) (hl : S.length ≤ 10) : f__law_same [.tuple [.str "yes", stD S], .tuple [.str "yes", stD S]] = .ok (.bool true) [] := by
  obtain ⟨s1, s2⟩ := shN h
  refine same_ok ?_ ?_ ?_ ?_
  · show (true && (noDicts (strL S) && true)) = true
    rw [strL_nd]; rfl
  · show PyData.showable (.tuple [.str "yes", .tuple (strL S)]) = true
    simp [PyData.showable, PyData.showableAll, s1]
  · show max 0 (max (PyData.depthAll (strL S) + 1) 0) + 1 ≤ 60
    rw [strL_dep]; omega
  · have e : shB (.tuple [.str "yes", stD S]) = (shB (.str "yes") + 2 + (shBs (strL S) + 3 + 2 + 0)) + 3 := by
      simp only [shB, shBs, stD]
    have e2 : shB (.str "yes") ≤ 100 := by rw [shB]; decide +kernel
    rw [e]
    omega
end L_rungward_k72_presses_for_lamps
namespace L_rungward_k72_presses_for_lamps
open PySem PySem.Spec PV
variable {C W d2 kk : D} {B : Bt} {lit : List Int}
theorem stL_ne (G : List (List Str)) : neD (.list (stL G)) (.list []) = some (.bool (!G.isEmpty)) := by
  rw [neD_l0 (stL_nd G)]
  unfold stL
  rw [List.isEmpty_map]
theorem stL_eq (G : List (List Str)) : eqD (.list (stL G)) (.list []) = some (.bool G.isEmpty) := by
  rw [eqD_l0 (stL_nd G)]
  unfold stL
  rw [List.isEmpty_map]
/-- the first of the good ones, or none -/
theorem press_case (h : BOk B) (hl : RG lit) : (∃ S, S ∈ ordS (B.map (·.1)) ∧ (goodL B lit)[0]? = some S ∧ pressR B lit = .tuple [.str "yes", stD S]) ∨ (goodL B lit = [] ∧ ∃ x t, clear (redB B) lit = x :: t ∧ pressR B lit = .tuple [.str "no", intT (paper B x)]) := by
  have e := head_find (fun S => onL B S == lit) (ordS (B.map (·.1)))
  cases hf : (ordS (B.map (·.1))).find? fun S => onL B S == lit with
  | some S =>
    left
    have hS := List.mem_of_find?_eq_some hf
    have he : onL B S = lit := eq_of_beq (List.find?_some (p := fun S => onL B S == lit) hf)
    refine ⟨S, hS, by unfold goodL; rw [e, hf], ?_⟩
    unfold pressR
    rw [no_rest h hl (ord_names hS) he, hf]
  | none =>
    right
    have hg : goodL B lit = [] := by
      unfold goodL
      rw [List.filter_eq_nil_iff]
      intro S hS z
      exact List.find?_eq_none.mp hf S hS z
    refine ⟨hg, ?_⟩
    cases hc : clear (redB B) lit with
    | nil =>
      exfalso
      obtain ⟨S, hS, he⟩ := have_set h hl.pw hc
      have := List.find?_eq_none.mp hf S hS
      exact this (by rw [he]; exact beq_self_eq_true lit)
    | cons x t =>
      refine ⟨x, t, rfl, ?_⟩
      unfold pressR
      rw [hc]
theorem paper_len (h : BOk B) (x : Int) : (paper B x).length ≤ 7 := by
  unfold paper papL
  rw [List.length_mergeSort, List.length_cons, List.length_map]
  have := red_len h
  have := List.length_filter_le (fun p : Int × List Int => p.2.contains x) (redB B)
  omega
theorem tell_paper (h : BOk B) (hl : RG lit) {x : Int} {t : List Int} (hc : clear (redB B) lit = x :: t) : tellB B lit (paper B x) = true := by
  have R := rest_of h hl hc
  have hp : (paper B x).Pairwise (· < ·) := merge_pw R.nd
  have con : ∀ A : List Int, A.Nodup → par A (paper B x) = odd (papL (redB B) x) A.contains := fun A hA => by
    have e : par A (paper B x) = par A (papL (redB B) x) := by
      unfold par paper
      congr 3
      apply List.filter_congr
      intro y _
      rw [Bool.eq_iff_iff, List.contains_iff_mem, List.contains_iff_mem]
      exact (List.mergeSort_perm _ leZ).mem_iff
    rw [e, par_odd hA R.nd]
  unfold tellB
  rw [decide_eq_true hp, Bool.true_and, Bool.and_eq_true, List.all_eq_true]
  refine ⟨fun p hp => ?_, ?_⟩
  · rw [con p.2 (h.rg' hp).pw.nd, R.bt p hp]; rfl
  · rw [con lit hl.pw.nd, R.lit]
theorem step11 (h : BOk B) (hl : RG lit) (hN : ∀ x ∈ B.map (·.1), x ∈ N6) {c9 c10 c11 : PV.Cell} : q_law_11 (EL C W d2 (bD B) (everyD B) kk (intT lit) (.shr (.list (stL (goodL B lit)))) (.shr (pressR B lit)) c9 c10 c11 .emp .emp .emp) = .nx (EL C W d2 (bD B) (everyD B) kk (intT lit) (.shr (.list (stL (goodL B lit)))) (.shr (pressR B lit)) c9 c10 c11 .emp .emp .emp) := by
  have hne := stL_ne (goodL B lit)
  rcases press_case h hl with ⟨S, hS, hg, hp⟩ | ⟨hg, x, t, hc, hp⟩
  · have hz : (goodL B lit).isEmpty = false := by
      cases q : goodL B lit with
      | nil => rw [q] at hg; cases hg
      | cons => rfl
    rw [hz] at hne
    have hx : ixD (.list (stL (goodL B lit))) (.int 0) = some (stD S) := ix_l (k := 0) (by unfold stL; rw [List.getElem?_map, hg]; rfl)
    have hsub := ordS_sub hS
    have hl6 := h.len
    have hs := same_yes (S := S) (fun x hx => hN x (hsub.subset hx)) (by have := hsub.length_le; rw [List.length_map] at this; omega)
    rw [hp]
    refine (ifS_t (tcm_ok (op2_ok (rdS_ok rfl) rfl hne))).trans ?_
    refine (ifS_f (notT_ok (kb := true) (tru_ok (d := .bool true) (cal_ok (consA_ok (rdS_ok rfl) (consA_ok (tupE_ok (consA_ok rfl (consA_ok (op2_ok (rdS_ok rfl) rfl hx) nilA_ok)) (by show 2 ≤ sizeLine; decide)) nilA_ok)) hs) rfl))).trans rfl
  · rw [hg] at hne ⊢
    rw [hp]
    refine (ifS_f (tcm_ok (op2_ok (rdS_ok rfl) rfl hne))).trans ?_
    have hx : ixD (.tuple [.str "no", intT (paper B x)]) (.int 1) = some (intT (paper B x)) := ix_t1 _ _ _
    have hx0 : ixD (.tuple [.str "no", intT (paper B x)]) (.int 0) = some (.str "no") := ix_t0 _ _
    have hlen : (paper B x).length ≤ 4000 := by have := paper_len h x; omega
    have ht := tells_ok (lit := lit) h hlen
    have hi := is_no_ok (lit := lit) h hlen
    rw [tell_paper h hl hc] at ht hi
    generalize intT (paper B x) = P at hx hx0 ht hi ⊢
    have a1 : op2 ixD (rdS 8) (PV.ret (.int 1)) (EL C W d2 (bD B) (everyD B) kk (intT lit) (.shr (.list (stL []))) (.shr (.tuple [.str "no", P])) c9 c10 c11 .emp .emp .emp) = .ok P (EL C W d2 (bD B) (everyD B) kk (intT lit) (.shr (.list (stL []))) (.shr (.tuple [.str "no", P])) c9 c10 c11 .emp .emp .emp) := op2_ok (rdS_ok rfl) rfl hx
    have a2 : tcm (op2 neD (op2 ixD (rdS 8) (PV.ret (.int 0))) (PV.ret (.str "no"))) (EL C W d2 (bD B) (everyD B) kk (intT lit) (.shr (.list (stL []))) (.shr (.tuple [.str "no", P])) c9 c10 c11 .emp .emp .emp) = .ok false (EL C W d2 (bD B) (everyD B) kk (intT lit) (.shr (.list (stL []))) (.shr (.tuple [.str "no", P])) c9 c10 c11 .emp .emp .emp) := tcm_ok (op2_ok (op2_ok (rdS_ok rfl) rfl hx0) rfl rfl)
    refine (ifS_f (orT_ok (ka := false) (kb := false) (notI_tup (m := rdS 8) rfl) fun _ => orT_ok (ka := false) (kb := false) (tcm_ok (op2_ok (callD_ok (consA_ok (rdS_ok rfl) nilA_ok) (lenD_t _)) rfl rfl)) fun _ => orT_ok (ka := false) (kb := false) a2 fun _ => orT_ok (ka := false) (kb := false) ?_ fun _ => ?_)).trans rfl
    · exact notT_ok (kb := true) (tru_ok (d := .bool true) (cal_ok (consA_ok (rdS_ok rfl) (consA_ok (rdS_ok rfl) (consA_ok a1 nilA_ok))) ht) rfl)
    · exact tcm_ok (op2_ok (cal_ok (consA_ok (rdS_ok rfl) (consA_ok (rdS_ok rfl) (consA_ok a1 nilA_ok))) hi) rfl rfl)
theorem some16 (hW : WD W) {b ev lt : D} {c7 c8 c10 c11 : PV.Cell} : ∃ (P : List Int) (W' : D), q_law_16 (EL C W d2 b ev kk lt c7 c8 .emp c10 c11 .emp .emp .emp) = .nx (EL C W' d2 b ev kk lt c7 c8 (.shr (intT P)) c10 c11 .emp .emp .emp) ∧ WD W' ∧ P.length ≤ 8 := by
  have hr : rngI1 (consA (PV.ret (.int 8)) (nilA)) (EL C W d2 b ev kk lt c7 c8 .emp c10 c11 .emp .emp .emp) = .ok (intL ((List.range 8).map fun (i : Nat) => (i : Int))) (EL C W d2 b ev kk lt c7 c8 .emp c10 c11 .emp .emp .emp) := by
    refine (rngN_ok (n := 8) (consA_ok rfl nilA_ok) (by omega)).trans ?_
    unfold intL
    rw [List.map_map]
    rfl
  obtain ⟨out, e', l1, ⟨W2, rfl, hW2⟩, l3⟩ := lcE_sub (i := 14) (tt := tcm (op2 eqD (calH (f__law_next) [some 1, none] (holeA 1 (consA (PV.ret (.int 3)) (nilA)))) (PV.ret (.int 0)))) (m := rngI1 (consA (PV.ret (.int 8)) (nilA))) (e := EL C W d2 b ev kk lt c7 c8 .emp c10 c11 .emp .emp .emp) (fun e => ∃ W', e = EL C W' d2 b ev kk lt c7 c8 .emp c10 c11 .emp .emp .emp ∧ WD W') hr rfl ⟨W, rfl, hW⟩
    fun d _ e ⟨Wx, he, hWx⟩ => by
      subst he
      obtain ⟨r, W', gn, hW', _, _⟩ := next_ok hWx (m := 3) (by omega)
      exact ⟨r == 0, EL C W' d2 b ev kk lt c7 c8 .emp c10 c11 .emp .emp (.shr d), tcm_ok (op2_ok (calH2 rfl rfl rfl gn) rfl (eqD_int r 0)), rfl, W', rfl, hW'⟩
  obtain ⟨P, rfl, hs⟩ := sub_int l3
  exact ⟨P, W2, setS_ok (callD_ok (consA_ok l1 nilA_ok) rfl), hW2, by have := hs.length_le; simpa using this⟩
theorem near17 (h : BOk B) (hl : RG lit) {P : List Int} (hP : P.length ≤ 8) {c11 : PV.Cell} : ∃ near : List D, near ≠ [] ∧ (∀ d ∈ near, Agree (bD B) (intT lit) d) ∧
    q_law_17 (EL C W d2 (bD B) (everyD B) kk (intT lit) (.shr (.list (stL (goodL B lit)))) (.shr (pressR B lit)) (.shr (intT P)) .emp c11 .emp .emp .emp) = .nx (EL C W d2 (bD B) (everyD B) kk (intT lit) (.shr (.list (stL (goodL B lit)))) (.shr (pressR B lit)) (.shr (intT P)) (.shr (.list near)) c11 .emp .emp .emp) := by
  have hll := hl.len
  have l1 : lstE (consA (rdS 9) (consA (rdS 9) (consA (rdS 9) (consA (op1 revE (rdS 9)) (consA (op2 addD (rdS 9) (slE slD (rdS 9) (none) (some (PV.ret (.int 1))))) (consA (callD lisD (consA (rdS 9) (nilA))) (consA (PV.ret .none) (consA (tupE (nilA)) (consA (rdS 6) (nilA)))))))))) (EL C W d2 (bD B) (everyD B) kk (intT lit) (.shr (.list (stL (goodL B lit)))) (.shr (pressR B lit)) (.shr (intT P)) .emp c11 .emp .emp .emp) =
      .ok (.list [intT P, intT P, intT P, intT P.reverse, intT (P ++ P.take 1), .list (intL P), .none, intT [], intT lit]) (EL C W d2 (bD B) (everyD B) kk (intT lit) (.shr (.list (stL (goodL B lit)))) (.shr (pressR B lit)) (.shr (intT P)) .emp c11 .emp .emp .emp) := by
    have hrev : revE (intT P) = some (intT P.reverse) := by
      show some (PyData.tuple (intL P).reverse) = _
      unfold intT intL
      rw [List.map_reverse]
    have hsl : slD (intT P) none (some 1) = some (intT (P.take 1)) := by
      show some (PyData.tuple (cutD (intL P) none (some 1))) = _
      cases P with
      | nil => rfl
      | cons x r =>
        have e : cutD (intL (x :: r)) none (some 1) = (intL (x :: r)).take 1 := cutD_hi (k := 1) (by rw [intL_len, List.length_cons]; omega)
        rw [e]; rfl
    have hadd : addD (intT P) (intT (P.take 1)) = some (intT (P ++ P.take 1)) := by
      refine (addT_ok (A := intL P) (B := intL (P.take 1)) (by rw [intL_len, intL_len, List.length_take]; omega)).trans ?_
      unfold intT intL; rw [List.map_append]
    exact lstE_ok (consA_ok (rdS_ok rfl) (consA_ok (rdS_ok rfl) (consA_ok (rdS_ok rfl) (consA_ok (op1_ok (rdS_ok rfl) hrev) (consA_ok (op2_ok (rdS_ok rfl) (slE_hi (rdS_ok rfl) rfl hsl) hadd) (consA_ok (callD_ok (consA_ok (rdS_ok rfl) nilA_ok) (lisD_t _)) (consA_ok rfl (consA_ok (tupE_ok nilA_ok (by show 0 ≤ sizeLine; decide)) (consA_ok (rdS_ok rfl) nilA_ok))))))))) (by show 9 ≤ sizeLine; decide)
  have a1 : ∀ d ∈ [intT P, intT P, intT P, intT P.reverse, intT (P ++ P.take 1), .list (intL P), .none, intT [], intT lit], Agree (bD B) (intT lit) d := by
    intro d hd
    simp only [List.mem_cons, List.not_mem_nil, or_false] at hd
    rcases hd with rfl | rfl | rfl | rfl | rfl | rfl | rfl | rfl | rfl
    · exact agree_T h (by omega)
    · exact agree_T h (by omega)
    · exact agree_T h (by omega)
    · exact agree_T h (by rw [List.length_reverse]; omega)
    · exact agree_T h (by rw [List.length_append, List.length_take]; omega)
    · exact agree_o rfl
    · exact agree_o rfl
    · exact agree_T h (by show 0 ≤ 4000; omega)
    · exact agree_T h (by omega)
  have he := stL_eq (goodL B lit)
  rcases press_case h hl with ⟨S, hS, hg, hp⟩ | ⟨hg, x, t, hc, hp⟩
  · have hz : (goodL B lit).isEmpty = false := by
      cases q : goodL B lit with
      | nil => rw [q] at hg; cases hg
      | cons => rfl
    rw [hz] at he
    refine ⟨_, by simp, a1, ?_⟩
    have l2 : ifE (tcm (op2 eqD (rdS 7) (lstE (nilA)))) (lstE (consA (op2 ixD (rdS 8) (PV.ret (.int 1))) (consA (op2 ixD (rdS 8) (PV.ret (.int 1))) (consA (op2 addD (op2 ixD (rdS 8) (PV.ret (.int 1))) (tupE (consA (PV.ret (.int 40)) (nilA)))) (nilA))))) (lstE (nilA)) (EL C W d2 (bD B) (everyD B) kk (intT lit) (.shr (.list (stL (goodL B lit)))) (.shr (pressR B lit)) (.shr (intT P)) .emp c11 .emp .emp .emp) = .ok (.list []) (EL C W d2 (bD B) (everyD B) kk (intT lit) (.shr (.list (stL (goodL B lit)))) (.shr (pressR B lit)) (.shr (intT P)) .emp c11 .emp .emp .emp) :=
      (ifE_f (tcm_ok (op2_ok (rdS_ok rfl) rfl he))).trans rfl
    refine (setS_ok (op2_ok l1 l2 (addL_ok (by show 9 + 0 ≤ _; omega)))).trans ?_
    rw [List.append_nil]
    rfl
  · have hz : (goodL B lit).isEmpty = true := by rw [hg]; rfl
    rw [hz] at he
    have hx : ixD (pressR B lit) (.int 1) = some (intT (paper B x)) := by rw [hp]; exact ix_t1 _ _ _
    have hlen := paper_len h x
    have hadd : addD (intT (paper B x)) (.tuple [.int 40]) = some (intT (paper B x ++ [40])) := by
      refine (addT_ok (A := intL (paper B x)) (B := [PyData.int 40]) (by rw [intL_len]; show _ + 1 ≤ _; omega)).trans ?_
      unfold intT intL; rw [List.map_append]; rfl
    have l2 : ifE (tcm (op2 eqD (rdS 7) (lstE (nilA)))) (lstE (consA (op2 ixD (rdS 8) (PV.ret (.int 1))) (consA (op2 ixD (rdS 8) (PV.ret (.int 1))) (consA (op2 addD (op2 ixD (rdS 8) (PV.ret (.int 1))) (tupE (consA (PV.ret (.int 40)) (nilA)))) (nilA))))) (lstE (nilA)) (EL C W d2 (bD B) (everyD B) kk (intT lit) (.shr (.list (stL (goodL B lit)))) (.shr (pressR B lit)) (.shr (intT P)) .emp c11 .emp .emp .emp) = .ok (.list [intT (paper B x), intT (paper B x), intT (paper B x ++ [40])]) (EL C W d2 (bD B) (everyD B) kk (intT lit) (.shr (.list (stL (goodL B lit)))) (.shr (pressR B lit)) (.shr (intT P)) .emp c11 .emp .emp .emp) :=
      (ifE_t (tcm_ok (op2_ok (rdS_ok rfl) rfl he))).trans (lstE_ok (consA_ok (op2_ok (rdS_ok rfl) rfl hx) (consA_ok (op2_ok (rdS_ok rfl) rfl hx) (consA_ok (op2_ok (op2_ok (rdS_ok rfl) rfl hx) (tupE_ok (consA_ok rfl nilA_ok) (by show 1 ≤ sizeLine; decide)) hadd) nilA_ok))) (by show 3 ≤ sizeLine; decide))
    refine ⟨[intT P, intT P, intT P, intT P.reverse, intT (P ++ P.take 1), .list (intL P), .none, intT [], intT lit] ++ [intT (paper B x), intT (paper B x), intT (paper B x ++ [40])], by simp, ?_, setS_ok (op2_ok l1 l2 (addL_ok (by show 9 + 3 ≤ _; omega)))⟩
    intro d hd
    rcases List.mem_append.mp hd with z | z
    · exact a1 d z
    · simp only [List.mem_cons, List.not_mem_nil, or_false] at z
      rcases z with rfl | rfl | rfl
      · exact agree_T h (by omega)
      · exact agree_T h (by omega)
      · exact agree_T h (by rw [List.length_append]; show _ + 1 ≤ _; omega)
theorem bent18 (hW : WD W) {b ev lt : D} {near : List D} (hn : near ≠ []) (ha : ∀ d ∈ near, Agree b lt d) {c7 c8 c9 : PV.Cell} : ∃ (d W' : D), sq (q_law_18) (q_law_19) (EL C W d2 b ev kk lt c7 c8 c9 (.shr (.list near)) .emp .emp .emp .emp) = .nx (EL C W' d2 b ev kk lt c7 c8 c9 (.shr (.list near)) (.shr d) .emp .emp .emp) ∧ WD W' := by
  obtain ⟨i, d, W', g, hW', hd⟩ := pick_ok hW hn
  obtain ⟨k, h1, h2⟩ := ha d (List.mem_of_getElem? hd)
  refine ⟨d, W', ?_, hW'⟩
  have s18 : q_law_18 (EL C W d2 b ev kk lt c7 c8 c9 (.shr (.list near)) .emp .emp .emp .emp) = .nx (EL C W' d2 b ev kk lt c7 c8 c9 (.shr (.list near)) (.shr d) .emp .emp .emp) := setS_ok (calH2 (e := EL C W d2 b ev kk lt c7 c8 c9 (.shr (.list near)) .emp .emp .emp .emp) rfl (rdS_ok rfl) rfl g)
  rw [sq_nx s18]
  refine (ifS_f (tcm_ok (op2_ok (cal_ok (consA_ok (rdS_ok rfl) (consA_ok (rdS_ok rfl) (consA_ok (rdS_ok rfl) nilA_ok))) h1) (cal_ok (consA_ok (rdS_ok rfl) (consA_ok (rdS_ok rfl) (consA_ok (rdS_ok rfl) nilA_ok))) h2) ?_))).trans rfl
  rw [neD_bool]; simp
abbrev innerS : Sm := sq (q_law_6) (sq (q_law_7) (sq (q_law_9) (sq (q_law_10) (sq (q_law_11) (sq (q_law_16) (sq (q_law_17) (sq (q_law_18) (q_law_19))))))))
theorem inner_ok (h : BOk B) (hN : ∀ x ∈ B.map (·.1), x ∈ N6) (hW : WD W) : ∃ (W' lt : D) (c7 c8 c9 c10 c11 : PV.Cell), innerS [.shr C, .own W, .shr d2, .shr (bD B), .shr (everyD B), .shr kk, .emp, .emp, .emp, .emp, .emp, .emp, .emp, .emp, .emp] = .nx (EL C W' d2 (bD B) (everyD B) kk lt c7 c8 c9 c10 c11 .emp .emp .emp) ∧ WD W' := by
  obtain ⟨S, W1, g6, hW1⟩ := lit6 (C := C) (d2 := d2) (kk := kk) h hW (c7 := .emp) (c8 := .emp) (c9 := .emp) (c10 := .emp) (c11 := .emp)
  obtain ⟨lit, W2, g7, hW2, hl⟩ := lit7 (C := C) (d2 := d2) (kk := kk) (onL_rg B S) hW1 (b := bD B) (ev := everyD B) (c7 := .emp) (c8 := .emp) (c9 := .emp) (c10 := .emp) (c11 := .emp)
  have g9 := good9 (C := C) (W := W2) (d2 := d2) (kk := kk) (lit := lit) h (c8 := .emp) (c9 := .emp) (c10 := .emp) (c11 := .emp)
  have g10 := paper10 (C := C) (W := W2) (d2 := d2) (kk := kk) h hl (c7 := .shr (.list (stL (goodL B lit)))) (c9 := .emp) (c10 := .emp) (c11 := .emp)
  have g11 := step11 (C := C) (W := W2) (d2 := d2) (kk := kk) h hl hN (c9 := .emp) (c10 := .emp) (c11 := .emp)
  obtain ⟨P, W3, g16, hW3, hP⟩ := some16 (C := C) (d2 := d2) (kk := kk) hW2 (b := bD B) (ev := everyD B) (lt := intT lit) (c7 := .shr (.list (stL (goodL B lit)))) (c8 := .shr (pressR B lit)) (c10 := .emp) (c11 := .emp)
  obtain ⟨near, hn, ha, g17⟩ := near17 (C := C) (W := W3) (d2 := d2) (kk := kk) h hl hP (c11 := .emp)
  obtain ⟨d, W4, g18, hW4⟩ := bent18 (C := C) (d2 := d2) (kk := kk) hW3 (ev := everyD B) hn ha (c7 := .shr (.list (stL (goodL B lit)))) (c8 := .shr (pressR B lit)) (c9 := .shr (intT P))
  refine ⟨W4, intT lit, .shr (.list (stL (goodL B lit))), .shr (pressR B lit), .shr (intT P), .shr (.list near), .shr d, ?_, hW4⟩
  unfold innerS
  rw [sq_nx g6, sq_nx g7, sq_nx g9, sq_nx g10, sq_nx g11, sq_nx g16, sq_nx g17]
  exact g18
theorem every4 (h : BOk B) {c5 : PV.Cell} : q_law_4 [.shr C, .own W, .shr d2, .shr (bD B), .emp, .emp, .emp, .emp, .emp, .emp, .emp, .emp, .emp, .emp, .emp] = .nx [.shr C, .own W, .shr d2, .shr (bD B), .shr (everyD B), .emp, .emp, .emp, .emp, .emp, .emp, .emp, .emp, .emp, .emp] := by
  have hl8 : (B.map (·.1)).length ≤ 8 := by rw [List.length_map]; have := h.len; omega
  have g1 : lcE (.nm 13) [13] (yesT) (tupE (consA (callD lenD (consA (rdS 13) (nilA))) (consA (rdS 13) (nilA)))) (seqI (cal (f__law_sets) (consA (callD sorE (consA (rdS 3) (nilA))) (nilA)))) [.shr C, .own W, .shr d2, .shr (bD B), .emp, .emp, .emp, .emp, .emp, .emp, .emp, .emp, .emp, .emp, .emp] = .ok (.list (((allS (B.map (·.1))).mergeSort stLe).map encQ)) [.shr C, .own W, .shr d2, .shr (bD B), .emp, .emp, .emp, .emp, .emp, .emp, .emp, .emp, .emp, .emp, .emp] := by
    refine lcRa (vs := [13]) (t := .nm 13) (e1 := [.shr C, .own W, .shr d2, .shr (bD B), .emp, .emp, .emp, .emp, .emp, .emp, .emp, .emp, .emp, .emp, .emp]) (l := (allS (B.map (·.1))).mergeSort stLe) stD encQ (seqI_ok (cal_ok (consA_ok (callD_ok (consA_ok (rdS_ok (i := 3) rfl) nilA_ok) (sor_b h)) nilA_ok) (law_sets_ok hl8)) rfl) rfl rfl fun S hS => ?_
    refine ⟨_, rfl, tupE_ok (consA_ok (callD_ok (consA_ok (rdS_ok (i := 13) rfl) nilA_ok) (lenD_t _)) (consA_ok (rdS_ok (i := 13) rfl) nilA_ok)) (by show 2 ≤ sizeLine; decide) |>.trans ?_, rfl⟩
    rw [strL_len]; rfl
  have hs := sorE_Q ((allS (B.map (·.1))).mergeSort stLe)
  rw [law_sets_ord] at hs
  exact setS_ok (lcRa (vs := [12, 13]) (t := .tp [.nm 12, .nm 13]) (e1 := [.shr C, .own W, .shr d2, .shr (bD B), .emp, .emp, .emp, .emp, .emp, .emp, .emp, .emp, .emp, .emp, .emp]) (l := ordS (B.map (·.1))) encQ stD (seqI_ok (callD_ok (consA_ok g1 nilA_ok) hs) rfl) rfl rfl fun S hS => ⟨_, rfl, rdS_ok (i := 13) rfl, rfl⟩)
theorem but3 {W' : D} (h : f__law_buttons [W] = .ok (bD B) [W']) : q_law_3 [.shr C, .own W, .shr d2, .emp, .emp, .emp, .emp, .emp, .emp, .emp, .emp, .emp, .emp, .emp, .emp] = .nx [.shr C, .own W', .shr d2, .shr (bD B), .emp, .emp, .emp, .emp, .emp, .emp, .emp, .emp, .emp, .emp, .emp] := by
  generalize bD B = b at h ⊢
  simp only [q_law_3, sq, nxt, thenS, bnd, PV.ret, lft, setS, setO, ownC, putC, rtn, rtO, drp, ifS, ifE, tcm, tru, truD, andT, orT, notT, andV, orV, notV, bolD, nilA, consA, tupE, lstE, op1, op2, rdS, rdB, rdF, callD, cal, frM, calH, holeA, fillH, putH, methD, isiE, asgS, bindT, bindTs, wip, augN, appS, extS, putS, augS, parS, par3S, List.getElem?_cons_succ, List.getElem?_cons_zero, List.set_cons_succ, List.set_cons_zero, sl0, sl1, sl2, sl3, sl4, if_true, if_false, Bool.false_eq_true, h, Option.map_some]
theorem buttons_ok' (hW : WD W) : ∃ (B : Bt) (W' : D), f__law_buttons [W] = .ok (bD B) [W'] ∧ WD W' ∧ BOk B ∧ ∀ x ∈ B.map (·.1), x ∈ N6 := buttons_ok hW
theorem law_true (ns : List Int) (h : ns.length ≤ 63) : f_law [.list (ns.map .int)] = .ok (.bool true) [] := by
  obtain ⟨ds, hd, hp⟩ := draws_ok ns h 200 (by omega) (by omega)
  generalize hS : PyData.list (ns.map PyData.int) = C at hd ⊢
  have h1 : q_law_1 [.shr C, .emp, .emp, .emp, .emp, .emp, .emp, .emp, .emp, .emp, .emp, .emp, .emp, .emp, .emp] = .nx [.shr C, .own (mkW ds 0), .emp, .emp, .emp, .emp, .emp, .emp, .emp, .emp, .emp, .emp, .emp, .emp, .emp] :=
    setO_ok (d := mkW ds 0) (w0_ok (cal_ok (consA_ok (rdS_ok rfl) (consA_ok rfl nilA_ok)) hd))
  obtain ⟨W, l1, _⟩ := frR (l := List.range 4) (t := .nm 2) (dead := [2, 3, 4, 5, 6, 7, 8, 9, 10, 11]) (body := sq (q_law_3) (sq (q_law_4) (q_law_5))) (m := rngI1 (consA (PV.ret (.int 4)) (nilA))) (e := [.shr C, .own (mkW ds 0), .emp, .emp, .emp, .emp, .emp, .emp, .emp, .emp, .emp, .emp, .emp, .emp, .emp]) (e1 := [.shr C, .own (mkW ds 0), .emp, .emp, .emp, .emp, .emp, .emp, .emp, .emp, .emp, .emp, .emp, .emp, .emp])
    natD (fun W : D => [.shr C, .own W, .emp, .emp, .emp, .emp, .emp, .emp, .emp, .emp, .emp, .emp, .emp, .emp, .emp]) (fun _ W => WD W) (s0 := mkW ds 0) (rngN_ok (n := 4) (consA_ok rfl nilA_ok) (by omega)) rfl ⟨ds, 0, rfl, hp, by omega⟩
    fun pre i post W hl hW => by
      obtain ⟨B, W1, g3, hW1, hB, hN⟩ := buttons_ok' hW
      obtain ⟨W2, l2, hW2⟩ := frR (l := List.range 4) (t := .nm 5) (dead := [5, 6, 7, 8, 9, 10, 11]) (body := innerS) (m := rngI1 (consA (PV.ret (.int 4)) (nilA))) (e := [.shr C, .own W1, .shr (natD i), .shr (bD B), .shr (everyD B), .emp, .emp, .emp, .emp, .emp, .emp, .emp, .emp, .emp, .emp]) (e1 := [.shr C, .own W1, .shr (natD i), .shr (bD B), .shr (everyD B), .emp, .emp, .emp, .emp, .emp, .emp, .emp, .emp, .emp, .emp])
        natD (fun W : D => [.shr C, .own W, .shr (natD i), .shr (bD B), .shr (everyD B), .emp, .emp, .emp, .emp, .emp, .emp, .emp, .emp, .emp, .emp]) (fun _ W => WD W) (s0 := W1) (rngN_ok (n := 4) (consA_ok rfl nilA_ok) (by omega)) rfl hW1
        fun pre k post W hl hW => by
          obtain ⟨W', lt, c7, c8, c9, c10, c11, g, hW'⟩ := inner_ok (C := C) (d2 := natD i) (kk := natD k) hB hN hW
          refine ⟨W', ?_, hW'⟩
          simp only [stepW, bindT, bindTs, wip, natD, List.set_cons_succ, List.set_cons_zero]
          rw [g]
          rfl
      have g5 : q_law_5 [.shr C, .own W1, .shr (natD i), .shr (bD B), .shr (everyD B), .emp, .emp, .emp, .emp, .emp, .emp, .emp, .emp, .emp, .emp] = .nx [.shr C, .own W2, .shr (natD i), .shr (bD B), .shr (everyD B), .emp, .emp, .emp, .emp, .emp, .emp, .emp, .emp, .emp, .emp] := l2
      refine ⟨W2, ?_, hW2⟩
      simp only [stepW, bindT, bindTs, wip, natD, List.set_cons_succ, List.set_cons_zero]
      rw [sq_nx (but3 g3), sq_nx (every4 hB (c5 := .emp)), g5]
      rfl
  have h2 : q_law_2 [.shr C, .own (mkW ds 0), .emp, .emp, .emp, .emp, .emp, .emp, .emp, .emp, .emp, .emp, .emp, .emp, .emp] = .nx [.shr C, .own W, .emp, .emp, .emp, .emp, .emp, .emp, .emp, .emp, .emp, .emp, .emp, .emp, .emp] := l1
  refine fn_rt rfl rfl (e' := [.shr C, .own W, .emp, .emp, .emp, .emp, .emp, .emp, .emp, .emp, .emp, .emp, .emp, .emp, .emp]) ?_
  show d_law [.shr C, .emp, .emp, .emp, .emp, .emp, .emp, .emp, .emp, .emp, .emp, .emp, .emp, .emp, .emp] = _
  unfold d_law
  rw [sq_nx h1, sq_nx h2]
  rfl
end L_rungward_k72_presses_for_lamps
namespace L_rungward_k72_presses_for_lamps
open PySem PySem.Spec PyProof.Rows L2 PV
abbrev R : PySem.W.OpenRow := PySem.W.OpenLaw.row PySem.Challenge.rw_rungward_k72_presses_for_lamps
def loose : List PySem.Str := (["turn", "pressed", "all_sets", "reduced", "left_over", "paper_for", "press_for", "is_no_press", "_law_draws", "_law_next", "_law_same", "_law_pick", "_law_buttons", "_law_on", "_law_sets", "_law_tells"] : List PySem.Str)
abbrev hk : PySem.W.Hook := hookP 4 fa fn cs
def ob (s : PySem.W.SharedT) : AlP := obsP 4 fa fn cs (HandSHeadRun.getT s)
theorem ob_eq (s : PySem.W.SharedT) : ob s = hk.obs s.abs := obsP_eq (HandSHeadRun.getT_eq s)
set_option maxHeartbeats 0 in
theorem run (w : World) : HandSHeadRun.RunEq R (PySem.W.view R.prog [18]) hk ob 1740 loose w := by
  intro os
  kernel_rfl
end L_rungward_k72_presses_for_lamps
open PySem PySem.W PySem.Calls PyProof.Rows
set_option maxHeartbeats 0 in
theorem PySem.Challenge.cw_rungward_k72_presses_for_lamps_holds : PySem.Challenge.rw_rungward_k72_presses_for_lamps.Holds := by
  w_on; o_law
  refine HandSHeadRun.head_any (r := OpenLaw.row PySem.Challenge.rw_rungward_k72_presses_for_lamps) (q := view (OpenLaw.row PySem.Challenge.rw_rungward_k72_presses_for_lamps).prog [18]) (H := L_rungward_k72_presses_for_lamps.hk) (ob := L_rungward_k72_presses_for_lamps.ob) (M := 1740) (loose := L_rungward_k72_presses_for_lamps.loose) (d := HandSHeadRun.topDef (OpenLaw.row PySem.Challenge.rw_rungward_k72_presses_for_lamps).prog 18) (kwd := []) L_rungward_k72_presses_for_lamps.ob_eq
    (by kernel_rfl) (fun s => by kernel_rfl) L_rungward_k72_presses_for_lamps.run (by kernel_rfl) (by kernel_rfl) (by kernel_rfl) (by rfl) (by first | assumption | decide +kernel) (by decide +kernel) ⟨rfl, rfl, rfl, rfl, rfl, by decide +kernel⟩ ?hw ?hc
  case hw => w_witness2
  case hc =>
    exact PV.law_walk (l := PySem.Challenge.rw_rungward_k72_presses_for_lamps) (fa := L_rungward_k72_presses_for_lamps.fa) (fn := L_rungward_k72_presses_for_lamps.fn) (cs := L_rungward_k72_presses_for_lamps.cs) (st := L_rungward_k72_presses_for_lamps.s_law) (i := 16) (j := 16) (g := L_rungward_k72_presses_for_lamps.f_law) (k := 5) rfl (by kernel_rfl) (by kernel_rfl) ⟨rfl, by decide, by decide⟩ rfl rfl
      (fun _ _ _ _ _ _ us hl => match us, hl with | [_], _ => rfl) (fun w K mg base Z f fd F => L_rungward_k72_presses_for_lamps.ok_law Z f fd F) L_rungward_k72_presses_for_lamps.law_true
