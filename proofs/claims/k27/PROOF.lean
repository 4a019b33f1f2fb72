import PyProof.Rows.All
import Wide.All
import OpenK.AllK
import Wide.FinOn
import HandS.ForMost
import HandS.IsInst
import HandS.Deep
import HandS.TupAny
import HandS.Flow
import HandS.Strs
import HandS.SetFor
import HandS.SortInts
import HandS.Style
import HandS.Small
import HandS.Rev
import HandS.TupMul
import HandS.Exc
import HandS.ExcOwn
import HandS.TryOnly
import HandS.WordsExc
import PyProof.ReprRoads
import HandS.Zip
import HandS.HeadWalk
import PySem.Challenge.RW_everymeaning_k27_whole_all_ways_told
set_option Elab.async false
set_option linter.all false
set_option maxRecDepth 100000
namespace Ev
open PySem PySem.Spec L2

/-! ## data, values, mutable objects -/
inductive D where
  | non | bl (b : Bool) | int (i : Int) | str (x : Str) | tup (xs : List D) | lst (xs : List D) | dic (kvs : List (Key × D))
inductive Val where
  | d (x : D) | h (n : Nat) | new (xs : List D)
/-- mutable objects: a list of data, a list of handles, an instance -/
inductive MO where
  | lst (xs : List D) | hl (ns : List Nat) | ins (c : Str) (fs : List (Str × Val)) | dct (kvs : List (Key × D))
structure Exc where
  cls : Str
  fs : List D
  L : List MO
inductive Out (α : Type) where
  | no | ok (a : α) (L : List MO) | ex (e : Exc)
abbrev Rho := List (Option Val)
abbrev Calls := String → List Val → List MO → Out Val

@[reducible] def Out.bind {α β : Type} (o : Out α) (f : α → List MO → Out β) : Out β := match o with
  | .no => .no
  | .ok a L => f a L
  | .ex _ => .no
/-- what raises goes on -/
@[reducible] def Out.bindX {α β : Type} (o : Out α) (f : α → List MO → Out β) : Out β := match o with
  | .no => .no
  | .ok a L => f a L
  | .ex e => .ex e
theorem Out.bindX_ok {α β : Type} {o : Out α} {f : α → List MO → Out β} {b : β} {L' : List MO} (h : o.bindX f = .ok b L') : ∃ a L, o = .ok a L ∧ f a L = .ok b L' := by
  cases o with
  | no => cases h
  | ok a L => exact ⟨a, L, rfl, h⟩
  | ex e => cases h
theorem Out.bindX_ex {α β : Type} {o : Out α} {f : α → List MO → Out β} {e : Exc} (h : o.bindX f = .ex e) : o = .ex e ∨ ∃ a L, o = .ok a L ∧ f a L = .ex e := by
  cases o with
  | no => cases h
  | ok a L => exact .inr ⟨a, L, rfl, h⟩
  | ex x => cases h; exact .inl rfl
theorem Out.bind_ok {α β : Type} {o : Out α} {f : α → List MO → Out β} {b : β} {L' : List MO} (h : o.bind f = .ok b L') : ∃ a L, o = .ok a L ∧ f a L = .ok b L' := by
  cases o with
  | no => cases h
  | ok a L => exact ⟨a, L, rfl, h⟩
  | ex e => cases h

def fz : Val → Val
  | .new xs => .d (.lst xs)
  | x => x

/-! ## what stands for what -/
/-- a list that is read: tracked, frozen, or one of the module's -/
def LsOk (K : PySem.W.Frag) (H : Hp) (a : Addr) (vs : List V) : Prop :=
  Rd H a (.lst vs) ∨ ∃ (its : Array Value) (n : Nat), K.lookup a = some { cls := .type "list", data := .seq its n } ∧ its.size ≤ sizeLine ∧ Vals vs its.toList
theorem LsOk.sq {K : PySem.W.Frag} {H : Hp} {a : Addr} {vs : List V} (h : LsOk K H a vs) : SqL K H a vs := by
  rcases h with h | ⟨its, n, h1, h2, h3⟩
  · exact .inl h
  · exact .inr ⟨_, its, n, h1, rfl, rfl, rfl, h2, h3⟩
theorem LsOk.of {K : PySem.W.Frag} {H : Hp} {a : Addr} {vs : List V} (h : H a = some (.lst vs)) : LsOk K H a vs := .inl (.inl h)
section
variable (K : PySem.W.Frag) (θ : List Addr) (H : Hp)
mutual
inductive R : V → D → Prop
  | non : R .non .non
  | bl (b : Bool) : R (.bl b) (.bl b)
  | int (i : Int) : R (.int i) (.int i)
  | str (x : Str) : R (.str x) (.str x)
  | tup {a : Addr} {vs : List V} {ds : List D} : a ∉ θ → SqT K H a vs → RL vs ds → R (.ref a) (.tup ds)
  | lst {a : Addr} {vs : List V} {ds : List D} : a ∉ θ → LsOk K H a vs → RL vs ds → R (.ref a) (.lst ds)
  | dic {a : Addr} {kvs : List (Key × V)} {ds : List (Key × D)} : a ∉ θ → H a = some (.dK kvs) → RK kvs ds → R (.ref a) (.dic ds)
inductive RL : List V → List D → Prop
  | nil : RL [] []
  | cons {v : V} {vs : List V} {d : D} {ds : List D} : R v d → RL vs ds → RL (v :: vs) (d :: ds)
inductive RK : List (Key × V) → List (Key × D) → Prop
  | nil : RK [] []
  | cons {k : Key} {v : V} {vs : List (Key × V)} {d : D} {ds : List (Key × D)} : R v d → RK vs ds → RK ((k, v) :: vs) ((k, d) :: ds)
end
def RV : V → Val → Prop
  | v, .d x => R K θ H v x
  | v, .h n => ∃ a, v = .ref a ∧ θ[n]? = some a
  | _, .new _ => False
end

/-- how the abstract heap may go on -/
structure Ext (K : PySem.W.Frag) (θ : List Addr) (H : Hp) (θ' : List Addr) (H' : Hp) : Prop where
  keep : ∀ b u, b ∉ θ → H b = some u → b ∉ θ' ∧ H' b = some u
  pre : ∃ t, θ' = θ ++ t
  trk : ∀ b u, H b = some u → ∃ u', H' b = some u'
  kk : ∀ b o, K.lookup b = some o → b ∉ θ'

section
variable {K : PySem.W.Frag} {θ θ' θ1 : List Addr} {H H' H1 : Hp}
theorem Ext.trans (a : Ext K θ H θ1 H1) (b : Ext K θ1 H1 θ' H') : Ext K θ H θ' H' := by
  refine ⟨fun c u h1 h2 => ?_, ?_, fun c u h => ?_, b.kk⟩
  · obtain ⟨q1, q2⟩ := a.keep c u h1 h2
    exact b.keep c u q1 q2
  · obtain ⟨t, e⟩ := a.pre
    obtain ⟨t', e'⟩ := b.pre
    exact ⟨t ++ t', by rw [e', e, List.append_assoc]⟩
  · obtain ⟨u', e⟩ := a.trk c u h
    exact b.trk c u' e
theorem Ext.get (e : Ext K θ H θ' H') {n : Nat} {a : Addr} (h : θ[n]? = some a) : θ'[n]? = some a := by
  obtain ⟨t, rfl⟩ := e.pre
  have hl : n < θ.length := (List.getElem?_eq_some_iff.mp h).1
  rw [List.getElem?_append_left hl]
  exact h
theorem Ext.refl (kk : ∀ b o, K.lookup b = some o → b ∉ θ) : Ext K θ H θ H := ⟨fun _ _ h1 h2 => ⟨h1, h2⟩, ⟨[], by simp⟩, fun _ u h => ⟨u, h⟩, kk⟩
theorem Ext.sqT (e : Ext K θ H θ' H') {a : Addr} {vs : List V} (h1 : a ∉ θ) (h : SqT K H a vs) : a ∉ θ' ∧ SqT K H' a vs := by
  rcases h with (h | ⟨o, h⟩) | ⟨o, its, n, q⟩
  · exact ⟨(e.keep _ _ h1 h).1, .inl (.inl (e.keep _ _ h1 h).2)⟩
  · exact ⟨(e.keep _ _ h1 h).1, .inl (.inr ⟨o, (e.keep _ _ h1 h).2⟩)⟩
  · exact ⟨e.kk _ _ q.1, .inr ⟨o, its, n, q⟩⟩
theorem Ext.ls (e : Ext K θ H θ' H') {a : Addr} {vs : List V} (h1 : a ∉ θ) (h : LsOk K H a vs) : a ∉ θ' ∧ LsOk K H' a vs := by
  rcases h with (h | ⟨o, h⟩) | ⟨its, n, q⟩
  · exact ⟨(e.keep _ _ h1 h).1, .inl (.inl (e.keep _ _ h1 h).2)⟩
  · exact ⟨(e.keep _ _ h1 h).1, .inl (.inr ⟨o, (e.keep _ _ h1 h).2⟩)⟩
  · exact ⟨e.kk _ _ q.1, .inr ⟨its, n, q⟩⟩
mutual
theorem R.mono (e : Ext K θ H θ' H') : ∀ {v : V} {d : D}, R K θ H v d → R K θ' H' v d
  | _, _, .non => .non
  | _, _, .bl b => .bl b
  | _, _, .int b => .int b
  | _, _, .str b => .str b
  | _, _, .tup h1 h2 h3 => .tup (e.sqT h1 h2).1 (e.sqT h1 h2).2 (RL.mono e h3)
  | _, _, .lst h1 h2 h3 => .lst (e.ls h1 h2).1 (e.ls h1 h2).2 (RL.mono e h3)
  | _, _, .dic h1 h2 h3 => .dic (e.keep _ _ h1 h2).1 (e.keep _ _ h1 h2).2 (RK.mono e h3)
theorem RL.mono (e : Ext K θ H θ' H') : ∀ {v : List V} {d : List D}, RL K θ H v d → RL K θ' H' v d
  | _, _, .nil => .nil
  | _, _, .cons h1 h2 => .cons (R.mono e h1) (RL.mono e h2)
theorem RK.mono (e : Ext K θ H θ' H') : ∀ {v : List (Key × V)} {d : List (Key × D)}, RK K θ H v d → RK K θ' H' v d
  | _, _, .nil => .nil
  | _, _, .cons h1 h2 => .cons (R.mono e h1) (RK.mono e h2)
end
mutual
/-- fewer handles -/
theorem R.less (s : ∀ b, b ∈ θ' → b ∈ θ) : ∀ {v : V} {d : D}, R K θ H v d → R K θ' H v d
  | _, _, .non => .non
  | _, _, .bl b => .bl b
  | _, _, .int b => .int b
  | _, _, .str b => .str b
  | _, _, .tup h1 h2 h3 => .tup (fun z => h1 (s _ z)) h2 (RL.less s h3)
  | _, _, .lst h1 h2 h3 => .lst (fun z => h1 (s _ z)) h2 (RL.less s h3)
  | _, _, .dic h1 h2 h3 => .dic (fun z => h1 (s _ z)) h2 (RK.less s h3)
theorem RL.less (s : ∀ b, b ∈ θ' → b ∈ θ) : ∀ {v : List V} {d : List D}, RL K θ H v d → RL K θ' H v d
  | _, _, .nil => .nil
  | _, _, .cons h1 h2 => .cons (R.less s h1) (RL.less s h2)
theorem RK.less (s : ∀ b, b ∈ θ' → b ∈ θ) : ∀ {v : List (Key × V)} {d : List (Key × D)}, RK K θ H v d → RK K θ' H v d
  | _, _, .nil => .nil
  | _, _, .cons h1 h2 => .cons (R.less s h1) (RK.less s h2)
end
theorem RV.mono (e : Ext K θ H θ' H') {v : V} {x : Val} (h : RV K θ H v x) : RV K θ' H' v x := by
  cases x with
  | d x => exact R.mono e h
  | h n => obtain ⟨a, h1, h2⟩ := h; exact ⟨a, h1, e.get h2⟩
  | new xs => exact h
theorem RL.length : ∀ {vs : List V} {ds : List D}, RL K θ H vs ds → vs.length = ds.length
  | _, _, .nil => rfl
  | _, _, .cons _ t => congrArg (· + 1) (RL.length t)
theorem RL.get : ∀ {vs : List V} {ds : List D} {i : Nat} {d : D}, RL K θ H vs ds → ds[i]? = some d → ∃ v, vs[i]? = some v ∧ R K θ H v d
  | _, _, _, _, .nil, e => by simp at e
  | _, _, 0, _, .cons r _, e => by simp at e; subst e; exact ⟨_, rfl, r⟩
  | _, _, i + 1, d, .cons _ t, e => by
    obtain ⟨u, h1, h2⟩ := RL.get (i := i) (d := d) t (by simpa using e)
    exact ⟨u, by simpa using h1, h2⟩
theorem RL.get' : ∀ {vs : List V} {ds : List D} {i : Nat} {v : V}, RL K θ H vs ds → vs[i]? = some v → ∃ d, ds[i]? = some d ∧ R K θ H v d
  | _, _, _, _, .nil, e => by simp at e
  | _, _, 0, _, .cons r _, e => by simp at e; subst e; exact ⟨_, rfl, r⟩
  | _, _, i + 1, d, .cons _ t, e => by
    obtain ⟨u, h1, h2⟩ := RL.get' (i := i) (v := d) t (by simpa using e)
    exact ⟨u, by simpa using h1, h2⟩
theorem RL.append : ∀ {vs ws : List V} {ds es : List D}, RL K θ H vs ds → RL K θ H ws es → RL K θ H (vs ++ ws) (ds ++ es)
  | _, _, _, _, .nil, s => s
  | _, _, _, _, .cons r t, s => .cons r (RL.append t s)
theorem RL.take : ∀ {vs : List V} {ds : List D} (n : Nat), RL K θ H vs ds → RL K θ H (vs.take n) (ds.take n)
  | _, _, 0, _ => .nil
  | _, _, _ + 1, .nil => .nil
  | _, _, n + 1, .cons r t => .cons r (RL.take n t)
theorem RL.drop : ∀ {vs : List V} {ds : List D} (n : Nat), RL K θ H vs ds → RL K θ H (vs.drop n) (ds.drop n)
  | _, _, 0, r => r
  | _, _, _ + 1, .nil => .nil
  | _, _, n + 1, .cons r t => RL.drop n t
theorem RL.set {v : V} {d : D} (r : R K θ H v d) : ∀ {vs : List V} {ds : List D} (i : Nat), RL K θ H vs ds → RL K θ H (vs.set i v) (ds.set i d)
  | _, _, _, .nil => .nil
  | _, _, 0, .cons _ t => .cons r t
  | _, _, i + 1, .cons q t => .cons q (RL.set r i t)
theorem RL.eraseIdx : ∀ {vs : List V} {ds : List D} (i : Nat), RL K θ H vs ds → RL K θ H (vs.eraseIdx i) (ds.eraseIdx i)
  | _, _, _, .nil => .nil
  | _, _, 0, .cons _ t => t
  | _, _, i + 1, .cons q t => .cons q (RL.eraseIdx i t)
theorem RL.dropLast {vs : List V} {ds : List D} (h : RL K θ H vs ds) : RL K θ H vs.dropLast ds.dropLast := by
  rw [List.dropLast_eq_take, List.dropLast_eq_take, h.length]
  exact h.take _
theorem RL.reverse : ∀ {vs : List V} {ds : List D}, RL K θ H vs ds → RL K θ H vs.reverse ds.reverse
  | _, _, .nil => .nil
  | _, _, .cons r t => by rw [List.reverse_cons, List.reverse_cons]; exact (RL.reverse t).append (.cons r .nil)
theorem RL.rep {vs : List V} {ds : List D} (r : RL K θ H vs ds) : ∀ k : Nat, RL K θ H (List.replicate k vs).flatten (List.replicate k ds).flatten
  | 0 => .nil
  | k + 1 => by rw [List.replicate_succ, List.replicate_succ, List.flatten_cons, List.flatten_cons]; exact r.append (RL.rep r k)
theorem RL.ints : ∀ {vs : List V} {is : List Int}, RL K θ H vs (is.map D.int) → vs = is.map V.int
  | _, [], .nil => rfl
  | _, i :: is, .cons r t => by cases r; rw [RL.ints t]; rfl
theorem RL.of_ints : ∀ (is : List Int), RL K θ H (is.map V.int) (is.map D.int)
  | [] => .nil
  | i :: is => .cons (.int i) (RL.of_ints is)
theorem RL.bls : ∀ {vs : List V} {is : List Bool}, RL K θ H vs (is.map D.bl) → vs = is.map V.bl
  | _, [], .nil => rfl
  | _, i :: is, .cons r t => by cases r; rw [RL.bls t]; rfl
theorem RL.strs : ∀ {vs : List V} {is : List Str}, RL K θ H vs (is.map D.str) → vs = is.map V.str
  | _, [], .nil => rfl
  | _, i :: is, .cons r t => by cases r; rw [RL.strs t]; rfl
theorem RL.of_strs : ∀ (is : List Str), RL K θ H (is.map V.str) (is.map D.str)
  | [] => .nil
  | i :: is => .cons (.str i) (RL.of_strs is)
theorem RL.isEmpty {vs : List V} {ds : List D} (h : RL K θ H vs ds) : vs.isEmpty = ds.isEmpty := by
  cases h <;> rfl
end

/-! ## the mutable objects -/
def MOk (K : PySem.W.Frag) (CA : Str → Addr) (θ : List Addr) (H : Hp) (a : Addr) : MO → Prop
  | .lst ds => ∃ vs, H a = some (.lst vs) ∧ RL K θ H vs ds
  | .hl ns => ∃ bs : List Addr, H a = some (.lst (bs.map V.ref)) ∧ bs.length = ns.length ∧ ∀ (i n : Nat), ns[i]? = some n → ∃ b : Addr, bs[i]? = some b ∧ θ[n]? = some b
  | .ins c fs => ∃ (dx : Addr) (gs : List (Str × V)), H a = some (.ins (CA c) dx gs) ∧ gs.map (·.1) = fs.map (·.1) ∧ ∀ f x, fs.lookup f = some x → ∃ v, gs.lookup f = some v ∧ RV K θ H v x
  | .dct ds => ∃ us, H a = some (.dK us) ∧ RK K θ H us ds
/-- the handles in an object are below a number -/
def Val.below (n : Nat) : Val → Bool
  | .h k => decide (k < n)
  | _ => true
def MO.below (n : Nat) : MO → Bool
  | .lst _ => true
  | .dct _ => true
  | .hl ns => ns.all fun k => decide (k < n)
  | .ins _ fs => fs.all fun p => p.2.below n
structure Live (K : PySem.W.Frag) (CA : Str → Addr) (θ : List Addr) (L : List MO) (H : Hp) : Prop where
  len : θ.length = L.length
  nd : θ.Nodup
  at_ : ∀ (n : Nat) (a : Addr) (m : MO), θ[n]? = some a → L[n]? = some m → MOk K CA θ H a m
  kk : ∀ b o, K.lookup b = some o → b ∉ θ

def KF (K : PySem.W.Frag) (H : Hp) : Prop := ∀ b o, K.lookup b = some o → H b = none
section
variable {K : PySem.W.Frag} {CA : Str → Addr} {θ θ' θ1 : List Addr} {H H' H1 : Hp} {L L' : List MO} {a p : Addr} {m : MO} {o : HO}
theorem MOk.trk (h : MOk K CA θ H a m) : ∃ u, H a = some u := by
  cases m with
  | lst ds => obtain ⟨vs, e, _⟩ := h; exact ⟨_, e⟩
  | hl ns => obtain ⟨vs, e, _⟩ := h; exact ⟨_, e⟩
  | ins c fs => obtain ⟨dx, gs, e, _⟩ := h; exact ⟨_, e⟩
  | dct ds => obtain ⟨vs, e, _⟩ := h; exact ⟨_, e⟩
theorem MOk.mono (e : Ext K θ H θ' H') (q : H' a = H a) (h : MOk K CA θ H a m) : MOk K CA θ' H' a m := by
  cases m with
  | lst ds => obtain ⟨vs, e1, e2⟩ := h; exact ⟨vs, q.trans e1, RL.mono e e2⟩
  | dct ds => obtain ⟨vs, e1, e2⟩ := h; exact ⟨vs, q.trans e1, RK.mono e e2⟩
  | hl ns =>
    obtain ⟨bs, e1, e2, e3⟩ := h
    exact ⟨bs, q.trans e1, e2, fun i n hn => by obtain ⟨b, q1, q2⟩ := e3 i n hn; exact ⟨b, q1, e.get q2⟩⟩
  | ins c fs =>
    obtain ⟨dx, gs, e1, e2, e3⟩ := h
    exact ⟨dx, gs, q.trans e1, e2, fun f x hx => by obtain ⟨v, q1, q2⟩ := e3 f x hx; exact ⟨v, q1, RV.mono e q2⟩⟩
theorem Live.get (h : Live K CA θ L H) {n : Nat} (hn : n < L.length) : ∃ a, θ[n]? = some a ∧ MOk K CA θ H a L[n] := by
  have hn' : n < θ.length := by rw [h.len]; exact hn
  exact ⟨θ[n], List.getElem?_eq_getElem hn', h.at_ n _ _ (List.getElem?_eq_getElem hn') (List.getElem?_eq_getElem hn)⟩
theorem Live.trk (h : Live K CA θ L H) (ha : a ∈ θ) : ∃ u, H a = some u := by
  obtain ⟨n, hn, rfl⟩ := List.mem_iff_getElem.mp ha
  have hn' : n < L.length := by rw [← h.len]; exact hn
  obtain ⟨b, e1, e2⟩ := h.get hn'
  rw [List.getElem?_eq_getElem hn] at e1
  cases e1
  exact e2.trk
theorem Live.free (h : Live K CA θ L H) (hp : H p = none) : p ∉ θ := fun z => by
  obtain ⟨u, e⟩ := h.trk z
  rw [hp] at e; cases e
/-- something new that is data from then on -/
theorem Live.laid (h : Live K CA θ L H) (hp : H p = none) : Ext K θ H θ (upd H p o) ∧ Live K CA θ L (upd H p o) := by
  have np := h.free hp
  have e : Ext K θ H θ (upd H p o) := ⟨fun b u h1 h2 => ⟨h1, by rw [upd_ne (ne_of_none h2 hp)]; exact h2⟩, ⟨[], by simp⟩, fun b u h2 => ⟨u, by rw [upd_ne (ne_of_none h2 hp)]; exact h2⟩, h.kk⟩
  refine ⟨e, h.len, h.nd, fun n a m h1 h2 => (h.at_ n a m h1 h2).mono e ?_, h.kk⟩
  rw [upd_ne]
  rintro rfl
  exact np (List.mem_of_getElem? h1)
/-- a new list that is nobody else's -/
structure NewAt (K : PySem.W.Frag) (CA : Str → Addr) (θ : List Addr) (H : Hp) (θ' : List Addr) (L' : List MO) (a : Addr) (xs : List D) (H' : Hp) : Prop where
  ext : Ext K θ H θ' H'
  live : Live K CA θ' L' H'
  more : Live K CA (θ' ++ [a]) (L' ++ [.lst xs]) H'
  fresh : H a = none
theorem Live.newAt (h : Live K CA θ L H) (hp : H p = none) {vs : List V} {ds : List D} (r : RL K θ H vs ds) (kf : KF K (upd H p (.lst vs))) : NewAt K CA θ H θ L p ds (upd H p (.lst vs)) := by
  obtain ⟨e, l⟩ := h.laid (o := .lst vs) hp
  have np := h.free hp
  have kp : ∀ b o, K.lookup b = some o → b ∉ θ ++ [p] := fun b o hb z => by
    rcases List.mem_append.mp z with z | z
    · exact h.kk b o hb z
    · have hbp : b = p := by simpa using z
      have q := kf b o hb
      rw [hbp, upd_same] at q; cases q
  have e2 : Ext K θ H (θ ++ [p]) (upd H p (.lst vs)) := by
    refine ⟨fun b u h1 h2 => ⟨fun z => ?_, (e.keep b u h1 h2).2⟩, ⟨[p], rfl⟩, e.trk, kp⟩
    rcases List.mem_append.mp z with z | z
    · exact h1 z
    · have hb : b = p := by simpa using z
      rw [hb, hp] at h2; cases h2
  refine ⟨e, l, ⟨by simp [h.len], ?_, fun n a m h1 h2 => ?_, kp⟩, hp⟩
  · rw [List.nodup_append]
    refine ⟨h.nd, by simp, fun x hx y hy z => ?_⟩
    have e1 : y = p := by simpa using hy
    exact np (e1 ▸ z ▸ hx)
  · by_cases hn : n < θ.length
    · rw [List.getElem?_append_left hn] at h1
      rw [List.getElem?_append_left (by rw [← h.len]; exact hn)] at h2
      refine (h.at_ n a m h1 h2).mono e2 ?_
      rw [upd_ne]
      rintro rfl
      exact np (List.mem_of_getElem? h1)
    · have hn' : n = θ.length := by
        have := (List.getElem?_eq_some_iff.mp h1).1
        simp at this; omega
      subst hn'
      have h1' : a = p := by simpa using h1.symm
      have h2' : m = .lst ds := by rw [h.len] at h2; simpa using h2.symm
      subst h1'; subst h2'
      exact ⟨vs, upd_same, RL.mono e2 r⟩
theorem NewAt.data {a : Addr} {xs : List D} (h : NewAt K CA θ H θ' L' a xs H') : R K θ' H' (.ref a) (.lst xs) := by
  have hl := h.more.at_ θ'.length a (.lst xs) (by simp) (by rw [h.live.len]; simp)
  obtain ⟨vs, e, r⟩ := hl
  refine .lst (fun z => ?_) (.of e) (r.less fun b hb => List.mem_append_left _ hb)
  have := h.more.nd
  rw [List.nodup_append] at this
  exact this.2.2 a z a (by simp) rfl
theorem NewAt.ext2 {a : Addr} {xs : List D} (h : NewAt K CA θ H θ' L' a xs H') : Ext K θ H (θ' ++ [a]) H' := by
  refine ⟨fun b u h1 h2 => ⟨fun z => ?_, (h.ext.keep b u h1 h2).2⟩, ?_, h.ext.trk, h.more.kk⟩
  · rcases List.mem_append.mp z with z | z
    · exact (h.ext.keep b u h1 h2).1 z
    · have : b = a := by simpa using z
      subst this
      rw [h.fresh] at h2; cases h2
  · obtain ⟨t, e⟩ := h.ext.pre
    exact ⟨t ++ [a], by rw [e, List.append_assoc]⟩
/-- a list of ours is written -/
theorem Live.write (h : Live K CA θ L H) {n : Nat} (ha : θ[n]? = some a) {o : HO} {m : MO} (r : MOk K CA θ (upd H a o) a m) : Ext K θ H θ (upd H a o) ∧ Live K CA θ (L.set n m) (upd H a o) := by
  have ma := List.mem_of_getElem? ha
  have e : Ext K θ H θ (upd H a o) := ⟨fun b u h1 h2 => ⟨h1, (upd_ne (fun z : b = a => h1 (by rw [z]; exact ma))).trans h2⟩, ⟨[], by simp⟩, fun b u h2 => by
    by_cases z : b = a
    · subst z; exact ⟨o, upd_same⟩
    · exact ⟨u, by rw [upd_ne z]; exact h2⟩, h.kk⟩
  refine ⟨e, by simp [h.len], h.nd, fun k b m' h1 h2 => ?_, h.kk⟩
  by_cases hk : k = n
  · subst hk
    rw [ha] at h1; cases h1
    have hl : k < L.length := by rw [← h.len]; exact (List.getElem?_eq_some_iff.mp ha).1
    rw [List.getElem?_set_self hl] at h2
    cases h2
    exact r
  · rw [List.getElem?_set_ne (Ne.symm hk)] at h2
    refine (h.at_ k b m' h1 h2).mono e ?_
    rw [upd_ne]
    rintro rfl
    obtain ⟨k1, q1⟩ := List.getElem?_eq_some_iff.mp h1
    obtain ⟨k2, q2⟩ := List.getElem?_eq_some_iff.mp ha
    exact hk ((List.getElem_inj h.nd).mp (q1.trans q2.symm))
theorem Live.lst (h : Live K CA θ L H) {n : Nat} {xs : List D} (hL : L[n]? = some (.lst xs)) : ∃ a vs, θ[n]? = some a ∧ H a = some (.lst vs) ∧ RL K θ H vs xs := by
  have hn := (List.getElem?_eq_some_iff.mp hL).1
  have hn' : n < θ.length := by rw [h.len]; exact hn
  obtain ⟨vs, e, r⟩ := h.at_ n _ _ (List.getElem?_eq_getElem hn') hL
  exact ⟨_, vs, List.getElem?_eq_getElem hn', e, r⟩
end
end Ev
set_option Elab.async false
set_option linter.all false
set_option maxRecDepth 100000
namespace Ev
open PySem PySem.Spec L2

/-! ## the canonical readings -/
section
variable {X : Cx}
def semE (X : Cx) (e : Expr) : TE := fun σ H Q => ∀ (pins : List (Addr × Obj)) (s : Shared), Inv X pins σ H s → wpAny (model X.prog X.w) X.A (eval e X.env) (EP X pins σ Q) X.xe s
def semT (X : Cx) (e : Expr) : TT := fun σ H Q => ∀ (pins : List (Addr × Obj)) (s : Shared), Inv X pins σ H s → wpAny (model X.prog X.w) X.A (isTrue e X.env (eval e X.env)) (TP X pins σ Q) X.xe s
def semW (X : Cx) (e : Expr) : TT := fun σ H Q => ∀ (whole : Sem Value) (pins : List (Addr × Obj)) (s : Shared), Inv X pins σ H s → wpAny (model X.prog X.w) X.A (isTrue e X.env whole) (TP X pins σ Q) X.xe s
def semA (X : Cx) (es : List Expr) : TA := fun σ H Q => ∀ (pos : Pos) (pins : List (Addr × Obj)) (s : Shared), Inv X pins σ H s → wpAny (model X.prog X.w) X.A (spliced (backTo pos (starEach es X.env))) (AP X pins σ Q) X.xe s
def semS (X : Cx) (st : Stmt) : TS := fun D σ H => ∀ (pins : List (Addr × Obj)) (s : Shared), Inv X pins σ H s → wpAny (model X.prog X.w) X.A (exec st X.env) (SP X pins D) X.xe s
def semSs (X : Cx) (st : List Stmt) : TS := fun D σ H => ∀ (pins : List (Addr × Obj)) (s : Shared), Inv X pins σ H s → wpAny (model X.prog X.w) X.A (execs st X.env) (SP X pins D) X.xe s
def semI (X : Cx) (tg iter : Expr) : TI := fun σ H Rk => ∀ (pins : List (Addr × Obj)) (s : Shared), Inv X pins σ H s →
  wpAny (model X.prog X.w) X.A (eval iter X.env) (fun v s1 => wpAny (model X.prog X.w) X.A (pyIter v) (PIE X pins σ tg Rk) X.xe s1) X.xe s
theorem sE (e : Expr) : PE X e (semE X e) := ⟨fun pins s σ H Q I h => h pins s I⟩
theorem sT (e : Expr) : PT X e (semT X e) := ⟨fun pins s σ H Q I h => h pins s I⟩
theorem sW (e : Expr) : PW X e (semW X e) := ⟨fun whole pins s σ H Q I h => h whole pins s I⟩
theorem sA (es : List Expr) : PA X es (semA X es) := ⟨fun pos pins s σ H Q I h => h pos pins s I⟩
theorem sS (st : Stmt) : PS X st (semS X st) := ⟨fun pins s σ H D I h => h pins s I⟩
theorem sSs (st : List Stmt) : PSs X st (semSs X st) := ⟨fun pins s σ H D I h => h pins s I⟩
theorem sI (tg iter : Expr) : PI X tg iter (semI X tg iter) := ⟨fun pins s σ H R I h => h pins s I⟩
theorem ofE {e : Expr} {t : TE} (h : PE X e t) {σ : St} {H : Hp} {Q : VK} (q : t σ H Q) : semE X e σ H Q := fun pins s I => h.run pins s σ H Q I q
theorem ofT {e : Expr} {t : TT} (h : PT X e t) {σ : St} {H : Hp} {Q : Bool → Hp → Prop} (q : t σ H Q) : semT X e σ H Q := fun pins s I => h.run pins s σ H Q I q
theorem ofW {e : Expr} {t : TT} (h : PW X e t) {σ : St} {H : Hp} {Q : Bool → Hp → Prop} (q : t σ H Q) : semW X e σ H Q := fun whole pins s I => h.run whole pins s σ H Q I q
theorem ofA {es : List Expr} {t : TA} (h : PA X es t) {σ : St} {H : Hp} {Q : List V → Hp → Prop} (q : t σ H Q) : semA X es σ H Q := fun pos pins s I => h.run pos pins s σ H Q I q
theorem ofS {st : Stmt} {t : TS} (h : PS X st t) {σ : St} {H : Hp} {D : Ends} (q : t D σ H) : semS X st D σ H := fun pins s I => h.run pins s σ H D I q
theorem ofSs {st : List Stmt} {t : TS} (h : PSs X st t) {σ : St} {H : Hp} {D : Ends} (q : t D σ H) : semSs X st D σ H := fun pins s I => h.run pins s σ H D I q
theorem ofI {tg iter : Expr} {t : TI} (h : PI X tg iter t) {σ : St} {H : Hp} {Q : It → Hp → Prop} (q : t σ H Q) : semI X tg iter σ H Q := fun pins s I => h.run pins s σ H Q I q

theorem kf_of {pins : List (Addr × Obj)} {σ : St} {H : Hp} {s : Shared} (I : Inv X pins σ H s) : KF X.K H := fun b o e => (I.bs b o (I.ok.mod.kin b o e)).2
theorem semE_kf {e : Expr} {σ : St} {H : Hp} {Q : VK} (h : semE X e σ H fun v H' => KF X.K H' → Q v H') : semE X e σ H Q := fun pins s I =>
  thn (h pins s I) fun u s1 ⟨v, H1, I1, r, q⟩ => ⟨v, H1, I1, r, q (kf_of I1)⟩
theorem semT_kf {e : Expr} {σ : St} {H : Hp} {Q : Bool → Hp → Prop} (h : semT X e σ H fun v H' => KF X.K H' → Q v H') : semT X e σ H Q := fun pins s I =>
  thn (h pins s I) fun u s1 ⟨H1, I1, q⟩ => ⟨H1, I1, q (kf_of I1)⟩
theorem semW_kf {e : Expr} {σ : St} {H : Hp} {Q : Bool → Hp → Prop} (h : semW X e σ H fun v H' => KF X.K H' → Q v H') : semW X e σ H Q := fun whole pins s I =>
  thn (h whole pins s I) fun u s1 ⟨H1, I1, q⟩ => ⟨H1, I1, q (kf_of I1)⟩
theorem semA_kf {e : List Expr} {σ : St} {H : Hp} {Q : List V → Hp → Prop} (h : semA X e σ H fun v H' => KF X.K H' → Q v H') : semA X e σ H Q := fun pos pins s I =>
  thn (h pos pins s I) fun u s1 ⟨v, H1, I1, r, q⟩ => ⟨v, H1, I1, r, q (kf_of I1)⟩
theorem semE_imp {e : Expr} {σ : St} {H : Hp} {Q Q' : VK} (h : semE X e σ H Q) (q : ∀ v H', Q v H' → Q' v H') : semE X e σ H Q' := fun pins s I =>
  thn (h pins s I) fun u s1 ⟨v, H1, I1, r, q1⟩ => ⟨v, H1, I1, r, q _ _ q1⟩
/-- a statement's ends with what is known of them -/
def Ends.kf (D : Ends) (K : PySem.W.Frag) : Ends := { nx := fun σ H => KF K H → D.nx σ H, rt := fun v H => KF K H → D.rt v H, bk := fun σ H => KF K H → D.bk σ H, ct := fun σ H => KF K H → D.ct σ H }
theorem SP.unkf {pins : List (Addr × Obj)} {D : Ends} {f : Flow} {s : Shared} (h : SP X pins (Ends.kf D X.K) f s) : SP X pins D f s := by
  cases f with
  | next => obtain ⟨σ', H', I, q⟩ := h; exact ⟨σ', H', I, q (kf_of I)⟩
  | brk => obtain ⟨σ', H', I, q⟩ := h; exact ⟨σ', H', I, q (kf_of I)⟩
  | cont => obtain ⟨σ', H', I, q⟩ := h; exact ⟨σ', H', I, q (kf_of I)⟩
  | ret u => obtain ⟨v, σ', H', I, r, q⟩ := h; exact ⟨v, σ', H', I, r, q (kf_of I)⟩
theorem semS_kf {st : Stmt} {D : Ends} {σ : St} {H : Hp} (h : semS X st (Ends.kf D X.K) σ H) : semS X st D σ H := fun pins s I => thn (h pins s I) fun _ _ q => SP.unkf q
theorem semSs_kf {st : List Stmt} {D : Ends} {σ : St} {H : Hp} (h : semSs X st (Ends.kf D X.K) σ H) : semSs X st D σ H := fun pins s I => thn (h pins s I) fun _ _ q => SP.unkf q
end

/-! ## states -/
structure Sim (K : PySem.W.Frag) (CA : Str → Addr) (θ : List Addr) (ρ : Rho) (L : List MO) (σ : St) (H : Hp) : Prop where
  live : Live K CA θ L H
  env : ∀ (i : Nat) (x : Val), ρ[i]? = some (some x) → ∃ v, σ[i]? = some (some v) ∧ RV K θ H v x
  kf : KF K H
  len : ρ.length = σ.length
section
variable {K : PySem.W.Frag} {CA : Str → Addr} {θ θ' θ1 : List Addr} {H H' H1 : Hp} {L L' L1 : List MO} {σ σ' : St} {ρ ρ' : Rho}
theorem Sim.refl (S : Sim K CA θ ρ L σ H) : Ext K θ H θ H := Ext.refl S.live.kk
theorem Sim.go (S : Sim K CA θ ρ L σ H) (e : Ext K θ H θ' H') (l : Live K CA θ' L' H') (kf : KF K H') : Sim K CA θ' ρ L' σ H' :=
  ⟨l, fun i x h => by obtain ⟨v, q1, q2⟩ := S.env i x h; exact ⟨v, q1, RV.mono e q2⟩, kf, S.len⟩
theorem Sim.set (S : Sim K CA θ ρ L σ H) {i : Nat} {v : V} {x : Val} (r : RV K θ H v x) : Sim K CA θ (ρ.set i (some x)) L (σ.set i (some v)) H := by
  refine ⟨S.live, fun j y h => ?_, S.kf, by simp [S.len]⟩
  by_cases hj : j = i
  · subst hj
    have hl : j < ρ.length := by
      have := (List.getElem?_eq_some_iff.mp h).1
      simpa using this
    rw [List.getElem?_set_self hl] at h
    cases h
    exact ⟨v, List.getElem?_set_self (by rw [← S.len]; exact hl), r⟩
  · rw [List.getElem?_set_ne (Ne.symm hj)] at h
    rw [List.getElem?_set_ne (Ne.symm hj)]
    exact S.env j y h
def wipeR (ρ : Rho) : List Nat → Rho
  | [] => ρ
  | v :: vs => (wipeR ρ vs).set v none
theorem Sim.unset (S : Sim K CA θ ρ L σ H) (i : Nat) : Sim K CA θ (ρ.set i none) L (σ.set i none) H := by
  refine ⟨S.live, fun j y h => ?_, S.kf, by simp [S.len]⟩
  by_cases hj : j = i
  · subst hj
    by_cases hl : j < ρ.length
    · rw [List.getElem?_set_self hl] at h; cases h
    · rw [List.getElem?_eq_none (by simpa using hl)] at h; cases h
  · rw [List.getElem?_set_ne (Ne.symm hj)] at h
    rw [List.getElem?_set_ne (Ne.symm hj)]
    exact S.env j y h
theorem Sim.wipe (S : Sim K CA θ ρ L σ H) : ∀ vs : List Nat, Sim K CA θ (wipeR ρ vs) L (wipe σ vs) H
  | [] => S
  | v :: vs => (S.wipe vs).unset v
/-- what is wanted of a value -/
def PostE (K : PySem.W.Frag) (CA : Str → Addr) (θ : List Addr) (H : Hp) (L' : List MO) (Q : VK) : Val → Prop
  | .new xs => ∀ a θ' H', NewAt K CA θ H θ' L' a xs H' → Q (.ref a) H'
  | x => ∀ v θ' H', Ext K θ H θ' H' → Live K CA θ' L' H' → RV K θ' H' v x → Q v H'
theorem PostE.imp {Q Q' : VK} {x : Val} (h : PostE K CA θ H L' Q x) (q : ∀ v H', Q v H' → Q' v H') : PostE K CA θ H L' Q' x := by
  cases x with
  | d x => exact fun v θ' H' e l r => q _ _ (h v θ' H' e l r)
  | h n => exact fun v θ' H' e l r => q _ _ (h v θ' H' e l r)
  | new xs => exact fun a θ' H' N => q _ _ (h a θ' H' N)
theorem PostE.later {Q : VK} {x : Val} (e : Ext K θ H θ1 H1) (h : PostE K CA θ H L' Q x) : PostE K CA θ1 H1 L' Q x := by
  cases x with
  | d x => exact fun v θ' H' e' l r => h v θ' H' (e.trans e') l r
  | h n => exact fun v θ' H' e' l r => h v θ' H' (e.trans e') l r
  | new xs =>
    refine fun a θ' H' N => h a θ' H' ⟨e.trans N.ext, N.live, N.more, ?_⟩
    cases q : H a with
    | none => rfl
    | some u =>
      obtain ⟨u', q'⟩ := e.trk a u q
      rw [N.fresh] at q'; cases q'
/-- as data -/
theorem PostE.fz {Q : VK} {x : Val} (h : ∀ v θ' H', Ext K θ H θ' H' → Live K CA θ' L' H' → RV K θ' H' v (fz x) → Q v H') : PostE K CA θ H L' Q x := by
  cases x with
  | d x => exact h
  | h n => exact h
  | new xs => exact fun a θ' H' N => h _ θ' H' N.ext N.live N.data
theorem PostE.val {Q : VK} {x : D} (h : ∀ v θ' H', Ext K θ H θ' H' → Live K CA θ' L' H' → R K θ' H' v x → Q v H') : PostE K CA θ H L' Q (.d x) := h
end

/-! ## what an expression's denotation must meet -/
abbrev M := Calls → Rho → List MO → Out Val
abbrev MT := Calls → Rho → List MO → Out Bool
abbrev MA := Calls → Rho → List MO → Out (List Val)
section
variable (CA : Str → Addr)
def SE (X : Cx) (C : Calls) (e : Expr) (m : M) : Prop := ∀ (ρ : Rho) (L : List MO) (x : Val) (L' : List MO), m C ρ L = .ok x L' →
  ∀ (θ : List Addr) (σ : St) (H : Hp) (Q : VK), Sim X.K CA θ ρ L σ H → PostE X.K CA θ H L' Q x → semE X e σ H Q
def STt (X : Cx) (C : Calls) (e : Expr) (m : MT) : Prop := ∀ (ρ : Rho) (L : List MO) (b : Bool) (L' : List MO), m C ρ L = .ok b L' →
  ∀ (θ : List Addr) (σ : St) (H : Hp) (Q : Bool → Hp → Prop), Sim X.K CA θ ρ L σ H → (∀ θ' H', Ext X.K θ H θ' H' → Live X.K CA θ' L' H' → Q b H') → semT X e σ H Q
def SA (X : Cx) (C : Calls) (es : List Expr) (m : MA) : Prop := ∀ (ρ : Rho) (L : List MO) (xs : List Val) (L' : List MO), m C ρ L = .ok xs L' →
  ∀ (θ : List Addr) (σ : St) (H : Hp) (Q : List V → Hp → Prop), Sim X.K CA θ ρ L σ H → (∀ vs θ' H', Ext X.K θ H θ' H' → Live X.K CA θ' L' H' → Paired (RV X.K θ' H') vs xs → Q vs H') → semA X es σ H Q
end
section
variable {CA : Str → Addr} {X : Cx} {C : Calls} {e a b : Expr} {m ma mb : M} {ρ : Rho} {L L' L1 L2 : List MO} {x y : Val} {θ : List Addr} {σ : St} {H : Hp}
/-- a part's value, as data (or a handle), and the state behind it -/
theorem SE.use (h : SE CA X C e m) (hm : m C ρ L = .ok x L1) (S : Sim X.K CA θ ρ L σ H) {Q : VK}
    (q : ∀ v θ1 H1, Ext X.K θ H θ1 H1 → Sim X.K CA θ1 ρ L1 σ H1 → RV X.K θ1 H1 v (fz x) → Q v H1) : semE X e σ H Q :=
  semE_kf (h ρ L x L1 hm θ σ H _ S (PostE.fz fun v θ' H' e l r kf => q v θ' H' e (S.go e l kf) r))
theorem STt.use {m : MT} {b : Bool} (h : STt CA X C e m) (hm : m C ρ L = .ok b L1) (S : Sim X.K CA θ ρ L σ H) {Q : Bool → Hp → Prop}
    (q : ∀ θ1 H1, Ext X.K θ H θ1 H1 → Sim X.K CA θ1 ρ L1 σ H1 → Q b H1) : semT X e σ H Q :=
  semT_kf (h ρ L b L1 hm θ σ H _ S fun θ' H' e l kf => q θ' H' e (S.go e l kf))
theorem SA.use {es : List Expr} {m : MA} {xs : List Val} (h : SA CA X C es m) (hm : m C ρ L = .ok xs L1) (S : Sim X.K CA θ ρ L σ H) {Q : List V → Hp → Prop}
    (q : ∀ vs θ1 H1, Ext X.K θ H θ1 H1 → Sim X.K CA θ1 ρ L1 σ H1 → Paired (RV X.K θ1 H1) vs xs → Q vs H1) : semA X es σ H Q :=
  semA_kf (h ρ L xs L1 hm θ σ H _ S fun v θ' H' e l r kf => q v θ' H' e (S.go e l kf) r)

/-! ### argument lists -/
def mNil : MA := fun _ _ L => .ok [] L
def mCons (m : M) (ms : MA) : MA := fun C ρ L => (m C ρ L).bind fun x L1 => (ms C ρ L1).bind fun xs L2 => .ok (fz x :: xs) L2
def noStar : Expr → Bool
  | .Starred .. => false
  | _ => true
theorem star_of {es : List Expr} {env : Env} (h : noStar e = true) : starEach (e :: es) env = (false, eval e env) :: starEach es env := by
  cases e <;> first | rfl | (exact absurd (show false = true from h) Bool.false_ne_true)
theorem backTo_star {pos : Pos} {env : Env} : ∀ (es : List Expr), es.all noStar = true → (backTo pos (starEach es env)).any (·.1) = false
  | [], _ => rfl
  | e :: es, h => by
    rw [List.all_cons, Bool.and_eq_true] at h
    rw [star_of h.1]
    show (false || _) = false
    exact backTo_star es h.2
theorem sa_nil : SA CA X C [] mNil := fun ρ L xs L' hm θ σ H Q S q => by
  cases hm
  exact ofA pa_nil (q [] θ H S.refl S.live .nil)
theorem sa_cons {es : List Expr} {ms : MA} (h1 : SE CA X C e m) (h2 : SA CA X C es ms) (hs : noStar e = true) : SA CA X C (e :: es) (mCons m ms) := fun ρ L xs L' hm θ σ H Q S q => by
  obtain ⟨x, L1, e1, hm⟩ := Out.bind_ok hm
  obtain ⟨ys, L2, e2, hm⟩ := Out.bind_ok hm
  cases hm
  refine ofA (pa_cons (sE e) (sA es) (star_of hs)) (h1.use e1 S fun v θ1 H1 x1 S1 r1 => ?_)
  refine h2.use e2 S1 fun vs θ2 H2 x2 S2 r2 => ?_
  exact q _ θ2 H2 (x1.trans x2) S2.live (.cons (RV.mono x2 r1) r2)
end
end Ev
set_option Elab.async false
set_option linter.all false
set_option maxRecDepth 100000
namespace Ev
open PySem PySem.Spec L2

/-! ## operations on values -/
def rBin (X : Cx) (f : Value → Value → Sem Value) : R2 := fun x y H Q => ∀ (pins : List (Addr × Obj)) (s : Shared) (σ : St) (v u : Value), Inv X pins σ H s → RelV x v → RelV y u →
  wpAny (model X.prog X.w) X.A (f v u) (EP X pins σ Q) X.xe s
theorem rBin_ok {X : Cx} {f : Value → Value → Sem Value} : OpR X f (rBin X f) := fun pins s σ H x y v u Q I rx ry h => h pins s σ v u I rx ry
theorem rBin_of {X : Cx} {f : Value → Value → Sem Value} {r : R2} (h : OpR X f r) {x y : V} {H : Hp} {Q : VK} (q : r x y H Q) : rBin X f x y H Q := fun pins s σ v u I rx ry => h pins s σ H x y v u Q I rx ry q
theorem rBin_kf {X : Cx} {f : Value → Value → Sem Value} {x y : V} {H : Hp} {Q : VK} (h : KF X.K H → rBin X f x y H fun v H' => KF X.K H' → Q v H') : rBin X f x y H Q := fun pins s σ v u I rx ry =>
  thn (h (kf_of I) pins s σ v u I rx ry) fun u s1 ⟨v, H1, I1, r, q⟩ => ⟨v, H1, I1, r, q (kf_of I1)⟩
def rCall (X : Cx) (f : Value) : List V → Hp → VK → Prop := fun xs H Q => ∀ (pins : List (Addr × Obj)) (s : Shared) (σ : St) (us : List Value), Inv X pins σ H s → Vals xs us →
  wpAny (model X.prog X.w) X.A (call f us) (EP X pins σ Q) X.xe s
theorem rCall_ok {X : Cx} {f : Value} : CallR X f (rCall X f) := fun pins s σ H xs us Q I r h => h pins s σ us I r
theorem rCall_of {X : Cx} {f : Value} {r : List V → Hp → VK → Prop} (h : CallR X f r) {xs : List V} {H : Hp} {Q : VK} (q : r xs H Q) : rCall X f xs H Q := fun pins s σ us I rx => h pins s σ H xs us Q I rx q
theorem rCall_kf {X : Cx} {f : Value} {xs : List V} {H : Hp} {Q : VK} (h : KF X.K H → rCall X f xs H fun v H' => KF X.K H' → Q v H') : rCall X f xs H Q := fun pins s σ us I rx =>
  thn (h (kf_of I) pins s σ us I rx) fun u s1 ⟨v, H1, I1, r, q⟩ => ⟨v, H1, I1, r, q (kf_of I1)⟩

/-- a list's items -/
def view (L : List MO) : Val → Option (List D)
  | .d (.lst xs) => some xs
  | .h n => match L[n]? with
    | some (.lst xs) => some xs
    | _ => none
  | _ => none
section
variable {K : PySem.W.Frag} {CA : Str → Addr} {θ θ' θ1 : List Addr} {H H' H1 : Hp} {L L' L1 : List MO} {v : V} {x : Val} {xs : List D}
theorem view_ok (l : Live K CA θ L H) (r : RV K θ H v x) (h : view L x = some xs) : ∃ a vs, v = .ref a ∧ LsOk K H a vs ∧ RL K θ H vs xs := by
  cases x with
  | d d =>
    cases d with
    | lst ys =>
      cases h
      cases r with
      | lst h1 h2 h3 => exact ⟨_, _, rfl, h2, h3⟩
    | _ => cases h
  | h n =>
    obtain ⟨a, rfl, ha⟩ := r
    have h : (match L[n]? with | some (MO.lst xs) => some xs | _ => none) = some xs := h
    split at h
    · rename_i hL
      cases h
      obtain ⟨b, vs, h1, h2, h3⟩ := l.lst hL
      rw [ha] at h1; cases h1
      exact ⟨a, vs, rfl, .of h2, h3⟩
    · cases h
  | new _ => cases h
end

/-! ### data as the library's -/
mutual
def toP : D → PyData
  | .non => .none
  | .bl b => .bool b
  | .int i => .int i
  | .str x => .str x
  | .tup xs => .tuple (toPs xs)
  | .lst xs => .list (toPs xs)
  | .dic _ => .dict []
def toPs : List D → List PyData
  | [] => []
  | x :: xs => toP x :: toPs xs
end
section
variable {K : PySem.W.Frag} {θ : List Addr} {H : Hp}
mutual
theorem R.dp : ∀ {v : V} {d : D}, R K θ H v d → (toP d).canLay0 = true → Dp K H v (toP d)
  | _, _, .non, _ => by rw [toP]; exact .non
  | _, _, .bl b, _ => by rw [toP]; exact .bl b
  | _, _, .int b, _ => by rw [toP]; exact .int b
  | _, _, .str b, _ => by rw [toP]; exact .str b
  | _, _, .tup h1 h2 h3, h => by
    rw [toP] at h ⊢
    exact .tup h2 (RL.dp h3 (by simpa [PyData.canLay0] using h))
  | _, _, .lst h1 h2 h3, h => by
    rw [toP] at h ⊢
    exact .lst h2.sq (RL.dp h3 (by simpa [PyData.canLay0] using h))
  | _, _, .dic h1 h2 h3, h => by
    rw [toP] at h
    simp [PyData.canLay0] at h
theorem RL.dp : ∀ {v : List V} {d : List D}, RL K θ H v d → PyData.canLayAll0 (toPs d) = true → DpAll K H v (toPs d)
  | _, _, .nil, _ => by rw [toPs]; exact .nil
  | _, _, .cons h1 h2, h => by
    rw [toPs] at h ⊢
    rw [PyData.canLayAll0, Bool.and_eq_true] at h
    exact .cons (R.dp h1 h.1) (RL.dp h2 h.2)
end
end
def flat : D → Bool
  | .non => true
  | .bl _ => true
  | .int _ => true
  | .str _ => true
  | _ => false
def eqFlat : D → D → Bool
  | .non, .non => true
  | .bl a, .bl b => a == b
  | .bl a, .int b => (if a then 1 else 0) == b
  | .int a, .bl b => a == (if b then 1 else 0)
  | .int a, .int b => a == b
  | .str a, .str b => a == b
  | _, _ => false
/-- == -/
def eqD : D → D → Option Bool
  | .int a, .int b => some (a == b)
  | .str a, .str b => some (a == b)
  | .bl a, .bl b => some (a == b)
  | x, y => if (toP x).canLay0 = true ∧ (toP y).canLay0 = true ∧ min (toP x).depth (toP y).depth ≤ 150 then some (PyData.eqv (toP x) (toP y)) else none
/-- x in xs -/
def inD (x : D) (xs : List D) : Option Bool :=
  if flat x = true ∧ xs.all flat = true then some (xs.any fun y => eqFlat y x)
  else if (toP x).canLay0 = true ∧ PyData.canLayAll0 (toPs xs) = true ∧ min (PyData.depthAll (toPs xs)) (toP x).depth ≤ 150 then some ((toPs xs).any fun y => PyData.eqv y (toP x)) else none

section
variable {CA : Str → Addr} {X : Cx}
def OpOk (CA : Str → Addr) (X : Cx) (f : Value → Value → Sem Value) (g : Val → Val → List MO → Option Val) : Prop :=
  ∀ (x y : Val) (L : List MO) (z : Val), g x y L = some z → ∀ (θ : List Addr) (H : Hp) (v u : V) (Q : VK), Live X.K CA θ L H → KF X.K H → RV X.K θ H v x → RV X.K θ H u y → PostE X.K CA θ H L Q z → rBin X f v u H Q
/-- data comes out, nothing is changed -/
theorem PostE.same {K : PySem.W.Frag} {θ : List Addr} {H : Hp} {L : List MO} {Q : VK} {z : D} {v : V} (h : PostE K CA θ H L Q (.d z)) (l : Live K CA θ L H) (r : R K θ H v z) : Q v H :=
  h v θ H (Ext.refl l.kk) l r
theorem PostE.tup {K : PySem.W.Frag} {θ : List Addr} {H : Hp} {L : List MO} {Q : VK} {zs : List D} {vs : List V} {p : Addr} (h : PostE K CA θ H L Q (.d (.tup zs))) (l : Live K CA θ L H) (r : RL K θ H vs zs) (hp : H p = none) : Q (.ref p) (upd H p (.tup vs)) := by
  obtain ⟨e, l'⟩ := l.laid (o := .tup vs) hp
  exact h _ θ _ e l' (.tup (l.free hp) (.of upd_same) (RL.mono e r))
theorem PostE.lst {K : PySem.W.Frag} {θ : List Addr} {H : Hp} {L : List MO} {Q : VK} {zs : List D} {vs : List V} {p : Addr} (h : PostE K CA θ H L Q (.new zs)) (l : Live K CA θ L H) (r : RL K θ H vs zs) (hp : H p = none) (kf : KF K (upd H p (.lst vs))) : Q (.ref p) (upd H p (.lst vs)) :=
  h p θ _ (l.newAt hp r kf)

theorem rd_list {pins : List (Addr × Obj)} {σ : St} {H : Hp} {s : Shared} {a : Addr} {xs : List V} (I : Inv X pins σ H s) (h : LsOk X.K H a xs) :
    xs.length ≤ sizeLine ∧ ∃ (its : List Value) (n : Nat), Vals xs its ∧ s.heap.get? a = some { cls := .type "list", data := .seq its.toArray n } := by
  rcases h with h | ⟨its, n, h1, h2, h3⟩
  · exact h.ok I.hok
  · have e : xs.length = its.size := by rw [Vals.length h3, Array.length_toList]
    exact ⟨by omega, its.toList, n, h3, by simpa using I.kIn a _ h1⟩
/-- l + b of any lists -/
theorem op_catS : OpR X (binaryOp .Add) (fun x y H Q => ∃ l b xs zs, x = .ref l ∧ y = .ref b ∧ LsOk X.K H l xs ∧ LsOk X.K H b zs ∧ xs.length + zs.length ≤ sizeLine ∧ ∀ p, H p = none → Q (.ref p) (upd H p (.lst (xs ++ zs)))) := by
  intro pins s σ H x y v u Q I rx ry h
  obtain ⟨l, b, xs, zs, rfl, rfl, hH, hB, hz, q⟩ := h
  cases rx
  cases ry
  obtain ⟨z, its, n, r, e⟩ := rd_list I hH
  obtain ⟨z2, its2, n2, r2, e2⟩ := rd_list I hB
  have hl := r.length
  have hl2 := r2.length
  refine PySem.P.add_list e e2 ?_ (by rw [List.size_toArray, List.size_toArray]; omega)
  have ea : its.toArray ++ its2.toArray = (its ++ its2).toArray := by simp
  rw [ea]
  exact ⟨.ref _, _, I.lnew (t' := s.toks) (r.append r2) (by rw [List.length_append]; omega), rfl, q _ I.fresh⟩

/-! ### arithmetic -/
def bAdd : Val → Val → List MO → Option Val
  | .d (.int i), .d (.int j), _ => some (.d (.int (i + j)))
  | .d (.str a), .d (.str b), _ => if a.length + b.length ≤ sizeLine then some (.d (.str (a ++ b))) else none
  | .d (.tup a), .d (.tup b), _ => if a.length + b.length ≤ sizeLine then some (.d (.tup (a ++ b))) else none
  | x, y, L => match view L x, view L y with
    | some a, some b => if a.length + b.length ≤ sizeLine then some (.new (a ++ b)) else none
    | _, _ => none
theorem ok_add_l : OpOk CA X (binaryOp .Add) (fun x y L => match view L x, view L y with
    | some a, some b => if a.length + b.length ≤ sizeLine then some (.new (a ++ b)) else none
    | _, _ => none) := by
  intro x y L z hz θ H v u Q l kf rx ry q
  simp only at hz
  split at hz
  · rename_i a b ha hb
    split at hz
    · rename_i hlen
      cases hz
      obtain ⟨p, vs, rfl, h1, r1⟩ := view_ok l rx ha
      obtain ⟨p2, ws, rfl, h2, r2⟩ := view_ok l ry hb
      refine rBin_kf fun _ => rBin_of op_catS ⟨p, p2, vs, ws, rfl, rfl, h1, h2, by rw [r1.length, r2.length]; exact hlen, fun a ha kf' => ?_⟩
      exact q.lst l (r1.append r2) ha kf'
    · cases hz
  · cases hz
theorem ok_add : OpOk CA X (binaryOp .Add) bAdd := by
  intro x y L z hz θ H v u Q l kf rx ry q
  unfold bAdd at hz
  split at hz
  · cases hz
    cases rx; cases ry
    exact rBin_of op_add ⟨_, _, rfl, rfl, q.same l (.int _)⟩
  · split at hz
    · cases hz
      cases rx; cases ry
      exact rBin_of op_add_str ⟨_, _, rfl, rfl, by assumption, q.same l (.str _)⟩
    · cases hz
  · split at hz
    · rename_i hlen
      cases hz
      cases rx with
      | tup a1 a2 a3 =>
        cases ry with
        | tup b1 b2 b3 =>
          refine rBin_of op_catA ⟨_, _, _, _, rfl, rfl, a2, b2, by rw [a3.length, b3.length]; exact hlen, fun e => ?_, fun _ e => ?_, fun _ _ p hp => q.tup l (a3.append b3) hp⟩
          · subst e
            cases a3
            exact q.same l (.tup b1 b2 b3)
          · subst e
            cases b3
            rw [List.append_nil] at q
            exact q.same l (.tup a1 a2 a3)
    · cases hz
  · exact ok_add_l x y L z hz θ H v u Q l kf rx ry q
def bSub : Val → Val → List MO → Option Val
  | .d (.int i), .d (.int j), _ => some (.d (.int (i - j)))
  | _, _, _ => none
theorem ok_sub : OpOk CA X (binaryOp .Sub) bSub := by
  intro x y L z hz θ H v u Q l kf rx ry q
  unfold bSub at hz
  split at hz
  · cases hz
    cases rx; cases ry
    exact rBin_of op_sub ⟨_, _, rfl, rfl, q.same l (.int _)⟩
  · cases hz
def mulOk (i j : Int) : Bool := (decide (-(2 ^ 64) < i) && decide (i < 2 ^ 64)) || (decide (-(2 ^ 64) < j) && decide (j < 2 ^ 64))
theorem rl_rep {K : PySem.W.Frag} {θ : List Addr} {H : Hp} {vs : List V} {xs : List D} (r : RL K θ H vs xs) : ∀ k : Nat, RL K θ H (List.replicate k vs).flatten (List.replicate k xs).flatten
  | 0 => .nil
  | k + 1 => by
    rw [List.replicate_succ, List.replicate_succ, List.flatten_cons, List.flatten_cons]
    exact r.append (rl_rep r k)
def bMul : Val → Val → List MO → Option Val
  | .d (.int i), .d (.int j), _ => if mulOk i j = true then some (.d (.int (i * j))) else none
  | .d (.tup xs), .d (.int k), _ => if 0 < xs.length ∧ xs.length ≤ 1000 ∧ 2 ≤ k ∧ k ≤ 1000 then some (.d (.tup (List.replicate k.toNat xs).flatten)) else none
  | _, _, _ => none
theorem ok_mul : OpOk CA X (binaryOp .Mult) bMul := by
  intro x y L z hz θ H v u Q l kf rx ry q
  unfold bMul at hz
  split at hz
  · split at hz
    · rename_i h
      cases hz
      cases rx; cases ry
      refine rBin_of op_mul ⟨_, _, rfl, rfl, ?_, q.same l (.int _)⟩
      unfold mulOk at h
      simpa [CMul] using h
    · cases hz
  · split at hz
    · rename_i h
      cases hz
      cases rx with
      | tup a1 a2 a3 =>
        cases ry
        exact rBin_of op_repT ⟨_, _, _, rfl, rfl, a2, fun e => by
          subst e
          cases a3
          exact absurd h.1 (Nat.lt_irrefl 0), h.2.2.1, h.2.2.2, by rw [a3.length]; exact h.2.1, fun p hp => q.tup l (rl_rep a3 _) hp⟩
    · cases hz
  · cases hz
def bMod : Val → Val → List MO → Option Val
  | .d (.int i), .d (.int j), _ => if 0 < j then some (.d (.int (i % j))) else none
  | _, _, _ => none
theorem ok_mod : OpOk CA X (binaryOp .Mod) bMod := by
  intro x y L z hz θ H v u Q l kf rx ry q
  unfold bMod at hz
  split at hz
  · split at hz
    · rename_i h
      cases hz
      cases rx; cases ry
      exact rBin_of op_mod ⟨_, _, rfl, rfl, h, q.same l (.int _)⟩
    · cases hz
  · cases hz
def bDiv : Val → Val → List MO → Option Val
  | .d (.int i), .d (.int j), _ => if 0 < j ∧ j < 1073741824 then some (.d (.int (i / j))) else none
  | _, _, _ => none
theorem ok_div : OpOk CA X (binaryOp .FloorDiv) bDiv := by
  intro x y L z hz θ H v u Q l kf rx ry q
  unfold bDiv at hz
  split at hz
  · split at hz
    · rename_i h
      cases hz
      cases rx; cases ry
      exact rBin_of op_fdiv ⟨_, _, rfl, rfl, h, q.same l (.int _)⟩
    · cases hz
  · cases hz

/-! ### comparisons -/
def cLt (f : Int → Int → Bool) : Val → Val → List MO → Option Val
  | .d (.int i), .d (.int j), _ => some (.d (.bl (f i j)))
  | _, _, _ => none
theorem ok_cmpI {op : CmpOp} {f : Int → Int → Bool} (h : OpR X (compareOp op) (rI0 fun i j => .bl (f i j))) : OpOk CA X (compareOp op) (cLt f) := by
  intro x y L z hz θ H v u Q l kf rx ry q
  unfold cLt at hz
  split at hz
  · cases hz
    cases rx; cases ry
    exact rBin_of h ⟨_, _, rfl, rfl, q.same l (.bl _)⟩
  · cases hz
theorem ok_lt : OpOk CA X (compareOp .Lt) (cLt fun i j => decide (i < j)) := ok_cmpI op_lt
theorem ok_le : OpOk CA X (compareOp .LtE) (cLt fun i j => decide (i ≤ j)) := ok_cmpI op_le
theorem ok_gt : OpOk CA X (compareOp .Gt) (cLt fun i j => decide (j < i)) := ok_cmpI op_gt
theorem ok_ge : OpOk CA X (compareOp .GtE) (cLt fun i j => decide (j ≤ i)) := ok_cmpI op_ge
/-- a value as data -/
def asD (L : List MO) : Val → Option D
  | .d x => some x
  | x => (view L x).map .lst
theorem asD_ok {K : PySem.W.Frag} {θ : List Addr} {H : Hp} {L : List MO} {v : V} {x : Val} {d : D} (l : Live K CA θ L H) (r : RV K θ H v x) (h : asD L x = some d) : ((toP d).canLay0 = true → Dp K H v (toP d)) ∧ (flat d = true → R K θ H v d) := by
  cases x with
  | d y => cases h; exact ⟨R.dp r, fun _ => r⟩
  | h n =>
    have h : (view L (.h n)).map D.lst = some d := h
    cases e : view L (.h n) with
    | none => rw [e] at h; cases h
    | some xs =>
      rw [e] at h; cases h
      obtain ⟨a, vs, rfl, h1, h2⟩ := view_ok l r e
      refine ⟨fun hc => ?_, fun hf => by cases hf⟩
      rw [toP] at hc ⊢
      exact .lst h1.sq (RL.dp h2 (by simpa [PyData.canLay0] using hc))
  | new xs => exact r.elim
def cEq (neg : Bool) : Val → Val → List MO → Option Val := fun x y L => match asD L x, asD L y with
  | some a, some b => (eqD a b).map fun k => .d (.bl (if neg then !k else k))
  | _, _ => none
theorem eqD_ok (hu : X.A.units + 200 < cLine) {neg : Bool} {K : PySem.W.Frag} (hK : X.K = K) {θ : List Addr} {H : Hp} {v u : V} {a b : D} {k : Bool} {Q : VK} (h : eqD a b = some k)
    (ha : (toP a).canLay0 = true → Dp K H v (toP a)) (ha' : flat a = true → R K θ H v a) (hb : (toP b).canLay0 = true → Dp K H u (toP b)) (hb' : flat b = true → R K θ H u b) (q : Q (.bl (if neg then !k else k)) H) :
    rBin X (compareOp (if neg then .NotEq else .Eq)) v u H Q := by
  subst hK
  have gen : (toP a).canLay0 = true → (toP b).canLay0 = true → min (toP a).depth (toP b).depth ≤ 150 → k = PyData.eqv (toP a) (toP b) → rBin X (compareOp (if neg then .NotEq else .Eq)) v u H Q := by
    intro c1 c2 c3 e pins s σ v' u' I rv ru
    obtain ⟨as, r1⟩ := Dp.reads I _ v v' (ha c1) rv
    obtain ⟨bs, r2⟩ := Dp.reads I _ u u' (hb c2) ru
    subst e
    cases neg with
    | true => exact SeqAt.compareNe_reads r1 r2 c1 c2 (by omega) ⟨.bl _, H, I, rfl, q⟩
    | false => exact SeqAt.compareEq_reads r1 r2 c1 c2 (by omega) ⟨.bl _, H, I, rfl, q⟩
  have scl : scal v u = true → k = decide (v = u) → rBin X (compareOp (if neg then .NotEq else .Eq)) v u H Q := by
    intro e1 e2
    subst e2
    cases neg with
    | true => exact rBin_of op_ne ⟨e1, q⟩
    | false => exact rBin_of op_eq ⟨e1, q⟩
  unfold eqD at h
  split at h
  · cases h
    cases ha' rfl
    cases hb' rfl
    exact scl rfl dec_int.symm
  · cases h
    cases ha' rfl
    cases hb' rfl
    exact scl rfl dec_str.symm
  · cases h
    cases ha' rfl
    cases hb' rfl
    exact scl rfl dec_bl.symm
  · split at h
    · rename_i c
      cases h
      exact gen c.1 c.2.1 c.2.2 rfl
    · cases h
theorem ok_eq (hu : X.A.units + 200 < cLine) (neg : Bool) : OpOk CA X (compareOp (if neg then .NotEq else .Eq)) (cEq neg) := by
  intro x y L z hz θ H v u Q l kf rx ry q
  unfold cEq at hz
  split at hz
  · rename_i a b ha hb
    cases e : eqD a b with
    | none => rw [e] at hz; cases hz
    | some k =>
      rw [e] at hz
      cases hz
      obtain ⟨h1, h2⟩ := asD_ok l rx ha
      obtain ⟨h3, h4⟩ := asD_ok l ry hb
      exact eqD_ok hu rfl e h1 h2 h3 h4 (q.same l (.bl _))
  · cases hz
/-- the items that «in» looks at: of a list or a tuple -/
def items (L : List MO) : Val → Option (List D)
  | .d (.tup xs) => some xs
  | x => view L x
theorem items_ok {K : PySem.W.Frag} {θ : List Addr} {H : Hp} {L : List MO} {v : V} {x : Val} {xs : List D} (l : Live K CA θ L H) (r : RV K θ H v x) (h : items L x = some xs) :
    ∃ a vs, v = .ref a ∧ RL K θ H vs xs ∧ (LsOk K H a vs ∨ SqT K H a vs) := by
  unfold items at h
  split at h
  · cases h
    cases r with
    | tup h1 h2 h3 => exact ⟨_, _, rfl, h3, .inr h2⟩
  · obtain ⟨a, vs, e, h1, h2⟩ := view_ok l r h
    exact ⟨a, vs, e, h2, .inl h1⟩
theorem RL.flat {K : PySem.W.Frag} {θ : List Addr} {H : Hp} : ∀ {vs : List V} {ds : List D}, RL K θ H vs ds → ds.all flat = true → vs.all flatV = true ∧ ∀ (w : V) (e : D), R K θ H w e → Ev.flat e = true → (vs.any fun y => eqV y w) = (ds.any fun y => eqFlat y e)
  | _, _, .nil, _ => ⟨rfl, fun _ _ _ _ => rfl⟩
  | _, _, .cons h1 h2, h => by
    rw [List.all_cons, Bool.and_eq_true] at h
    obtain ⟨q1, q2⟩ := RL.flat h2 h.2
    refine ⟨?_, fun w e r he => ?_⟩
    · rw [List.all_cons, q1]
      cases h1 <;> first | rfl | (exact absurd h.1 Bool.false_ne_true)
    · rw [List.any_cons, List.any_cons, q2 w e r he]
      congr 1
      cases h1 <;> cases r <;> first | rfl | (exact absurd h.1 Bool.false_ne_true) | (exact absurd he Bool.false_ne_true)
theorem R.flatV {K : PySem.W.Frag} {θ : List Addr} {H : Hp} {v : V} {d : D} (r : R K θ H v d) (h : flat d = true) : L2.flatV v = true := by
  cases r <;> first | rfl | (exact absurd h Bool.false_ne_true)
def cIn (neg : Bool) : Val → Val → List MO → Option Val := fun x y L => match asD L x, items L y with
  | some a, some xs => (inD a xs).map fun k => .d (.bl (if neg then !k else k))
  | _, _ => none
theorem ok_in (hu : X.A.units + 200 < cLine) (neg : Bool) : OpOk CA X (compareOp (if neg then .NotIn else .In)) (cIn neg) := by
  intro x y L z hz θ H v u Q l kf rx ry q
  unfold cIn at hz
  split at hz
  · rename_i a xs ha hb
    cases e : inD a xs with
    | none => rw [e] at hz; cases hz
    | some k =>
      rw [e] at hz
      cases hz
      have q' := q.same l (.bl _)
      obtain ⟨h1, h2⟩ := asD_ok l rx ha
      obtain ⟨p, vs, rfl, r2, hs⟩ := items_ok l ry hb
      unfold inD at e
      split at e
      · rename_i c
        cases e
        obtain ⟨f1, f2⟩ := r2.flat c.2
        have ra := h2 c.1
        rw [← f2 v a ra c.1] at q'
        have hs' : SqL X.K H p vs ∨ SqT X.K H p vs := hs.imp LsOk.sq id
        cases neg with
        | true => exact rBin_of op_notIn_seq ⟨p, vs, rfl, hs', ra.flatV c.1, f1, q'⟩
        | false => exact rBin_of op_in_seq ⟨p, vs, rfl, hs', ra.flatV c.1, f1, q'⟩
      · split at e
        · rename_i c
          cases e
          intro pins s σ v' u' I rv ru
          obtain ⟨as, r1⟩ := Dp.reads I _ v v' (h1 c.1) rv
          rcases hs with hs | hs
          · obtain ⟨bs, r2'⟩ := Dp.reads I _ (.ref p) u' (.lst hs.sq (RL.dp r2 c.2.1)) ru
            cases neg with
            | true => exact SeqAt.notIn_list_reads r2' r1 c.2.1 c.1 (by have := c.2.2; omega) ⟨.bl _, H, I, rfl, q'⟩
            | false => exact SeqAt.in_list_reads r2' r1 c.2.1 c.1 (by have := c.2.2; omega) ⟨.bl _, H, I, rfl, q'⟩
          · obtain ⟨bs, r2'⟩ := Dp.reads I _ (.ref p) u' (.tup hs (RL.dp r2 c.2.1)) ru
            cases neg with
            | true => exact SeqAt.notIn_tuple_reads r2' r1 c.2.1 c.1 (by have := c.2.2; omega) ⟨.bl _, H, I, rfl, q'⟩
            | false => exact SeqAt.in_tuple_reads r2' r1 c.2.1 c.1 (by have := c.2.2; omega) ⟨.bl _, H, I, rfl, q'⟩
        · cases e
  · cases hz
/-- is None, is not None -/
def cIs (neg : Bool) : Val → Val → List MO → Option Val
  | .d .non, .d .non, _ => some (.d (.bl (!neg)))
  | .d _, .d .non, _ => some (.d (.bl neg))
  | .h _, .d .non, _ => some (.d (.bl neg))
  | _, _, _ => none
theorem ok_is (neg : Bool) : OpOk CA X (compareOp (if neg then .IsNot else .Is)) (cIs neg) := by
  intro x y L z hz θ H v u Q l kf rx ry q
  have go : ∀ k : Bool, (decide (v = V.non)) = k → (∀ b, b = (if neg then !k else k) → Q (.bl b) H) → u = .non → rBin X (compareOp (if neg then .IsNot else .Is)) v u H Q := by
    intro k e q' e2
    subst e2
    cases neg with
    | true => exact rBin_of op_notN ⟨rfl, by rw [e]; exact q' _ rfl⟩
    | false => exact rBin_of op_isN ⟨rfl, by rw [e]; exact q' _ rfl⟩
  unfold cIs at hz
  split at hz
  · cases hz
    cases rx; cases ry
    refine go true rfl (fun b e => ?_) rfl
    have q' := q.same l (.bl _)
    subst e
    cases neg <;> exact q'
  · rename_i d hd
    cases hz
    cases ry
    refine go false ?_ (fun b e => ?_) rfl
    · cases rx <;> first | rfl | exact (hd rfl).elim
    · have q' := q.same l (.bl _)
      subst e
      cases neg <;> exact q'
  · cases hz
    cases ry
    obtain ⟨a, rfl, _⟩ := rx
    refine go false rfl (fun b e => ?_) rfl
    have q' := q.same l (.bl _)
    subst e
    cases neg <;> exact q'
  · cases hz
end
end Ev
set_option Elab.async false
set_option linter.all false
set_option maxRecDepth 100000
namespace Ev
open PySem PySem.Spec L2

def ofOpt (o : Option Val) (L : List MO) : Out Val := match o with
  | some z => .ok z L
  | none => .no
theorem ofOpt_ok {o : Option Val} {L L' : List MO} {z : Val} (h : ofOpt o L = .ok z L') : o = some z ∧ L' = L := by
  cases o with
  | none => cases h
  | some y => cases h; exact ⟨rfl, rfl⟩
/-! ## denotations of expressions -/
def mVar (i : Nat) : M := fun _ ρ L => match ρ[i]? with
  | some (some x) => ofOpt (some (fz x)) L
  | _ => .no
def mK (d : D) : M := fun _ _ L => .ok (.d d) L
def mBin (g : Val → Val → List MO → Option Val) (ma mb : M) : M := fun C ρ L => (ma C ρ L).bind fun x L1 => (mb C ρ L1).bind fun y L2 => ofOpt (g (fz x) (fz y) L2) L2
def mtOf (m : M) : MT := fun C ρ L => (m C ρ L).bind fun x L1 => match x with
  | .d (.bl k) => .ok k L1
  | _ => .no
/-- a value's truth -/
def truth (L : List MO) : Val → Option Bool
  | .d .non => some false
  | .d (.bl b) => some b
  | .d (.int i) => some (i != 0)
  | .d (.str x) => if x.length ≤ sizeLine then some ((x.length : Int) != 0) else none
  | .d (.tup xs) => some (!xs.isEmpty)
  | .d (.dic xs) => some (!xs.isEmpty)
  | x => (view L x).map fun xs => !xs.isEmpty
def mtTru (m : M) : MT := fun C ρ L => (m C ρ L).bind fun x L1 => match truth L1 (fz x) with
  | some k => .ok k L1
  | none => .no
def mtNot (m : MT) : MT := fun C ρ L => (m C ρ L).bind fun k L1 => .ok (!k) L1
def mtAnd (m n : MT) : MT := fun C ρ L => (m C ρ L).bind fun k L1 => if k = true then n C ρ L1 else .ok false L1
def mtOr (m n : MT) : MT := fun C ρ L => (m C ρ L).bind fun k L1 => if k = true then .ok true L1 else n C ρ L1
def mAnd (m n : M) : M := fun C ρ L => (m C ρ L).bind fun x L1 => match truth L1 (fz x) with
  | some k => if k = true then n C ρ L1 else .ok (fz x) L1
  | none => .no
def mOr (m n : M) : M := fun C ρ L => (m C ρ L).bind fun x L1 => match truth L1 (fz x) with
  | some k => if k = true then .ok (fz x) L1 else n C ρ L1
  | none => .no
def mNot (m : M) : M := fun C ρ L => (m C ρ L).bind fun x L1 => match truth L1 (fz x) with
  | some k => .ok (.d (.bl (!k))) L1
  | none => .no
def mIf (t : MT) (m n : M) : M := fun C ρ L => (t C ρ L).bind fun k L1 => if k = true then m C ρ L1 else n C ρ L1
def mNeg (m : M) : M := fun C ρ L => (m C ρ L).bind fun x L1 => match x with
  | .d (.int i) => .ok (.d (.int (-i))) L1
  | _ => .no
def mChain (g g' : Val → Val → List MO → Option Val) (ma mb mc : M) : M := fun C ρ L => (ma C ρ L).bind fun x L1 => (mb C ρ L1).bind fun y L2 => match g (fz x) (fz y) L2 with
  | some (.d (.bl k)) => if k = true then (mc C ρ L2).bind fun z L3 => ofOpt (g' (fz y) (fz z) L3) L3 else .ok (.d (.bl false)) L2
  | _ => .no
def allD : List Val → Option (List D)
  | [] => some []
  | .d x :: r => (allD r).map (x :: ·)
  | _ :: _ => none
def mTup (ms : MA) : M := fun C ρ L => (ms C ρ L).bind fun xs L1 => match allD xs with
  | some ds => if ds.length ≤ sizeLine then .ok (.d (.tup ds)) L1 else .no
  | none => .no
def mLst (ms : MA) : M := fun C ρ L => (ms C ρ L).bind fun xs L1 => match allD xs with
  | some ds => if ds.length ≤ sizeLine then .ok (.new ds) L1 else .no
  | none => .no

section
variable {CA : Str → Addr} {X : Cx} {C : Calls} {e a b c : Expr} {m ma mb mc : M} {pos : Pos}
theorem fz_d {x : D} : fz (.d x) = .d x := rfl
theorem fz_fz (x : Val) : fz (fz x) = fz x := by cases x <;> rfl
theorem rv_fz {K : PySem.W.Frag} {θ : List Addr} {H : Hp} {v : V} {x : Val} (r : RV K θ H v x) : fz x = x := by
  cases x with
  | d _ => rfl
  | h _ => rfl
  | new _ => exact r.elim
theorem PostE.rv {K : PySem.W.Frag} {θ : List Addr} {H : Hp} {L : List MO} {Q : VK} {x : Val} {v : V} (h : PostE K CA θ H L Q x) (l : Live K CA θ L H) (r : RV K θ H v x) : Q v H := by
  cases x with
  | d x => exact h v θ H (Ext.refl l.kk) l r
  | h n => exact h v θ H (Ext.refl l.kk) l r
  | new xs => exact r.elim
theorem se_var {i : Nat} {x : Str} (hN : X.N[i]? = some x) (hv : Vis X.env.scope x) (hd : (x == ("__debug__" : Str)) = false) (hcd : (x == ("__classdict__" : Str)) = false) : SE CA X C (.Name x pos) (mVar i) := fun ρ L z L' hm θ σ H Q S q => by
  unfold mVar at hm
  split at hm
  · rename_i y hy
    obtain ⟨v, h1, h2⟩ := S.env i y hy
    obtain ⟨e1, e2⟩ := ofOpt_ok hm
    cases e1
    subst e2
    rw [rv_fz h2] at q
    exact ofE (pe_var hN hv hd hcd) ⟨v, h1, q.rv S.live h2⟩
  · cases hm
theorem se_const {cst : Const} {j : Nat} {d : D} {v : V} (hp : PE X (.Constant cst j pos) (tC v)) (r : ∀ K θ H, R K θ H v d) : SE CA X C (.Constant cst j pos) (mK d) := fun ρ L z L' hm θ σ H Q S q => by
  cases hm
  exact ofE hp (q.same S.live (r _ _ _))
theorem se_glob {x : Str} {d : D} {v : V} {u : Value} (hg : Gl X x) (hm : X.mg x = some u) (rv : RelV v u) (hd : (x == ("__debug__" : Str)) = false) (r : ∀ θ H, (∀ b o, X.K.lookup b = some o → b ∉ θ) → R X.K θ H v d) : SE CA X C (.Name x pos) (mK d) := fun ρ L z L' hm' θ σ H Q S q => by
  cases hm'
  exact ofE (pe_glob hg hm rv hd) (q.same S.live (r _ _ S.live.kk))
/-- two parts, then an operation -/
theorem bin_core {f : Value → Value → Sem Value} {g : Val → Val → List MO → Option Val} (ho : OpOk CA X f g) (ha : SE CA X C a ma) (hb : SE CA X C b mb) {ρ : Rho} {L L' : List MO} {z : Val}
    (hm : mBin g ma mb C ρ L = .ok z L') {θ : List Addr} {σ : St} {H : Hp} {Q : VK} (S : Sim X.K CA θ ρ L σ H) (q : PostE X.K CA θ H L' Q z) : tOp (rBin X f) (semE X a) (semE X b) σ H Q := by
  obtain ⟨x, L1, e1, hm⟩ := Out.bind_ok hm
  obtain ⟨y, L2, e2, hm⟩ := Out.bind_ok hm
  obtain ⟨e3, rfl⟩ := ofOpt_ok hm
  refine ha.use e1 S fun v θ1 H1 x1 S1 r1 => ?_
  refine hb.use e2 S1 fun u θ2 H2 x2 S2 r2 => ?_
  exact ho _ _ _ _ e3 θ2 H2 v u Q S2.live S2.kf (RV.mono x2 r1) r2 (q.later (x1.trans x2))
theorem se_bin {op : Operator} {g : Val → Val → List MO → Option Val} (ho : OpOk CA X (binaryOp op) g) (ha : SE CA X C a ma) (hb : SE CA X C b mb) : SE CA X C (.BinOp a op b pos) (mBin g ma mb) := fun ρ L z L' hm θ σ H Q S q =>
  ofE (pe_op rBin_ok (sE a) (sE b)) (bin_core ho ha hb hm S q)
def noSet : Expr → Bool
  | .Set .. => false
  | _ => true
theorem mark_of {op : CmpOp} (h : noSet b = true) : behindInMarks op b = false := by
  cases b <;> first | rfl | (exact absurd (show false = true from h) Bool.false_ne_true)
theorem se_cmp {op : CmpOp} {g : Val → Val → List MO → Option Val} (ho : OpOk CA X (compareOp op) g) (ha : SE CA X C a ma) (hb : SE CA X C b mb) (hs : noSet b = true) : SE CA X C (.Compare a [op] [b] pos) (mBin g ma mb) := fun ρ L z L' hm θ σ H Q S q =>
  ofE (pe_cmpR rBin_ok (sE a) (sE b) (mark_of hs)) (bin_core ho ha hb hm S q)
theorem mtOf_ok {m : M} {ρ : Rho} {L L' : List MO} {k : Bool} (h : mtOf m C ρ L = .ok k L') : m C ρ L = .ok (.d (.bl k)) L' := by
  obtain ⟨x, L1, e1, h⟩ := Out.bind_ok h
  split at h
  · cases h; exact e1
  · cases h
theorem st_cmp {op : CmpOp} {g : Val → Val → List MO → Option Val} (ho : OpOk CA X (compareOp op) g) (ha : SE CA X C a ma) (hb : SE CA X C b mb) (hs : noSet b = true) : STt CA X C (.Compare a [op] [b] pos) (mtOf (mBin g ma mb)) := fun ρ L k L' hm θ σ H Q S q =>
  ofT (pt_cmpR rBin_ok (sE a) (sE b) (mark_of hs)) (bin_core (Q := fun x H' => ∃ k, x = .bl k ∧ Q k H') ho ha hb (mtOf_ok hm) S (PostE.val fun v θ' H' e l r => by cases r; exact ⟨k, rfl, q θ' H' e l⟩))
/-! ### chains -/
theorem chain_core {f f' : Value → Value → Sem Value} {g g' : Val → Val → List MO → Option Val} (ho : OpOk CA X f g) (ho' : OpOk CA X f' g') (ha : SE CA X C a ma) (hb : SE CA X C b mb) (hc : SE CA X C c mc) {ρ : Rho} {L L' : List MO} {z : Val}
    (hm : mChain g g' ma mb mc C ρ L = .ok z L') {θ : List Addr} {σ : St} {H : Hp} {Q : VK} (S : Sim X.K CA θ ρ L σ H) (q : PostE X.K CA θ H L' Q z) : tChain (rBin X f) (rBin X f') (semE X a) (semE X b) (semE X c) σ H Q := by
  obtain ⟨x, L1, e1, hm⟩ := Out.bind_ok hm
  obtain ⟨y, L2, e2, hm⟩ := Out.bind_ok hm
  split at hm
  · rename_i k e3
    refine ha.use e1 S fun v θ1 H1 x1 S1 r1 => ?_
    refine hb.use e2 S1 fun u θ2 H2 x2 S2 r2 => ?_
    refine rBin_kf fun _ => ho _ _ _ _ e3 θ2 H2 v u _ S2.live S2.kf (RV.mono x2 r1) r2 (PostE.val fun w θ3 H3 x3 l3 r3 kf3 => ?_)
    cases r3
    refine ⟨k, rfl, ?_⟩
    have S3 := S2.go x3 l3 kf3
    cases k with
    | true =>
      rw [if_pos rfl] at hm
      rw [if_pos rfl]
      obtain ⟨w, L3, e4, hm⟩ := Out.bind_ok hm
      obtain ⟨e5, rfl⟩ := ofOpt_ok hm
      refine hc.use e4 S3 fun w' θ4 H4 x4 S4 r4 => ?_
      exact ho' _ _ _ _ e5 θ4 H4 u w' Q S4.live S4.kf (RV.mono (x3.trans x4) r2) r4 (q.later (x1.trans (x2.trans (x3.trans x4))))
    | false =>
      rw [if_neg Bool.false_ne_true] at hm
      rw [if_neg Bool.false_ne_true]
      cases hm
      exact (q.later (x1.trans (x2.trans x3))).same l3 (.bl false)
  · cases hm
theorem last_of {op op' : CmpOp} (h : noSet c = true) : lastMarks [op, op'] [b, c] = false := mark_of h
theorem se_chain {op op' : CmpOp} {g g' : Val → Val → List MO → Option Val} (ho : OpOk CA X (compareOp op) g) (ho' : OpOk CA X (compareOp op') g') (ha : SE CA X C a ma) (hb : SE CA X C b mb) (hc : SE CA X C c mc) (hs : noSet c = true) :
    SE CA X C (.Compare a [op, op'] [b, c] pos) (mChain g g' ma mb mc) := fun ρ L z L' hm θ σ H Q S q =>
  ofE (pe_chain rBin_ok rBin_ok (sE a) (sE b) (sE c) (last_of hs)) (chain_core ho ho' ha hb hc hm S q)
theorem st_chain {op op' : CmpOp} {g g' : Val → Val → List MO → Option Val} (ho : OpOk CA X (compareOp op) g) (ho' : OpOk CA X (compareOp op') g') (ha : SE CA X C a ma) (hb : SE CA X C b mb) (hc : SE CA X C c mc) (hs : noSet c = true) :
    STt CA X C (.Compare a [op, op'] [b, c] pos) (mtOf (mChain g g' ma mb mc)) := fun ρ L k L' hm θ σ H Q S q =>
  ofT (pt_chain rBin_ok rBin_ok (sE a) (sE b) (sE c) (last_of hs)) (chain_core (Q := fun x H' => ∃ k, x = .bl k ∧ Q k H') ho ho' ha hb hc (mtOf_ok hm) S (PostE.val fun v θ' H' e l r => by cases r; exact ⟨k, rfl, q θ' H' e l⟩))
/-! ### truth -/
theorem truth_ok {K : PySem.W.Frag} {θ : List Addr} {H : Hp} {L : List MO} {v : V} {x : Val} {k : Bool} (l : Live K CA θ L H) (r : RV K θ H v x) (h : truth L x = some k) : TruV K v H k := by
  unfold truth at h
  split at h
  · cases h; cases r; rfl
  · cases h; cases r; rfl
  · cases h; cases r; rfl
  · split at h
    · cases h; cases r; exact ⟨by assumption, rfl⟩
    · cases h
  · cases h
    cases r with
    | tup h1 h2 h3 => exact .inr (.inl ⟨_, h2, by rw [h3.isEmpty]⟩)
  · cases h
    cases r with
    | dic h1 h2 h3 => exact .inr (.inr ⟨_, h2, by cases h3 <;> rfl⟩)
  · cases e : view L x with
    | none => rw [e] at h; cases h
    | some xs =>
      rw [e] at h; cases h
      obtain ⟨a, vs, rfl, h1, h2⟩ := view_ok l r e
      exact .inl ⟨vs, h1.sq, by rw [h2.isEmpty]⟩
def plainTest : Expr → Bool
  | .UnaryOp .Not _ _ => false
  | .BoolOp .. => false
  | .IfExp .. => false
  | .Compare .. => false
  | _ => true
theorem plain_of {env : Env} (h : plainTest a = true) (whole : Sem Value) : isTrue a env whole = (do let v ← whole; standAt a.pos; holding [v] (truthy v)) := by
  cases a with
  | UnaryOp op x p => cases op <;> first | rfl | (exact absurd (show false = true from h) Bool.false_ne_true)
  | BoolOp => exact absurd (show false = true from h) Bool.false_ne_true
  | IfExp => exact absurd (show false = true from h) Bool.false_ne_true
  | Compare => exact absurd (show false = true from h) Bool.false_ne_true
  | _ => rfl
theorem st_plain (h : SE CA X C a m) (hp : plainTest a = true) : STt CA X C a (mtTru m) := fun ρ L k L' hm θ σ H Q S q => by
  obtain ⟨x, L1, e1, hm⟩ := Out.bind_ok hm
  split at hm
  · rename_i k' e2
    cases hm
    refine ofT (pt_truth (sE a) (plain_of hp)) (h.use e1 S fun v θ1 H1 x1 S1 r1 => ⟨k, truth_ok S1.live r1 e2, q θ1 H1 x1 S1.live⟩)
  · cases hm
theorem st_not {t : MT} (h : STt CA X C a t) : STt CA X C (.UnaryOp .Not a pos) (mtNot t) := fun ρ L k L' hm θ σ H Q S q => by
  obtain ⟨x, L1, e1, hm⟩ := Out.bind_ok hm
  cases hm
  exact ofT (pt_not (sT a)) (h.use e1 S fun θ1 H1 x1 S1 => q θ1 H1 x1 S1.live)
def SWt (CA : Str → Addr) (X : Cx) (C : Calls) (e : Expr) (m : MT) : Prop := ∀ (ρ : Rho) (L : List MO) (b : Bool) (L' : List MO), m C ρ L = .ok b L' →
  ∀ (θ : List Addr) (σ : St) (H : Hp) (Q : Bool → Hp → Prop), Sim X.K CA θ ρ L σ H → (∀ θ' H', Ext X.K θ H θ' H' → Live X.K CA θ' L' H' → Q b H') → semW X e σ H Q
theorem sw_and1 {t : MT} (h : STt CA X C a t) : SWt CA X C (.BoolOp .And [a] pos) t := fun ρ L k L' hm θ σ H Q S q => ofW (pw_and1 (sT a)) (h ρ L k L' hm θ σ H Q S q)
theorem sw_or1 {t : MT} (h : STt CA X C a t) : SWt CA X C (.BoolOp .Or [a] pos) t := fun ρ L k L' hm θ σ H Q S q => ofW (pw_or1 (sT a)) (h ρ L k L' hm θ σ H Q S q)
theorem sw_and {t u : MT} {rest : List Expr} (h : STt CA X C a t) (h2 : SWt CA X C (.BoolOp .And (b :: rest) pos) u) : SWt CA X C (.BoolOp .And (a :: b :: rest) pos) (mtAnd t u) := fun ρ L k L' hm θ σ H Q S q => by
  obtain ⟨x, L1, e1, hm⟩ := Out.bind_ok hm
  refine ofW (pw_and (sT a) (sW _)) (h.use e1 S fun θ1 H1 x1 S1 => ?_)
  cases x with
  | true =>
    rw [if_pos rfl] at hm ⊢
    exact h2 ρ L1 k L' hm θ1 σ H1 Q S1 fun θ' H' e l => q θ' H' (x1.trans e) l
  | false =>
    rw [if_neg Bool.false_ne_true] at hm ⊢
    cases hm
    exact q θ1 H1 x1 S1.live
theorem sw_or {t u : MT} {rest : List Expr} (h : STt CA X C a t) (h2 : SWt CA X C (.BoolOp .Or (b :: rest) pos) u) : SWt CA X C (.BoolOp .Or (a :: b :: rest) pos) (mtOr t u) := fun ρ L k L' hm θ σ H Q S q => by
  obtain ⟨x, L1, e1, hm⟩ := Out.bind_ok hm
  refine ofW (pw_or (sT a) (sW _)) (h.use e1 S fun θ1 H1 x1 S1 => ?_)
  cases x with
  | false =>
    rw [if_neg Bool.false_ne_true] at hm ⊢
    exact h2 ρ L1 k L' hm θ1 σ H1 Q S1 fun θ' H' e l => q θ' H' (x1.trans e) l
  | true =>
    rw [if_pos rfl] at hm ⊢
    cases hm
    exact q θ1 H1 x1 S1.live
theorem st_w {t : MT} (h : SWt CA X C a t) : STt CA X C a t := fun ρ L k L' hm θ σ H Q S q => ofT (PW.pt (sW a)) (h ρ L k L' hm θ σ H Q S q)
/-! ### and, or, not as values -/
theorem se_one {op : BoolOp} (h : SE CA X C a m) : SE CA X C (.BoolOp op [a] pos) m := fun ρ L z L' hm θ σ H Q S q => ofE (pe_one (sE a)) (h ρ L z L' hm θ σ H Q S q)
theorem se_and {rest : List Expr} (h : SE CA X C a ma) (h2 : SE CA X C (.BoolOp .And (b :: rest) pos) mb) : SE CA X C (.BoolOp .And (a :: b :: rest) pos) (mAnd ma mb) := fun ρ L z L' hm θ σ H Q S q => by
  obtain ⟨x, L1, e1, hm⟩ := Out.bind_ok hm
  split at hm
  · rename_i k e2
    refine ofE (pe_andT (sE a) (sE _)) (h.use e1 S fun v θ1 H1 x1 S1 r1 => ⟨k, truth_ok S1.live r1 e2, ?_⟩)
    cases k with
    | true =>
      rw [if_pos rfl] at hm ⊢
      exact h2 ρ L1 z L' hm θ1 σ H1 Q S1 (q.later x1)
    | false =>
      rw [if_neg Bool.false_ne_true] at hm ⊢
      cases hm
      exact (q.later x1).rv S1.live r1
  · cases hm
theorem se_or {rest : List Expr} (h : SE CA X C a ma) (h2 : SE CA X C (.BoolOp .Or (b :: rest) pos) mb) : SE CA X C (.BoolOp .Or (a :: b :: rest) pos) (mOr ma mb) := fun ρ L z L' hm θ σ H Q S q => by
  obtain ⟨x, L1, e1, hm⟩ := Out.bind_ok hm
  split at hm
  · rename_i k e2
    refine ofE (pe_orT (sE a) (sE _)) (h.use e1 S fun v θ1 H1 x1 S1 r1 => ⟨k, truth_ok S1.live r1 e2, ?_⟩)
    cases k with
    | false =>
      rw [if_neg Bool.false_ne_true] at hm ⊢
      exact h2 ρ L1 z L' hm θ1 σ H1 Q S1 (q.later x1)
    | true =>
      rw [if_pos rfl] at hm ⊢
      cases hm
      exact (q.later x1).rv S1.live r1
  · cases hm
theorem se_not (h : SE CA X C a m) : SE CA X C (.UnaryOp .Not a pos) (mNot m) := fun ρ L z L' hm θ σ H Q S q => by
  obtain ⟨x, L1, e1, hm⟩ := Out.bind_ok hm
  split at hm
  · rename_i k e2
    cases hm
    exact ofE (pe_notT (sE a)) (h.use e1 S fun v θ1 H1 x1 S1 r1 => ⟨k, truth_ok S1.live r1 e2, (q.later x1).same S1.live (.bl _)⟩)
  · cases hm
theorem se_if {t : MT} (h : STt CA X C c t) (ha : SE CA X C a ma) (hb : SE CA X C b mb) : SE CA X C (.IfExp c a b pos) (mIf t ma mb) := fun ρ L z L' hm θ σ H Q S q => by
  obtain ⟨k, L1, e1, hm⟩ := Out.bind_ok hm
  refine ofE (pe_ifExp (sT c) (sE a) (sE b)) (h.use e1 S fun θ1 H1 x1 S1 => ?_)
  cases k with
  | true =>
    rw [if_pos rfl] at hm ⊢
    exact ha ρ L1 z L' hm θ1 σ H1 Q S1 (q.later x1)
  | false =>
    rw [if_neg Bool.false_ne_true] at hm ⊢
    exact hb ρ L1 z L' hm θ1 σ H1 Q S1 (q.later x1)
theorem se_neg (h : SE CA X C a m) : SE CA X C (.UnaryOp .USub a pos) (mNeg m) := fun ρ L z L' hm θ σ H Q S q => by
  obtain ⟨x, L1, e1, hm⟩ := Out.bind_ok hm
  split at hm
  · cases hm
    refine ofE (pe_un un_neg (sE a)) (h.use e1 S fun v θ1 H1 x1 S1 r1 => ?_)
    cases r1
    exact ⟨_, rfl, (q.later x1).same S1.live (.int _)⟩
  · cases hm
/-! ### displays -/
theorem allD_ok {K : PySem.W.Frag} {θ : List Addr} {H : Hp} : ∀ {xs : List Val} {vs : List V} {ds : List D}, Paired (RV K θ H) vs xs → allD xs = some ds → RL K θ H vs ds
  | [], _, _, .nil, h => by cases h; exact .nil
  | .d x :: xs, _, _, .cons r t, h => by
    unfold allD at h
    cases e : allD xs with
    | none => rw [e] at h; cases h
    | some ys => rw [e] at h; cases h; exact .cons r (allD_ok t e)
  | .h n :: xs, _, _, .cons r t, h => by cases h
  | .new n :: xs, _, _, .cons r t, h => by cases h
theorem se_tup {es : List Expr} {ms : MA} {j : Nat} (h : SA CA X C es ms) : SE CA X C (.Tuple es j pos) (mTup ms) := fun ρ L z L' hm θ σ H Q S q => by
  obtain ⟨xs, L1, e1, hm⟩ := Out.bind_ok hm
  split at hm
  · rename_i ds e2
    split at hm
    · rename_i hl
      cases hm
      refine ofE (pe_tup (sA es)) (h.use e1 S fun vs θ1 H1 x1 S1 r1 => ?_)
      have r := allD_ok r1 e2
      exact ⟨by rw [r.length]; exact hl, fun p hp => (q.later x1).tup S1.live r hp⟩
    · cases hm
  · cases hm
theorem se_lst {es : List Expr} {ms : MA} (h : SA CA X C es ms) : SE CA X C (.List es pos) (mLst ms) := fun ρ L z L' hm θ σ H Q S q => by
  obtain ⟨xs, L1, e1, hm⟩ := Out.bind_ok hm
  split at hm
  · rename_i ds e2
    split at hm
    · rename_i hl
      cases hm
      refine semE_kf (ofE (pe_lst (sA es)) (h.use e1 S fun vs θ1 H1 x1 S1 r1 => ?_))
      have r := allD_ok r1 e2
      exact ⟨by rw [r.length]; exact hl, fun p hp kf => (q.later x1).lst S1.live r hp kf⟩
    · cases hm
  · cases hm
end
end Ev
set_option Elab.async false
set_option linter.all false
set_option maxRecDepth 100000
namespace Ev
open PySem PySem.Spec L2
open PyProof.Rows (subscriptTail)

/-! ## subscripts, slices -/
def rIxS' (X : Cx) : R2 := fun x y H Q => ∀ (value slice : Expr) (pins : List (Addr × Obj)) (s : Shared) (σ : St) (v u : Value), Inv X pins σ H s → RelV x v → RelV y u →
  subscripted slice false v u = operate [v, u] (getItem v u) → wpAny (model X.prog X.w) X.A (subscriptTail value slice v u) (EP X pins σ Q) X.xe s
theorem rIx_ok {X : Cx} : IxR X (rIxS' X) := fun value slice pins s σ H x y v u Q I rx ry h hs => h value slice pins s σ v u I rx ry hs
theorem rIx_of {X : Cx} {r : R2} (h : IxR X r) {x y : V} {H : Hp} {Q : VK} (q : r x y H Q) : rIxS' X x y H Q := fun value slice pins s σ v u I rx ry hs => h value slice pins s σ H x y v u Q I rx ry q hs
/-- a place of a sequence -/
def at? {α : Type} (xs : List α) (i : Int) : Option α := atI xs i
/-- x[i] -/
def valD (kvs : List (Key × D)) (k : Key) : Option D := (kvs.find? fun kv => decide (kv.1 = k)).map (·.2)
def bIx : Val → Val → List MO → Option Val
  | .d (.tup xs), .d (.int i), _ => (atI xs i).map .d
  | .d (.str x), .d (.int i), _ => if x.length ≤ sizeLine then (atI x.cps.toList i).map fun c => .d (.str ⟨#[c]⟩) else none
  | .h n, .d (.int i), L => match L[n]? with
    | some (.lst xs) => (atI xs i).map .d
    | some (.hl ns) => (atI ns i).map .h
    | some (.dct kvs) => (valD kvs (.inl i)).map .d
    | _ => none
  | .h n, .d (.str x), L => match L[n]? with
    | some (.dct kvs) => (valD kvs (.inr x)).map .d
    | _ => none
  | .d (.lst xs), .d (.int i), _ => (atI xs i).map .d
  | .d (.dic kvs), .d (.int i), _ => (valD kvs (.inl i)).map .d
  | .d (.dic kvs), .d (.str x), _ => (valD kvs (.inr x)).map .d
  | _, _, _ => none
section
variable {CA : Str → Addr} {X : Cx} {C : Calls} {e a b c : Expr} {m ma mb mc : M} {pos : Pos}
theorem RL.atI {K : PySem.W.Frag} {θ : List Addr} {H : Hp} {vs : List V} {ds : List D} {i : Int} {d : D} (r : RL K θ H vs ds) (h : atI ds i = some d) : ∃ v, L2.atI vs i = some v ∧ R K θ H v d := by
  unfold L2.atI at h ⊢
  rw [r.length]
  cases e : ixN ds.length i with
  | none => rw [e] at h; cases h
  | some j =>
    rw [e] at h
    exact r.get h
theorem map_ok {α β : Type} {o : Option α} {f : α → β} {z : β} (h : o.map f = some z) : ∃ x, o = some x ∧ f x = z := by
  cases o with
  | none => cases h
  | some x => cases h; exact ⟨x, rfl, rfl⟩
/-- d[k] of a dict whose keys are ints and texts -/
theorem ix_dictK : IxR X (fun x y H Q => ∃ (a : Addr) (kvs : List (Key × V)) (k : Key) (z : V), x = .ref a ∧ y = kV k ∧ H a = some (.dK kvs) ∧ valV kvs k = some z ∧ Q z H) := by
  intro value slice pins s σ H x y v u Q I rx ry h hs
  obtain ⟨a, kvs, k, z, rfl, rfl, e, ez, q⟩ := h
  cases rx
  have g : DGet H a (kV k) (valV kvs k) := .k e
  obtain ⟨_, _, us, rel, dd⟩ := dk_rd I.hok (.inl e)
  obtain ⟨w, hw, rw'⟩ := RelO.some_of (v := z) (o := valueAt us k) (by rw [← ez]; exact rel.val k)
  refine PyProof.Rows.subscriptTail_builtinR (x := w) (dict_typeIs I g) PySem.F.slot_dict_getitem.lookup ?_ hs
  exact wpAny_getItem_of (kV_is ry) dd.mapOf hw ⟨rfl, z, H, I.tok _, rw', q⟩
theorem RK.val {K : PySem.W.Frag} {θ : List Addr} {H : Hp} {k : Key} {d : D} : ∀ {us : List (Key × V)} {kds : List (Key × D)}, RK K θ H us kds → valD kds k = some d → ∃ v, valV us k = some v ∧ R K θ H v d
  | _, _, .nil, h => by cases h
  | _, _, .cons (k := k1) (v := v1) (vs := vs1) (d := d1) (ds := ds1) r t, h => by
    by_cases e : k1 = k
    · have h1 : valD ((k1, d1) :: ds1) k = some d1 := by unfold valD; rw [List.find?_cons_of_pos (by exact decide_eq_true e)]; rfl
      rw [h1] at h; cases h
      exact ⟨v1, valV_pos (p := (k1, v1)) e, r⟩
    · have h1 : valD ((k1, d1) :: ds1) k = valD ds1 k := by unfold valD; rw [List.find?_cons_of_neg (by simpa using e)]
      rw [h1] at h
      obtain ⟨v, q1, q2⟩ := RK.val t h
      exact ⟨v, by rw [valV_neg (p := (k1, v1)) e]; exact q1, q2⟩
theorem Live.dct {CA : Str → Addr} {K : PySem.W.Frag} {θ : List Addr} {L : List MO} {H : Hp} (h : Live K CA θ L H) {n : Nat} {p : Addr} {kvs : List (Key × D)} (hp : θ[n]? = some p) (hL : L[n]? = some (.dct kvs)) : ∃ us, H p = some (.dK us) ∧ RK K θ H us kvs := h.at_ n p _ hp hL
theorem ok_ix {x y : Val} {L : List MO} {z : Val} (hz : bIx x y L = some z) {θ : List Addr} {H : Hp} {v u : V} {Q : VK} (l : Live X.K CA θ L H) (rx : RV X.K θ H v x) (ry : RV X.K θ H u y) (q : PostE X.K CA θ H L Q z) : rIxS' X v u H Q := by
  unfold bIx at hz
  split at hz
  · obtain ⟨d, e, rfl⟩ := map_ok hz
    cases ry
    cases rx with
    | tup h1 h2 h3 =>
      obtain ⟨w, e1, r1⟩ := h3.atI e
      exact rIx_of ix_tup ⟨_, _, _, _, rfl, rfl, h2, e1, q.same l r1⟩
  · split at hz
    · obtain ⟨d, e, rfl⟩ := map_ok hz
      cases ry
      cases rx
      exact rIx_of ix_str ⟨_, _, _, rfl, rfl, by assumption, e, q.same l (.str _)⟩
    · cases hz
  · cases ry
    obtain ⟨p, rfl, hp⟩ := rx
    split at hz
    · rename_i hL
      obtain ⟨d, e, rfl⟩ := map_ok hz
      obtain ⟨p', vs, h1, h2, h3⟩ := l.lst hL
      rw [hp] at h1; cases h1
      obtain ⟨w, e1, r1⟩ := h3.atI e
      exact rIx_of ix_list ⟨_, _, _, _, rfl, rfl, .of h2, e1, q.same l r1⟩
    · rename_i ns hL
      obtain ⟨k, e, rfl⟩ := map_ok hz
      obtain ⟨bs, h1, h2, h3⟩ := l.at_ _ _ _ hp hL
      unfold L2.atI at e
      cases e2 : ixN ns.length _ with
      | none => rw [e2] at e; cases e
      | some j =>
        rw [e2] at e
        have e : ns[j]? = some k := e
        obtain ⟨b', q1, q2⟩ := h3 j k e
        refine rIx_of ix_list ⟨_, _, _, .ref b', rfl, rfl, .of h1, ?_, q.rv l ⟨b', rfl, q2⟩⟩
        unfold L2.atI
        rw [List.length_map, h2, e2]
        show (bs.map V.ref)[j]? = _
        rw [List.getElem?_map, q1]; rfl
    · rename_i hL
      obtain ⟨d, e, rfl⟩ := map_ok hz
      obtain ⟨us, h1, h2⟩ := l.dct hp hL
      obtain ⟨w, e1, r1⟩ := h2.val e
      exact rIx_of ix_dictK ⟨_, us, .inl _, w, rfl, rfl, h1, e1, q.same l r1⟩
    · cases hz
  · cases ry
    obtain ⟨p, rfl, hp⟩ := rx
    split at hz
    · rename_i hL
      obtain ⟨d, e, rfl⟩ := map_ok hz
      obtain ⟨us, h1, h2⟩ := l.dct hp hL
      obtain ⟨w, e1, r1⟩ := h2.val e
      exact rIx_of ix_dictK ⟨_, us, .inr _, w, rfl, rfl, h1, e1, q.same l r1⟩
    · cases hz
  · obtain ⟨d, e, rfl⟩ := map_ok hz
    cases ry
    cases rx with
    | lst h1 h2 h3 =>
      obtain ⟨w, e1, r1⟩ := h3.atI e
      exact rIx_of ix_list ⟨_, _, _, _, rfl, rfl, h2.sq, e1, q.same l r1⟩
  · obtain ⟨d, e, rfl⟩ := map_ok hz
    cases ry
    cases rx with
    | dic h1 h2 h3 =>
      obtain ⟨w, e1, r1⟩ := h3.val e
      exact rIx_of ix_dictK ⟨_, _, .inl _, w, rfl, rfl, h2, e1, q.same l r1⟩
  · obtain ⟨d, e, rfl⟩ := map_ok hz
    cases ry
    cases rx with
    | dic h1 h2 h3 =>
      obtain ⟨w, e1, r1⟩ := h3.val e
      exact rIx_of ix_dictK ⟨_, _, .inr _, w, rfl, rfl, h2, e1, q.same l r1⟩
  · cases hz
def noSl : Expr → Bool
  | .Slice .. => false
  | _ => true
theorem plainIx_of (h : noSl b = true) : PlainIx b := fun o i => by
  cases b <;> first | rfl | (exact absurd (show false = true from h) Bool.false_ne_true)
theorem se_ix (ha : SE CA X C a ma) (hb : SE CA X C b mb) (hs : noSl b = true) : SE CA X C (.Subscript a b pos) (mBin bIx ma mb) := fun ρ L z L' hm θ σ H Q S q => by
  obtain ⟨x, L1, e1, hm⟩ := Out.bind_ok hm
  obtain ⟨y, L2, e2, hm⟩ := Out.bind_ok hm
  obtain ⟨e3, rfl⟩ := ofOpt_ok hm
  refine ofE (pe_ix rIx_ok (sE a) (sE b) (plainIx_of hs)) (ha.use e1 S fun v θ1 H1 x1 S1 r1 => ?_)
  refine hb.use e2 S1 fun u θ2 H2 x2 S2 r2 => ?_
  exact ok_ix e3 S2.live (RV.mono x2 r1) r2 (q.later (x1.trans x2))

/-! ### slices -/
abbrev MO' := Calls → Rho → List MO → Out (Option Int)
def mNoPart : MO' := fun _ _ L => .ok none L
def mPart (m : M) : MO' := fun C ρ L => (m C ρ L).bind fun x L1 => match x with
  | .d (.int i) => .ok (some i) L1
  | _ => .no
def semO (X : Cx) (e : Option Expr) : TO := fun σ H Q => ∀ (pins : List (Addr × Obj)) (s : Shared), Inv X pins σ H s →
  wpAny (model X.prog X.w) X.A (evalPart e X.env) (fun u s' => ∃ o H', Inv X pins σ H' s' ∧ IsPart u o ∧ Q o H') X.xe s
theorem sO (e : Option Expr) : PO X e (semO X e) := ⟨fun pins s σ H Q I h => h pins s I⟩
theorem ofO {e : Option Expr} {t : TO} (h : PO X e t) {σ : St} {H : Hp} {Q : Option Int → Hp → Prop} (q : t σ H Q) : semO X e σ H Q := fun pins s I => h.run pins s σ H Q I q
theorem semO_kf {e : Option Expr} {σ : St} {H : Hp} {Q : Option Int → Hp → Prop} (h : semO X e σ H fun v H' => KF X.K H' → Q v H') : semO X e σ H Q := fun pins s I =>
  thn (h pins s I) fun u s1 ⟨v, H1, I1, r, q⟩ => ⟨v, H1, I1, r, q (kf_of I1)⟩
def SO (CA : Str → Addr) (X : Cx) (C : Calls) (e : Option Expr) (m : MO') : Prop := ∀ (ρ : Rho) (L : List MO) (x : Option Int) (L' : List MO), m C ρ L = .ok x L' →
  ∀ (θ : List Addr) (σ : St) (H : Hp) (Q : Option Int → Hp → Prop), Sim X.K CA θ ρ L σ H → (∀ θ' H', Ext X.K θ H θ' H' → Sim X.K CA θ' ρ L' σ H' → Q x H') → semO X e σ H Q
theorem so_none : SO CA X C none mNoPart := fun ρ L x L' hm θ σ H Q S q => by
  cases hm
  exact ofO po_none (q θ H S.refl S)
theorem so_some (h : SE CA X C e m) : SO CA X C (some e) (mPart m) := fun ρ L x L' hm θ σ H Q S q => by
  obtain ⟨y, L1, e1, hm⟩ := Out.bind_ok hm
  split at hm
  · cases hm
    refine ofO (po_some (sE e)) (h.use e1 S fun v θ1 H1 x1 S1 r1 => ?_)
    cases r1
    exact ⟨_, rfl, q θ1 H1 x1 S1⟩
  · cases hm
/-- where a cut begins and ends -/
def cutD {α : Type} (xs : List α) (lo hi : Option Int) : List α := (xs.drop (HT.sIx xs.length 0 lo)).take (HT.sIx xs.length xs.length hi - HT.sIx xs.length 0 lo)
def bSl (lo hi : Option Int) (L : List MO) : Val → Option Val
  | .d (.tup xs) => some (.d (.tup (cutD xs lo hi)))
  | .d (.str x) => if x.length ≤ sizeLine then some (.d (.str (L2.cutS x lo hi))) else none
  | x => (view L x).map fun xs => .new (cutD xs lo hi)
theorem RL.cut {K : PySem.W.Frag} {θ : List Addr} {H : Hp} {vs : List V} {ds : List D} (r : RL K θ H vs ds) (lo hi : Option Int) : RL K θ H (cutV vs lo hi) (cutD ds lo hi) := by
  unfold cutV cutD
  rw [r.length]
  exact (r.drop _).take _
def rSl (X : Cx) : V → Option Int → Option Int → Hp → VK → Prop := fun x lo hi H Q => ∀ (pins : List (Addr × Obj)) (s : Shared) (σ : St) (v vl vu : Value) (sl : Addr), Inv X pins σ H s → RelV x v → s.heap.IsSliceOf sl vl vu .none → IsPart vl lo → IsPart vu hi →
    ∃ T id, typeLookup (.type T) "__getitem__" = pure (some (.builtin id)) ∧ s.TypeIs v T ∧ wpAny (model X.prog X.w) X.A (getItem v (.ref sl)) (EP X pins σ Q) X.xe s
theorem rSl_ok : SlR X (rSl X) := fun pins s σ H x v vl vu lo hi sl Q I rx hs pl pu h => h pins s σ v vl vu sl I rx hs pl pu
theorem rSl_of {r : V → Option Int → Option Int → Hp → VK → Prop} (h : SlR X r) {x : V} {lo hi : Option Int} {H : Hp} {Q : VK} (q : r x lo hi H Q) : rSl X x lo hi H Q := fun pins s σ v vl vu sl I rx hs pl pu => h pins s σ H x v vl vu lo hi sl Q I rx hs pl pu q
theorem rSl_kf {x : V} {lo hi : Option Int} {H : Hp} {Q : VK} (h : rSl X x lo hi H fun v H' => KF X.K H' → Q v H') : rSl X x lo hi H Q := fun pins s σ v vl vu sl I rx hs pl pu => by
  obtain ⟨T, id, h1, h2, h3⟩ := h pins s σ v vl vu sl I rx hs pl pu
  exact ⟨T, id, h1, h2, thn h3 fun u s1 ⟨v, H1, I1, r, q⟩ => ⟨v, H1, I1, r, q (kf_of I1)⟩⟩
theorem cut_all {α : Type} (xs : List α) {lo hi : Option Int} (h : HT.sIx xs.length 0 lo = 0 ∧ HT.sIx xs.length xs.length hi = xs.length) : cutD xs lo hi = xs := by
  unfold cutD
  rw [h.1, h.2]
  simp
/-- l[a:b] of any list -/
theorem sl_listS : SlR X (fun x lo hi H Q => ∃ a xs, x = .ref a ∧ LsOk X.K H a xs ∧ ∀ p, H p = none → Q (.ref p) (upd H p (.lst (cutV xs lo hi)))) := by
  intro pins s σ H x v vl vu lo hi sl Q I rx hs pl pu h
  obtain ⟨a, xs, e, hx, q⟩ := h
  exact sl_list pins s σ H x v vl vu lo hi sl Q I rx hs pl pu ⟨a, xs, e, hx.sq, q⟩
theorem ok_sl {x : Val} {L : List MO} {z : Val} {lo hi : Option Int} (hz : bSl lo hi L x = some z) {θ : List Addr} {H : Hp} {v : V} {Q : VK} (l : Live X.K CA θ L H) (rx : RV X.K θ H v x) (q : PostE X.K CA θ H L Q z) : rSl X v lo hi H Q := by
  unfold bSl at hz
  split at hz
  · cases hz
    cases rx with
    | tup h1 h2 h3 =>
      refine rSl_of sl_tupA ⟨_, _, rfl, h2, fun c => ?_, fun c p hp => q.tup l (h3.cut lo hi) hp⟩
      rw [h3.length] at c
      rw [cut_all _ c] at q
      exact q.same l (.tup h1 h2 h3)
  · split at hz
    · cases hz
      cases rx
      exact rSl_of sl_str ⟨_, rfl, by assumption, q.same l (.str _)⟩
    · cases hz
  · cases e : view L x with
    | none => rw [e] at hz; cases hz
    | some xs =>
      rw [e] at hz; cases hz
      obtain ⟨a, vs, rfl, h1, h2⟩ := view_ok l rx e
      exact rSl_kf (rSl_of sl_listS ⟨a, vs, rfl, h1, fun p hp kf => q.lst l (h2.cut lo hi) hp kf⟩)
def mSl (m : M) (lo hi : MO') : M := fun C ρ L => (m C ρ L).bind fun x L1 => (lo C ρ L1).bind fun l L2 => (hi C ρ L2).bind fun h L3 => ofOpt (bSl l h L3 (fz x)) L3
theorem se_sl {lo hi : Option Expr} {ml mh : MO'} {p2 : Pos} (ha : SE CA X C a ma) (hl : SO CA X C lo ml) (hh : SO CA X C hi mh) : SE CA X C (.Subscript a (.Slice lo hi none p2) pos) (mSl ma ml mh) := fun ρ L z L' hm θ σ H Q S q => by
  obtain ⟨x, L1, e1, hm⟩ := Out.bind_ok hm
  obtain ⟨l, L2, e2, hm⟩ := Out.bind_ok hm
  obtain ⟨h, L3, e3, hm⟩ := Out.bind_ok hm
  obtain ⟨e4, rfl⟩ := ofOpt_ok hm
  refine ofE (pe_slice rSl_ok (sE a) (sO lo) (sO hi)) (ha.use e1 S fun v θ1 H1 x1 S1 r1 => semO_kf (hl ρ L1 l L2 e2 θ1 σ H1 _ S1 fun θ2 H2 x2 S2 _ => semO_kf (hh ρ L2 h _ e3 θ2 σ H2 _ S2 fun θ3 H3 x3 S3 _ => ?_)))
  exact ok_sl e4 S3.live (RV.mono (x2.trans x3) r1) (q.later (x1.trans (x2.trans x3)))

/-! ## calls -/
/-- a built-in by its values -/
def BiOk (CA : Str → Addr) (X : Cx) (f : Value) (g : List Val → List MO → Option Val) : Prop :=
  ∀ (xs : List Val) (L : List MO) (z : Val), g xs L = some z → ∀ (θ : List Addr) (H : Hp) (vs : List V) (Q : VK), Live X.K CA θ L H → KF X.K H → Paired (RV X.K θ H) vs xs → PostE X.K CA θ H L Q z → rCall X f vs H Q
def mBi (g : List Val → List MO → Option Val) (ms : MA) : M := fun C ρ L => (ms C ρ L).bind fun xs L1 => ofOpt (g xs L1) L1
theorem bi_core {f : Value} {g : List Val → List MO → Option Val} {es : List Expr} {ms : MA} (ho : BiOk CA X f g) (h : SA CA X C es ms) {ρ : Rho} {L L' : List MO} {z : Val} (hm : mBi g ms C ρ L = .ok z L') {θ : List Addr} {σ : St} {H : Hp} {Q : VK} (S : Sim X.K CA θ ρ L σ H) (q : PostE X.K CA θ H L' Q z) : tCB (rCall X f) (semA X es) σ H Q := by
  obtain ⟨xs, L1, e1, hm⟩ := Out.bind_ok hm
  obtain ⟨e3, rfl⟩ := ofOpt_ok hm
  exact h.use e1 S fun vs θ1 H1 x1 S1 r1 => ho _ _ _ e3 θ1 H1 vs Q S1.live S1.kf r1 (q.later x1)
theorem se_biB {x : Str} {id : String} {g : List Val → List MO → Option Val} {es : List Expr} {ms : MA} {p : Pos} (ho : BiOk CA X (.builtin id) g) (hg : Gl X x) (hm : X.mg x = none) (hv : bootBuiltins x = some (.builtin id)) (h : SA CA X C (e :: es) ms) (hn : x ≠ "__name__") (hdb : (x == ("__debug__" : Str)) = false)
    (hs : (e :: es).all noStar = true) : SE CA X C (.Call (.Name x p) (e :: es) [] pos) (mBi g ms) := fun ρ L z L' hm' θ σ H Q S q => by
  have hs' := hs
  rw [List.all_cons, Bool.and_eq_true] at hs'
  exact ofE (pe_callB rCall_ok hg hm hv (sA _) hn hdb (star_of hs'.1) (backTo_star es hs'.2)) (bi_core ho h hm' S q)
theorem se_biT {x : Str} {T : String} {g : List Val → List MO → Option Val} {es : List Expr} {ms : MA} {p : Pos} (ho : BiOk CA X (.type T) g) (hg : Gl X x) (hm : X.mg x = none) (hv : bootBuiltins x = some (.type T)) (h : SA CA X C (e :: es) ms) (hn : x ≠ "__name__") (hdb : (x == ("__debug__" : Str)) = false)
    (hs : (e :: es).all noStar = true) : SE CA X C (.Call (.Name x p) (e :: es) [] pos) (mBi g ms) := fun ρ L z L' hm' θ σ H Q S q => by
  have hs' := hs
  rw [List.all_cons, Bool.and_eq_true] at hs'
  exact ofE (pe_callTy rCall_ok hg hm hv (sA _) hn hdb (star_of hs'.1) (backTo_star es hs'.2)) (bi_core ho h hm' S q)

/-! ### calls of the text's own defs -/
/-- what a def promises: its denotation's answer -/
def spOf (K : PySem.W.Frag) (CA : Str → Addr) (g : List Val → List MO → Out Val) (n : Nat) : Sp := fun vs H Q _ => vs.length = n ∧ ∃ (θ : List Addr) (L : List MO) (xs : List Val) (z : Val) (L' : List MO),
  g xs L = .ok z L' ∧ Live K CA θ L H ∧ Paired (RV K θ H) vs xs ∧ PostE K CA θ H L' Q z
def mCall (f : String) (ms : MA) : M := fun C ρ L => (ms C ρ L).bind fun xs L1 => C f xs L1
/-- a def of the table, as it stands -/
structure FnRef (CA : Str → Addr) (k : Nat) (X : Cx) (C : Calls) (x : Str) (i : String) (n : Nat) : Prop where
  ex : ∃ (f : Addr) (fd : FuncData) (ps : List Str), X.mg x = some (.ref f) ∧ PySem.W.keepIn X.K (.ref f) = true ∧ FnOk X.prog X.w X.K X.mg X.base CX0 k f fd ps (spOf X.K CA (C i) n) ∧ Binds X.K fd ps []
theorem se_call {x : Str} {i : String} {n k : Nat} {es : List Expr} {ms : MA} {p : Pos} (F : FnRef CA k X C x i n) (hr : Room k X.A) (hg : Gl X x) (h : SA CA X C (e :: es) ms) (hn : ∀ ρ L xs L', ms C ρ L = .ok xs L' → xs.length = n) (hdb : (x == ("__debug__" : Str)) = false)
    (hs : (e :: es).all noStar = true) : SE CA X C (.Call (.Name x p) (e :: es) [] pos) (mCall i ms) := fun ρ L z L' hm' θ σ H Q S q => by
  have hs' := hs
  rw [List.all_cons, Bool.and_eq_true] at hs'
  obtain ⟨f, fd, ps, h1, h2, h3, h4⟩ := F.ex
  obtain ⟨xs, L1, e1, hm⟩ := Out.bind_ok hm'
  refine ofE (pe_call h3 hr hg h1 h2 h4 .nil (E := E0) pass0 (sA _) hdb (star_of hs'.1) (backTo_star es hs'.2)) (h.use e1 S fun vs θ1 H1 x1 S1 r1 => ?_)
  rw [List.append_nil]
  exact ⟨(Paired.length r1).trans (hn _ _ _ _ e1), θ1, L1, xs, z, L', hm, S1.live, r1, q.later x1⟩
theorem se_call0 {x : Str} {i : String} {k : Nat} {p : Pos} (F : FnRef CA k X C x i 0) (hr : Room k X.A) (hg : Gl X x) (hdb : (x == ("__debug__" : Str)) = false) : SE CA X C (.Call (.Name x p) [] [] pos) (mCall i mNil) := fun ρ L z L' hm' θ σ H Q S q => by
  obtain ⟨f, fd, ps, h1, h2, h3, h4⟩ := F.ex
  refine ofE (pe_call0 h3 hr hg h1 h2 h4 .nil (E := E0) pass0 hdb) ?_
  exact ⟨rfl, θ, L, [], z, L', hm', S.live, .nil, q⟩
end
end Ev
set_option Elab.async false
set_option linter.all false
set_option maxRecDepth 100000
namespace Ev
open PySem PySem.Spec L2

/-! ## the built-ins -/
section
variable {CA : Str → Addr} {X : Cx} {C : Calls} {e a b c : Expr} {m ma mb mc : M} {pos : Pos}
theorem one_of {K : PySem.W.Frag} {θ : List Addr} {H : Hp} {vs : List V} {x : Val} (r : Paired (RV K θ H) vs [x]) : ∃ v, vs = [v] ∧ RV K θ H v x := by
  cases r with
  | cons h t => cases t; exact ⟨_, rfl, h⟩
theorem two_of {K : PySem.W.Frag} {θ : List Addr} {H : Hp} {vs : List V} {x y : Val} (r : Paired (RV K θ H) vs [x, y]) : ∃ v w, vs = [v, w] ∧ RV K θ H v x ∧ RV K θ H w y := by
  cases r with
  | cons h t =>
    cases t with
    | cons h2 t2 => cases t2; exact ⟨_, _, rfl, h, h2⟩
def biLen : List Val → List MO → Option Val
  | [.d (.str x)], _ => if x.length ≤ sizeLine then some (.d (.int x.length)) else none
  | [.h n], L => match L[n]? with
    | some (.lst xs) => some (.d (.int xs.length))
    | some (.hl xs) => some (.d (.int xs.length))
    | _ => none
  | [x], L => (items L x).map fun xs => .d (.int xs.length)
  | _, _ => none
theorem ok_len : BiOk CA X (.builtin "len") biLen := by
  intro xs L z hz θ H vs Q l kf r q
  unfold biLen at hz
  split at hz
  · split at hz
    · cases hz
      obtain ⟨v, rfl, rx⟩ := one_of r
      cases rx
      exact rCall_of call_len ⟨_, _, rfl, ⟨by assumption, rfl⟩, q.same l (.int _)⟩
    · cases hz
  · obtain ⟨v, rfl, p, rfl, hp⟩ := one_of r
    split at hz
    · rename_i hL
      cases hz
      obtain ⟨p', ws, h1, h2, h3⟩ := l.lst hL
      rw [hp] at h1; cases h1
      refine rCall_of call_len ⟨_, _, rfl, .inl ⟨ws, .of h2, rfl⟩, ?_⟩
      rw [h3.length]
      exact q.same l (.int _)
    · rename_i hL
      cases hz
      obtain ⟨bs, h1, h2, h3⟩ := l.at_ _ _ _ hp hL
      refine rCall_of call_len ⟨_, _, rfl, .inl ⟨_, .of h1, rfl⟩, ?_⟩
      rw [List.length_map, h2]
      exact q.same l (.int _)
    · cases hz
  · obtain ⟨v, rfl, rx⟩ := one_of r
    obtain ⟨ys, e, rfl⟩ := map_ok hz
    obtain ⟨p, ws, rfl, h1, h2⟩ := items_ok l rx e
    rw [← h1.length] at q
    exact rCall_of call_len ⟨_, _, rfl, h2.imp (fun h => ⟨_, h.sq, rfl⟩) (fun h => ⟨_, h, rfl⟩), q.same l (.int _)⟩
  · cases hz
def biInt : List Val → List MO → Option Val
  | [.d (.int i)], _ => some (.d (.int i))
  | [.d (.bl k)], _ => some (.d (.int (if k then 1 else 0)))
  | _, _ => none
theorem ok_int : BiOk CA X (.type "int") biInt := by
  intro xs L z hz θ H vs Q l kf r q
  unfold biInt at hz
  split at hz
  · cases hz
    obtain ⟨v, rfl, rx⟩ := one_of r
    cases rx
    exact rCall_of call_int1 (.inl ⟨_, rfl, q.same l (.int _)⟩)
  · cases hz
    obtain ⟨v, rfl, rx⟩ := one_of r
    cases rx
    exact rCall_of call_int1 (.inr ⟨_, rfl, q.same l (.int _)⟩)
  · cases hz
def biTuple : List Val → List MO → Option Val
  | [.d (.tup xs)], _ => some (.d (.tup xs))
  | [x], L => (view L x).map fun xs => .d (.tup xs)
  | _, _ => none
theorem ok_tuple : BiOk CA X (.type "tuple") biTuple := by
  intro xs L z hz θ H vs Q l kf r q
  unfold biTuple at hz
  split at hz
  · cases hz
    obtain ⟨v, rfl, rx⟩ := one_of r
    have rx' := rx
    cases rx with
    | tup h1 h2 h3 => exact rCall_of call_tuple_of ⟨_, _, rfl, .inr ⟨h2, q.same l rx'⟩⟩
  · obtain ⟨v, rfl, rx⟩ := one_of r
    obtain ⟨ys, e, rfl⟩ := map_ok hz
    obtain ⟨p, ws, rfl, h1, h2⟩ := view_ok l rx e
    exact rCall_of call_tuple_of ⟨_, _, rfl, .inl ⟨h1.sq, fun p hp => q.tup l h2 hp⟩⟩
  · cases hz
def biList : List Val → List MO → Option Val
  | [x], L => (items L x).map .new
  | _, _ => none
theorem ok_list : BiOk CA X (.type "list") biList := by
  intro xs L z hz θ H vs Q l kf r q
  unfold biList at hz
  split at hz
  · obtain ⟨v, rfl, rx⟩ := one_of r
    obtain ⟨ys, e, rfl⟩ := map_ok hz
    obtain ⟨p, ws, rfl, h1, h2⟩ := items_ok l rx e
    exact rCall_kf fun _ => rCall_of call_list_of ⟨_, _, rfl, h2.imp LsOk.sq id, fun p hp kf => q.lst l h1 hp kf⟩
  · cases hz
def asInts : List D → Option (List Int)
  | [] => some []
  | .int i :: r => (asInts r).map (i :: ·)
  | _ :: _ => none
theorem asInts_ok : ∀ {xs : List D} {is : List Int}, asInts xs = some is → xs = is.map .int
  | [], _, h => by cases h; rfl
  | x :: xs, is, h => by
    unfold asInts at h
    split at h
    · rename_i e; cases e
    · rename_i e
      cases e
      obtain ⟨js, e2, rfl⟩ := map_ok h
      rw [asInts_ok e2]; rfl
    · cases h
def asBls : List D → Option (List Bool)
  | [] => some []
  | .bl i :: r => (asBls r).map (i :: ·)
  | _ :: _ => none
theorem asBls_ok : ∀ {xs : List D} {is : List Bool}, asBls xs = some is → xs = is.map .bl
  | [], _, h => by cases h; rfl
  | x :: xs, is, h => by
    unfold asBls at h
    split at h
    · rename_i e; cases e
    · rename_i e
      cases e
      obtain ⟨js, e2, rfl⟩ := map_ok h
      rw [asBls_ok e2]; rfl
    · cases h
theorem asInts_map (is : List Int) : asInts (is.map D.int) = some is := by
  induction is with
  | nil => rfl
  | cons i is ih => rw [List.map_cons, asInts, ih]; rfl
theorem asBls_map (is : List Bool) : asBls (is.map D.bl) = some is := by
  induction is with
  | nil => rfl
  | cons i is ih => rw [List.map_cons, asBls, ih]; rfl
def biSum : List Val → List MO → Option Val
  | [x], L => ((view L x).bind asInts).map fun is => .d (.int is.sum)
  | _, _ => none
theorem bind_ok {α β : Type} {o : Option α} {f : α → Option β} {z : β} (h : o.bind f = some z) : ∃ x, o = some x ∧ f x = some z := by
  cases o with
  | none => cases h
  | some x => exact ⟨x, rfl, h⟩
theorem ok_sum (hc : X.calm = true) : BiOk CA X (.builtin "sum") biSum := by
  intro xs L z hz θ H vs Q l kf r q
  unfold biSum at hz
  split at hz
  · obtain ⟨v, rfl, rx⟩ := one_of r
    obtain ⟨is, e, rfl⟩ := map_ok hz
    obtain ⟨ys, e1, e2⟩ := bind_ok e
    rw [asInts_ok e2] at e1
    obtain ⟨p, ws, rfl, h1, h2⟩ := view_ok l rx e1
    rw [h2.ints] at h1
    exact rCall_of (cr_sum hc) ⟨_, _, rfl, h1.sq, q.same l (.int _)⟩
  · cases hz
def biAll : List Val → List MO → Option Val
  | [x], L => ((view L x).bind asBls).map fun is => .d (.bl (is.all id))
  | _, _ => none
theorem ok_all (hc : X.calm = true) : BiOk CA X (.builtin "all") biAll := by
  intro xs L z hz θ H vs Q l kf r q
  unfold biAll at hz
  split at hz
  · obtain ⟨v, rfl, rx⟩ := one_of r
    obtain ⟨is, e, rfl⟩ := map_ok hz
    obtain ⟨ys, e1, e2⟩ := bind_ok e
    rw [asBls_ok e2] at e1
    obtain ⟨p, ws, rfl, h1, h2⟩ := view_ok l rx e1
    rw [h2.bls] at h1
    exact rCall_of (cr_all hc) ⟨_, _, rfl, h1.sq, q.same l (.bl _)⟩
  · cases hz
def biAny : List Val → List MO → Option Val
  | [x], L => ((view L x).bind asBls).map fun is => .d (.bl (is.any id))
  | _, _ => none
theorem ok_any (hc : X.calm = true) : BiOk CA X (.builtin "any") biAny := by
  intro xs L z hz θ H vs Q l kf r q
  unfold biAny at hz
  split at hz
  · obtain ⟨v, rfl, rx⟩ := one_of r
    obtain ⟨is, e, rfl⟩ := map_ok hz
    obtain ⟨ys, e1, e2⟩ := bind_ok e
    rw [asBls_ok e2] at e1
    obtain ⟨p, ws, rfl, h1, h2⟩ := view_ok l rx e1
    rw [h2.bls] at h1
    exact rCall_of (cr_any hc) ⟨_, _, rfl, h1.sq, q.same l (.bl _)⟩
  · cases hz
/-! ### sorted -/
def sortI (is : List Int) : List Int := is.mergeSort (fun a b => decide (a ≤ b))
theorem sortI_perm (is : List Int) : (sortI is).Perm is := List.mergeSort_perm _ _
theorem sortI_sorted (is : List Int) : (sortI is).Pairwise (· ≤ ·) := by
  have h := List.pairwise_mergeSort (le := fun a b : Int => decide (a ≤ b)) (by intro a b c h1 h2; simp only [decide_eq_true_eq] at *; omega) (by intro a b; simp only [Bool.or_eq_true, decide_eq_true_eq]; omega) is
  exact h.imp fun {a b} q => of_decide_eq_true q
theorem sortI_unique {is js : List Int} (h1 : js.Perm is) (h2 : js.Pairwise (· ≤ ·)) : js = sortI is :=
  List.Perm.eq_of_pairwise (fun x y _ _ a b => Int.le_antisymm a b) h2 (sortI_sorted is) (h1.trans (sortI_perm is).symm)
def biSorted : List Val → List MO → Option Val
  | [x], L => ((view L x).bind asInts).map fun is => .new ((sortI is).map .int)
  | _, _ => none
theorem ok_sorted : BiOk CA X (.builtin "sorted") biSorted := by
  intro xs L z hz θ H vs Q l kf r q
  unfold biSorted at hz
  split at hz
  · obtain ⟨v, rfl, rx⟩ := one_of r
    obtain ⟨is, e, rfl⟩ := map_ok hz
    obtain ⟨ys, e1, e2⟩ := bind_ok e
    rw [asInts_ok e2] at e1
    obtain ⟨p, ws, rfl, h1, h2⟩ := view_ok l rx e1
    rw [h2.ints] at h1
    refine rCall_kf fun _ => rCall_of cr_sortedI ⟨_, _, rfl, h1.sq, fun js p hj hs hp kf => ?_⟩
    rw [sortI_unique hj hs] at kf ⊢
    exact q.lst l (RL.of_ints _) hp kf
  · cases hz
/-! ### isinstance against a built-in class -/
def tyName : D → String
  | .non => "NoneType"
  | .bl _ => "bool"
  | .int _ => "int"
  | .str _ => "str"
  | .tup _ => "tuple"
  | .lst _ => "list"
  | .dic _ => "dict"
def isT (t T : String) : Bool := t == T || (t == "bool" && T == "int")
def isTypes : List String := ["int", "bool", "str", "tuple", "list", "dict"]
def tyNames : List String := ["NoneType", "bool", "int", "str", "tuple", "list", "dict"]
theorem isT_all : (tyNames.all fun t => isTypes.all fun T => kitB t T == some (isT t T)) = true := by decide +kernel
theorem isT_ok {t T : String} (h1 : t ∈ tyNames) (h2 : T ∈ isTypes) : kitB t T = some (isT t T) := by
  have h := isT_all
  rw [List.all_eq_true] at h
  have h := h t h1
  rw [List.all_eq_true] at h
  exact eq_of_beq (h T h2)
theorem tyName_mem (d : D) : tyName d ∈ tyNames := by cases d <;> simp [tyName, tyNames]
def isiV (T : String) (L : List MO) : Val → Option Bool
  | .d x => some (isT (tyName x) T)
  | .h n => match L[n]? with
    | some (.lst _) => some (isT "list" T)
    | some (.hl _) => some (isT "list" T)
    | _ => none
  | _ => none
def mIsi (T : String) (m : M) : M := fun C ρ L => (m C ρ L).bind fun x L1 => match isiV T L1 (fz x) with
  | some k => .ok (.d (.bl k)) L1
  | none => .no
theorem R.tyx {K : PySem.W.Frag} {θ : List Addr} {H : Hp} {v : V} {d : D} (r : R K θ H v d) : TyX K H v (.type (tyName d)) := by
  cases r with
  | non => exact .base .non
  | bl b => exact .base (.bl b)
  | int b => exact .base (.int b)
  | str b => exact .base (.str b)
  | tup h1 h2 h3 =>
    rcases h2 with (h | ⟨o, h⟩) | ⟨o, its, n, h, h', _⟩
    · exact .base (.tup h)
    · exact .fTuple h
    · exact .kTuple h h'
  | lst h1 h2 h3 =>
    rcases h2 with (h | ⟨o, h⟩) | ⟨its, n, h, _⟩
    · exact .base (.lst h)
    · exact .base (.frz h)
    · exact .kList h rfl
  | dic h1 h2 h3 => exact .base (.dK h2)
theorem se_isi {x : Str} {T : String} {t : Str} {p p2 : Pos} (h : SE CA X C e m) (hT : T ∈ isTypes) (hg : Gl X "isinstance") (hm : X.mg "isinstance" = none) (hgt : Gl X t) (hmt : X.mg t = none) (hvt : bootBuiltins t = some (.type T)) (hnt : t ≠ "__name__") (hdt : (t == ("__debug__" : Str)) = false) (hs : noStar e = true) :
    SE CA X C (.Call (.Name "isinstance" p) [e, .Name t p2] [] pos) (mIsi T m) := fun ρ L z L' hm' θ σ H Q S q => by
  obtain ⟨x, L1, e1, hm2⟩ := Out.bind_ok hm'
  split at hm2
  · rename_i k e2
    cases hm2
    have hb : bootBuiltins "isinstance" = some (.builtin "isinstance") := by decide +kernel
    refine ofE (pe_callB rCall_ok hg hm hb (pa_cons (sE e) (pa_cons (pe_bltn (v := .ty T) hgt hmt hvt rfl hnt hdt) pa_nil) (star_of hs)) (by decide) (by decide) (star_of hs) rfl) (h.use e1 S fun v θ1 H1 x1 S1 r1 => ?_)
    have q' := (q.later x1).same S1.live (.bl k)
    have fin : ∀ tn : String, tn ∈ tyNames → TyX X.K H1 v (.type tn) → isT tn T = k → rCall X (.builtin "isinstance") [v, .ty T] H1 Q := fun tn h1 h2 h3 =>
      rCall_of call_isi ⟨v, .ty T, _, _, k, rfl, .ty T, h2, by rw [← h3]; exact kit_ty (isT_ok h1 hT), q'⟩
    generalize fz x = y at e2 r1
    cases y with
    | d d => cases e2; exact fin _ (tyName_mem d) r1.tyx rfl
    | h n =>
      obtain ⟨a, rfl, ha⟩ := r1
      have e2 : (match L'[n]? with
        | some (MO.lst _) => some (isT "list" T)
        | some (MO.hl _) => some (isT "list" T)
        | _ => none) = some k := e2
      split at e2
      · rename_i hL
        cases e2
        obtain ⟨b, vs, h1, h2, h3⟩ := S1.live.lst hL
        rw [ha] at h1; cases h1
        exact fin "list" (by decide) (.base (.lst h2)) rfl
      · rename_i hL
        cases e2
        obtain ⟨bs, h1, _⟩ := S1.live.at_ _ _ _ ha hL
        exact fin "list" (by decide) (.base (.lst h1)) rfl
      · cases e2
    | new xs => exact r1.elim
  · cases hm2
/-! ### the empty dict, a display with written keys -/
def mDic0 : M := fun _ _ L => .ok (.d (.dic [])) L
theorem se_dic0 : SE CA X C (.Dict [] [] pos) mDic0 := fun ρ L z L' hm θ σ H Q S q => by
  cases hm
  refine ofE pe_dnewK fun p hp => ?_
  obtain ⟨e, l'⟩ := S.live.laid (o := .dK []) hp
  exact q _ θ _ e l' (.dic (S.live.free hp) upd_same .nil)
inductive SPairs (X : Cx) : List (Option Expr) → List Expr → List (Key × V) → List (Key × D) → Prop
  | nil : SPairs X [] [] [] []
  | cons {k v : Expr} {ks : List (Option Expr)} {vs : List Expr} {key : Key} {w : V} {d : D} {us : List (Key × V)} {kds : List (Key × D)} : PE X k (tC (kV key)) → PE X v (tC w) → (∀ K θ H, R K θ H w d) → SPairs X ks vs us kds → SPairs X (some k :: ks) (v :: vs) ((key, w) :: us) ((key, d) :: kds)
theorem SPairs.use {keys : List (Option Expr)} {values : List Expr} {us : List (Key × V)} {kds : List (Key × D)} (h : SPairs X keys values us kds) : keys.all (·.isSome) = true ∧ keys.length = values.length ∧ keys.length = us.length ∧ (∀ K θ H, RK K θ H us kds) ∧ ∃ trs, PPs X pos keys values trs ∧
    ∀ (σ : L2.St) (H : Hp) (Q : List (V × V) → Hp → Prop), Q (us.map fun kv => (kV kv.1, kv.2)) H → tPairs trs σ H Q := by
  induction h with
  | nil => exact ⟨rfl, rfl, rfl, fun _ _ _ => .nil, [], pps_nil, fun σ H Q q => q⟩
  | @cons k v ks vs key w d us kds hk hv hr _ ih =>
    obtain ⟨i1, i2, i3, i6, trs, i4, i5⟩ := ih
    exact ⟨by rw [List.all_cons, i1]; rfl, by simp [i2], by simp [i3], fun K θ H => .cons (hr K θ H) (i6 K θ H), (tC (kV key), tC w) :: trs, pps_cons hk hv i4, fun σ H Q q => i5 σ H _ q⟩
theorem RK.keys {K : PySem.W.Frag} {θ : List Addr} {H : Hp} : ∀ {us : List (Key × V)} {ps : List (Key × D)}, RK K θ H us ps → us.map (·.1) = ps.map (·.1)
  | _, _, .nil => rfl
  | _, _, .cons _ t => congrArg (_ :: ·) (RK.keys t)
theorem merge_new : ∀ (more kvs : List (Key × V)), (kvs.map (·.1) ++ more.map (·.1)).Nodup → mergeK kvs more = kvs ++ more
  | [], kvs, _ => by rw [List.append_nil]; rfl
  | p :: r, kvs, h => by
    have hp : valV kvs p.1 = none := by
      unfold valV
      rw [Option.map_eq_none_iff, List.find?_eq_none]
      intro kv hkv
      rw [List.nodup_append] at h
      simp only [decide_eq_true_eq]
      intro e
      exact h.2.2 kv.1 (List.mem_map_of_mem hkv) p.1 (by simp) e
    show mergeK (putK kvs p.1 p.2) r = _
    rw [putK_new _ hp, merge_new r _ (by simpa using h)]
    simp
def mDic (kds : List (Key × D)) : M := fun _ _ L => .ok (.d (.dic kds)) L
theorem se_dic {keys : List (Option Expr)} {values : List Expr} {us : List (Key × V)} {kds : List (Key × D)} (h : SPairs X keys values us kds) (h0 : keys ≠ []) (h15 : keys.length ≤ 15) (hd : (kds.map (·.1)).Nodup) : SE CA X C (.Dict keys values pos) (mDic kds) := fun ρ L z L' hm θ σ H Q S q => by
  obtain ⟨i1, i2, i3, i6, trs, i4, i5⟩ := h.use (pos := pos)
  cases hm
  refine ofE (pe_disp i4 i1 i2 h0 h15) fun p hp => i5 σ _ _ ⟨upd_same, us, rfl, by omega, ?_⟩
  have ek := (i6 X.K θ H).keys
  rw [merge_new us [] (by rw [ek]; simpa using hd), List.nil_append, upd_upd]
  obtain ⟨e, l'⟩ := S.live.laid (o := .dK us) hp
  exact q _ θ _ e l' (.dic (S.live.free hp) upd_same (i6 _ _ _))
end
end Ev
set_option Elab.async false
set_option linter.all false
set_option maxRecDepth 100000
namespace Ev
open PySem PySem.Spec L2

/-! ## statements -/
inductive Fl where
  | next | brk | cont | ret (x : Val)
abbrev MS := Calls → Rho → List MO → Out (Fl × Rho)
abbrev MG := Calls → Val → Rho → List MO → Out Rho
def PostS (K : PySem.W.Frag) (CA : Str → Addr) (θ : List Addr) (H : Hp) (D : Ends) (L' : List MO) : Fl × Rho → Prop
  | (.next, ρ') => ∀ θ' σ' H', Ext K θ H θ' H' → Sim K CA θ' ρ' L' σ' H' → D.nx σ' H'
  | (.brk, ρ') => ∀ θ' σ' H', Ext K θ H θ' H' → Sim K CA θ' ρ' L' σ' H' → D.bk σ' H'
  | (.cont, ρ') => ∀ θ' σ' H', Ext K θ H θ' H' → Sim K CA θ' ρ' L' σ' H' → D.ct σ' H'
  | (.ret x, _) => PostE K CA θ H L' D.rt x
def SS (CA : Str → Addr) (X : Cx) (C : Calls) (st : Stmt) (m : MS) : Prop := ∀ (ρ : Rho) (L : List MO) (r : Fl × Rho) (L' : List MO), m C ρ L = .ok r L' →
  ∀ (θ : List Addr) (σ : L2.St) (H : Hp) (D : Ends), Sim X.K CA θ ρ L σ H → PostS X.K CA θ H D L' r → semS X st D σ H
def SSs (CA : Str → Addr) (X : Cx) (C : Calls) (st : List Stmt) (m : MS) : Prop := ∀ (ρ : Rho) (L : List MO) (r : Fl × Rho) (L' : List MO), m C ρ L = .ok r L' →
  ∀ (θ : List Addr) (σ : L2.St) (H : Hp) (D : Ends), Sim X.K CA θ ρ L σ H → PostS X.K CA θ H D L' r → semSs X st D σ H
/-- nothing but these slots is stored -/
def Off (is : List Nat) (σ σ' : L2.St) : Prop := σ'.length = σ.length ∧ ∀ j, j ∉ is → σ'[j]? = σ[j]?
def semG (X : Cx) (tg : Expr) : TG := fun v σ H Q => ∀ (pins : List (Addr × Obj)) (s : Shared) (u : Value), Inv X pins σ H s → RelV v u → wpAny (model X.prog X.w) X.A (assign tg X.env u) (fun _ s' => ∃ σ' H', Inv X pins σ' H' s' ∧ Q σ' H') X.xe s
theorem sG {X : Cx} (tg : Expr) : PG X tg (semG X tg) := ⟨fun pins s σ H v u Q I r h => h pins s u I r⟩
theorem ofG {X : Cx} {tg : Expr} {t : TG} (h : PG X tg t) {v : V} {σ : L2.St} {H : Hp} {Q : L2.St → Hp → Prop} (q : t v σ H Q) : semG X tg v σ H Q := fun pins s u I r => h.run pins s σ H v u Q I r q
theorem semG_kf {X : Cx} {tg : Expr} {v : V} {σ : L2.St} {H : Hp} {Q : L2.St → Hp → Prop} (h : semG X tg v σ H fun σ' H' => KF X.K H' → Q σ' H') : semG X tg v σ H Q := fun pins s u I r =>
  thn (h pins s u I r) fun _ s1 ⟨σ1, H1, I1, q⟩ => ⟨σ1, H1, I1, q (kf_of I1)⟩
def SG (CA : Str → Addr) (X : Cx) (C : Calls) (tg : Expr) (is : List Nat) (g : MG) : Prop := ∀ (x : Val) (ρ : Rho) (L : List MO) (ρ' : Rho) (L' : List MO), g C x ρ L = .ok ρ' L' →
  ∀ (θ : List Addr) (σ : L2.St) (H : Hp) (v : V) (Q : L2.St → Hp → Prop), Sim X.K CA θ ρ L σ H → RV X.K θ H v x → (∀ θ' σ' H', Ext X.K θ H θ' H' → Sim X.K CA θ' ρ' L' σ' H' → Off is σ σ' → Q σ' H') → semG X tg v σ H Q

/-! ### denotations -/
def mEmpty : MS := fun _ ρ L => .ok (.next, ρ) L
def mSeq (m n : MS) : MS := fun C ρ L => (m C ρ L).bindX fun r L1 => match r with
  | (.next, ρ1) => n C ρ1 L1
  | r => .ok r L1
def mRet (m : M) : MS := fun C ρ L => (m C ρ L).bind fun x L1 => .ok (.ret x, ρ) L1
def mRetN : MS := fun _ ρ L => .ok (.ret (.d .non), ρ) L
def mIfS (t : MT) (m n : MS) : MS := fun C ρ L => (t C ρ L).bind fun k L1 => if k = true then m C ρ L1 else n C ρ L1
def mDrop (m : M) : MS := fun C ρ L => (m C ρ L).bind fun _ L1 => .ok (.next, ρ) L1
def mBrk : MS := fun _ ρ L => .ok (.brk, ρ) L
def mCont : MS := fun _ ρ L => .ok (.cont, ρ) L
/-- name = value -/
def mSet (i : Nat) (m : M) : MS := fun C ρ L => (m C ρ L).bind fun x L1 => .ok (.next, ρ.set i (some (fz x))) L1
/-- name = value, a new list becomes a handle -/
def mSetL (i : Nat) (m : M) : MS := fun C ρ L => (m C ρ L).bind fun x L1 => match x with
  | .new xs => .ok (.next, ρ.set i (some (.h L1.length))) (L1 ++ [.lst xs])
  | x => .ok (.next, ρ.set i (some x)) L1
def mAsg (m : M) (g : MG) : MS := fun C ρ L => (m C ρ L).bind fun x L1 => (g C (fz x) ρ L1).bind fun ρ1 L2 => .ok (.next, ρ1) L2
/-- a, b = x, y of local names -/
def mPar2 (i j : Nat) (ms : MA) : MS := fun C ρ L => (ms C ρ L).bind fun xs L1 => match xs with
  | [x, y] => .ok (.next, (ρ.set i (some x)).set j (some y)) L1
  | _ => .no
def mPar3 (i j l : Nat) (ms : MA) : MS := fun C ρ L => (ms C ρ L).bind fun xs L1 => match xs with
  | [x, y, z] => .ok (.next, ((ρ.set i (some x)).set j (some y)).set l (some z)) L1
  | _ => .no
/-- targets -/
def gName' (i : Nat) : MG := fun _ x ρ L => .ok (ρ.set i (some x)) L
def gNil' : List D → Calls → Rho → List MO → Out Rho := fun ds _ ρ L => match ds with
  | [] => .ok ρ L
  | _ => .no
def gCons' (g : MG) (r : List D → Calls → Rho → List MO → Out Rho) : List D → Calls → Rho → List MO → Out Rho := fun ds C ρ L => match ds with
  | d :: ds => (g C (.d d) ρ L).bind fun ρ1 L1 => r ds C ρ1 L1
  | [] => .no
def gTup' (n : Nat) (r : List D → Calls → Rho → List MO → Out Rho) : MG := fun C x ρ L => match x with
  | .d (.tup ds) => if ds.length = n then r ds C ρ L else .no
  | _ => .no
/-- o[i] = v of a list of ours -/
def putD (kvs : List (Key × D)) (k : Key) (d : D) : List (Key × D) :=
  if (kvs.any fun kv => decide (kv.1 = k)) = true then kvs.map (fun kv => if kv.1 = k then (kv.1, d) else kv) else kvs ++ [(k, d)]
def setIx : Val → Val → Val → List MO → Option (List MO)
  | .h n, .d (.int k), .d d, L => match L[n]? with
    | some (.lst xs) => (ixN xs.length k).map fun j => L.set n (.lst (xs.set j d))
    | some (.dct kvs) => if kvs.length < sizeLine then some (L.set n (.dct (putD kvs (.inl k) d))) else none
    | _ => none
  | .h n, .d (.str x), .d d, L => match L[n]? with
    | some (.dct kvs) => if kvs.length < sizeLine then some (L.set n (.dct (putD kvs (.inr x) d))) else none
    | _ => none
  | _, _, _, _ => none
def gSub' (mo mi : M) : MG := fun C x ρ L => (mo C ρ L).bind fun o L1 => (mi C ρ L1).bind fun i L2 => match setIx (fz o) (fz i) x L2 with
  | some L3 => .ok ρ L3
  | none => .no

section
variable {CA : Str → Addr} {X : Cx} {C : Calls} {e a b c : Expr} {m ma mb mc : M} {pos : Pos} {st : Stmt} {sts rest : List Stmt} {ms mr : MS}
theorem PostS.later {K : PySem.W.Frag} {θ θ1 : List Addr} {H H1 : Hp} {D : Ends} {L' : List MO} {r : Fl × Rho} (x : Ext K θ H θ1 H1) (h : PostS K CA θ H D L' r) : PostS K CA θ1 H1 D L' r := by
  obtain ⟨f, ρ'⟩ := r
  cases f with
  | next => exact fun θ' σ' H' e S => h θ' σ' H' (x.trans e) S
  | brk => exact fun θ' σ' H' e S => h θ' σ' H' (x.trans e) S
  | cont => exact fun θ' σ' H' e S => h θ' σ' H' (x.trans e) S
  | ret y => exact PostE.later x h
/-- other ends for what goes on -/
theorem PostS.nx {K : PySem.W.Frag} {θ : List Addr} {H : Hp} {D : Ends} {L' : List MO} {f : Fl} {ρ' : Rho} {N : L2.St → Hp → Prop} (h : PostS K CA θ H D L' (f, ρ')) (hf : f ≠ .next) : PostS K CA θ H { D with nx := N } L' (f, ρ') := by
  cases f with
  | next => exact (hf rfl).elim
  | brk => exact h
  | cont => exact h
  | ret y => exact h
theorem ss_empty : SSs CA X C [] mEmpty := fun ρ L r L' hm θ σ H D S q => by
  cases hm
  exact ofSs pss_nil (q θ σ H S.refl S)
theorem ss_cons (h1 : SS CA X C st ms) (h2 : SSs CA X C rest mr) : SSs CA X C (st :: rest) (mSeq ms mr) := fun ρ L r L' hm θ σ H D S q => by
  obtain ⟨⟨f, ρ1⟩, L1, e1, hm⟩ := Out.bindX_ok hm
  refine ofSs (pss_cons (sS st) (sSs rest)) (h1 ρ L (f, ρ1) L1 e1 θ σ H _ S ?_)
  cases f with
  | next => exact fun θ' σ' H' x S' => h2 ρ1 L1 r L' hm θ' σ' H' D S' (q.later x)
  | brk => cases hm; exact q.nx (by simp)
  | cont => cases hm; exact q.nx (by simp)
  | ret y => cases hm; exact q.nx (by simp)
theorem ss_one (h1 : SS CA X C st ms) : SSs CA X C [st] ms := fun ρ L r L' hm θ σ H D S q => ofSs (pss_one (sS st)) (h1 ρ L r L' hm θ σ H D S q)
theorem ss_ret (h : SE CA X C e m) : SS CA X C (.Return (some e) pos) (mRet m) := fun ρ L r L' hm θ σ H D S q => by
  obtain ⟨x, L1, e1, hm⟩ := Out.bind_ok hm
  cases hm
  exact ofS (ps_ret (sE e)) (h ρ L x _ e1 θ σ H D.rt S q)
theorem ss_retN : SS CA X C (.Return none pos) mRetN := fun ρ L r L' hm θ σ H D S q => by
  cases hm
  exact ofS ps_retN (PostE.same q S.live .non)
theorem ss_brk : SS CA X C (.Break pos) mBrk := fun ρ L r L' hm θ σ H D S q => by
  cases hm
  exact ofS ps_break (q θ σ H S.refl S)
theorem ss_cont : SS CA X C (.Continue pos) mCont := fun ρ L r L' hm θ σ H D S q => by
  cases hm
  exact ofS ps_continue (q θ σ H S.refl S)
theorem ss_pass : SS CA X C (.Pass pos) mEmpty := fun ρ L r L' hm θ σ H D S q => by
  cases hm
  exact ofS ps_pass (q θ σ H S.refl S)
theorem ss_if {t : MT} (h : STt CA X C c t) (h1 : SSs CA X C sts ms) (h2 : SSs CA X C rest mr) : SS CA X C (.If c sts rest pos) (mIfS t ms mr) := fun ρ L r L' hm θ σ H D S q => by
  obtain ⟨k, L1, e1, hm⟩ := Out.bind_ok hm
  refine ofS (ps_if (sT c) (sSs sts) (sSs rest)) (h.use e1 S fun θ1 H1 x1 S1 => ?_)
  cases k with
  | true =>
    rw [if_pos rfl] at hm ⊢
    exact h1 ρ L1 r L' hm θ1 σ H1 D S1 (q.later x1)
  | false =>
    rw [if_neg Bool.false_ne_true] at hm ⊢
    exact h2 ρ L1 r L' hm θ1 σ H1 D S1 (q.later x1)
def noComp : Expr → Bool
  | .ListComp .. => false
  | .SetComp .. => false
  | .DictComp .. => false
  | _ => true
theorem swaps_of {tg : Option Expr} {l : Nat} {env : Env} (h : noComp e = true) : swapsWith e tg l env = pure false := by
  cases e <;> first | rfl | (exact absurd (show false = true from h) Bool.false_ne_true)
theorem ss_drop (h : SE CA X C e m) (hc : noComp e = true) : SS CA X C (.Expr e pos) (mDrop m) := fun ρ L r L' hm θ σ H D S q => by
  obtain ⟨x, L1, e1, hm⟩ := Out.bind_ok hm
  cases hm
  exact ofS (ps_expr (sE e) (swaps_of hc)) (h.use e1 S fun v θ1 H1 x1 S1 r1 => q θ1 σ H1 x1 S1)
theorem ss_doc {x : Str} {j : Nat} {p2 : Pos} : SS CA X C (.Expr (.Constant (.str x) j pos) p2) mEmpty := fun ρ L r L' hm θ σ H D S q => by
  cases hm
  exact ofS ps_doc (q θ σ H S.refl S)
/-- where a name may be stored -/
structure Store (X : Cx) (i : Nat) (x : Str) : Prop where
  nd : X.N.Nodup
  ix : X.N[i]? = some x
  loc : Loc X.env.scope x
  fn : X.fn x = true ∨ X.env.scope.names.lookup x = some .local
theorem ss_set {i : Nat} {x : Str} {p2 : Pos} (s : Store X i x) (h : SE CA X C e m) (hc : swapsWith e (some (.Name x p2)) pos.line X.env = pure false) : SS CA X C (.Assign [.Name x p2] e pos) (mSet i m) := fun ρ L r L' hm θ σ H D S q => by
  obtain ⟨y, L1, e1, hm⟩ := Out.bind_ok hm
  cases hm
  exact ofS (ps_set s.nd s.ix s.loc (sE e) hc s.fn) (h.use e1 S fun v θ1 H1 x1 S1 r1 => q θ1 _ H1 x1 (S1.set r1))
theorem Sim.more {K : PySem.W.Frag} {θ θ' : List Addr} {ρ : Rho} {L L' : List MO} {σ : L2.St} {H H' : Hp} {p : Addr} {xs : List D} {i : Nat} (S : Sim K CA θ ρ L σ H) (N : NewAt K CA θ H θ' L' p xs H') (kf : KF K H') :
    Sim K CA (θ' ++ [p]) (ρ.set i (some (.h L'.length))) (L' ++ [.lst xs]) (σ.set i (some (.ref p))) H' :=
  (S.go N.ext2 N.more kf).set ⟨p, rfl, by rw [← N.live.len]; simp⟩
theorem setL_core {i : Nat} {ρ : Rho} {L L' : List MO} {r : Fl × Rho} (hm : mSetL i m C ρ L = .ok r L') {θ : List Addr} {σ : L2.St} {H : Hp} {D : Ends} (S : Sim X.K CA θ ρ L σ H) (q : PostS X.K CA θ H D L' r) :
    ∃ z L1, m C ρ L = .ok z L1 ∧ PostE X.K CA θ H L1 (fun v H1 => KF X.K H1 → D.nx (σ.set i (some v)) H1) z := by
  obtain ⟨y, L1, e1, hm⟩ := Out.bind_ok hm
  refine ⟨y, L1, e1, ?_⟩
  cases y with
  | new xs => cases hm; exact fun a θ' H' N kf => q _ _ _ N.ext2 (S.more N kf)
  | d x => cases hm; exact fun v θ' H' e l rv kf => q θ' _ H' e ((S.go e l kf).set rv)
  | h n => cases hm; exact fun v θ' H' e l rv kf => q θ' _ H' e ((S.go e l kf).set rv)
theorem ss_setL {i : Nat} {x : Str} {p2 : Pos} (s : Store X i x) (h : SE CA X C e m) (hc : swapsWith e (some (.Name x p2)) pos.line X.env = pure false) : SS CA X C (.Assign [.Name x p2] e pos) (mSetL i m) := fun ρ L r L' hm θ σ H D S q => by
  obtain ⟨z, L1, e1, hz⟩ := setL_core hm S q
  exact ofS (ps_set s.nd s.ix s.loc (sE e) hc s.fn) (semE_kf (h ρ L z L1 e1 θ σ H _ S hz))
theorem ss_par2 {i j : Nat} {x y : Str} {px py pt p2 : Pos} {kt k2 : Nat} {msa : MA} (hc : X.calm = true) (hN : X.N.Nodup) (hi : X.N[i]? = some x) (hj : X.N[j]? = some y) (hij : i ≠ j) (hx : X.env.scope.names.lookup x = some .local) (hy : X.env.scope.names.lookup y = some .local)
    (h : SA CA X C [a, b] msa) (hw : swappedStores [.Tuple [.Name x px, .Name y py] kt pt] (.Tuple [a, b] k2 p2) X.env = pure (some [x, y])) : SS CA X C (.Assign [.Tuple [.Name x px, .Name y py] kt pt] (.Tuple [a, b] k2 p2) pos) (mPar2 i j msa) := fun ρ L r L' hm θ σ H D S q => by
  obtain ⟨zs, L1, e1, hm⟩ := Out.bind_ok hm
  split at hm
  · cases hm
    refine ofS (ps_par hc hN hi hj hij hx hy (sA _) hw) (h.use e1 S fun vs θ1 H1 x1 S1 r1 => ?_)
    obtain ⟨v, w, rfl, rv, rw'⟩ := two_of r1
    exact ⟨v, w, rfl, q θ1 _ H1 x1 ((S1.set rv).set rw')⟩
  · cases hm
theorem three_of {K : PySem.W.Frag} {θ : List Addr} {H : Hp} {vs : List V} {x y z : Val} (r : Paired (RV K θ H) vs [x, y, z]) : ∃ v w u, vs = [v, w, u] ∧ RV K θ H v x ∧ RV K θ H w y ∧ RV K θ H u z := by
  cases r with
  | cons h t =>
    obtain ⟨w, u, rfl, h2, h3⟩ := two_of t
    exact ⟨_, _, _, rfl, h, h2, h3⟩
theorem ss_par3 {i j l : Nat} {x y z : Str} {px py pz pt p2 : Pos} {kt k2 : Nat} {msa : MA} (hc : X.calm = true) (hN : X.N.Nodup) (hi : X.N[i]? = some x) (hj : X.N[j]? = some y) (hl : X.N[l]? = some z) (hij : i ≠ j) (hil : i ≠ l) (hjl : j ≠ l) (hx : X.env.scope.names.lookup x = some .local) (hy : X.env.scope.names.lookup y = some .local)
    (hz : X.env.scope.names.lookup z = some .local) (h : SA CA X C [a, b, c] msa) (hw : swappedStores [.Tuple [.Name x px, .Name y py, .Name z pz] kt pt] (.Tuple [a, b, c] k2 p2) X.env = pure (some [x, y, z])) : SS CA X C (.Assign [.Tuple [.Name x px, .Name y py, .Name z pz] kt pt] (.Tuple [a, b, c] k2 p2) pos) (mPar3 i j l msa) := fun ρ L r L' hm θ σ H D S q => by
  obtain ⟨zs, L1, e1, hm⟩ := Out.bind_ok hm
  split at hm
  · cases hm
    refine ofS (ps_par3 hc hN hi hj hl hij hil hjl hx hy hz (sA _) hw) (h.use e1 S fun vs θ1 H1 x1 S1 r1 => ?_)
    obtain ⟨v, w, u, rfl, rv, rw', ru⟩ := three_of r1
    exact ⟨v, w, u, rfl, q θ1 _ H1 x1 (((S1.set rv).set rw').set ru)⟩
  · cases hm
/-! ### targets -/
theorem Off.refl (is : List Nat) (σ : L2.St) : Off is σ σ := ⟨rfl, fun _ _ => rfl⟩
theorem Off.trans {is js : List Nat} {σ σ1 σ2 : L2.St} (a : Off is σ σ1) (b : Off js σ1 σ2) : Off (is ++ js) σ σ2 :=
  ⟨b.1.trans a.1, fun j h => (b.2 j fun z => h (List.mem_append_right _ z)).trans (a.2 j fun z => h (List.mem_append_left _ z))⟩
theorem sg_name {i : Nat} {x : Str} (s : Store X i x) : SG CA X C (.Name x pos) [i] (gName' i) := fun x' ρ L ρ' L' hm θ σ H v Q S rv q => by
  cases hm
  refine ofG (pg_name s.nd s.ix s.loc s.fn) (q θ _ H S.refl (S.set rv) ⟨by simp, fun j hj => ?_⟩)
  rw [List.getElem?_set_ne]
  intro e
  exact hj (by simp [e])
def SGs (CA : Str → Addr) (X : Cx) (C : Calls) (ts : List Expr) (is : List Nat) (g : List D → Calls → Rho → List MO → Out Rho) : Prop := ∃ t : TGs, PGs X ts t ∧ ∀ (ds : List D) (ρ : Rho) (L : List MO) (ρ' : Rho) (L' : List MO), g ds C ρ L = .ok ρ' L' →
  ∀ (θ : List Addr) (σ : L2.St) (H : Hp) (vs : List V) (Q : L2.St → Hp → Prop), Sim X.K CA θ ρ L σ H → RL X.K θ H vs ds → (∀ θ' σ' H', Ext X.K θ H θ' H' → Sim X.K CA θ' ρ' L' σ' H' → Off is σ σ' → Q σ' H') → t vs σ H Q
theorem sgs_nil : SGs CA X C [] [] gNil' := ⟨_, pgs_nil, fun ds ρ L ρ' L' hm θ σ H vs Q S r q => by
  cases r with
  | nil => cases hm; exact ⟨rfl, q θ σ H S.refl S (Off.refl _ _)⟩
  | cons _ _ => cases hm⟩
def noStarT : Expr → Bool
  | .Starred .. => false
  | _ => true
theorem asgEach_of {tg : Expr} {ts : List Expr} {env : Env} (h : noStarT tg = true) : assignEach (tg :: ts) env = (false, assign tg env) :: assignEach ts env := by
  cases tg <;> first | rfl | (exact absurd (show false = true from h) Bool.false_ne_true)
theorem sgs_cons {tg : Expr} {ts : List Expr} {is js : List Nat} {g : MG} {r : List D → Calls → Rho → List MO → Out Rho} (h1 : SG CA X C tg is g) (h2 : SGs CA X C ts js r) (hs : noStarT tg = true) : SGs CA X C (tg :: ts) (is ++ js) (gCons' g r) := by
  obtain ⟨t, i1, i2⟩ := h2
  refine ⟨_, pgs_cons (sG tg) i1 (by rw [asgEach_of hs]; rfl), fun ds ρ L ρ' L' hm θ σ H vs Q S rl q => ?_⟩
  cases rl with
  | nil => cases hm
  | cons rv rt =>
    obtain ⟨ρ1, L1, e1, hm⟩ := Out.bind_ok hm
    exact ⟨_, _, rfl, semG_kf (h1 _ ρ L ρ1 L1 e1 θ σ H _ _ S rv fun θ1 σ1 H1 x1 S1 o1 _ => i2 _ ρ1 L1 ρ' L' hm θ1 σ1 H1 _ Q S1 (RL.mono x1 rt) fun θ2 σ2 H2 x2 S2 o2 => q θ2 σ2 H2 (x1.trans x2) S2 (o1.trans o2))⟩
theorem asgEach_len {env : Env} : ∀ {ts : List Expr}, ts.all noStarT = true → (assignEach ts env).length = ts.length ∧ (assignEach ts env).findIdx? (·.1) = none
  | [], _ => ⟨rfl, rfl⟩
  | t :: ts, h => by
    rw [List.all_cons, Bool.and_eq_true] at h
    obtain ⟨q1, q2⟩ := asgEach_len (env := env) h.2
    rw [asgEach_of h.1]
    exact ⟨by simp [q1], by simp [List.findIdx?_cons, q2]⟩
theorem sg_tup {ts : List Expr} {is : List Nat} {j : Nat} {r : List D → Calls → Rho → List MO → Out Rho} (hc : X.calm = true) (h : SGs CA X C ts is r) (hs : ts.all noStarT = true) : SG CA X C (.Tuple ts j pos) is (gTup' ts.length r) := fun x ρ L ρ' L' hm θ σ H v Q S rv q => by
  obtain ⟨t, i1, i2⟩ := h
  unfold gTup' at hm
  split at hm
  · split at hm
    · rename_i hl
      cases rv with
      | tup h1 h2 h3 =>
        exact ofG (pg_tup hc i1 (asgEach_len hs).1 (asgEach_len hs).2) ⟨_, _, rfl, h2, h3.length.trans hl, i2 _ ρ L ρ' L' hm θ σ H _ Q S h3 q⟩
    · cases hm
  · cases hm
def rSet (X : Cx) : TSet := fun o i v H Q => ∀ (pins : List (Addr × Obj)) (s : Shared) (σ : L2.St) (ov iv u : Value), Inv X pins σ H s → RelV o ov → RelV i iv → RelV v u → wpAny (model X.prog X.w) X.A (setItem ov iv u) (fun _ s' => ∃ H', Inv X pins σ H' s' ∧ Q H') X.xe s
theorem Live.writeX {K : PySem.W.Frag} {θ : List Addr} {L : List MO} {H : Hp} (h : Live K CA θ L H) {n : Nat} {p : Addr} (ha : θ[n]? = some p) (o : HO) : Ext K θ H θ (upd H p o) := by
  have ma := List.mem_of_getElem? ha
  refine ⟨fun b u h1 h2 => ⟨h1, (upd_ne (fun z : b = p => h1 (by rw [z]; exact ma))).trans h2⟩, ⟨[], by simp⟩, fun b u h2 => ?_, h.kk⟩
  by_cases z : b = p
  · subst z; exact ⟨o, upd_same⟩
  · exact ⟨u, by rw [upd_ne z]; exact h2⟩
theorem rSet_ok {X : Cx} : PSet X (rSet X) := fun pins s σ H o i v ov iv u Q I ro ri rv h => h pins s σ ov iv u I ro ri rv
theorem rSet_of {X : Cx} {r : TSet} (h : PSet X r) {o i v : V} {H : Hp} {Q : Hp → Prop} (q : r o i v H Q) : rSet X o i v H Q := fun pins s σ ov iv u I ro ri rv => h pins s σ H o i v ov iv u Q I ro ri rv q
theorem RK.len {K : PySem.W.Frag} {θ : List Addr} {H : Hp} : ∀ {us : List (Key × V)} {kds : List (Key × D)}, RK K θ H us kds → us.length = kds.length
  | _, _, .nil => rfl
  | _, _, .cons _ t => congrArg (· + 1) (RK.len t)
theorem RK.any {K : PySem.W.Frag} {θ : List Addr} {H : Hp} (k : Key) : ∀ {us : List (Key × V)} {kds : List (Key × D)}, RK K θ H us kds → (us.any fun kv => decide (kv.1 = k)) = (kds.any fun kv => decide (kv.1 = k))
  | _, _, .nil => rfl
  | _, _, .cons _ t => by rw [List.any_cons, List.any_cons, RK.any k t]
theorem RK.over {K : PySem.W.Frag} {θ : List Addr} {H : Hp} {k : Key} {v : V} {d : D} (r : R K θ H v d) : ∀ {us : List (Key × V)} {kds : List (Key × D)}, RK K θ H us kds → RK K θ H (us.map fun kv => if kv.1 = k then (kv.1, v) else kv) (kds.map fun kv => if kv.1 = k then (kv.1, d) else kv)
  | _, _, .nil => .nil
  | _, _, .cons (k := k1) q t => by
    rw [List.map_cons, List.map_cons]
    by_cases e : k1 = k
    · rw [if_pos e, if_pos e]; exact .cons r (RK.over r t)
    · rw [if_neg e, if_neg e]; exact .cons q (RK.over r t)
theorem RK.snoc {K : PySem.W.Frag} {θ : List Addr} {H : Hp} {k : Key} {v : V} {d : D} (r : R K θ H v d) : ∀ {us : List (Key × V)} {kds : List (Key × D)}, RK K θ H us kds → RK K θ H (us ++ [(k, v)]) (kds ++ [(k, d)])
  | _, _, .nil => .cons r .nil
  | _, _, .cons q t => .cons q (RK.snoc r t)
theorem RK.put {K : PySem.W.Frag} {θ : List Addr} {H : Hp} {k : Key} {v : V} {d : D} (r : R K θ H v d) {us : List (Key × V)} {kds : List (Key × D)} (h : RK K θ H us kds) : RK K θ H (putK us k v) (putD kds k d) := by
  unfold putK putD
  rw [h.any k]
  split
  · exact h.over r
  · exact h.snoc r
theorem setIx_ok {X : Cx} (hu : X.A.units + 200 < cLine) {θ : List Addr} {L L' : List MO} {H : Hp} {o i x : Val} {ov iv v : V} (h : setIx o i x L = some L') (l : Live X.K CA θ L H) (ro : RV X.K θ H ov o) (ri : RV X.K θ H iv i) (rx : RV X.K θ H v x) {Q : Hp → Prop}
    (q : ∀ H', Ext X.K θ H θ H' → Live X.K CA θ L' H' → Q H') : rSet X ov iv v H Q := by
  unfold setIx at h
  split at h
  · rename_i n k d
    split at h
    · rename_i xs hL
      obtain ⟨j, hj, rfl⟩ := map_ok h
      obtain ⟨p, rfl, hp⟩ := ro
      cases ri
      obtain ⟨p', vs, h1, h2, h3⟩ := l.lst hL
      rw [hp] at h1; cases h1
      refine rSet_of set_list ⟨p, vs, k, j, rfl, rfl, h2, by rw [h3.length]; exact hj, ?_⟩
      obtain ⟨x3, l3⟩ := l.write hp (o := .lst (vs.set j v)) (m := .lst (xs.set j d)) ⟨_, upd_same, RL.mono (l.writeX hp _) (RL.set rx j h3)⟩
      exact q _ x3 l3
    · rename_i kvs hL
      split at h
      · rename_i hlen
        cases h
        obtain ⟨p, rfl, hp⟩ := ro
        cases ri
        obtain ⟨us, h1, h2⟩ := l.dct hp hL
        refine rSet_of (set_dict (by omega)) ⟨p, _, rfl, .k (k := .inl k) h1 (by rw [h2.len]; exact hlen), ?_⟩
        obtain ⟨x3, l3⟩ := l.write hp (o := .dK (putK us (.inl k) v)) (m := .dct (putD kvs (.inl k) d)) ⟨_, upd_same, RK.mono (l.writeX hp _) (h2.put rx)⟩
        exact q _ x3 l3
      · cases h
    · cases h
  · rename_i n k d
    split at h
    · rename_i kvs hL
      split at h
      · rename_i hlen
        cases h
        obtain ⟨p, rfl, hp⟩ := ro
        cases ri
        obtain ⟨us, h1, h2⟩ := l.dct hp hL
        refine rSet_of (set_dict (by omega)) ⟨p, _, rfl, .k (k := .inr k) h1 (by rw [h2.len]; exact hlen), ?_⟩
        obtain ⟨x3, l3⟩ := l.write hp (o := .dK (putK us (.inr k) v)) (m := .dct (putD kvs (.inr k) d)) ⟨_, upd_same, RK.mono (l.writeX hp _) (h2.put rx)⟩
        exact q _ x3 l3
      · cases h
    · cases h
  · cases h
theorem assignSub_of {o i : Expr} {env : Env} (h : noSl i = true) (v : Value) : assign (.Subscript o i pos) env v = (do
      let ov ← holding [v] (eval o env)
      let iv ← holding [v, ov] (eval i env)
      standAt pos
      holding [v, ov, iv] (setItem ov iv v)
      release [v, ov, iv] []) := by
  cases i <;> first | rfl | (exact absurd (show false = true from h) Bool.false_ne_true)
theorem sg_sub {o i : Expr} {mo mi : M} (hu : X.A.units + 200 < cLine) (ho : SE CA X C o mo) (hi : SE CA X C i mi) (hs : noSl i = true) : SG CA X C (.Subscript o i pos) [] (gSub' mo mi) := fun x ρ L ρ' L' hm θ σ H v Q S rv q => by
  obtain ⟨ov, L1, e1, hm⟩ := Out.bind_ok hm
  obtain ⟨iv, L2', e2, hm⟩ := Out.bind_ok hm
  split at hm
  · rename_i L3 e3
    cases hm
    refine semG_kf (ofG (pg_sub (sE o) (sE i) rSet_ok (assignSub_of hs)) (ho.use e1 S fun w θ1 H1 x1 S1 r1 => hi.use e2 S1 fun u θ2 H2 x2 S2 r2 => ?_))
    have x12 := x1.trans x2
    exact setIx_ok hu e3 S2.live (RV.mono x2 r1) r2 (RV.mono x12 rv) fun H3 x3 l3 kf => q θ2 σ H3 (x12.trans x3) (S2.go x3 l3 kf) (Off.refl _ _)
  · cases hm
theorem ss_asg {tg : Expr} {is : List Nat} {g : MG} (h : SE CA X C e m) (hg : SG CA X C tg is g) (hs : swapsWithSole [tg] e pos.line X.env = pure false) (hw : swappedStores [tg] e X.env = pure none) (h1 : noStarT tg = true) : SS CA X C (.Assign [tg] e pos) (mAsg m g) := fun ρ L r L' hm θ σ H D S q => by
  obtain ⟨x, L1, e1, hm⟩ := Out.bind_ok hm
  obtain ⟨ρ1, L2', e2, hm⟩ := Out.bind_ok hm
  cases hm
  refine ofS (ps_asg (sE e) (sG tg) hs hw (by rw [asgEach_of h1]; rfl)) (h.use e1 S fun v θ1 H1 x1 S1 r1 => ?_)
  exact hg _ ρ L1 ρ1 L' e2 θ1 σ H1 v _ S1 r1 fun θ2 σ2 H2 x2 S2 _ => q θ2 σ2 H2 (x1.trans x2) S2
/-! ### name op= e -/
def mAug (i : Nat) (g : Val → Val → List MO → Option Val) (m : M) : MS := fun C ρ L => match ρ[i]? with
  | some (some x) => (m C ρ L).bind fun y L1 => match g x (fz y) L1 with
    | some z => .ok (.next, ρ.set i (some (fz z))) L1
    | none => .no
  | _ => .no
def mSubAug (mo mi : M) (g : Val → Val → List MO → Option Val) (m : M) : MS := fun C ρ L => (mo C ρ L).bind fun o L1 => (mi C ρ L1).bind fun i L2 => match bIx (fz o) (fz i) L2 with
  | some x => (m C ρ L2).bind fun y L3 => match g (fz x) (fz y) L3 with
    | some z => match setIx (fz o) (fz i) (fz z) L3 with
      | some L4 => .ok (.next, ρ) L4
      | none => .no
    | none => .no
  | none => .no
theorem ss_aug {i : Nat} {x : Str} {op : Operator} {g : Val → Val → List MO → Option Val} {p2 : Pos} (s : Store X i x) (ho : OpOk CA X (inplaceOp op) g) (h : SE CA X C e m) : SS CA X C (.AugAssign (.Name x p2) op e pos) (mAug i g m) := fun ρ L r L' hm θ σ H D S q => by
  unfold mAug at hm
  split at hm
  · rename_i y hy
    obtain ⟨w, hw, rw'⟩ := S.env i y hy
    obtain ⟨z, L1, e1, hm⟩ := Out.bind_ok hm
    split at hm
    · rename_i z' e2
      cases hm
      have ip : PIp X op (rBin X (inplaceOp op)) := fun pins s σ H x y v u Q I rx ry h => h pins s σ v u I rx ry
      refine ofS (ps_aug s.nd s.ix s.loc (sE e) ip s.fn) ⟨w, hw, h.use e1 S fun v θ1 H1 x1 S1 r1 => ?_⟩
      refine rBin_kf fun _ => ho _ _ _ _ e2 θ1 H1 w v _ S1.live S1.kf (RV.mono x1 rw') r1 (PostE.fz fun u θ2 H2 x2 l2 r2 kf => ?_)
      exact q θ2 _ H2 (x1.trans x2) ((S1.go x2 l2 kf).set r2)
    · cases hm
  · cases hm
end
end Ev
set_option Elab.async false
set_option linter.all false
set_option maxRecDepth 100000
namespace Ev
open PySem PySem.Spec L2

/-! ## what is walked -/
/-- items that stand still, or those of a list of ours, which must stand as it is -/
structure Src where
  xs : List D
  own : Option Nat
def Src.ok (s : Src) (L : List MO) : Prop := match s.own with
  | none => True
  | some n => L[n]? = some (.lst s.xs)
abbrev MI := Calls → Rho → List MO → Out Src
/-- an iterator that gives these items -/
structure ItOk (K : PySem.W.Frag) (CA : Str → Addr) (J : It) (s : Src) (θ : List Addr) (H : Hp) : Prop where
  go : ∀ θ' L H' i, Ext K θ H θ' H' → Live K CA θ' L H' → s.ok L → i < s.xs.length → J.go i H'
  yld : ∀ θ' L H' i x H'', Ext K θ H θ' H' → Live K CA θ' L H' → s.ok L → J.yld i H' x H'' → i < s.xs.length → ∃ d, s.xs[i]? = some d ∧ Ext K θ' H' θ' H'' ∧ Live K CA θ' L H'' ∧ R K θ' H'' x d
  stop : ∀ θ' L H', Ext K θ H θ' H' → Live K CA θ' L H' → s.ok L → J.stop s.xs.length H'
def SI (CA : Str → Addr) (X : Cx) (C : Calls) (tg e : Expr) (m : MI) : Prop := ∀ (ρ : Rho) (L : List MO) (s : Src) (L' : List MO), m C ρ L = .ok s L' →
  ∀ (θ : List Addr) (σ : L2.St) (H : Hp) (Q : It → Hp → Prop), Sim X.K CA θ ρ L σ H → (∀ J θ' H', Ext X.K θ H θ' H' → Sim X.K CA θ' ρ L' σ H' → ItOk X.K CA J s θ' H' → s.ok L' → Q J H') → semI X tg e σ H Q
section
variable {CA : Str → Addr} {X : Cx} {C : Calls} {e a b c tg : Expr} {m ma mb mc : M} {pos : Pos} {st : Stmt} {sts rest : List Stmt} {ms mr : MS}
/-- a list or a tuple -/
def mIt (m : M) : MI := fun C ρ L => (m C ρ L).bind fun x L1 => match fz x with
  | .h n => match L1[n]? with
    | some (.lst xs) => .ok ⟨xs, some n⟩ L1
    | _ => .no
  | .d (.tup xs) => .ok ⟨xs, none⟩ L1
  | .d (.lst xs) => .ok ⟨xs, none⟩ L1
  | _ => .no
theorem it_list {K : PySem.W.Frag} {θ : List Addr} {H : Hp} {p : Addr} {vs : List V} {xs : List D} (np : p ∉ θ) (h : LsOk K H p vs) (r : RL K θ H vs xs) : ItOk K CA (Itl K p) ⟨xs, none⟩ θ H := by
  refine ⟨fun θ' L H' i x _ _ hi => ?_, fun θ' L H' i y H'' x l _ hy hi => ?_, fun θ' L H' x _ _ => ?_⟩
  · have h' := (x.ls np h).2
    obtain ⟨v, hv, _⟩ := r.get (List.getElem?_eq_getElem hi)
    exact ⟨vs, v, h'.sq, hv⟩
  · obtain ⟨rfl, q⟩ := hy
    have h' := (x.ls np h).2
    obtain ⟨d, hd, rd⟩ := r.get' (q vs h'.sq)
    exact ⟨d, hd, Ext.refl l.kk, l, R.mono x rd⟩
  · have h' := (x.ls np h).2
    exact ⟨vs, h'.sq, by rw [r.length]; exact Nat.le_refl _⟩
theorem it_tup {K : PySem.W.Frag} {θ : List Addr} {H : Hp} {p : Addr} {vs : List V} {xs : List D} (np : p ∉ θ) (h : SqT K H p vs) (r : RL K θ H vs xs) : ItOk K CA (Itt K p) ⟨xs, none⟩ θ H := by
  refine ⟨fun θ' L H' i x _ _ hi => ?_, fun θ' L H' i y H'' x l _ hy hi => ?_, fun θ' L H' x _ _ => ?_⟩
  · have h' := (x.sqT np h).2
    obtain ⟨v, hv, _⟩ := r.get (List.getElem?_eq_getElem hi)
    exact ⟨vs, v, h', hv⟩
  · obtain ⟨rfl, q⟩ := hy
    have h' := (x.sqT np h).2
    obtain ⟨d, hd, rd⟩ := r.get' (q vs h')
    exact ⟨d, hd, Ext.refl l.kk, l, R.mono x rd⟩
  · have h' := (x.sqT np h).2
    exact ⟨vs, h', by rw [r.length]; exact Nat.le_refl _⟩
theorem it_own {K : PySem.W.Frag} {θ : List Addr} {H : Hp} {p : Addr} {xs : List D} {n : Nat} (hp : θ[n]? = some p) : ItOk K CA (Itl K p) ⟨xs, some n⟩ θ H := by
  have look : ∀ θ' L H', Ext K θ H θ' H' → Live K CA θ' L H' → Src.ok ⟨xs, some n⟩ L → ∃ vs, H' p = some (.lst vs) ∧ RL K θ' H' vs xs := by
    intro θ' L H' x l g
    obtain ⟨p', vs, h1, h2, h3⟩ := l.lst g
    rw [x.get hp] at h1; cases h1
    exact ⟨vs, h2, h3⟩
  refine ⟨fun θ' L H' i x l g hi => ?_, fun θ' L H' i y H'' x l g hy hi => ?_, fun θ' L H' x l g => ?_⟩
  · obtain ⟨vs, h1, r⟩ := look θ' L H' x l g
    obtain ⟨v, hv, _⟩ := r.get (List.getElem?_eq_getElem hi)
    exact ⟨vs, v, .of h1, hv⟩
  · obtain ⟨rfl, q⟩ := hy
    obtain ⟨vs, h1, r⟩ := look θ' L H'' x l g
    obtain ⟨d, hd, rd⟩ := r.get' (q vs (.of h1))
    exact ⟨d, hd, Ext.refl l.kk, l, rd⟩
  · obtain ⟨vs, h1, r⟩ := look θ' L H' x l g
    exact ⟨vs, .of h1, by rw [r.length]; exact Nat.le_refl _⟩
theorem si_it (h : SE CA X C e m) : SI CA X C tg e (mIt m) := fun ρ L s L' hm θ σ H Q S q => by
  obtain ⟨x, L1, e1, hm⟩ := Out.bind_ok hm
  split at hm
  · rename_i n ex
    split at hm
    · rename_i xs hL
      cases hm
      refine ofI (pi_list (sE e)) (h.use e1 S fun v θ1 H1 x1 S1 r1 => ?_)
      rw [ex] at r1
      obtain ⟨p, rfl, hp⟩ := r1
      obtain ⟨p', vs, h1, h2, h3⟩ := S1.live.lst hL
      rw [hp] at h1; cases h1
      exact ⟨p, rfl, ⟨vs, .of h2⟩, q _ θ1 H1 x1 S1 (it_own hp) hL⟩
    · cases hm
  · rename_i xs ex
    cases hm
    refine ofI (pi_tup (sE e)) (h.use e1 S fun v θ1 H1 x1 S1 r1 => ?_)
    rw [ex] at r1
    cases r1 with
    | tup h1 h2 h3 => exact ⟨_, rfl, ⟨_, h2⟩, q _ θ1 H1 x1 S1 (it_tup h1 h2 h3) trivial⟩
  · rename_i xs ex
    cases hm
    refine ofI (pi_list (sE e)) (h.use e1 S fun v θ1 H1 x1 S1 r1 => ?_)
    rw [ex] at r1
    cases r1 with
    | lst h1 h2 h3 => exact ⟨_, rfl, ⟨_, h2.sq⟩, q _ θ1 H1 x1 S1 (it_list h1 h2 h3) trivial⟩
  · cases hm
/-- range -/
def rangeD (lo : Int) (n : Nat) : List D := (List.range n).map fun i => .int (lo + (i : Nat))
theorem it_range {K : PySem.W.Frag} {θ : List Addr} {H : Hp} (lo : Int) (n : Nat) : ItOk K CA (Itr lo n) ⟨rangeD lo n, none⟩ θ H := by
  have hl : (rangeD lo n).length = n := by simp [rangeD]
  refine ⟨fun θ' L H' i x _ _ hi => by rw [hl] at hi; exact hi, fun θ' L H' i y H'' x l _ hy hi => ?_, fun θ' L H' x _ _ => by rw [hl]; exact Nat.le_refl _⟩
  obtain ⟨rfl, rfl⟩ := hy
  rw [hl] at hi
  exact ⟨.int (lo + i), by simp [rangeD, hi], Ext.refl l.kk, l, .int _⟩
def mRng1 (m : M) : MI := fun C ρ L => (m C ρ L).bind fun x L1 => match x with
  | .d (.int j) => if -(2 ^ 62) ≤ j ∧ j < 2 ^ 62 then .ok ⟨rangeD 0 j.toNat, none⟩ L1 else .no
  | _ => .no
def mRng2 (m n : M) : MI := fun C ρ L => (m C ρ L).bind fun x L1 => (n C ρ L1).bind fun y L2 => match x, y with
  | .d (.int i), .d (.int j) => if -(2 ^ 62) ≤ i ∧ i < 2 ^ 62 ∧ -(2 ^ 62) ≤ j ∧ j < 2 ^ 62 then .ok ⟨rangeD i (j - i).toNat, none⟩ L2 else .no
  | _, _ => .no
theorem si_rng1 {p : Pos} (hg : Gl X "range") (hmg : X.mg "range" = none) (h : SE CA X C e m) (hs : noStar e = true) : SI CA X C tg (.Call (.Name "range" p) [e] [] pos) (mRng1 m) := fun ρ L s L' hm θ σ H Q S q => by
  obtain ⟨x, L1, e1, hm⟩ := Out.bind_ok hm
  split at hm
  · split at hm
    · rename_i hb
      cases hm
      refine ofI (pi_range1 hg hmg (pa_cons (sE e) pa_nil (star_of hs)) (by rw [star_of hs]; rfl)) (h.use e1 S fun v θ1 H1 x1 S1 r1 => ?_)
      cases r1
      exact ⟨_, rfl, hb.1, hb.2, q _ θ1 H1 x1 S1 (it_range _ _) trivial⟩
    · cases hm
  · cases hm
theorem si_rng2 {p : Pos} (hg : Gl X "range") (hmg : X.mg "range" = none) (ha : SE CA X C a ma) (hb : SE CA X C b mb) (hs : noStar a = true) (hs2 : noStar b = true) : SI CA X C tg (.Call (.Name "range" p) [a, b] [] pos) (mRng2 ma mb) := fun ρ L s L' hm θ σ H Q S q => by
  obtain ⟨x, L1, e1, hm⟩ := Out.bind_ok hm
  obtain ⟨y, L2', e2, hm⟩ := Out.bind_ok hm
  split at hm
  · split at hm
    · rename_i hb'
      cases hm
      refine ofI (pi_range2 hg hmg (pa_cons (sE a) (pa_cons (sE b) pa_nil (star_of hs2)) (star_of hs)) (by rw [star_of hs, star_of hs2]; rfl) (by rw [star_of hs2]; rfl)) (ha.use e1 S fun v θ1 H1 x1 S1 r1 => hb.use e2 S1 fun u θ2 H2 x2 S2 r2 => ?_)
      cases r1
      cases r2
      exact ⟨_, _, rfl, hb', q _ θ2 H2 (x1.trans x2) S2 (it_range _ _) trivial⟩
    · cases hm
  · cases hm

/-! ## for -/
open Classical in
noncomputable def forM (s : Src) (body : D → Rho → List MO → Out (Fl × Rho)) : List D → Rho → List MO → Out (Fl × Rho)
  | [], ρ, L => if s.ok L then .ok (.next, ρ) L else .no
  | x :: xs, ρ, L => if s.ok L then (body x ρ L).bindX fun r L1 => match r with
    | (.next, ρ1) => forM s body xs ρ1 L1
    | (.cont, ρ1) => forM s body xs ρ1 L1
    | (.brk, ρ1) => .ok (.next, ρ1) L1
    | (.ret v, ρ1) => .ok (.ret v, ρ1) L1 else .no
noncomputable def mFor (it : MI) (g : MG) (mb : MS) : MS := fun C ρ L => (it C ρ L).bind fun s L1 => forM s (fun x ρ L => (g C (.d x) ρ L).bind fun ρ1 L2 => mb C ρ1 L2) s.xs ρ L1
def noSetI : Expr → Bool
  | .Set .. => false
  | _ => true
theorem folded_of {iter : Expr} {env : Env} (h : noSetI iter = true) (x : Value) : foldedSetIterable iter env x = pure x := by
  cases iter <;> first | rfl | (exact absurd (show false = true from h) Bool.false_ne_true)
theorem ss_for {iter : Expr} {it : MI} {g : MG} {is : List Nat} {mb : MS} (hp : X.xe = fun _ _ => False) (hc : X.calm = true) (hi : SI CA X C tg iter it) (hg : SG CA X C tg is g) (hb : SSs CA X C sts mb) (hs : noSetI iter = true) :
    SS CA X C (.For tg iter sts [] pos) (mFor it g mb) := fun ρ L r L' hm θ σ H D S q => by
  obtain ⟨s, L1, e1, hm⟩ := Out.bind_ok hm
  have hpo : PassesOwn (model X.prog X.w) X.A X.env X.xe := by rw [hp]; exact PassesOwn.never
  refine semS_kf (ofS (ps_for hpo hc (sI tg iter) (sG tg) (sSs sts) (folded_of hs)) (hi ρ L s L1 e1 θ σ H _ S fun J θ0 H0 x0 S0 J0 _ => ?_))
  refine ⟨fun i n σ' H' => n = s.xs.length - i ∧ i ≤ s.xs.length ∧ ∃ θ' ρ' L2, Ext X.K θ0 H0 θ' H' ∧ (KF X.K H' → Sim X.K CA θ' ρ' L2 σ' H') ∧ Live X.K CA θ' L2 H' ∧ forM s (fun x ρ L => (g C (.d x) ρ L).bind fun ρ1 L2 => mb C ρ1 L2) (s.xs.drop i) ρ' L2 = .ok r L',
    ⟨s.xs.length, by simp, Nat.zero_le _, θ0, ρ, L1, S0.refl, fun _ => S0, S0.live, by simpa using hm⟩, ?_⟩
  rintro i n σ' H' ⟨rfl, hi', θ', ρ', L2, x', S', l', hf⟩
  by_cases hlt : i < s.xs.length
  · have hd : s.xs.drop i = s.xs[i] :: s.xs.drop (i + 1) := List.drop_eq_getElem_cons hlt
    rw [hd] at hf
    unfold forM at hf
    split at hf
    · rename_i gok
      obtain ⟨⟨f, ρ3⟩, L3, e3, hf⟩ := Out.bindX_ok hf
      obtain ⟨ρ2, L2', e2, e3⟩ := Out.bind_ok e3
      refine .inr ⟨J0.go θ' L2 H' i x' l' gok hlt, fun σ'' H'' => ∃ θ'' ρ'' L'', Ext X.K θ0 H0 θ'' H'' ∧ (KF X.K H'' → Sim X.K CA θ'' ρ'' L'' σ'' H'') ∧ Live X.K CA θ'' L'' H'' ∧ forM s (fun x ρ L => (g C (.d x) ρ L).bind fun ρ1 L2 => mb C ρ1 L2) (s.xs.drop (i + 1)) ρ'' L'' = .ok r L', ?_, fun y H'' hy => ?_⟩
      · rintro σ'' H'' ⟨θ'', ρ'', L'', x'', S'', l'', hf'⟩
        exact ⟨_, by omega, rfl, hlt, θ'', ρ'', L'', x'', S'', l'', hf'⟩
      · obtain ⟨d, hd', xy, ly, ry⟩ := J0.yld θ' L2 H' i y H'' x' l' gok hy hlt
        have ed : d = s.xs[i] := by
          rw [List.getElem?_eq_getElem hlt] at hd'
          exact (Option.some.inj hd').symm
        subst ed
        intro pins s1 u I ru
        have kf'' := kf_of I
        have kf' : KF X.K H' := fun b o ho => by
          cases e : H' b with
          | none => rfl
          | some u =>
            obtain ⟨u', e'⟩ := xy.trk b u e
            rw [kf'' b o ho] at e'; cases e'
        have S1 := (S' kf').go xy ly kf''
        refine (hg (.d s.xs[i]) ρ' L2 ρ2 L2' e2 θ' σ' H'' y _ S1 ry fun θ3 σ3 H3 x3 S3 _ => ?_) pins s1 u I ru
        have x03 := x'.trans (xy.trans x3)
        refine semSs_kf (hb ρ2 L2' (f, ρ3) L3 e3 θ3 σ3 H3 _ S3 ?_)
        cases f with
        | next => exact fun θ4 σ4 H4 x4 S4 _ => ⟨θ4, ρ3, L3, x03.trans x4, fun _ => S4, S4.live, hf⟩
        | cont => exact fun θ4 σ4 H4 x4 S4 _ => ⟨θ4, ρ3, L3, x03.trans x4, fun _ => S4, S4.live, hf⟩
        | brk =>
          cases hf
          exact fun θ4 σ4 H4 x4 S4 _ _ => q θ4 σ4 H4 (x0.trans (x03.trans x4)) S4
        | ret v =>
          cases hf
          exact (PostE.later (x0.trans x03) q).imp fun v H' z _ _ => z
    · cases hf
  · have hie : i = s.xs.length := by omega
    subst hie
    rw [List.drop_length] at hf
    unfold forM at hf
    split at hf
    · rename_i gok
      cases hf
      refine .inl ⟨J0.stop θ' _ H' x' l' gok, fun kf => q θ' σ' H' (x0.trans x') (S' kf)⟩
    · cases hf
end
end Ev
set_option Elab.async false
set_option linter.all false
set_option maxRecDepth 100000
namespace Ev
open PySem PySem.Spec L2

/-! ## list comprehensions -/
def pushAcc (n : Nat) (y : Val) (L : List MO) : Option (List MO) := match y, L[n]? with
  | .d d, some (.lst acc) => if acc.length < sizeLine then some (L.set n (.lst (acc ++ [d]))) else none
  | _, _ => none
noncomputable def compM (s : Src) (vs : List Nat) (g : MG) (t : MT) (m : M) (C : Calls) (n : Nat) (ρ : Rho) : List D → List MO → Out Unit := fun xs => match xs with
  | [] => fun L => open Classical in if s.ok L then .ok () L else .no
  | x :: xs => fun L => open Classical in if s.ok L then (g C (.d x) (wipeR ρ vs) L).bind fun ρ1 L1 => (t C ρ1 L1).bind fun b L2 => if b = true then (m C ρ1 L2).bind fun y L3 => match pushAcc n (fz y) L3 with
      | some L4 => compM s vs g t m C n ρ xs L4
      | none => .no else compM s vs g t m C n ρ xs L2 else .no
def popAcc (n : Nat) (L : List MO) : Out Val := match L[n]? with
  | some (.lst acc) => if (L.take n).all (MO.below n) = true then .ok (.new acc) (L.take n) else .no
  | _ => .no
noncomputable def mComp (it : MI) (vs : List Nat) (g : MG) (t : MT) (m : M) : M := fun C ρ L => (it C ρ L).bind fun s L1 => (compM s vs g t m C L1.length ρ s.xs (L1 ++ [.lst []])).bind fun _ L2 => popAcc L1.length L2
def mtYes : MT := fun _ _ L => .ok true L
def semTs (X : Cx) (ifs : List Expr) : TT := fun σ H Q => ∀ (pins : List (Addr × Obj)) (s : Shared), Inv X pins σ H s →
  wpAny (model X.prog X.w) X.A (forIn ifs true fun c r => if r = true then do let ok ← isTrue c X.env (eval c X.env); pure (ForInStep.yield ok) else pure (ForInStep.yield r)) (TP X pins σ Q) X.xe s
theorem sTs {X : Cx} (ifs : List Expr) : PTs X ifs (semTs X ifs) := ⟨fun pins s σ H Q I h => h pins s I⟩
def STs (CA : Str → Addr) (X : Cx) (C : Calls) (ifs : List Expr) (m : MT) : Prop := ∀ (ρ : Rho) (L : List MO) (b : Bool) (L' : List MO), m C ρ L = .ok b L' →
  ∀ (θ : List Addr) (σ : L2.St) (H : Hp) (Q : Bool → Hp → Prop), Sim X.K CA θ ρ L σ H → (∀ θ' H', Ext X.K θ H θ' H' → Sim X.K CA θ' ρ L' σ H' → Q b H') → semTs X ifs σ H Q
section
variable {CA : Str → Addr} {X : Cx} {C : Calls} {e a b c tg elt iter : Expr} {ifs : List Expr} {m ma mb mc : M} {pos : Pos} {st : Stmt} {scope : Scope} {own : List (Str × Nat)}
theorem sts_nil : STs CA X C [] mtYes := fun ρ L k L' hm θ σ H Q S q => by
  cases hm
  exact fun pins s I => pts_nil.run pins s σ H Q I (q θ H S.refl S)
theorem sts_one {t : MT} (h : STt CA X C c t) : STs CA X C [c] t := fun ρ L k L' hm θ σ H Q S q => by
  have h1 := h.use (Q := Q) hm S q
  exact fun pins s I => (pts_one (sT c)).run pins s σ H Q I h1
theorem wipe_get {σ : L2.St} {j : Nat} : ∀ {vs : List Nat}, (wipe σ vs)[j]? = if j ∈ vs ∧ j < σ.length then some none else σ[j]?
  | [] => by simp [wipe]
  | v :: vs => by
    unfold wipe
    by_cases h : j = v
    · subst h
      by_cases hl : j < σ.length
      · rw [List.getElem?_set_self (by rw [wipe_length]; exact hl)]
        simp [hl]
      · rw [List.getElem?_eq_none (by rw [List.length_set, wipe_length]; omega)]
        simp [hl]
    · rw [List.getElem?_set_ne (Ne.symm h), wipe_get (vs := vs)]
      simp [h]
theorem off_wipe {is vs : List Nat} {σ σ' : L2.St} (h : Off is (wipe σ vs) σ') (hs : ∀ i ∈ is, i ∈ vs) : wipe σ' vs = wipe σ vs := by
  apply List.ext_getElem?
  intro j
  rw [wipe_get, wipe_get]
  have hl : σ'.length = σ.length := by rw [h.1, wipe_length]
  rw [hl]
  by_cases hj : j ∈ vs ∧ j < σ.length
  · rw [if_pos hj, if_pos hj]
  · rw [if_neg hj, if_neg hj]
    by_cases hv : j ∈ vs
    · have hge : σ.length ≤ j := by
        by_cases z : j < σ.length
        · exact (hj ⟨hv, z⟩).elim
        · omega
      rw [List.getElem?_eq_none (by omega), List.getElem?_eq_none hge]
    · rw [h.2 j fun z => hv (hs j z), wipe_get, if_neg fun z => hv z.1]
/-- fewer handles -/
theorem Live.take {K : PySem.W.Frag} {θ : List Addr} {L : List MO} {H : Hp} (h : Live K CA θ L H) (n : Nat) (hb : (L.take n).all (MO.below n) = true) : Live K CA (θ.take n) (L.take n) H := by
  have sub : ∀ p, p ∈ θ.take n → p ∈ θ := fun p hp => List.mem_of_mem_take hp
  refine ⟨by simp [h.len], h.nd.sublist (List.take_sublist _ _), fun k p mo h1 h2 => ?_, fun p o hp z => h.kk p o hp (sub p z)⟩
  have hk : k < n := by
    have := (List.getElem?_eq_some_iff.mp h1).1
    rw [List.length_take] at this; omega
  have h1' : θ[k]? = some p := by rw [List.getElem?_take_of_lt hk] at h1; exact h1
  have h2' : L[k]? = some mo := by rw [List.getElem?_take_of_lt hk] at h2; exact h2
  have hm := List.all_eq_true.mp hb mo (List.mem_of_getElem? h2)
  have hh := h.at_ k p mo h1' h2'
  cases mo with
  | lst ds => obtain ⟨vs, e1, e2⟩ := hh; exact ⟨vs, e1, e2.less sub⟩
  | dct ds => obtain ⟨vs, e1, e2⟩ := hh; exact ⟨vs, e1, e2.less sub⟩
  | hl ns =>
    obtain ⟨bs, e1, e2, e3⟩ := hh
    refine ⟨bs, e1, e2, fun i k' hi => ?_⟩
    obtain ⟨b, q1, q2⟩ := e3 i k' hi
    have hk' : k' < n := of_decide_eq_true (List.all_eq_true.mp hm k' (List.mem_of_getElem? hi))
    exact ⟨b, q1, by rw [List.getElem?_take_of_lt hk']; exact q2⟩
  | ins c fs =>
    obtain ⟨dx, gs, e1, e2, e3⟩ := hh
    refine ⟨dx, gs, e1, e2, fun f x hx => ?_⟩
    obtain ⟨v, q1, q2⟩ := e3 f x hx
    refine ⟨v, q1, ?_⟩
    cases x with
    | d y => exact R.less sub q2
    | h k' =>
      obtain ⟨b, r1, r2⟩ := q2
      have hm' : Val.below n (.h k') = true := List.all_eq_true.mp hm (f, .h k') (mem_of_lookup hx)
      exact ⟨b, r1, by rw [List.getElem?_take_of_lt (of_decide_eq_true hm')]; exact r2⟩
    | new _ => exact q2
/-- what came at a handle above n, as a new list -/
theorem Live.newOf {K : PySem.W.Frag} {θ θ' : List Addr} {L' : List MO} {H H' : Hp} {n k : Nat} {p : Addr} {acc : List D} (e : Ext K θ H θ' H') (h : Live K CA θ' L' H') (hn : θ.length ≤ n) (hk : n ≤ k) (hp : θ'[k]? = some p) (hL : L'[k]? = some (.lst acc)) (fresh : H p = none)
    (hb : (L'.take n).all (MO.below n) = true) : NewAt K CA θ H (θ'.take n) (L'.take n) p acc H' := by
  have hkl : k < θ'.length := (List.getElem?_eq_some_iff.mp hp).1
  have sub : ∀ b, b ∈ θ'.take n → b ∈ θ' := fun b hb => List.mem_of_mem_take hb
  have lt := h.take n hb
  have lenT : (θ'.take n).length = n := by rw [List.length_take]; omega
  have np : p ∉ θ'.take n := fun z => by
    obtain ⟨i, hi, e1⟩ := List.mem_iff_getElem.mp z
    rw [lenT] at hi
    have e2 : θ'[i]? = some p := by rw [← List.getElem?_take_of_lt hi, List.getElem?_eq_getElem (by rw [lenT]; exact hi), e1]
    obtain ⟨k1, q1⟩ := List.getElem?_eq_some_iff.mp e2
    obtain ⟨k2, q2⟩ := List.getElem?_eq_some_iff.mp hp
    have := (List.getElem_inj h.nd).mp (q1.trans q2.symm)
    omega
  have sub2 : ∀ b, b ∈ θ'.take n ++ [p] → b ∈ θ' := fun b hb => by
    rcases List.mem_append.mp hb with z | z
    · exact sub b z
    · have : b = p := by simpa using z
      rw [this]; exact List.mem_of_getElem? hp
  refine ⟨⟨fun b u h1 h2 => ⟨fun z => (e.keep b u h1 h2).1 (sub b z), (e.keep b u h1 h2).2⟩, ?_, e.trk, lt.kk⟩, lt, ⟨by simp [h.len], ?_, fun i q mo h1 h2 => ?_, fun b o hb z => h.kk b o hb (sub2 b z)⟩, fresh⟩
  · obtain ⟨t, et⟩ := e.pre
    refine ⟨t.take (n - θ.length), ?_⟩
    rw [et, List.take_append]
    congr 1
    exact List.take_of_length_le hn
  · rw [List.nodup_append]
    refine ⟨lt.nd, by simp, fun x hx y hy z => ?_⟩
    have e1 : y = p := by simpa using hy
    exact np (e1 ▸ z ▸ hx)
  · -- the contents, over θ'.take n ++ [p]
    have lenL : (L'.take n).length = n := by rw [List.length_take, ← h.len]; omega
    by_cases hi : i < n
    · rw [List.getElem?_append_left (by rw [lenT]; exact hi)] at h1
      rw [List.getElem?_append_left (by rw [lenL]; exact hi)] at h2
      have hh := h.at_ i q mo (by rw [List.getElem?_take_of_lt hi] at h1; exact h1) (by rw [List.getElem?_take_of_lt hi] at h2; exact h2)
      have hm := List.all_eq_true.mp hb mo (List.mem_of_getElem? h2)
      have up : ∀ (k' : Nat) (b : Addr), k' < n → θ'[k']? = some b → (θ'.take n ++ [p])[k']? = some b := fun k' b hk' hb => by
        rw [List.getElem?_append_left (by rw [lenT]; exact hk'), List.getElem?_take_of_lt hk']; exact hb
      cases mo with
      | lst ds => obtain ⟨vs, e1, e2⟩ := hh; exact ⟨vs, e1, e2.less sub2⟩
      | dct ds => obtain ⟨vs, e1, e2⟩ := hh; exact ⟨vs, e1, e2.less sub2⟩
      | hl ns =>
        obtain ⟨bs, e1, e2, e3⟩ := hh
        refine ⟨bs, e1, e2, fun j k' hj => ?_⟩
        obtain ⟨b, q1, q2⟩ := e3 j k' hj
        exact ⟨b, q1, up k' b (of_decide_eq_true (List.all_eq_true.mp hm k' (List.mem_of_getElem? hj))) q2⟩
      | ins c fs =>
        obtain ⟨dx, gs, e1, e2, e3⟩ := hh
        refine ⟨dx, gs, e1, e2, fun f x hx => ?_⟩
        obtain ⟨v, q1, q2⟩ := e3 f x hx
        refine ⟨v, q1, ?_⟩
        cases x with
        | d y => exact R.less sub2 q2
        | h k' =>
          obtain ⟨b, r1, r2⟩ := q2
          have hm' : Val.below n (.h k') = true := List.all_eq_true.mp hm (f, .h k') (mem_of_lookup hx)
          exact ⟨b, r1, up k' b (of_decide_eq_true hm') r2⟩
        | new _ => exact q2
    · have hi' : i = n := by
        have := (List.getElem?_eq_some_iff.mp h1).1
        rw [List.length_append, lenT] at this
        simp at this; omega
      subst hi'
      have e1 : q = p := by
        rw [List.getElem?_append_right (by rw [lenT]; exact Nat.le_refl _), lenT] at h1
        simpa using h1.symm
      have e2 : mo = .lst acc := by
        rw [List.getElem?_append_right (by rw [lenL]; exact Nat.le_refl _), lenL] at h2
        simpa using h2.symm
      subst e1 e2
      obtain ⟨vs, q1, q2⟩ := h.at_ k q _ hp hL
      exact ⟨vs, q1, q2.less sub2⟩

/-! ### one clause -/
def gB (X : Cx) (scope : Scope) (tg : Expr) : TG := fun v σ H Q => ∀ (s0 : Shared) (H0 : Hp) (B : Addr) (cl : List (Str × Addr)) (fp : List Addr), semG (X.blk s0 H0 scope (compEnvC scope cl B X.env) fp) tg v σ H Q
def tB' (X : Cx) (scope : Scope) (ifs : List Expr) : TT := fun σ H Q => ∀ (s0 : Shared) (H0 : Hp) (B : Addr) (cl : List (Str × Addr)) (fp : List Addr), semTs (X.blk s0 H0 scope (compEnvC scope cl B X.env) fp) ifs σ H Q
def eB (X : Cx) (scope : Scope) (e : Expr) : TE := fun σ H Q => ∀ (s0 : Shared) (H0 : Hp) (B : Addr) (cl : List (Str × Addr)) (fp : List Addr), semE (X.blk s0 H0 scope (compEnvC scope cl B X.env) fp) e σ H Q
def iB (X : Cx) (scope : Scope) (tg e : Expr) : TI := fun σ H Q => ∀ (s0 : Shared) (H0 : Hp) (B : Addr) (cl : List (Str × Addr)) (fp : List Addr), semI (X.blk s0 H0 scope (compEnvC scope cl B X.env) fp) tg e σ H Q
/-- in every block of the comprehension -/
def Blk (X : Cx) (scope : Scope) (P : Cx → Prop) : Prop := ∀ (s0 : Shared) (H0 : Hp) (B : Addr) (cl : List (Str × Addr)) (fp : List Addr), P (X.blk s0 H0 scope (compEnvC scope cl B X.env) fp)
theorem pushAcc_ok {K : PySem.W.Frag} {θ : List Addr} {H : Hp} {L L4 : List MO} {n : Nat} {y : Val} {v : V} {p : Addr} (h : pushAcc n y L = some L4) (l : Live K CA θ L H) (hp : θ[n]? = some p) (r : RV K θ H v y) :
    ∃ acc, H p = some (.lst acc) ∧ acc.length < sizeLine ∧ Ext K θ H θ (upd H p (.lst (acc ++ [v]))) ∧ Live K CA θ L4 (upd H p (.lst (acc ++ [v]))) := by
  unfold pushAcc at h
  split at h
  · rename_i d acc hL
    split at h
    · rename_i hl
      cases h
      obtain ⟨p', vs, h1, h2, h3⟩ := l.lst hL
      rw [hp] at h1; cases h1
      refine ⟨vs, h2, by rw [h3.length]; exact hl, ?_⟩
      exact l.write hp (m := .lst (acc ++ [d])) ⟨_, upd_same, RL.mono (l.writeX hp _) (h3.append (.cons r .nil))⟩
    · cases h
  · cases h
theorem popAcc_ok {n : Nat} {L : List MO} {z : Val} {L' : List MO} (h : popAcc n L = .ok z L') : ∃ acc, L[n]? = some (.lst acc) ∧ (L.take n).all (MO.below n) = true ∧ z = .new acc ∧ L' = L.take n := by
  unfold popAcc at h
  split at h
  · rename_i acc hL
    split at h
    · rename_i hb
      cases h
      exact ⟨acc, hL, hb, rfl, rfl⟩
    · cases h
  · cases h
/-- where the new list's address is one of the module's: such a state never comes -/
theorem comp_never {it : It} {s : Src} {g : TG} {tt : TT} {te : TE} {vs : List Nat} {σ : L2.St} {H1 : Hp} {θ1 : List Addr} {ρ : Rho} {L1 : List MO} {p : Addr} {o : Obj} {Q : VK} (ho : X.K.lookup p = some o) (hp : H1 p = none) (S : Sim X.K CA θ1 ρ L1 σ H1) (J0 : ItOk X.K CA it s θ1 H1) (gok : s.ok L1)
    (hg : ∀ v H', ¬ KF X.K H' → ∀ Q, g v (wipe σ vs) H' Q) :
    ∃ W : Nat → Nat → Hp → Prop, (∃ m, W 0 m (upd H1 p (.lst []))) ∧ ∀ i m H, W i m H →
      (it.stop i H ∧ (KF X.K H → Q (.ref p) H)) ∨ (it.go i H ∧ ∃ Nx : Hp → Prop, (∀ H', Nx H' → ∃ m', m' < m ∧ W (i + 1) m' H') ∧ ∀ x H', it.yld i H x H' → g x (wipe σ vs) H' fun σ2 H2 => wipe σ2 vs = wipe σ vs ∧ tt σ2 H2 fun b H3 =>
        if b = true then te σ2 H3 fun y H4 => ∃ acc, H4 p = some (.lst acc) ∧ acc.length < sizeLine ∧ Nx (upd H4 p (.lst (acc ++ [y]))) else Nx H3) := by
  obtain ⟨e0, l0⟩ := S.live.laid (o := .lst []) hp
  refine ⟨fun i m H => i = 0 ∧ H = upd H1 p (.lst []), ⟨0, rfl, rfl⟩, ?_⟩
  rintro i m H ⟨rfl, rfl⟩
  have nk : ¬ KF X.K (upd H1 p (.lst [])) := fun kf => by
    have := kf p o ho
    rw [upd_same] at this; cases this
  by_cases hs : s.xs.length = 0
  · refine .inl ⟨?_, fun kf => (nk kf).elim⟩
    have := J0.stop θ1 L1 _ e0 l0 gok
    rwa [hs] at this
  · refine .inr ⟨J0.go θ1 L1 _ 0 e0 l0 gok (by omega), fun _ => False, fun _ z => z.elim, fun x H' hy => hg _ _ (fun kf => ?_) _⟩
    obtain ⟨d, _, xy, _, _⟩ := J0.yld θ1 L1 _ 0 x H' e0 l0 gok hy (by omega)
    obtain ⟨u, hu⟩ := xy.trk p _ upd_same
    have := kf p o ho
    rw [hu] at this; cases this
theorem comp_core {it : MI} {g : MG} {t : MT} {is : List Nat} (hi : SI CA X C tg iter it) (hg : Blk X scope fun Y => SG CA Y C tg is g) (ht : Blk X scope fun Y => STs CA Y C ifs t) (he : Blk X scope fun Y => SE CA Y C elt m) {vs : List Nat} (his : ∀ i ∈ is, i ∈ vs)
    {ρ : Rho} {L L' : List MO} {z : Val} (hm : mComp it vs g t m C ρ L = .ok z L') {θ : List Addr} {σ : L2.St} {H : Hp} {Q : VK} (S : Sim X.K CA θ ρ L σ H) (q : PostE X.K CA θ H L' (fun v H' => KF X.K H' → Q v H') z) :
    tLc (semI X tg iter) (gB X scope tg) (tB' X scope ifs) (eB X scope elt) vs σ H (fun v H' => KF X.K H' → Q v H') := by
  obtain ⟨s, L1, e1, hm⟩ := Out.bind_ok hm
  obtain ⟨_, Lf, e2, hm⟩ := Out.bind_ok hm
  obtain ⟨acc, ha, hb, rfl, rfl⟩ := popAcc_ok hm
  refine hi ρ L s L1 e1 θ σ H _ S fun J θ1 H1 x1 S1 J0 gok1 p hp => ?_
  by_cases hk : ∃ o, X.K.lookup p = some o
  · obtain ⟨o, ho⟩ := hk
    refine comp_never ho hp S1 J0 gok1 fun v H' nk Q s0 H0 B cl fp pins sh u I ru => ?_
    have kf := kf_of I
    exact (nk kf).elim
  · have kp : ∀ {H' : Hp} {w : HO}, KF X.K H' → KF X.K (upd H' p w) := fun {H' w} kf b o ho => by
      rw [upd_ne (fun z => hk ⟨o, by rw [← z]; exact ho⟩)]
      exact kf b o ho
    have N0 := S1.live.newAt hp (vs := []) (ds := []) .nil (kp S1.kf)
    have SD := S1.go N0.ext2 N0.more (kp S1.kf)
    have hpD : (θ1 ++ [p])[L1.length]? = some p := by rw [← S1.live.len]; simp
    refine ⟨fun i n H' => n = s.xs.length - i ∧ i ≤ s.xs.length ∧ ∃ θ' L2, Ext X.K (θ1 ++ [p]) (upd H1 p (.lst [])) θ' H' ∧ Sim X.K CA θ' ρ L2 σ H' ∧ compM s vs g t m C L1.length ρ (s.xs.drop i) L2 = .ok () Lf,
      ⟨s.xs.length, by simp, Nat.zero_le _, θ1 ++ [p], L1 ++ [.lst []], SD.refl, SD, by simpa using e2⟩, ?_⟩
    rintro i n H' ⟨rfl, hi', θ', L2, x', S', hf⟩
    have x1' := N0.ext2.trans x'
    by_cases hlt : i < s.xs.length
    · have hd : s.xs.drop i = s.xs[i] :: s.xs.drop (i + 1) := List.drop_eq_getElem_cons hlt
      rw [hd] at hf
      unfold compM at hf
      split at hf
      · rename_i gok
        obtain ⟨ρ2, L3, e3, hf⟩ := Out.bind_ok hf
        obtain ⟨k, L4, e4, hf⟩ := Out.bind_ok hf
        refine .inr ⟨J0.go θ' L2 H' i x1' S'.live gok hlt, fun H'' => ∃ θ'' L'', Ext X.K (θ1 ++ [p]) (upd H1 p (.lst [])) θ'' H'' ∧ Sim X.K CA θ'' ρ L'' σ H'' ∧ compM s vs g t m C L1.length ρ (s.xs.drop (i + 1)) L'' = .ok () Lf, ?_, fun y H'' hy => ?_⟩
        · rintro H'' ⟨θ'', L'', x'', S'', hf'⟩
          exact ⟨_, by omega, rfl, hlt, θ'', L'', x'', S'', hf'⟩
        · obtain ⟨d, hd', xy, ly, ry⟩ := J0.yld θ' L2 H' i y H'' x1' S'.live gok hy hlt
          have ed : d = s.xs[i] := by
            rw [List.getElem?_eq_getElem hlt] at hd'
            exact (Option.some.inj hd').symm
          subst ed
          intro s0 H0 B cl fp pins sh u I ru
          have kf'' := kf_of I
          have Sy : Sim X.K CA θ' ρ L2 σ H'' := S'.go xy ly kf''
          refine (hg s0 H0 B cl fp (.d s.xs[i]) _ L2 ρ2 L3 e3 θ' _ H'' y _ (Sy.wipe vs) ry fun θ3 σ3 H3 x3 S3 o3 => ?_) pins sh u I ru
          have S3 : Sim X.K CA θ3 ρ2 L3 σ3 H3 := S3
          have x3 : Ext X.K θ' H'' θ3 H3 := x3
          refine ⟨off_wipe o3 his, fun s0 H0 B cl fp => ht s0 H0 B cl fp ρ2 L3 k L4 e4 θ3 σ3 H3 _ S3 fun θ4 H4 x4 S4 => ?_⟩
          have x4 : Ext X.K θ3 H3 θ4 H4 := x4
          have S4 : Sim X.K CA θ4 ρ2 L4 σ3 H4 := S4
          have y4 := xy.trans (x3.trans x4)
          cases k with
          | false =>
            rw [if_neg Bool.false_ne_true] at hf ⊢
            exact ⟨θ4, L4, x'.trans y4, S'.go y4 S4.live S4.kf, hf⟩
          | true =>
            rw [if_pos rfl] at hf ⊢
            obtain ⟨w, L5, e5, hf⟩ := Out.bind_ok hf
            intro s0 H0 B cl fp
            refine (he s0 H0 B cl fp).use e5 S4 fun v θ5 H5 x5 S5 r5 => ?_
            have x5 : Ext X.K θ4 H4 θ5 H5 := x5
            have S5 : Sim X.K CA θ5 ρ2 L5 σ3 H5 := S5
            have r5 : RV X.K θ5 H5 v (fz w) := r5
            have y5 := x'.trans (y4.trans x5)
            split at hf
            · rename_i L6 e6
              obtain ⟨acc', h1, h2, h3, h4⟩ := pushAcc_ok e6 S5.live (y5.get hpD) r5
              exact ⟨acc', h1, h2, θ5, L6, y5.trans h3, S'.go (y4.trans (x5.trans h3)) h4 (kp S5.kf), hf⟩
            · cases hf
      · cases hf
    · have hie : i = s.xs.length := by omega
      subst hie
      rw [List.drop_length] at hf
      unfold compM at hf
      split at hf
      · rename_i gok
        cases hf
        refine .inl ⟨J0.stop θ' _ H' x1' S'.live gok, fun kf => ?_⟩
        have fr : H p = none := by
          cases e : H p with
          | none => rfl
          | some u =>
            obtain ⟨u', e'⟩ := x1.trk p u e
            rw [hp] at e'; cases e'
        refine q p _ H' (Live.newOf (x1.trans x1') S'.live (n := L1.length) (k := L1.length) ?_ (Nat.le_refl _) (x'.get hpD) ha fr hb) kf
        obtain ⟨t', et⟩ := x1.pre
        rw [← S1.live.len, et]
        simp
      · cases hf
theorem se_comp {it : MI} {g : MG} {t : MT} {is : List Nat} (hc : X.calm = true) (hN : X.N.Nodup) (ok : BlkOk X.N X.env.scope scope own) (hi : SI CA X C tg iter it) (hg : Blk X scope fun Y => SG CA Y C tg is g) (ht : Blk X scope fun Y => STs CA Y C ifs t) (he : Blk X scope fun Y => SE CA Y C elt m)
    (his : ∀ i ∈ is, i ∈ own.map (·.2)) (hs : noSetI iter = true) : SE CA X C (.ListComp elt [⟨tg, iter, ifs, 0⟩] scope pos) (mComp it (own.map (·.2)) g t m) := fun ρ L z L' hm θ σ H Q S q =>
  semE_kf (ofE (pe_lc hc hN (sI tg iter) ok (g := gB X scope tg) (tt := tB' X scope ifs) (te := eB X scope elt)
    (fun s0 H0 B cl fp => ⟨fun pins s σ H v u Q I r h => h s0 H0 B cl fp pins s u I r⟩) (fun s0 H0 B cl fp => ⟨fun pins s σ H Q I h => h s0 H0 B cl fp pins s I⟩) (fun s0 H0 B cl fp => ⟨fun pins s σ H Q I h => h s0 H0 B cl fp pins s I⟩) (folded_of hs)) (comp_core hi hg ht he his hm S (q.imp fun v H' z _ => z)))
theorem ss_setComp {i : Nat} {y : Str} {py : Pos} {spos : Pos} {it : MI} {g : MG} {t : MT} {is : List Nat} {mset : M → MS} (hset : mset = mSet i ∨ mset = mSetL i) (hc : X.calm = true) (hN : X.N.Nodup) (hy : X.N[i]? = some y) (hyl : X.env.scope.names.lookup y = some .local)
    (hsw : swapsWith (.ListComp elt [⟨tg, iter, ifs, 0⟩] scope pos) (some (.Name y py)) spos.line X.env = pure true) (ok : BlkOk X.N X.env.scope scope own) (hi : SI CA X C tg iter it) (hg : Blk X scope fun Y => SG CA Y C tg is g) (ht : Blk X scope fun Y => STs CA Y C ifs t) (he : Blk X scope fun Y => SE CA Y C elt m)
    (his : ∀ i ∈ is, i ∈ own.map (·.2)) (hs : noSetI iter = true) : SS CA X C (.Assign [.Name y py] (.ListComp elt [⟨tg, iter, ifs, 0⟩] scope pos) spos) (mset (mComp it (own.map (·.2)) g t m)) := fun ρ L r L' hm θ σ H D S q => by
  have core : ∃ z L1, mComp it (own.map (·.2)) g t m C ρ L = .ok z L1 ∧ PostE X.K CA θ H L1 (fun v H1 => KF X.K H1 → D.nx (σ.set i (some v)) H1) z := by
    rcases hset with rfl | rfl
    · obtain ⟨z, L1, e1, hm⟩ := Out.bind_ok hm
      cases hm
      exact ⟨z, _, e1, PostE.fz fun v θ' H' e l rv kf => q θ' _ H' e ((S.go e l kf).set rv)⟩
    · exact setL_core hm S q
  obtain ⟨z, L1, e1, hz⟩ := core
  refine semS_kf (ofS (ps_setLc hc hN hy hyl hsw (sI tg iter) ok (g := gB X scope tg) (tt := tB' X scope ifs) (te := eB X scope elt)
    (fun s0 H0 B cl fp => ⟨fun pins s σ H v u Q I r h => h s0 H0 B cl fp pins s u I r⟩) (fun s0 H0 B cl fp => ⟨fun pins s σ H Q I h => h s0 H0 B cl fp pins s I⟩) (fun s0 H0 B cl fp => ⟨fun pins s σ H Q I h => h s0 H0 B cl fp pins s I⟩) (folded_of hs)) ?_)
  exact comp_core hi hg ht he his e1 S (Q := fun v H1 => D.nx (σ.set i (some v)) H1) hz
end
end Ev
set_option Elab.async false
set_option linter.all false
set_option maxRecDepth 100000
namespace Ev
open PySem PySem.Spec L2

/-! ### two clauses -/
noncomputable def compM2 (s : Src) (vs : List Nat) (g : MG) (t : MT) (it1 : MI) (vs1 : List Nat) (g1 : MG) (t1 : MT) (m : M) (C : Calls) (n : Nat) (ρ : Rho) : List D → List MO → Out Unit := fun xs => match xs with
  | [] => fun L => open Classical in if s.ok L then .ok () L else .no
  | x :: xs => fun L => open Classical in if s.ok L then (g C (.d x) (wipeR ρ vs) L).bind fun ρ1 L1 => (t C ρ1 L1).bind fun b L2 => if b = true then (it1 C ρ1 L2).bind fun s1 L3 => (compM s1 vs1 g1 t1 m C n ρ1 s1.xs L3).bind fun _ L4 =>
      compM2 s vs g t it1 vs1 g1 t1 m C n ρ xs L4 else compM2 s vs g t it1 vs1 g1 t1 m C n ρ xs L2 else .no
noncomputable def mComp2 (it : MI) (vs : List Nat) (g : MG) (t : MT) (it1 : MI) (vs1 : List Nat) (g1 : MG) (t1 : MT) (m : M) : M := fun C ρ L => (it C ρ L).bind fun s L1 => (compM2 s vs g t it1 vs1 g1 t1 m C L1.length ρ s.xs (L1 ++ [.lst []])).bind fun _ L2 => popAcc L1.length L2
section
variable {CA : Str → Addr} {X : Cx} {C : Calls} {e a b c tg elt iter tg1 iter1 : Expr} {ifs ifs1 : List Expr} {m ma mb mc : M} {pos : Pos} {st : Stmt} {scope : Scope} {own : List (Str × Nat)}
theorem inner_core {s1 : Src} {g1 : MG} {t1 : MT} {is1 : List Nat} {J1 : It} (hg : Blk X scope fun Y => SG CA Y C tg1 is1 g1) (ht : Blk X scope fun Y => STs CA Y C ifs1 t1) (he : Blk X scope fun Y => SE CA Y C elt m) {vs1 : List Nat} (his : ∀ i ∈ is1, i ∈ vs1)
    {n : Nat} {p : Addr} (hk : ¬ ∃ o, X.K.lookup p = some o) {θ : List Addr} {ρ : Rho} {L L' : List MO} {σ : L2.St} {H : Hp} (S : Sim X.K CA θ ρ L σ H) (hp : θ[n]? = some p) (J0 : ItOk X.K CA J1 s1 θ H) (hm : compM s1 vs1 g1 t1 m C n ρ s1.xs L = .ok () L')
    {Nx : Hp → Prop} (q : ∀ θ' H', Ext X.K θ H θ' H' → Sim X.K CA θ' ρ L' σ H' → Nx H') :
    ∃ W1 : Nat → Nat → Hp → Prop, (∃ m, W1 0 m H) ∧ ∀ j k H, W1 j k H →
      (J1.stop j H ∧ Nx H) ∨ (J1.go j H ∧ ∃ Nx1 : Hp → Prop, (∀ H', Nx1 H' → ∃ k', k' < k ∧ W1 (j + 1) k' H') ∧ ∀ x H', J1.yld j H x H' → gB X scope tg1 x (wipe σ vs1) H' fun σ3 H5 => wipe σ3 vs1 = wipe σ vs1 ∧ tB' X scope ifs1 σ3 H5 fun b H6 =>
        if b = true then eB X scope elt σ3 H6 fun y H7 => ∃ acc, H7 p = some (.lst acc) ∧ acc.length < sizeLine ∧ Nx1 (upd H7 p (.lst (acc ++ [y]))) else Nx1 H6) := by
  have kp : ∀ {H' : Hp} {w : HO}, KF X.K H' → KF X.K (upd H' p w) := fun {H' w} kf b o ho => by
    rw [upd_ne (fun z => hk ⟨o, by rw [← z]; exact ho⟩)]
    exact kf b o ho
  refine ⟨fun i k H' => k = s1.xs.length - i ∧ i ≤ s1.xs.length ∧ ∃ θ' L2, Ext X.K θ H θ' H' ∧ Sim X.K CA θ' ρ L2 σ H' ∧ compM s1 vs1 g1 t1 m C n ρ (s1.xs.drop i) L2 = .ok () L',
    ⟨s1.xs.length, by simp, Nat.zero_le _, θ, L, S.refl, S, by simpa using hm⟩, ?_⟩
  rintro i k H' ⟨rfl, hi', θ', L2, x', S', hf⟩
  by_cases hlt : i < s1.xs.length
  · have hd : s1.xs.drop i = s1.xs[i] :: s1.xs.drop (i + 1) := List.drop_eq_getElem_cons hlt
    rw [hd] at hf
    unfold compM at hf
    split at hf
    · rename_i gok
      obtain ⟨ρ2, L3, e3, hf⟩ := Out.bind_ok hf
      obtain ⟨k, L4, e4, hf⟩ := Out.bind_ok hf
      refine .inr ⟨J0.go θ' L2 H' i x' S'.live gok hlt, fun H'' => ∃ θ'' L'', Ext X.K θ H θ'' H'' ∧ Sim X.K CA θ'' ρ L'' σ H'' ∧ compM s1 vs1 g1 t1 m C n ρ (s1.xs.drop (i + 1)) L'' = .ok () L', ?_, fun y H'' hy => ?_⟩
      · rintro H'' ⟨θ'', L'', x'', S'', hf'⟩
        exact ⟨_, by omega, rfl, hlt, θ'', L'', x'', S'', hf'⟩
      · obtain ⟨d, hd', xy, ly, ry⟩ := J0.yld θ' L2 H' i y H'' x' S'.live gok hy hlt
        have ed : d = s1.xs[i] := by
          rw [List.getElem?_eq_getElem hlt] at hd'
          exact (Option.some.inj hd').symm
        subst ed
        intro s0 H0 B cl fp pins sh u I ru
        have kf'' := kf_of I
        have Sy : Sim X.K CA θ' ρ L2 σ H'' := S'.go xy ly kf''
        refine (hg s0 H0 B cl fp (.d s1.xs[i]) _ L2 ρ2 L3 e3 θ' _ H'' y _ (Sy.wipe vs1) ry fun θ3 σ3 H3 x3 S3 o3 => ?_) pins sh u I ru
        have S3 : Sim X.K CA θ3 ρ2 L3 σ3 H3 := S3
        have x3 : Ext X.K θ' H'' θ3 H3 := x3
        refine ⟨off_wipe o3 his, fun s0 H0 B cl fp => ht s0 H0 B cl fp ρ2 L3 k L4 e4 θ3 σ3 H3 _ S3 fun θ4 H4 x4 S4 => ?_⟩
        have x4 : Ext X.K θ3 H3 θ4 H4 := x4
        have S4 : Sim X.K CA θ4 ρ2 L4 σ3 H4 := S4
        have y4 := xy.trans (x3.trans x4)
        cases k with
        | false =>
          rw [if_neg Bool.false_ne_true] at hf ⊢
          exact ⟨θ4, L4, x'.trans y4, S'.go y4 S4.live S4.kf, hf⟩
        | true =>
          rw [if_pos rfl] at hf ⊢
          obtain ⟨w, L5, e5, hf⟩ := Out.bind_ok hf
          intro s0 H0 B cl fp
          refine (he s0 H0 B cl fp).use e5 S4 fun v θ5 H5 x5 S5 r5 => ?_
          have x5 : Ext X.K θ4 H4 θ5 H5 := x5
          have S5 : Sim X.K CA θ5 ρ2 L5 σ3 H5 := S5
          have r5 : RV X.K θ5 H5 v (fz w) := r5
          have y5 := x'.trans (y4.trans x5)
          split at hf
          · rename_i L6 e6
            obtain ⟨acc', h1, h2, h3, h4⟩ := pushAcc_ok e6 S5.live (y5.get hp) r5
            exact ⟨acc', h1, h2, θ5, L6, y5.trans h3, S'.go (y4.trans (x5.trans h3)) h4 (kp S5.kf), hf⟩
          · cases hf
    · cases hf
  · have hie : i = s1.xs.length := by omega
    subst hie
    rw [List.drop_length] at hf
    unfold compM at hf
    split at hf
    · rename_i gok
      cases hf
      exact .inl ⟨J0.stop θ' _ H' x' S'.live gok, q θ' H' x' S'⟩
    · cases hf
theorem comp_never2 {it : It} {s : Src} {g : TG} {TT : L2.St → L2.St → Hp → Prop} {vs : List Nat} {σ : L2.St} {H1 : Hp} {θ1 : List Addr} {ρ : Rho} {L1 : List MO} {p : Addr} {o : Obj} {Q : VK} {tail : (Hp → Prop) → L2.St → Hp → Prop} (ho : X.K.lookup p = some o) (hp : H1 p = none) (S : Sim X.K CA θ1 ρ L1 σ H1) (J0 : ItOk X.K CA it s θ1 H1) (gok : s.ok L1)
    (hg : ∀ v H', ¬ KF X.K H' → ∀ Q, g v (wipe σ vs) H' Q) :
    ∃ W : Nat → Nat → Hp → Prop, (∃ m, W 0 m (upd H1 p (.lst []))) ∧ ∀ i m H, W i m H →
      (it.stop i H ∧ (KF X.K H → Q (.ref p) H)) ∨ (it.go i H ∧ ∃ Nx : Hp → Prop, (∀ H', Nx H' → ∃ m', m' < m ∧ W (i + 1) m' H') ∧ ∀ x H', it.yld i H x H' → g x (wipe σ vs) H' (tail Nx)) := by
  obtain ⟨e0, l0⟩ := S.live.laid (o := .lst []) hp
  refine ⟨fun i m H => i = 0 ∧ H = upd H1 p (.lst []), ⟨0, rfl, rfl⟩, ?_⟩
  rintro i m H ⟨rfl, rfl⟩
  have nk : ¬ KF X.K (upd H1 p (.lst [])) := fun kf => by
    have := kf p o ho
    rw [upd_same] at this; cases this
  by_cases hs : s.xs.length = 0
  · refine .inl ⟨?_, fun kf => (nk kf).elim⟩
    have := J0.stop θ1 L1 _ e0 l0 gok
    rwa [hs] at this
  · refine .inr ⟨J0.go θ1 L1 _ 0 e0 l0 gok (by omega), fun _ => False, fun _ z => z.elim, fun x H' hy => hg _ _ (fun kf => ?_) _⟩
    obtain ⟨d, _, xy, _, _⟩ := J0.yld θ1 L1 _ 0 x H' e0 l0 gok hy (by omega)
    obtain ⟨u, hu⟩ := xy.trk p _ upd_same
    have := kf p o ho
    rw [hu] at this; cases this
theorem comp2_core {it it1 : MI} {g g1 : MG} {t t1 : MT} {is is1 : List Nat} (hi : SI CA X C tg iter it) (hg : Blk X scope fun Y => SG CA Y C tg is g) (ht : Blk X scope fun Y => STs CA Y C ifs t) (hi1 : Blk X scope fun Y => SI CA Y C tg1 iter1 it1) (hg1 : Blk X scope fun Y => SG CA Y C tg1 is1 g1) (ht1 : Blk X scope fun Y => STs CA Y C ifs1 t1)
    (he : Blk X scope fun Y => SE CA Y C elt m) {vs vs1 : List Nat} (his : ∀ i ∈ is, i ∈ vs) (his1 : ∀ i ∈ is1, i ∈ vs1)
    {ρ : Rho} {L L' : List MO} {z : Val} (hm : mComp2 it vs g t it1 vs1 g1 t1 m C ρ L = .ok z L') {θ : List Addr} {σ : L2.St} {H : Hp} {Q : VK} (S : Sim X.K CA θ ρ L σ H) (q : PostE X.K CA θ H L' (fun v H' => KF X.K H' → Q v H') z) :
    tLc2 (semI X tg iter) (gB X scope tg) (tB' X scope ifs) (iB X scope tg1 iter1) (gB X scope tg1) (tB' X scope ifs1) (eB X scope elt) vs vs1 σ H (fun v H' => KF X.K H' → Q v H') := by
  obtain ⟨s, L1, e1, hm⟩ := Out.bind_ok hm
  obtain ⟨_, Lf, e2, hm⟩ := Out.bind_ok hm
  obtain ⟨acc, ha, hb, rfl, rfl⟩ := popAcc_ok hm
  refine hi ρ L s L1 e1 θ σ H _ S fun J θ1 H1 x1 S1 J0 gok1 p hp => ?_
  by_cases hk : ∃ o, X.K.lookup p = some o
  · obtain ⟨o, ho⟩ := hk
    refine comp_never2 (TT := fun _ _ _ => True) ho hp S1 J0 gok1 fun v H' nk Q s0 H0 B cl fp pins sh u I ru => ?_
    have kf := kf_of I
    exact (nk kf).elim
  · have kp : ∀ {H' : Hp} {w : HO}, KF X.K H' → KF X.K (upd H' p w) := fun {H' w} kf b o ho => by
      rw [upd_ne (fun z => hk ⟨o, by rw [← z]; exact ho⟩)]
      exact kf b o ho
    have N0 := S1.live.newAt hp (vs := []) (ds := []) .nil (kp S1.kf)
    have SD := S1.go N0.ext2 N0.more (kp S1.kf)
    have hpD : (θ1 ++ [p])[L1.length]? = some p := by rw [← S1.live.len]; simp
    refine ⟨fun i n H' => n = s.xs.length - i ∧ i ≤ s.xs.length ∧ ∃ θ' L2, Ext X.K (θ1 ++ [p]) (upd H1 p (.lst [])) θ' H' ∧ Sim X.K CA θ' ρ L2 σ H' ∧ compM2 s vs g t it1 vs1 g1 t1 m C L1.length ρ (s.xs.drop i) L2 = .ok () Lf,
      ⟨s.xs.length, by simp, Nat.zero_le _, θ1 ++ [p], L1 ++ [.lst []], SD.refl, SD, by simpa using e2⟩, ?_⟩
    rintro i n H' ⟨rfl, hi', θ', L2, x', S', hf⟩
    have x1' := N0.ext2.trans x'
    by_cases hlt : i < s.xs.length
    · have hd : s.xs.drop i = s.xs[i] :: s.xs.drop (i + 1) := List.drop_eq_getElem_cons hlt
      rw [hd] at hf
      unfold compM2 at hf
      split at hf
      · rename_i gok
        obtain ⟨ρ2, L3, e3, hf⟩ := Out.bind_ok hf
        obtain ⟨k, L4, e4, hf⟩ := Out.bind_ok hf
        refine .inr ⟨J0.go θ' L2 H' i x1' S'.live gok hlt, fun H'' => ∃ θ'' L'', Ext X.K (θ1 ++ [p]) (upd H1 p (.lst [])) θ'' H'' ∧ Sim X.K CA θ'' ρ L'' σ H'' ∧ compM2 s vs g t it1 vs1 g1 t1 m C L1.length ρ (s.xs.drop (i + 1)) L'' = .ok () Lf, ?_, fun y H'' hy => ?_⟩
        · rintro H'' ⟨θ'', L'', x'', S'', hf'⟩
          exact ⟨_, by omega, rfl, hlt, θ'', L'', x'', S'', hf'⟩
        · obtain ⟨d, hd', xy, ly, ry⟩ := J0.yld θ' L2 H' i y H'' x1' S'.live gok hy hlt
          have ed : d = s.xs[i] := by
            rw [List.getElem?_eq_getElem hlt] at hd'
            exact (Option.some.inj hd').symm
          subst ed
          intro s0 H0 B cl fp pins sh u I ru
          have kf'' := kf_of I
          have Sy : Sim X.K CA θ' ρ L2 σ H'' := S'.go xy ly kf''
          refine (hg s0 H0 B cl fp (.d s.xs[i]) _ L2 ρ2 L3 e3 θ' _ H'' y _ (Sy.wipe vs) ry fun θ3 σ3 H3 x3 S3 o3 => ?_) pins sh u I ru
          have S3 : Sim X.K CA θ3 ρ2 L3 σ3 H3 := S3
          have x3 : Ext X.K θ' H'' θ3 H3 := x3
          refine ⟨off_wipe o3 his, fun s0 H0 B cl fp => ht s0 H0 B cl fp ρ2 L3 k L4 e4 θ3 σ3 H3 _ S3 fun θ4 H4 x4 S4 => ?_⟩
          have x4 : Ext X.K θ3 H3 θ4 H4 := x4
          have S4 : Sim X.K CA θ4 ρ2 L4 σ3 H4 := S4
          have y4 := xy.trans (x3.trans x4)
          cases k with
          | false =>
            rw [if_neg Bool.false_ne_true] at hf ⊢
            exact ⟨θ4, L4, x'.trans y4, S'.go y4 S4.live S4.kf, hf⟩
          | true =>
            rw [if_pos rfl] at hf ⊢
            obtain ⟨s1, L5, e5, hf⟩ := Out.bind_ok hf
            obtain ⟨_, L6, e6, hf⟩ := Out.bind_ok hf
            intro s0 H0 B cl fp
            refine hi1 s0 H0 B cl fp ρ2 L4 s1 L5 e5 θ4 σ3 H4 _ S4 fun J1 θ5 H5 x5 S5 K0 _ => ?_
            have x5 : Ext X.K θ4 H4 θ5 H5 := x5
            have S5 : Sim X.K CA θ5 ρ2 L5 σ3 H5 := S5
            have K0 : ItOk X.K CA J1 s1 θ5 H5 := K0
            have y5 := x'.trans (y4.trans x5)
            exact inner_core hg1 ht1 he his1 hk S5 (y5.get hpD) K0 e6 fun θ6 H6 x6 S6 => ⟨θ6, L6, y5.trans x6, S'.go (y4.trans (x5.trans x6)) S6.live S6.kf, hf⟩
      · cases hf
    · have hie : i = s.xs.length := by omega
      subst hie
      rw [List.drop_length] at hf
      unfold compM2 at hf
      split at hf
      · rename_i gok
        cases hf
        refine .inl ⟨J0.stop θ' _ H' x1' S'.live gok, fun kf => ?_⟩
        have fr : H p = none := by
          cases e : H p with
          | none => rfl
          | some u =>
            obtain ⟨u', e'⟩ := x1.trk p u e
            rw [hp] at e'; cases e'
        refine q p _ H' (Live.newOf (x1.trans x1') S'.live (n := L1.length) (k := L1.length) ?_ (Nat.le_refl _) (x'.get hpD) ha fr hb) kf
        obtain ⟨t', et⟩ := x1.pre
        rw [← S1.live.len, et]
        simp
      · cases hf
theorem se_comp2 {it it1 : MI} {g g1 : MG} {t t1 : MT} {is is1 vs1 : List Nat} (hc : X.calm = true) (hN : X.N.Nodup) (ok : BlkOk X.N X.env.scope scope own) (hv : ∀ i ∈ vs1, i ∈ own.map (·.2)) (hi : SI CA X C tg iter it) (hg : Blk X scope fun Y => SG CA Y C tg is g) (ht : Blk X scope fun Y => STs CA Y C ifs t)
    (hi1 : Blk X scope fun Y => SI CA Y C tg1 iter1 it1) (hg1 : Blk X scope fun Y => SG CA Y C tg1 is1 g1) (ht1 : Blk X scope fun Y => STs CA Y C ifs1 t1) (he : Blk X scope fun Y => SE CA Y C elt m) (his : ∀ i ∈ is, i ∈ own.map (·.2)) (his1 : ∀ i ∈ is1, i ∈ vs1) (hs : noSetI iter = true) (hs1 : noSetI iter1 = true) :
    SE CA X C (.ListComp elt [⟨tg, iter, ifs, 0⟩, ⟨tg1, iter1, ifs1, 0⟩] scope pos) (mComp2 it (own.map (·.2)) g t it1 vs1 g1 t1 m) := fun ρ L z L' hm θ σ H Q S q =>
  semE_kf (ofE (pe_lc2 hc hN (sI tg iter) ok hv (g := gB X scope tg) (tt := tB' X scope ifs) (wi1 := iB X scope tg1 iter1) (g1 := gB X scope tg1) (tt1 := tB' X scope ifs1) (te := eB X scope elt)
    (fun s0 H0 B cl fp => ⟨fun pins s σ H v u Q I r h => h s0 H0 B cl fp pins s u I r⟩) (fun s0 H0 B cl fp => ⟨fun pins s σ H Q I h => h s0 H0 B cl fp pins s I⟩) (fun s0 H0 B cl fp => ⟨fun pins s σ H Q I h => h s0 H0 B cl fp pins s I⟩)
    (fun s0 H0 B cl fp => ⟨fun pins s σ H v u Q I r h => h s0 H0 B cl fp pins s u I r⟩) (fun s0 H0 B cl fp => ⟨fun pins s σ H Q I h => h s0 H0 B cl fp pins s I⟩) (fun s0 H0 B cl fp => ⟨fun pins s σ H Q I h => h s0 H0 B cl fp pins s I⟩) (folded_of hs) (fun _ => folded_of hs1))
    (comp2_core hi hg ht hi1 hg1 ht1 he his his1 hm S (q.imp fun v H' z _ => z)))
theorem ss_setComp2 {i : Nat} {y : Str} {py : Pos} {spos : Pos} {it it1 : MI} {g g1 : MG} {t t1 : MT} {is is1 vs1 : List Nat} {mset : M → MS} (hset : mset = mSet i ∨ mset = mSetL i) (hc : X.calm = true) (hN : X.N.Nodup) (hy : X.N[i]? = some y) (hyl : X.env.scope.names.lookup y = some .local)
    (hsw : swapsWith (.ListComp elt [⟨tg, iter, ifs, 0⟩, ⟨tg1, iter1, ifs1, 0⟩] scope pos) (some (.Name y py)) spos.line X.env = pure true) (ok : BlkOk X.N X.env.scope scope own) (hv : ∀ i ∈ vs1, i ∈ own.map (·.2)) (hi : SI CA X C tg iter it) (hg : Blk X scope fun Y => SG CA Y C tg is g) (ht : Blk X scope fun Y => STs CA Y C ifs t)
    (hi1 : Blk X scope fun Y => SI CA Y C tg1 iter1 it1) (hg1 : Blk X scope fun Y => SG CA Y C tg1 is1 g1) (ht1 : Blk X scope fun Y => STs CA Y C ifs1 t1) (he : Blk X scope fun Y => SE CA Y C elt m) (his : ∀ i ∈ is, i ∈ own.map (·.2)) (his1 : ∀ i ∈ is1, i ∈ vs1) (hs : noSetI iter = true) (hs1 : noSetI iter1 = true) :
    SS CA X C (.Assign [.Name y py] (.ListComp elt [⟨tg, iter, ifs, 0⟩, ⟨tg1, iter1, ifs1, 0⟩] scope pos) spos) (mset (mComp2 it (own.map (·.2)) g t it1 vs1 g1 t1 m)) := fun ρ L r L' hm θ σ H D S q => by
  have core : ∃ z L1, mComp2 it (own.map (·.2)) g t it1 vs1 g1 t1 m C ρ L = .ok z L1 ∧ PostE X.K CA θ H L1 (fun v H1 => KF X.K H1 → D.nx (σ.set i (some v)) H1) z := by
    rcases hset with rfl | rfl
    · obtain ⟨z, L1, e1, hm⟩ := Out.bind_ok hm
      cases hm
      exact ⟨z, _, e1, PostE.fz fun v θ' H' e l rv kf => q θ' _ H' e ((S.go e l kf).set rv)⟩
    · exact setL_core hm S q
  obtain ⟨z, L1, e1, hz⟩ := core
  refine semS_kf (ofS (ps_setLc2 hc hN hy hyl hsw (sI tg iter) ok hv (g := gB X scope tg) (tt := tB' X scope ifs) (wi1 := iB X scope tg1 iter1) (g1 := gB X scope tg1) (tt1 := tB' X scope ifs1) (te := eB X scope elt)
    (fun s0 H0 B cl fp => ⟨fun pins s σ H v u Q I r h => h s0 H0 B cl fp pins s u I r⟩) (fun s0 H0 B cl fp => ⟨fun pins s σ H Q I h => h s0 H0 B cl fp pins s I⟩) (fun s0 H0 B cl fp => ⟨fun pins s σ H Q I h => h s0 H0 B cl fp pins s I⟩)
    (fun s0 H0 B cl fp => ⟨fun pins s σ H v u Q I r h => h s0 H0 B cl fp pins s u I r⟩) (fun s0 H0 B cl fp => ⟨fun pins s σ H Q I h => h s0 H0 B cl fp pins s I⟩) (fun s0 H0 B cl fp => ⟨fun pins s σ H Q I h => h s0 H0 B cl fp pins s I⟩) (folded_of hs) (fun _ => folded_of hs1)) ?_)
  exact comp2_core hi hg ht hi1 hg1 ht1 he his his1 e1 S (Q := fun v H1 => D.nx (σ.set i (some v)) H1) hz
end
end Ev
set_option Elab.async false
set_option linter.all false
set_option maxRecDepth 100000
namespace Ev
open PySem PySem.Spec L2

/-! ## o.append(e) of a list of ours -/
def mApp (mo me : M) : M := fun C ρ L => (mo C ρ L).bind fun o L1 => (me C ρ L1).bind fun y L2 => match fz o, fz y with
  | .h n, .d d => match L1[n]?, L2[n]? with
    | some (.lst _), some (.lst xs) => if xs.length < sizeLine then .ok (.d .non) (L2.set n (.lst (xs ++ [d]))) else .no
    | _, _ => .no
  | _, _ => .no
section
variable {CA : Str → Addr} {X : Cx} {C : Calls} {o e : Expr} {mo me : M} {apos cpos : Pos}
theorem se_app (ho : SE CA X C o mo) (he : SE CA X C e me) (hbase : attributeBase o "append" X.env (eval o X.env) = eval o X.env) (hline : (apos.endLine == cpos.line) = true) (hs : noStar e = true) :
    SE CA X C (.Call (.Attribute o "append" apos) [e] [] cpos) (mApp mo me) := fun ρ L z L' hm θ σ H Q S q => by
  obtain ⟨ov, L1, e1, hm⟩ := Out.bind_ok hm
  obtain ⟨y, L2, e2, hm⟩ := Out.bind_ok hm
  split at hm
  · rename_i n d eo ey
    split at hm
    · rename_i xs0 xs hL1 hL2
      split at hm
      · rename_i hlen
        cases hm
        have hst := star_of (env := X.env) (es := []) hs
        refine ofE (pe_bm PySem.F.plainAttrs_list PySem.F.slot_list_append PySem.F.type_list_append mt_append (sE o) (pa_cons (sE e) pa_nil hst) hbase (by rw [hst]; rfl) hline hst rfl) (ho.use e1 S fun v θ1 H1 x1 S1 r1 => ?_)
        rw [eo] at r1
        obtain ⟨p, rfl, hp⟩ := r1
        obtain ⟨p', vs0, g1, g2, _⟩ := S1.live.lst hL1
        rw [hp] at g1; cases g1
        refine ⟨.inl ⟨rfl, vs0, (LsOk.of g2).sq⟩, he.use e2 S1 fun u θ2 H2 x2 S2 r2 => ?_⟩
        rw [ey] at r2
        have hp2 := x2.get hp
        obtain ⟨p', vs, h1, h2, h3⟩ := S2.live.lst hL2
        rw [hp2] at h1; cases h1
        refine ⟨p, vs, u, rfl, rfl, h2, by rw [h3.length]; exact hlen, ?_⟩
        obtain ⟨x3, l3⟩ := S2.live.write hp2 (o := .lst (vs ++ [u])) (m := .lst (xs ++ [d])) ⟨_, upd_same, RL.mono (S2.live.writeX hp2 _) (h3.append (.cons r2 .nil))⟩
        exact q .non θ2 _ ((x1.trans x2).trans x3) l3 .non
      · cases hm
    · cases hm
  · cases hm
end
end Ev
set_option Elab.async false
set_option linter.all false
set_option maxRecDepth 100000
namespace Ev
open PySem PySem.Spec L2

/-! ## a dict display that makes a dict of ours -/
def mDicH (ks : List Key) (ms : MA) : M := fun C ρ L => (ms C ρ (L ++ [.dct []])).bind fun xs L1 => match L1[L.length]?, allD xs with
  | some (.dct []), some ds => .ok (.h L.length) (L1.set L.length (.dct (ks.zip ds)))
  | _, _ => .no
def mDicH0 : M := fun _ _ L => .ok (.h L.length) (L ++ [.dct []])
section
variable {CA : Str → Addr} {X : Cx} {C : Calls} {pos : Pos}
/-- something new that is ours -/
theorem Live.newD {K : PySem.W.Frag} {θ : List Addr} {L : List MO} {H : Hp} {p : Addr} (h : Live K CA θ L H) (hp : H p = none) (kf : KF K (upd H p (.dK []))) : Ext K θ H (θ ++ [p]) (upd H p (.dK [])) ∧ Live K CA (θ ++ [p]) (L ++ [.dct []]) (upd H p (.dK [])) := by
  have np := h.free hp
  have kp : ∀ b o, K.lookup b = some o → b ∉ θ ++ [p] := fun b o hb z => by
    rcases List.mem_append.mp z with z | z
    · exact h.kk b o hb z
    · have hbp : b = p := by simpa using z
      have q := kf b o hb
      rw [hbp, upd_same] at q; cases q
  have e2 : Ext K θ H (θ ++ [p]) (upd H p (.dK [])) := by
    refine ⟨fun b u h1 h2 => ⟨fun z => ?_, by rw [upd_ne (ne_of_none h2 hp)]; exact h2⟩, ⟨[p], rfl⟩, fun b u h2 => ⟨u, by rw [upd_ne (ne_of_none h2 hp)]; exact h2⟩, kp⟩
    rcases List.mem_append.mp z with z | z
    · exact h1 z
    · have hb : b = p := by simpa using z
      rw [hb, hp] at h2; cases h2
  refine ⟨e2, by simp [h.len], ?_, fun n a m h1 h2 => ?_, kp⟩
  · rw [List.nodup_append]
    refine ⟨h.nd, by simp, fun x hx y hy z => ?_⟩
    have e1 : y = p := by simpa using hy
    exact np (e1 ▸ z ▸ hx)
  · by_cases hn : n < θ.length
    · rw [List.getElem?_append_left hn] at h1
      rw [List.getElem?_append_left (by rw [← h.len]; exact hn)] at h2
      refine (h.at_ n a m h1 h2).mono e2 ?_
      rw [upd_ne]
      rintro rfl
      exact np (List.mem_of_getElem? h1)
    · have hn' : n = θ.length := by
        have := (List.getElem?_eq_some_iff.mp h1).1
        simp at this; omega
      subst hn'
      have h1' : a = p := by simpa using h1.symm
      have h2' : m = .dct [] := by rw [h.len] at h2; simpa using h2.symm
      subst h1'; subst h2'
      exact ⟨[], upd_same, .nil⟩
theorem se_dicH0 : SE CA X C (.Dict [] [] pos) mDicH0 := fun ρ L z L' hm θ σ H Q S q => by
  cases hm
  refine semE_kf (ofE pe_dnewK fun p hp kf => ?_)
  obtain ⟨e, l'⟩ := S.live.newD hp kf
  exact q _ _ _ e l' ⟨p, rfl, by rw [← S.live.len]; simp⟩
inductive SPairsE (CA : Str → Addr) (X : Cx) (C : Calls) : List (Option Expr) → List Expr → List Key → MA → Prop
  | nil : SPairsE CA X C [] [] [] mNil
  | cons {k v : Expr} {ks : List (Option Expr)} {vs : List Expr} {key : Key} {keys : List Key} {m : M} {ms : MA} : PE X k (tC (kV key)) → SE CA X C v m → SPairsE CA X C ks vs keys ms → SPairsE CA X C (some k :: ks) (v :: vs) (key :: keys) (mCons m ms)
theorem SPairsE.use {ks : List (Option Expr)} {values : List Expr} {keys : List Key} {ms : MA} (h : SPairsE CA X C ks values keys ms) : ks.all (·.isSome) = true ∧ ks.length = values.length ∧ ks.length = keys.length ∧ ∃ trs, PPs X pos ks values trs ∧ (ks ≠ [] → ∀ (σ : L2.St) (H : Hp) (Q : List (V × V) → Hp → Prop), ¬ KF X.K H → tPairs trs σ H Q) ∧
    ∀ (ρ : Rho) (L : List MO) (xs : List Val) (L' : List MO), ms C ρ L = .ok xs L' → xs.length = keys.length ∧ ∀ (θ : List Addr) (σ : L2.St) (H : Hp) (Q : List (V × V) → Hp → Prop), Sim X.K CA θ ρ L σ H →
      (∀ vs θ' H', Ext X.K θ H θ' H' → Sim X.K CA θ' ρ L' σ H' → Paired (RV X.K θ' H') vs xs → Q ((keys.zip vs).map fun kv => (kV kv.1, kv.2)) H') → tPairs trs σ H Q := by
  induction h with
  | nil => exact ⟨rfl, rfl, rfl, [], pps_nil, fun z => (z rfl).elim, fun ρ L xs L' hm => by cases hm; exact ⟨rfl, fun θ σ H Q S q => q [] θ H S.refl S .nil⟩⟩
  | @cons k v ks vs key keys m ms hk hv _ ih =>
    obtain ⟨i1, i2, i3, trs, i4, _, i5⟩ := ih
    refine ⟨by rw [List.all_cons, i1]; rfl, by simp [i2], by simp [i3], (tC (kV key), semE X v) :: trs, pps_cons hk (sE v) i4, fun _ σ H Q nk => (fun pins s I => (nk (kf_of I)).elim : semE X v σ H _), fun ρ L xs L' hm => ?_⟩
    obtain ⟨x, L1, e1, hm⟩ := Out.bind_ok hm
    obtain ⟨ys, L2v, e2, hm⟩ := Out.bind_ok hm
    cases hm
    obtain ⟨j1, j2⟩ := i5 ρ L1 ys _ e2
    refine ⟨by simp [j1], fun θ σ H Q S q => ?_⟩
    refine hv.use e1 S fun w θ1 H1 x1 S1 r1 => ?_
    refine j2 θ1 σ H1 _ S1 fun us θ2 H2 x2 S2 r2 => ?_
    exact q (w :: us) θ2 H2 (x1.trans x2) S2 (.cons (RV.mono x2 r1) r2)
theorem RL.zipK {K : PySem.W.Frag} {θ : List Addr} {H : Hp} : ∀ (keys : List Key) {vs : List V} {ds : List D}, RL K θ H vs ds → RK K θ H (keys.zip vs) (keys.zip ds)
  | [], _, _, _ => by simp only [List.zip_nil_left]; exact .nil
  | k :: ks, _, _, .nil => .nil
  | k :: ks, _, _, .cons r t => .cons r (RL.zipK ks t)
theorem se_dicH {ks : List (Option Expr)} {values : List Expr} {keys : List Key} {ms : MA} (h : SPairsE CA X C ks values keys ms) (h0 : ks ≠ []) (h15 : ks.length ≤ 15) (hd : keys.Nodup) : SE CA X C (.Dict ks values pos) (mDicH keys ms) := fun ρ L z L' hm θ σ H Q S q => by
  obtain ⟨i1, i2, i3, trs, i4, i8, i5⟩ := h.use (pos := pos)
  obtain ⟨xs, L1, e1, hm⟩ := Out.bind_ok hm
  obtain ⟨i6, i7⟩ := i5 _ _ _ _ e1
  split at hm
  · rename_i ds hL hds
    cases hm
    refine ofE (pe_disp i4 i1 i2 h0 h15) fun p hp => ?_
    by_cases kf : KF X.K (upd H p (.dK []))
    · obtain ⟨e2, l2⟩ := S.live.newD hp kf
      refine i7 _ σ _ _ (S.go e2 l2 kf) fun vs θ3 H3 x3 S3 r3 => ?_
      have hpn : (θ ++ [p])[L.length]? = some p := by rw [← S.live.len]; simp
      have hp3 := x3.get hpn
      obtain ⟨us, q1, q2⟩ := S3.live.dct hp3 hL
      cases q2
      have rl := allD_ok r3 hds
      have hl := r3.length
      have hk : (keys.zip vs).map (·.1) = keys := by rw [List.map_fst_zip]; omega
      have hm3 : mergeK [] (keys.zip vs) = keys.zip vs := by rw [merge_new _ [] (by rw [hk]; simpa using hd), List.nil_append]
      refine ⟨q1, keys.zip vs, rfl, ?_, ?_⟩
      · rw [List.length_zip]; omega
      · rw [hm3]
        obtain ⟨x4, l4⟩ := S3.live.write hp3 (o := .dK (keys.zip vs)) (m := .dct (keys.zip ds)) ⟨_, upd_same, RK.mono (S3.live.writeX hp3 _) (RL.zipK keys rl)⟩
        exact q _ θ3 _ ((e2.trans x3).trans x4) l4 ⟨p, rfl, hp3⟩
    · exact i8 h0 σ _ _ kf
  · cases hm
end
end Ev
set_option Elab.async false
set_option linter.all false
set_option maxRecDepth 100000
namespace Ev
open PySem PySem.Spec L2

/-! ## objects of own classes -/
def putA (f : Str) (v : Val) : List (Str × Val) → List (Str × Val)
  | [] => [(f, v)]
  | (g, x) :: r => if g = f then (g, v) :: r else (g, x) :: putA f v r
def getA (cs : List Str) (o : Val) (f : Str) (L : List MO) : Option Val := match o with
  | .h n => match L[n]? with
    | some (.ins c fs) => if c ∈ cs then fs.lookup f else none
    | _ => none
  | _ => none
/-- o.f, for objects of the classes cs -/
def mFld (cs : List Str) (m : M) (f : Str) : M := fun C ρ L => (m C ρ L).bind fun x L1 => match getA cs (fz x) f L1 with
  | some v => .ok v L1
  | none => .no
/-- o.f = e -/
def setA (cs : List Str) (o : Val) (f : Str) (v : Val) (L : List MO) : Option (List MO) := match o with
  | .h n => match L[n]? with
    | some (.ins c fs) => if c ∈ cs ∧ fs.length < 900 then some (L.set n (.ins c (putA f v fs))) else none
    | _ => none
  | _ => none
def mSetA (cs : List Str) (mo : M) (f : Str) (m : M) : MS := fun C ρ L => (m C ρ L).bind fun y L1 => (mo C ρ L1).bind fun o L2 => match setA cs (fz o) f (fz y) L2 with
  | some L3 => .ok (.next, ρ) L3
  | none => .no
/-- o.f op= e -/
def clsAt (o : Val) (L : List MO) : Option Str := match o with
  | .h n => match L[n]? with
    | some (.ins c _) => some c
    | _ => none
  | _ => none
def mAugA (cs : List Str) (mo : M) (f : Str) (g : Val → Val → List MO → Option Val) (m : M) : MS := fun C ρ L => (mo C ρ L).bind fun o L1 => match getA cs (fz o) f L1 with
  | some x => (m C ρ L1).bind fun y L2 => match g x (fz y) L2 with
    | some z => if clsAt (fz o) L1 = clsAt (fz o) L2 then match setA cs (fz o) f (fz z) L2 with
      | some L3 => .ok (.next, ρ) L3
      | none => .no else .no
    | none => .no
  | none => .no
/-- o.m(..): the def by the object's class -/
def mMth (cs : List (Str × String)) (mo : M) (m : Str) (ms : MA) : M := fun C ρ L => (mo C ρ L).bind fun o L1 => match fz o with
  | .h n => match L1[n]? with
    | some (.ins c fs) => match cs.lookup c, fs.lookup m with
      | some i, none => (ms C ρ L1).bind fun xs L2 => C i (.h n :: xs) L2
      | _, _ => .no
    | _ => .no
  | _ => .no
/-- K(..) -/
def mMak (c : Str) (i : String) (ms : MA) : M := fun C ρ L => (ms C ρ L).bind fun xs L1 => (C i (.new [] :: .h L1.length :: xs) (L1 ++ [.ins c []])).bind fun v L2 => match v with
  | .d .non => .ok (.h L1.length) L2
  | _ => .no
section
variable {CA : Str → Addr} {X : Cx} {C : Calls} {o e : Expr} {mo me m : M} {pos apos cpos : Pos} {f : Str} {cs : List Str}
/-- what is known of the classes -/
def FldOk (CA : Str → Addr) (X : Cx) (cs : List Str) (f : Str) : Prop := ∀ c ∈ cs, Cls X.K (CA c) ∧ NoAttr X.K (CA c) f
theorem PostE.of {K : PySem.W.Frag} {θ : List Addr} {H : Hp} {L : List MO} {Q : VK} {x : Val} {v : V} (h : PostE K CA θ H L Q x) (l : Live K CA θ L H) (r : RV K θ H v x) : Q v H := by
  cases x with
  | d x => exact h.same l r
  | h n => exact h.rv l r
  | new xs => exact r.elim
theorem getA_ok {K : PySem.W.Frag} {θ : List Addr} {L : List MO} {H : Hp} {o x : Val} {ov : V} (h : getA cs o f L = some x) (l : Live K CA θ L H) (ro : RV K θ H ov o) :
    ∃ (n : Nat) (a : Addr) (c : Str) (dx : Addr) (fs : List (Str × Val)) (gs : List (Str × V)) (v : V), o = .h n ∧ θ[n]? = some a ∧ L[n]? = some (.ins c fs) ∧ ov = .ref a ∧ c ∈ cs ∧ H a = some (.ins (CA c) dx gs) ∧ gs.lookup f = some v ∧ RV K θ H v x := by
  unfold getA at h
  split at h
  · rename_i n
    split at h
    · rename_i c fs hL
      split at h
      · rename_i hc
        obtain ⟨p, rfl, hp⟩ := ro
        obtain ⟨dx, gs, g1, g2, g3⟩ := l.at_ _ _ _ hp hL
        obtain ⟨u, g4, g5⟩ := g3 f _ h
        exact ⟨n, p, c, dx, fs, gs, u, rfl, hp, hL, rfl, hc, g1, g4, g5⟩
      · cases h
    · cases h
  · cases h
theorem se_fld (he : SE CA X C e m) (hb : attributeBase e f X.env (eval e X.env) = eval e X.env) (hc : FldOk CA X cs f) : SE CA X C (.Attribute e f pos) (mFld cs m f) := fun ρ L z L' hm θ σ H Q S q => by
  obtain ⟨x, L1, e1, hm⟩ := Out.bind_ok hm
  split at hm
  · rename_i v hv
    cases hm
    refine ofE (pe_fld (sE e) hb) (he.use e1 S fun w θ1 H1 x1 S1 r1 => ?_)
    obtain ⟨n, p, c, dx, fs, gs, u, _, _, _, rfl, hcs, g1, g4, g5⟩ := getA_ok hv S1.live r1
    exact ⟨p, CA c, dx, gs, u, rfl, g1, (hc c hcs).1, (hc c hcs).2, g4, (q.later x1).of S1.live g5⟩
  · cases hm
theorem putA_keys (f : Str) (v : Val) (u : V) : ∀ {fs : List (Str × Val)} {gs : List (Str × V)}, gs.map (·.1) = fs.map (·.1) → (putF f u gs).map (·.1) = (putA f v fs).map (·.1)
  | [], [], _ => rfl
  | (g, x) :: fs, (g', x') :: gs, h => by
    simp only [List.map_cons, List.cons.injEq] at h
    obtain ⟨rfl, h⟩ := h
    unfold putF putA
    split
    · simp [h]
    · simp only [List.map_cons, putA_keys f v u h]
  | [], _ :: _, h => by cases h
  | _ :: _, [], h => by cases h
theorem lookup_putA (f g : Str) (v : Val) : ∀ fs : List (Str × Val), (putA f v fs).lookup g = if g = f then some v else fs.lookup g
  | [] => by
    unfold putA
    by_cases h : g = f
    · subst h; simp
    · simp [h, List.lookup]
      rw [show (g == f) = false from by simpa using h]
  | (k, x) :: r => by
    unfold putA
    by_cases hk : k = f
    · subst hk
      rw [if_pos rfl]
      by_cases h : g = k
      · subst h; simp
      · have : (g == k) = false := by simpa using h
        simp [List.lookup, this, h]
    · rw [if_neg hk]
      by_cases h : g = k
      · subst h
        simp [List.lookup, hk]
      · have : (g == k) = false := by simpa using h
        simp only [List.lookup, this]
        exact lookup_putA f g v r
theorem setA_ok {K : PySem.W.Frag} {θ : List Addr} {L L' : List MO} {H : Hp} {o x : Val} {ov v : V} (h : setA cs o f x L = some L') (l : Live K CA θ L H) (ro : RV K θ H ov o) (rx : RV K θ H v x) :
    ∃ (a : Addr) (c : Str) (dx : Addr) (gs : List (Str × V)), ov = .ref a ∧ clsAt o L = some c ∧ c ∈ cs ∧ H a = some (.ins (CA c) dx gs) ∧ gs.length < 1000 ∧ Ext K θ H θ (upd H a (.ins (CA c) dx (putF f v gs))) ∧ Live K CA θ L' (upd H a (.ins (CA c) dx (putF f v gs))) := by
  unfold setA at h
  split at h
  · rename_i n
    split at h
    · rename_i c fs hL
      split at h
      · rename_i hc
        cases h
        obtain ⟨p, rfl, hp⟩ := ro
        obtain ⟨dx, gs, g1, g2, g3⟩ := l.at_ _ _ _ hp hL
        have hlen : gs.length = fs.length := by have := congrArg List.length g2; simpa using this
        have wx := l.writeX hp (.ins (CA c) dx (putF f v gs))
        refine ⟨p, c, dx, gs, rfl, by simp only [clsAt, hL], hc.1, g1, by omega, ?_⟩
        refine l.write hp (m := .ins c (putA f x fs)) ⟨dx, _, upd_same, putA_keys f x v g2, fun g y hy => ?_⟩
        rw [lookup_putA] at hy
        rw [lookup_putF]
        split at hy
        · rename_i hg
          cases hy
          exact ⟨v, by rw [if_pos hg], RV.mono wx rx⟩
        · rename_i hg
          obtain ⟨u, q1, q2⟩ := g3 g y hy
          exact ⟨u, by rw [if_neg hg]; exact q1, RV.mono wx q2⟩
      · cases h
    · cases h
  · cases h
theorem ss_setA (ho : SE CA X C o mo) (he : SE CA X C e me) (hc : FldOk CA X cs f) {pos' : Pos} (hs : swapsWith e (some (.Attribute o f pos')) pos.line X.env = pure false) : SS CA X C (.Assign [.Attribute o f pos'] e pos) (mSetA cs mo f me) := fun ρ L r L' hm θ σ H D S q => by
  obtain ⟨y, L1, e1, hm⟩ := Out.bind_ok hm
  obtain ⟨ov, L2v, e2, hm⟩ := Out.bind_ok hm
  split at hm
  · rename_i L3 e3
    cases hm
    refine semS_kf (ofS (ps_fld (sE o) (sE e) hs) (he.use e1 S fun v θ1 H1 x1 S1 r1 => ho.use e2 S1 fun w θ2 H2 x2 S2 r2 => ?_))
    obtain ⟨a, c, dx, gs, rfl, _, hcs, g1, g2, x3, l3⟩ := setA_ok e3 S2.live r2 (RV.mono x2 r1)
    exact ⟨a, CA c, dx, gs, rfl, g1, (hc c hcs).1, (hc c hcs).2, g2, fun kf => q θ2 σ _ ((x1.trans x2).trans x3) (S2.go x3 l3 kf)⟩
  · cases hm
theorem ss_augA {op : Operator} {g : Val → Val → List MO → Option Val} {tpos : Pos} (hop : OpOk CA X (inplaceOp op) g) (ho : SE CA X C o mo) (he : SE CA X C e me) (hc : FldOk CA X cs f) : SS CA X C (.AugAssign (.Attribute o f tpos) op e pos) (mAugA cs mo f g me) := fun ρ L r L' hm θ σ H D S q => by
  obtain ⟨ov, L1, e1, hm⟩ := Out.bind_ok hm
  split at hm
  · rename_i x hx
    obtain ⟨y, L2v, e2, hm⟩ := Out.bind_ok hm
    split at hm
    · rename_i z hz
      split at hm
      · rename_i hcl
        split at hm
        · rename_i L3 e3
          cases hm
          have ip : InOp X op (rBin X (inplaceOp op)) := fun pins s σ H x y v u Q I rx ry h => h pins s σ v u I rx ry
          refine semS_kf (ofS (ps_fldaug (sE o) (sE e) ip) (ho.use e1 S fun w θ1 H1 x1 S1 r1 => ?_))
          obtain ⟨n, p, c, dx, fs, gs, u, eo, hp, hL, rfl, hcs, g1, g4, g5⟩ := getA_ok hx S1.live r1
          refine ⟨p, CA c, dx, gs, u, rfl, g1, (hc c hcs).1, (hc c hcs).2, g4, he.use e2 S1 fun v2 θ2 H2 x2 S2 r2 => ?_⟩
          refine rBin_kf fun _ => hop _ _ _ _ hz θ2 H2 u v2 _ S2.live S2.kf (RV.mono x2 g5) r2 (PostE.fz fun z2 θ3 H3 x3 l3 r3 kf => ?_)
          have r1' := RV.mono (x2.trans x3) r1
          obtain ⟨a, c', dx', gs', ea, hcl', hcs', g1', g2', x4, l4⟩ := setA_ok e3 l3 r1' r3
          cases ea
          have hcc : c' = c := by
            have h1 : clsAt (fz ov) L1 = some c := by rw [eo]; simp only [clsAt, hL]
            rw [hcl, hcl'] at h1
            exact Option.some.inj h1
          subst hcc
          exact ⟨dx', gs', g1', g2', fun kf2 => q θ3 σ _ (((x1.trans x2).trans x3).trans x4) (S2.go (x3.trans x4) l4 kf2)⟩
        · cases hm
      · cases hm
    · cases hm
  · cases hm
/-- a def of a class -/
structure MthRef (CA : Str → Addr) (k : Nat) (X : Cx) (C : Calls) (c : Str) (m : Str) (i : String) (n : Nat) : Prop where
  cls : Cls X.K (CA c)
  ex : ∃ (f : Addr) (fd : FuncData) (ps : List Str), Meth X.K (CA c) m f ∧ FnOk X.prog X.w X.K X.mg X.base CX0 k f fd ps (spOf X.K CA (C i) (n + 1)) ∧ Binds X.K fd ps []
theorem se_mth {nm : Str} {pl : Sem Bool} {k n : Nat} {cs : List (Str × String)} {es : List Expr} {ms : MA} (hcs : ∀ c i, cs.lookup c = some i → MthRef CA k X C c nm i n) (hr : Room k X.A) (ho : SE CA X C o mo) (h : SA CA X C (e :: es) ms) (hn : ∀ ρ L xs L', ms C ρ L = .ok xs L' → xs.length = n) (hs : (e :: es).all noStar = true)
    (ht : eval (.Call (.Attribute o nm apos) (e :: es) [] pos) X.env = (do
      let ov ← eval o X.env
      standAt apos.atName
      let (f, first) ← holding [ov] (getMethod ov nm pl)
      callWith pos f first (backTo pos (starEach (e :: es) X.env)) (backToKw pos (keywordEach [] X.env)))) : SE CA X C (.Call (.Attribute o nm apos) (e :: es) [] pos) (mMth cs mo nm ms) := fun ρ L z L' hm θ σ H Q S q => by
  have hs' := hs
  rw [List.all_cons, Bool.and_eq_true] at hs'
  obtain ⟨ov, L1, e1, hm⟩ := Out.bind_ok hm
  split at hm
  · rename_i nn ex
    split at hm
    · rename_i c fs hL
      split at hm
      · rename_i i hi hno
        obtain ⟨xs, L2v, e2, hm⟩ := Out.bind_ok hm
        obtain ⟨hcl, fa, fd, ps, h1, h2, h3⟩ := hcs c i hi
        refine ofE (pe_meth (sE o) hcl h1 h2 hr h3 .nil (E := E0) pass0 (sA _) (star_of hs'.1) (backTo_star es hs'.2) ht) (ho.use e1 S fun w θ1 H1 x1 S1 r1 => ?_)
        rw [ex] at r1
        obtain ⟨p, rfl, hp⟩ := r1
        obtain ⟨dx, gs, g1, g2, g3⟩ := S1.live.at_ _ _ _ hp hL
        refine ⟨p, dx, gs, rfl, g1, ?_, h.use e2 S1 fun vs θ2 H2 x2 S2 r2 => ?_⟩
        · cases hg : gs.lookup nm with
          | none => rfl
          | some u =>
            have k1 : nm ∈ gs.map (·.1) := List.mem_map.mpr ⟨(nm, u), mem_of_lookup hg, rfl⟩
            rw [g2] at k1
            obtain ⟨⟨a, b⟩, hab, ea⟩ := List.mem_map.mp k1
            have : (fs.lookup nm).isSome = true := by
              simp only at ea
              subst ea
              clear hno hL g2 g3 k1 hg
              induction fs with
              | nil => cases hab
              | cons y ys ih =>
                obtain ⟨y1, y2⟩ := y
                unfold List.lookup
                split
                · rfl
                · rename_i hne
                  rcases List.mem_cons.mp hab with h | h
                  · cases h; simp at hne
                  · exact ih h
            rw [hno] at this; cases this
        · rw [List.append_nil]
          refine ⟨by simp [Paired.length r2, hn _ _ _ _ e2], θ2, L2v, .h nn :: xs, z, L', hm, S2.live, .cons ⟨p, rfl, x2.get hp⟩ r2, q.later (x1.trans x2)⟩
      · cases hm
    · cases hm
  · cases hm
/-- something new that is ours: an object -/
theorem Live.newI {K : PySem.W.Frag} {θ : List Addr} {L : List MO} {H : Hp} {x dx : Addr} {c : Str} (h : Live K CA θ L H) (hx : H x = none) (hd : H dx = none) (hne : dx ≠ x) (kf : KF K (upd (upd H dx (.own x)) x (.ins (CA c) dx []))) :
    Ext K θ H (θ ++ [x]) (upd (upd H dx (.own x)) x (.ins (CA c) dx [])) ∧ Live K CA (θ ++ [x]) (L ++ [.ins c []]) (upd (upd H dx (.own x)) x (.ins (CA c) dx [])) := by
  have np := h.free hx
  have nd := h.free hd
  have kp : ∀ b o, K.lookup b = some o → b ∉ θ ++ [x] := fun b o hb z => by
    rcases List.mem_append.mp z with z | z
    · exact h.kk b o hb z
    · have hbp : b = x := by simpa using z
      have q := kf b o hb
      rw [hbp, upd_same] at q; cases q
  have same : ∀ b u, H b = some u → (upd (upd H dx (.own x)) x (.ins (CA c) dx [])) b = some u := fun b u h2 => by
    rw [upd_ne (ne_of_none h2 hx), upd_ne (ne_of_none h2 hd)]; exact h2
  have e2 : Ext K θ H (θ ++ [x]) (upd (upd H dx (.own x)) x (.ins (CA c) dx [])) := by
    refine ⟨fun b u h1 h2 => ⟨fun z => ?_, same b u h2⟩, ⟨[x], rfl⟩, fun b u h2 => ⟨u, same b u h2⟩, kp⟩
    rcases List.mem_append.mp z with z | z
    · exact h1 z
    · have hb : b = x := by simpa using z
      rw [hb, hx] at h2; cases h2
  refine ⟨e2, by simp [h.len], ?_, fun n a m h1 h2 => ?_, kp⟩
  · rw [List.nodup_append]
    refine ⟨h.nd, by simp, fun y hy z hz e => ?_⟩
    have e1 : z = x := by simpa using hz
    exact np (e1 ▸ e ▸ hy)
  · by_cases hn : n < θ.length
    · rw [List.getElem?_append_left hn] at h1
      rw [List.getElem?_append_left (by rw [← h.len]; exact hn)] at h2
      refine (h.at_ n a m h1 h2).mono e2 ?_
      rw [upd_ne, upd_ne]
      · rintro rfl
        exact nd (List.mem_of_getElem? h1)
      · rintro rfl
        exact np (List.mem_of_getElem? h1)
    · have hn' : n = θ.length := by
        have := (List.getElem?_eq_some_iff.mp h1).1
        simp at this; omega
      subst hn'
      have h1' : a = x := by simpa using h1.symm
      have h2' : m = .ins c [] := by rw [h.len] at h2; simpa using h2.symm
      subst h1'; subst h2'
      exact ⟨dx, [], upd_same, rfl, fun f y hy => by cases hy⟩
/-- a class that makes objects -/
structure MakRef (CA : Str → Addr) (k : Nat) (X : Cx) (C : Calls) (x : Str) (c : Str) (i : String) (n : Nat) : Prop where
  mg : X.mg x = some (.ref (CA c))
  ex : (∀ xs L z L', C i (.new [] :: xs) L ≠ .ok z L') ∨ ∃ (k' : Nat) (f : Addr) (fd : FuncData) (ps : List Str), k = k' + 1 ∧ Mk X.K (CA c) f ∧ FnOk X.prog X.w X.K X.mg X.base CX0 k' f fd ps (spOf X.K CA (fun xs => C i (.new [] :: xs)) (n + 1)) ∧ Binds X.K fd ps [] ∧ n + 1 = ps.length
theorem FnOk.kf {P : Program} {w : World} {K : PySem.W.Frag} {mg : Str → Option Value} {base : Heap} {k n : Nat} {f : Addr} {fd : FuncData} {ps : List Str} {sp : Sp} (F : FnOk P w K mg base CX0 k f fd ps sp) (hl : n = ps.length) :
    FnOk P w K mg base CX0 k f fd ps (fun vs H Q E => vs.length = n ∧ (KF K H → sp vs H Q E)) :=
  ⟨fun vs H Q E q => q.1.trans hl, fun A outer s H args us vs Q E hr he hb hv hs => F.run A outer s H args us vs Q E hr he hb hv (hs.2 fun b o e => (he.bs b o (he.mod.kin b o e)).2)⟩
theorem se_mak {x c : Str} {i : String} {n k : Nat} {es : List Expr} {ms : MA} {p : Pos} (F : MakRef CA k X C x c i n) (hr : Room k X.A) (hg : Gl X x) (h : SA CA X C (e :: es) ms) (hn : ∀ ρ L xs L', ms C ρ L = .ok xs L' → xs.length = n) (hdb : (x == ("__debug__" : Str)) = false)
    (hs : (e :: es).all noStar = true) : SE CA X C (.Call (.Name x p) (e :: es) [] pos) (mMak c i ms) := fun ρ L z L' hm' θ σ H Q S q => by
  have hs' := hs
  rw [List.all_cons, Bool.and_eq_true] at hs'
  obtain ⟨xs, L1, e1, hm⟩ := Out.bind_ok hm'
  obtain ⟨v, L2v, e2, hm⟩ := Out.bind_ok hm
  obtain ⟨hmg, hno | ⟨k', fa, fd, ps, rfl, h1, h2, h3, hps⟩⟩ := F
  · exact (hno _ _ _ _ e2).elim
  split at hm
  · cases hm
    have hxs := hn _ _ _ _ e1
    · refine ofE (pe_make h1 (FnOk.kf (n := n + 1) h2 hps) hr hg hmg h3 .nil (E := E0) pass0 (sA _) hdb (star_of hs'.1) (backTo_star es hs'.2)) (h.use e1 S fun vs θ1 H1 x1 S1 r1 => ?_)
      intro y dy hy hdy hne
      rw [List.append_nil]
      refine ⟨by simp [Paired.length r1, hxs], fun kf => ?_⟩
      obtain ⟨e3, l3⟩ := S1.live.newI (c := c) hy hdy hne kf
      have hyn : (θ1 ++ [y])[L1.length]? = some y := by rw [← S1.live.len]; simp
      refine ⟨by simp [Paired.length r1, hxs], θ1 ++ [y], L1 ++ [.ins c []], .h L1.length :: xs, .d .non, _, e2, l3, .cons ⟨y, rfl, hyn⟩ ?_, ?_⟩
      · have pm : ∀ {vs : List V} {xs : List Val}, Paired (RV X.K θ1 H1) vs xs → Paired (RV X.K (θ1 ++ [y]) (upd (upd H1 dy (.own y)) y (.ins (CA c) dy []))) vs xs := fun {vs xs} r => by
          induction r with
          | nil => exact .nil
          | cons r t ih => exact .cons (RV.mono e3 r) ih
        exact pm r1
      · intro w θ4 H4 e4 l4 r4
        cases r4
        exact ⟨rfl, q (.ref y) θ4 H4 ((x1.trans e3).trans e4) l4 ⟨y, rfl, e4.get hyn⟩⟩
  · cases hm
end
end Ev
set_option Elab.async false
set_option linter.all false
set_option maxRecDepth 100000
namespace Ev
open PySem PySem.Spec L2

/-! ## raise, try -/
def mRaise (c : Str) : MS := fun _ _ L => .ex ⟨c, [], L⟩
/-- return f(..), where f may raise -/
def mRetX (m : M) : MS := fun C ρ L => (m C ρ L).bindX fun x L1 => .ok (.ret x, ρ) L1
/-- try: .. except c: return d -/
def mTry (c : Str) (d : D) (mb : MS) : MS := fun C ρ L => match mb C ρ L with
  | .ok r L1 => .ok r L1
  | .ex e => if e.cls = c then .ok (.ret (.d d), ρ) e.L else .no
  | .no => .no
def PostX (K : PySem.W.Frag) (CA : Str → Addr) (θ : List Addr) (H : Hp) (e : Exc) (W : WX) : Prop := ∀ θ' σ' H' d, Ext K θ H θ' H' → Live K CA θ' e.L H' → W (.ref (CA e.cls)) d σ' H'
theorem PostX.later {K : PySem.W.Frag} {CA : Str → Addr} {θ θ1 : List Addr} {H H1 : Hp} {e : Exc} {W : WX} (x : Ext K θ H θ1 H1) (h : PostX K CA θ H e W) : PostX K CA θ1 H1 e W := fun θ' σ' H' d x' l => h θ' σ' H' d (x.trans x') l
def SX (CA : Str → Addr) (X : Cx) (C : Calls) (st : Stmt) (m : MS) : Prop := ∀ (W : WX), Takes X W → PassesOwn (model X.prog X.w) X.A X.env X.xe → ∀ (ρ : Rho) (L : List MO) (e : Exc), m C ρ L = .ex e →
  ∀ (θ : List Addr) (σ : L2.St) (H : Hp) (D : Ends), Sim X.K CA θ ρ L σ H → PostX X.K CA θ H e W → semS X st D σ H
def SXs (CA : Str → Addr) (X : Cx) (C : Calls) (st : List Stmt) (m : MS) : Prop := ∀ (W : WX), Takes X W → PassesOwn (model X.prog X.w) X.A X.env X.xe → ∀ (ρ : Rho) (L : List MO) (e : Exc), m C ρ L = .ex e →
  ∀ (θ : List Addr) (σ : L2.St) (H : Hp) (D : Ends), Sim X.K CA θ ρ L σ H → PostX X.K CA θ H e W → semSs X st D σ H
def SEX (CA : Str → Addr) (X : Cx) (C : Calls) (e : Expr) (m : M) : Prop := ∀ (W : WX), Takes X W → ∀ (ρ : Rho) (L : List MO) (x : Exc), m C ρ L = .ex x →
  ∀ (θ : List Addr) (σ : L2.St) (H : Hp) (Q : VK), Sim X.K CA θ ρ L σ H → PostX X.K CA θ H x W → semE X e σ H Q
/-- what an own exception class must be -/
structure ExcRef (CA : Str → Addr) (X : Cx) (c : Str) : Prop where
  mg : X.mg c = some (.ref (CA c))
  kp : PySem.W.keepIn X.K (.ref (CA c)) = true
  ex : PySem.W.excIn X.K (CA c) [.type "ValueError", .type "Exception", .type "BaseException", .type "object"] "ValueError.__new__" = true
  sb : PySem.W.subIn X.K (.ref (CA c)) (.type "BaseException") = some true
  ty : PySem.W.typeIn X.K (.ref (CA c)) = some (.type "type")
  cl : PySem.W.isClsIn X.K (CA c) = true
  se : PySem.W.subIn X.K (.ref (CA c)) (.ref (CA c)) = some true
section
variable {CA : Str → Addr} {X : Cx} {C : Calls} {e : Expr} {m : M} {ms mr : MS} {st : Stmt} {rest body : List Stmt} {pos : Pos}
theorem exm_of {K : PySem.W.Frag} {S : Addr} (h1 : PySem.W.subIn K (.ref S) (.type "BaseException") = some true) (h2 : PySem.W.isClsIn K S = true) (h3 : PySem.W.typeIn K (.ref S) = some (.type "type")) (h4 : PySem.W.subIn K (.ref S) (.ref S) = some true) :
    PySem.W.exmOne K (.ref S) (.ref S) = some true := by
  have e1 : (PySem.W.subIn K (.ref S) (.type "BaseException") == some true) = true := by rw [h1] <;> rfl
  have e2 : ((PySem.W.clsIn K S).isSome && PySem.W.typeIn K (.ref S) == some (.type "type")) = true := by
    rw [h3]
    simpa [PySem.W.isClsIn] using h2
  show (if (PySem.W.subIn K (.ref S) (.type "BaseException") == some true) = true then (if ((PySem.W.clsIn K S).isSome && PySem.W.typeIn K (.ref S) == some (.type "type")) = true then PySem.W.subIn K (.ref S) (.ref S) else none) else none) = some true
  rw [if_pos e1, if_pos e2]
  exact h4
/-- what holds where nothing may be raised holds anywhere -/
theorem SE.un (h : SE CA X.nox C e m) : SE CA X C e m := fun ρ L z L' hm θ σ H Q S q => ofE (PE.nox (sE (X := X.nox) e)) (h ρ L z L' hm θ σ H Q S q)
theorem SSs.un (h : SSs CA X.nox C rest ms) : SSs CA X C rest ms := fun ρ L r L' hm θ σ H D S q => ofSs (PSs.nox (sSs (X := X.nox) rest)) (h ρ L r L' hm θ σ H D S q)
theorem semS_un {D : Ends} {σ : L2.St} {H : Hp} (h : semS X.nox st D σ H) : semS X st D σ H := fun pins s I => by
  refine wpAny_mono (h pins s (I.wish _)) (fun f s1 hs => ?_) fun _ _ z => False.elim z
  cases f with
  | next => obtain ⟨σ1, H1, I1, q⟩ := hs; exact ⟨σ1, H1, I1.unwish, q⟩
  | brk => obtain ⟨σ1, H1, I1, q⟩ := hs; exact ⟨σ1, H1, I1.unwish, q⟩
  | cont => obtain ⟨σ1, H1, I1, q⟩ := hs; exact ⟨σ1, H1, I1.unwish, q⟩
  | ret u => obtain ⟨v, σ1, H1, I1, r, q⟩ := hs; exact ⟨v, σ1, H1, I1.unwish, r, q⟩
theorem SS.un (h : SS CA X.nox C st ms) : SS CA X C st ms := fun ρ L r L' hm θ σ H D S q => semS_un (h ρ L r L' hm θ σ H D S q)
theorem STt.un {t : MT} (h : STt CA X.nox C e t) : STt CA X C e t := fun ρ L b L' hm θ σ H Q S q => ofT (PT.nox (sT (X := X.nox) e)) (h ρ L b L' hm θ σ H Q S q)
theorem SXs.nil : SXs CA X C [] mEmpty := fun W tk po ρ L e hm => by cases hm
theorem SXs.cons (h0 : SS CA X C st ms) (h1 : SX CA X C st ms) (h2 : SXs CA X C rest mr) : SXs CA X C (st :: rest) (mSeq ms mr) := fun W tk po ρ L e hm θ σ H D S q => by
  rcases Out.bindX_ex hm with e1 | ⟨⟨f, ρ1⟩, L1, e1, hm⟩
  · exact ofSs (pss_cons (sS st) (sSs rest)) (h1 W tk po ρ L e e1 θ σ H _ S q)
  · cases f with
    | next =>
      refine ofSs (pss_cons (sS st) (sSs rest)) (h0 ρ L (.next, ρ1) L1 e1 θ σ H _ S ?_)
      exact fun θ' σ' H' x S' => h2 W tk po ρ1 L1 e hm θ' σ' H' D S' (q.later x)
    | brk => cases hm
    | cont => cases hm
    | ret y => cases hm
theorem SXs.one (h1 : SX CA X C st ms) : SXs CA X C [st] ms := fun W tk po ρ L e hm θ σ H D S q => ofSs (pss_one (sS st)) (h1 W tk po ρ L e hm θ σ H D S q)
theorem sx_if {c : Expr} {sts : List Stmt} {t : MT} (h : STt CA X C c t) (h1 : SXs CA X C sts ms) (h2 : SXs CA X C rest mr) : SX CA X C (.If c sts rest pos) (mIfS t ms mr) := fun W tk po ρ L e hm θ σ H D S q => by
  have hm : (t C ρ L).bind (fun k L1 => if k = true then ms C ρ L1 else mr C ρ L1) = .ex e := hm
  cases e1 : t C ρ L with
  | no => rw [e1] at hm; cases hm
  | ex y => rw [e1] at hm; cases hm
  | ok k L1 =>
    rw [e1] at hm
    refine ofS (ps_if (sT c) (sSs sts) (sSs rest)) (h.use e1 S fun θ1 H1 x1 S1 => ?_)
    cases k with
    | true => exact h1 W tk po ρ L1 e hm θ1 σ H1 D S1 (q.later x1)
    | false => exact h2 W tk po ρ L1 e hm θ1 σ H1 D S1 (q.later x1)
theorem ss_retX (h : SE CA X C e m) : SS CA X C (.Return (some e) pos) (mRetX m) := fun ρ L r L' hm θ σ H D S q => by
  obtain ⟨x, L1, e1, hm⟩ := Out.bindX_ok hm
  cases hm
  exact ofS (ps_ret (sE e)) (h ρ L x _ e1 θ σ H D.rt S q)
theorem sx_retX (h : SEX CA X C e m) : SX CA X C (.Return (some e) pos) (mRetX m) := fun W tk po ρ L x hm θ σ H D S q => by
  rcases Out.bindX_ex hm with e1 | ⟨y, L1, e1, hm⟩
  · exact ofS (ps_ret (sE e)) (h W tk ρ L x e1 θ σ H _ S q)
  · cases hm
theorem sx_raise {c x : Str} {j : Nat} {p p2 p3 : Pos} (F : ExcRef CA X c) (hc : X.calm = true) (hg : Gl X c) (hdb : (c == ("__debug__" : Str)) = false) : SX CA X C (.Raise (some (.Call (.Name c p) [.Constant (.str x) j p2] [] p3)) none pos) (mRaise c) := fun W tk po ρ L e hm θ σ H D S q => by
  cases hm
  exact ofS (ps_raise hc tk (pmk_own PySem.F.excBase_ValueError F.ex F.mg F.kp (raises_own F.sb F.ty) hg hdb)) (q θ σ H none S.refl S.live)
/-- a def's exception -/
def spEx (K : PySem.W.Frag) (CA : Str → Addr) (g : List Val → List MO → Out Val) (n : Nat) : Sp := fun vs H _ E => vs.length = n ∧ ∃ (θ : List Addr) (L : List MO) (xs : List Val) (e : Exc),
  g xs L = .ex e ∧ Live K CA θ L H ∧ Paired (RV K θ H) vs xs ∧ ∀ θ' H' d, Ext K θ H θ' H' → Live K CA θ' e.L H' → E (.ref (CA e.cls)) d H'
structure ExRef (CA : Str → Addr) (k : Nat) (X : Cx) (C : Calls) (x : Str) (i : String) (n : Nat) : Prop where
  ex : ∃ (f : Addr) (fd : FuncData) (ps : List Str), X.mg x = some (.ref f) ∧ PySem.W.keepIn X.K (.ref f) = true ∧ FnOk X.prog X.w X.K X.mg X.base (L2.CX X.prog X.w) k f fd ps (spEx X.K CA (C i) n) ∧ Binds X.K fd ps []
theorem sx_call {x : Str} {i : String} {n k : Nat} {es : List Expr} {ma : MA} {p : Pos} (F : ExRef CA k X C x i n) (hr : Room k X.A) (hg : Gl X x) (h : SA CA X C (e :: es) ma) (hn : ∀ ρ L xs L', ma C ρ L = .ok xs L' → xs.length = n) (hdb : (x == ("__debug__" : Str)) = false)
    (hs : (e :: es).all noStar = true) : SEX CA X C (.Call (.Name x p) (e :: es) [] pos) (mCall i ma) := fun W tk ρ L z hm' θ σ H Q S q => by
  have hs' := hs
  rw [List.all_cons, Bool.and_eq_true] at hs'
  obtain ⟨f, fd, ps, h1, h2, h3, h4⟩ := F.ex
  have hm : (ma C ρ L).bind (fun xs L1 => C i xs L1) = .ex z := hm'
  cases e1 : ma C ρ L with
  | no => rw [e1] at hm; cases hm
  | ex y => rw [e1] at hm; cases hm
  | ok xs L1 =>
    rw [e1] at hm
    refine ofE (pe_call h3 hr hg h1 h2 h4 .nil (E := fun cls d H' => ∀ σ', W cls d σ' H') (passes_call tk fun cls d σ H h => h σ) (sA _) hdb (star_of hs'.1) (backTo_star es hs'.2)) (h.use e1 S fun vs θ1 H1 x1 S1 r1 => ?_)
    rw [List.append_nil]
    exact ⟨(Paired.length r1).trans (hn _ _ _ _ e1), θ1, L1, xs, z, hm, S1.live, r1, fun θ' H' d x2 l2 σ' => q θ' σ' H' d (x1.trans x2) l2⟩
/-- try: .. except c: return d -/
theorem ss_try {c : Str} {d : D} {k : Const} {v : V} {mb : MS} {j : Nat} {np p1 p2 p3 : Pos} (F : ExcRef CA X c) (hs : X.stack = X.env :: X.outer) (hf : X.env.frame = some X.env.locals) (hg : Gl X c) (hdb : (c == ("__debug__" : Str)) = false)
    (hk : ∀ X', PE X' (.Constant k j p2) (tC v)) (hv : ∀ K θ H, R K θ H v d)
    (h1 : ∀ pn xe, SSs CA (X.tr pn xe) C body mb) (h2 : ∀ pn xe, SXs CA (X.tr pn xe) C body mb) :
    SS CA X C (.Try body [.ExceptHandler (some (.Name c np)) none [.Return (some (.Constant k j p2)) p3] p1] [] [] pos) (mTry c d mb) := fun ρ L r L' hm θ σ H D S q => by
  have hm : (match mb C ρ L with
    | .ok r L1 => .ok r L1
    | .ex e => if e.cls = c then .ok (.ret (.d d), ρ) e.L else .no
    | .no => .no : Out (Fl × Rho)) = .ok r L' := hm
  refine ofS (ps_try_only (tb := fun W D σ H => ∀ (pn : List (Addr × Obj)) (xe : Value → Shared → Prop), Takes (X.tr pn xe) W → PassesOwn (model X.prog X.w) X.A X.env xe → semSs (X.tr pn xe) body D σ H) (ts := fun _ _ _ D σ H => D.rt v H) (Wout := fun _ _ _ _ => False) hs hf ⟨hg, hdb, .inl F.mg⟩ takes0
    (fun W pn xe tk po => ⟨fun pins s σ H D I h => h pn xe tk po pins s I⟩) (fun a oe cls d pn _ _ => pss_one (ps_ret (hk _)))) ?_
  intro pn xe tk po
  cases e1 : mb C ρ L with
  | no => rw [e1] at hm; cases hm
  | ok r1 L1 =>
    rw [e1] at hm
    cases hm
    exact h1 pn xe ρ L r L' e1 θ σ H D S q
  | ex e =>
    rw [e1] at hm
    by_cases hc : e.cls = c
    · simp only [if_pos hc] at hm
      cases hm
      refine h2 pn xe _ tk po ρ L e e1 θ σ H D S fun θ' σ' H' dd x' l' => ?_
      rw [hc]
      exact ⟨true, exm_of F.sb F.cl F.ty F.se, fun _ a _ => q v θ' H' x' l' (hv _ _ _), fun z => by cases z⟩
    · simp only [if_neg hc] at hm
      cases hm
/-! ## for, where its suite may raise -/
theorem semI_un {tg it : Expr} {σ : L2.St} {H : Hp} {Q : It → Hp → Prop} (h : semI X.nox tg it σ H Q) : semI X tg it σ H Q := fun pins s I => by
  refine wpAny_mono (h pins s (I.wish _)) (fun v s1 hs => ?_) fun _ _ z => False.elim z
  refine wpAny_mono hs (fun u s2 hs2 => ?_) fun _ _ z => False.elim z
  obtain ⟨a, fp, tn, J, H', e, I', T, t0, f, q⟩ := hs2
  exact ⟨a, fp, tn, J, H', e, I'.unwish, T, t0, f, q⟩
theorem SI.un {tg it : Expr} {m : MI} (h : SI CA X.nox C tg it m) : SI CA X C tg it m := fun ρ L s L' hm θ σ H Q S q => semI_un (h ρ L s L' hm θ σ H Q S q)
theorem semG_un {tg : Expr} {v : V} {σ : L2.St} {H : Hp} {Q : L2.St → Hp → Prop} (h : semG X.nox tg v σ H Q) : semG X tg v σ H Q := fun pins s u I r => by
  refine wpAny_mono (h pins s u (I.wish _) r) (fun _ s1 hs => ?_) fun _ _ z => False.elim z
  obtain ⟨σ1, H1, I1, q⟩ := hs
  exact ⟨σ1, H1, I1.unwish, q⟩
theorem SG.un {tg : Expr} {is : List Nat} {g : MG} (h : SG CA X.nox C tg is g) : SG CA X C tg is g := fun x ρ L ρ' L' hm θ σ H v Q S r q => semG_un (h x ρ L ρ' L' hm θ σ H v Q S r q)
theorem sx_for {tg iter : Expr} {it : MI} {g : MG} {is : List Nat} {mb : MS} (hc : X.calm = true) (hi : SI CA X C tg iter it) (hg : SG CA X C tg is g) (hb : SSs CA X C body mb) (hbx : SXs CA X C body mb) (hs : noSetI iter = true) :
    SX CA X C (.For tg iter body [] pos) (mFor it g mb) := fun W tk po ρ L e hm θ σ H D S q => by
  obtain ⟨s, L1, e1, hm⟩ : ∃ s L1, it C ρ L = .ok s L1 ∧ forM s (fun x ρ L => (g C (.d x) ρ L).bind fun ρ1 L2 => mb C ρ1 L2) s.xs ρ L1 = .ex e := by
    have hm : (it C ρ L).bind (fun s L1 => forM s (fun x ρ L => (g C (.d x) ρ L).bind fun ρ1 L2 => mb C ρ1 L2) s.xs ρ L1) = .ex e := hm
    cases h : it C ρ L with
    | no => rw [h] at hm; cases hm
    | ex y => rw [h] at hm; cases hm
    | ok s L1 => rw [h] at hm; exact ⟨s, L1, rfl, hm⟩
  refine semS_kf (ofS (ps_for po hc (sI tg iter) (sG tg) (sSs body) (folded_of hs)) (hi ρ L s L1 e1 θ σ H _ S fun J θ0 H0 x0 S0 J0 _ => ?_))
  refine ⟨fun i n σ' H' => n = s.xs.length - i ∧ i ≤ s.xs.length ∧ ∃ θ' ρ' L2, Ext X.K θ0 H0 θ' H' ∧ (KF X.K H' → Sim X.K CA θ' ρ' L2 σ' H') ∧ Live X.K CA θ' L2 H' ∧ forM s (fun x ρ L => (g C (.d x) ρ L).bind fun ρ1 L2 => mb C ρ1 L2) (s.xs.drop i) ρ' L2 = .ex e,
    ⟨s.xs.length, by simp, Nat.zero_le _, θ0, ρ, L1, S0.refl, fun _ => S0, S0.live, by simpa using hm⟩, ?_⟩
  rintro i n σ' H' ⟨rfl, hi', θ', ρ', L2, x', S', l', hf⟩
  by_cases hlt : i < s.xs.length
  · have hd : s.xs.drop i = s.xs[i] :: s.xs.drop (i + 1) := List.drop_eq_getElem_cons hlt
    rw [hd] at hf
    unfold forM at hf
    split at hf
    · rename_i gok
      refine .inr ⟨J0.go θ' L2 H' i x' l' gok hlt, fun σ'' H'' => ∃ θ'' ρ'' L'', Ext X.K θ0 H0 θ'' H'' ∧ (KF X.K H'' → Sim X.K CA θ'' ρ'' L'' σ'' H'') ∧ Live X.K CA θ'' L'' H'' ∧ forM s (fun x ρ L => (g C (.d x) ρ L).bind fun ρ1 L2 => mb C ρ1 L2) (s.xs.drop (i + 1)) ρ'' L'' = .ex e, ?_, fun y H'' hy => ?_⟩
      · rintro σ'' H'' ⟨θ'', ρ'', L'', x'', S'', l'', hf'⟩
        exact ⟨_, by omega, rfl, hlt, θ'', ρ'', L'', x'', S'', l'', hf'⟩
      · obtain ⟨d, hd', xy, ly, ry⟩ := J0.yld θ' L2 H' i y H'' x' l' gok hy hlt
        have ed : d = s.xs[i] := by
          rw [List.getElem?_eq_getElem hlt] at hd'
          exact (Option.some.inj hd').symm
        subst ed
        intro pins s1 u I ru
        have kf'' := kf_of I
        have kf' : KF X.K H' := fun b o ho => by
          cases e : H' b with
          | none => rfl
          | some u =>
            obtain ⟨u', e'⟩ := xy.trk b u e
            rw [kf'' b o ho] at e'; cases e'
        have S1 := (S' kf').go xy ly kf''
        rcases Out.bindX_ex hf with e3 | ⟨⟨f, ρ3⟩, L3, e3, hf⟩
        · have e3 : (g C (.d s.xs[i]) ρ' L2).bind (fun ρ1 L2 => mb C ρ1 L2) = .ex e := e3
          cases h : g C (.d s.xs[i]) ρ' L2 with
          | no => rw [h] at e3; cases e3
          | ex y => rw [h] at e3; cases e3
          | ok ρ2 L2' =>
            rw [h] at e3
            refine (hg (.d s.xs[i]) ρ' L2 ρ2 L2' h θ' σ' H'' y _ S1 ry fun θ3 σ3 H3 x3 S3 _ => ?_) pins s1 u I ru
            exact hbx W tk po ρ2 L2' e e3 θ3 σ3 H3 _ S3 (q.later (x0.trans (x'.trans (xy.trans x3))))
        · obtain ⟨ρ2, L2', e2, e3⟩ := Out.bind_ok e3
          refine (hg (.d s.xs[i]) ρ' L2 ρ2 L2' e2 θ' σ' H'' y _ S1 ry fun θ3 σ3 H3 x3 S3 _ => ?_) pins s1 u I ru
          have x03 := x'.trans (xy.trans x3)
          refine semSs_kf (hb ρ2 L2' (f, ρ3) L3 e3 θ3 σ3 H3 _ S3 ?_)
          cases f with
          | next => exact fun θ4 σ4 H4 x4 S4 _ => ⟨θ4, ρ3, L3, x03.trans x4, fun _ => S4, S4.live, hf⟩
          | cont => exact fun θ4 σ4 H4 x4 S4 _ => ⟨θ4, ρ3, L3, x03.trans x4, fun _ => S4, S4.live, hf⟩
          | brk => cases hf
          | ret v => cases hf
    · cases hf
  · have hie : i = s.xs.length := by omega
    subst hie
    rw [List.drop_length] at hf
    unfold forM at hf
    split at hf
    · cases hf
    · cases hf
/-! ## values that may raise -/
/-- does not raise -/
def mKill (m : M) : M := fun C ρ L => (m C ρ L).bind fun x L1 => .ok x L1
def mConsX (m : M) (ms : MA) : MA := fun C ρ L => (m C ρ L).bindX fun x L1 => (ms C ρ L1).bindX fun xs L2 => .ok (fz x :: xs) L2
def mCallX (i : String) (ms : MA) : M := fun C ρ L => (ms C ρ L).bindX fun xs L1 => C i xs L1
def mSetX (i : Nat) (m : M) : MS := fun C ρ L => (m C ρ L).bindX fun x L1 => .ok (.next, ρ.set i (some (fz x))) L1
def SAX (CA : Str → Addr) (X : Cx) (C : Calls) (es : List Expr) (m : MA) : Prop := ∀ (W : WX), Takes X W → ∀ (ρ : Rho) (L : List MO) (x : Exc), m C ρ L = .ex x →
  ∀ (θ : List Addr) (σ : L2.St) (H : Hp) (Q : List V → Hp → Prop), Sim X.K CA θ ρ L σ H → PostX X.K CA θ H x W → semA X es σ H Q
theorem se_kill (h : SE CA X C e m) : SE CA X C e (mKill m) := fun ρ L z L' hm θ σ H Q S q => by
  obtain ⟨x, L1, e1, hm⟩ := Out.bind_ok hm
  cases hm
  exact h ρ L _ _ e1 θ σ H Q S q
theorem sex_kill : SEX CA X C e (mKill m) := fun W tk ρ L x hm => by
  have hm : (m C ρ L).bind (fun x L1 => Out.ok x L1) = .ex x := hm
  cases h : m C ρ L with
  | no => rw [h] at hm; cases hm
  | ex y => rw [h] at hm; cases hm
  | ok a L1 => rw [h] at hm; cases hm
theorem sax_nil : SAX CA X C [] mNil := fun W tk ρ L x hm => by cases hm
theorem sa_consX {es : List Expr} {ms : MA} (h1 : SE CA X C e m) (h2 : SA CA X C es ms) (hs : noStar e = true) : SA CA X C (e :: es) (mConsX m ms) := fun ρ L xs L' hm θ σ H Q S q => by
  obtain ⟨x, L1, e1, hm⟩ := Out.bindX_ok hm
  obtain ⟨ys, L2, e2, hm⟩ := Out.bindX_ok hm
  refine sa_cons h1 h2 hs ρ L xs L' ?_ θ σ H Q S q
  show (m C ρ L).bind (fun x L1 => (ms C ρ L1).bind fun xs L2 => Out.ok (fz x :: xs) L2) = _
  rw [e1]
  show (ms C ρ L1).bind (fun xs L2 => Out.ok (fz x :: xs) L2) = _
  rw [e2]
  exact hm
theorem sax_cons {es : List Expr} {ms : MA} (h1 : SE CA X C e m) (h1x : SEX CA X C e m) (h2 : SAX CA X C es ms) (hs : noStar e = true) : SAX CA X C (e :: es) (mConsX m ms) := fun W tk ρ L x hm θ σ H Q S q => by
  rcases Out.bindX_ex hm with e1 | ⟨y, L1, e1, hm⟩
  · exact ofA (pa_cons (sE e) (sA es) (star_of hs)) (h1x W tk ρ L x e1 θ σ H _ S q)
  · rcases Out.bindX_ex hm with e2 | ⟨ys, L2, e2, hm⟩
    · exact ofA (pa_cons (sE e) (sA es) (star_of hs)) (h1.use e1 S fun v θ1 H1 x1 S1 r1 => h2 W tk ρ L1 x e2 θ1 σ H1 _ S1 (q.later x1))
    · cases hm
theorem se_callX {x : Str} {i : String} {n k : Nat} {es : List Expr} {ms : MA} {p : Pos} (F : FnRef CA k X C x i n) (hr : Room k X.A) (hg : Gl X x) (h : SA CA X C (e :: es) ms) (hn : ∀ ρ L xs L', ms C ρ L = .ok xs L' → xs.length = n) (hdb : (x == ("__debug__" : Str)) = false)
    (hs : (e :: es).all noStar = true) : SE CA X C (.Call (.Name x p) (e :: es) [] pos) (mCallX i ms) := fun ρ L z L' hm θ σ H Q S q => by
  obtain ⟨xs, L1, e1, hm⟩ := Out.bindX_ok hm
  refine se_call F hr hg h hn hdb hs ρ L z L' ?_ θ σ H Q S q
  show (ms C ρ L).bind (fun xs L1 => C i xs L1) = _
  rw [e1]
  exact hm
theorem sex_callX {x : Str} {i : String} {n k : Nat} {es : List Expr} {ma : MA} {p : Pos} (F : ExRef CA k X C x i n) (hr : Room k X.A) (hg : Gl X x) (h : SA CA X C (e :: es) ma) (hx : SAX CA X C (e :: es) ma) (hn : ∀ ρ L xs L', ma C ρ L = .ok xs L' → xs.length = n) (hdb : (x == ("__debug__" : Str)) = false)
    (hs : (e :: es).all noStar = true) : SEX CA X C (.Call (.Name x p) (e :: es) [] pos) (mCallX i ma) := fun W tk ρ L z hm θ σ H Q S q => by
  have hs' := hs
  rw [List.all_cons, Bool.and_eq_true] at hs'
  rcases Out.bindX_ex hm with e1 | ⟨xs, L1, e1, hm⟩
  · obtain ⟨f, fd, ps, h1, h2, h3, h4⟩ := F.ex
    exact ofE (pe_call h3 hr hg h1 h2 h4 .nil (E := fun cls d H' => ∀ σ', W cls d σ' H') (passes_call tk fun cls d σ H h => h σ) (sA _) hdb (star_of hs'.1) (backTo_star es hs'.2)) (hx W tk ρ L z e1 θ σ H _ S q)
  · refine sx_call F hr hg h hn hdb hs W tk ρ L z ?_ θ σ H Q S q
    show (ma C ρ L).bind (fun xs L1 => C i xs L1) = _
    rw [e1]
    exact hm
theorem ss_setX {i : Nat} {x : Str} {p2 : Pos} (s : Store X i x) (h : SE CA X C e m) (hc : swapsWith e (some (.Name x p2)) pos.line X.env = pure false) : SS CA X C (.Assign [.Name x p2] e pos) (mSetX i m) := fun ρ L r L' hm θ σ H D S q => by
  obtain ⟨y, L1, e1, hm⟩ := Out.bindX_ok hm
  refine ss_set s h hc ρ L r L' ?_ θ σ H D S q
  show (m C ρ L).bind (fun x L1 => Out.ok (Fl.next, ρ.set i (some (fz x))) L1) = _
  rw [e1]
  exact hm
theorem sx_setX {i : Nat} {x : Str} {p2 : Pos} (s : Store X i x) (h : SEX CA X C e m) (hc : swapsWith e (some (.Name x p2)) pos.line X.env = pure false) : SX CA X C (.Assign [.Name x p2] e pos) (mSetX i m) := fun W tk po ρ L z hm θ σ H D S q => by
  rcases Out.bindX_ex hm with e1 | ⟨y, L1, e1, hm⟩
  · exact ofS (ps_set s.nd s.ix s.loc (sE e) hc s.fn) (h W tk ρ L z e1 θ σ H _ S q)
  · cases hm
end
end Ev
set_option Elab.async false
set_option linter.all false
set_option maxRecDepth 100000
namespace Ev
open PySem PySem.Spec L2

/-! ## defs, programs -/
/-- what leaves a def: its own lists are gone, but the one that it hands back -/
def fin (n : Nat) (x : Val) (L : List MO) : Out Val :=
  if (L.take n).all (MO.below n) = true then match x with
    | .h k => if k < n then .ok (.h k) (L.take n) else match L[k]? with
      | some (.lst xs) => .ok (.new xs) (L.take n)
      | _ => .ok (.h k) L
    | x => .ok x (L.take n)
  else .ok x L
structure FnDef where
  np : Nat
  ns : Nat
  body : MS
def cutX (n : Nat) (e : Exc) : Exc := if (e.L.take n).all (MO.below n) = true then ⟨e.cls, e.fs, e.L.take n⟩ else e
def cutO (n : Nat) : Out Val → Out Val
  | .no => .no
  | .ok x L => .ok x L
  | .ex e => .ex (cutX n e)
theorem cutO_ok {n : Nat} {o : Out Val} {x : Val} {L : List MO} (h : cutO n o = .ok x L) : o = .ok x L := by
  cases o with
  | no => cases h
  | ok y M => exact h
  | ex e => cases h
theorem cutO_ex {n : Nat} {o : Out Val} {e : Exc} (h : cutO n o = .ex e) : ∃ e', o = .ex e' ∧ e = cutX n e' := by
  cases o with
  | no => cases h
  | ok y M => cases h
  | ex e' => cases h; exact ⟨e', rfl, rfl⟩
def FnDef.go (d : FnDef) (C : Calls) (xs : List Val) (L : List MO) : Out Val := if xs.length = d.np then cutO L.length ((d.body C (xs.map some ++ List.replicate (d.ns - d.np) none) L).bindX fun r L1 => match r.1 with
    | .ret x => fin L.length x L1
    | .next => fin L.length (.d .non) L1
    | _ => .no)
  else .no
abbrev Prog := String → Option FnDef
/-- the mark of a call that makes an object ready: it is one level deeper -/
def unmk : List Val → Option (List Val)
  | .new [] :: xs => some xs
  | _ => none
def run (P : Prog) : Nat → Calls
  | 0 => fun _ _ _ => .no
  | n + 1 => fun f xs L => match unmk xs with
    | some ys => run P n f ys L
    | none => match P f with
      | some d => d.go (run P n) xs L
      | none => .no
section
variable {K : PySem.W.Frag} {CA : Str → Addr} {θ : List Addr} {H : Hp} {L L'' : List MO} {x z : Val} {Q : VK}
theorem take_pre {α : Type} {a b t : List α} (h : b = a ++ t) : b.take a.length = a := by rw [h]; simp
theorem fin_ok (hf : fin θ.length x L = .ok z L'') (q : PostE K CA θ H L'' Q z) : PostE K CA θ H L Q x := by
  unfold fin at hf
  split at hf
  · rename_i hb
    split at hf
    · rename_i k
      split at hf
      · rename_i hk
        cases hf
        intro v θ' H' e l r
        obtain ⟨p, rfl, hp⟩ := r
        have lt := l.take _ hb
        have et := take_pre e.pre.choose_spec
        rw [et] at lt
        refine q _ θ H' ⟨fun b u h1 h2 => ⟨h1, (e.keep b u h1 h2).2⟩, ⟨[], by simp⟩, e.trk, lt.kk⟩ lt ⟨p, rfl, ?_⟩
        rw [← et, List.getElem?_take_of_lt hk]
        exact hp
      · rename_i hk
        split at hf
        · rename_i xs hL
          cases hf
          intro v θ' H' e l r
          obtain ⟨p, rfl, hp⟩ := r
          refine q p _ H' (Live.newOf e l (Nat.le_refl _) (Nat.le_of_not_lt hk) hp hL ?_ hb)
          cases hH : H p with
          | none => rfl
          | some u =>
            have np : p ∉ θ := fun z => by
              obtain ⟨i, hi, e1⟩ := List.mem_iff_getElem.mp z
              have e2 : θ'[i]? = some p := e.get (by rw [List.getElem?_eq_getElem hi, e1])
              obtain ⟨k1, q1⟩ := List.getElem?_eq_some_iff.mp e2
              obtain ⟨k2, q2⟩ := List.getElem?_eq_some_iff.mp hp
              have := (List.getElem_inj l.nd).mp (q1.trans q2.symm)
              omega
            exact ((e.keep p u np hH).1 (List.mem_of_getElem? hp)).elim
        · cases hf
          exact q
    · rename_i hx
      cases hf
      cases x with
      | h k => exact (hx k rfl).elim
      | d y =>
        intro v θ' H' e l r
        have lt := l.take _ hb
        have et := take_pre e.pre.choose_spec
        rw [et] at lt
        refine q v θ H' ⟨fun b u h1 h2 => ⟨h1, (e.keep b u h1 h2).2⟩, ⟨[], by simp⟩, e.trk, lt.kk⟩ lt ?_
        exact R.less (fun b hb => by obtain ⟨t, et⟩ := e.pre; rw [et]; exact List.mem_append_left _ hb) r
      | new xs =>
        intro p θ' H' N
        have hn : θ.length ≤ θ'.length := by obtain ⟨t, et⟩ := N.ext.pre; rw [et]; simp
        have e1 : (θ' ++ [p]).take θ.length = θ'.take θ.length := List.take_append_of_le_length hn
        have e2 : (L ++ [MO.lst xs]).take θ.length = L.take θ.length := List.take_append_of_le_length (by rw [← N.live.len]; exact hn)
        have := Live.newOf (n := θ.length) (k := θ'.length) N.ext2 N.more (Nat.le_refl _) hn (p := p) (acc := xs) (by simp) (by rw [N.live.len]; simp) N.fresh (by rw [e2]; exact hb)
        rw [e1, e2] at this
        exact q p _ H' this
  · cases hf
    exact q
end

/-! ## a def keeps its denotation's promise -/
/-- an own class: its name, the def that makes it ready, the attributes, the defs -/
structure ClsRow where
  name : Str
  init : String
  np : Nat
  flds : List Str
  mths : List (Str × String × Nat)
structure Tabs where
  blts : List Str
  fns : List (Str × String × Nat)
  cst : List (Str × D)
  cls : List ClsRow
  /-- repr may stand here: the law's own def -/
  rep : Bool
  /-- own exception classes -/
  exc : List Str
  /-- defs that may raise where their call is returned -/
  rse : List Str
/-- the classes whose objects have the attribute -/
def Tabs.fld (T : Tabs) (f : Str) : List Str := (T.cls.filter fun r => r.flds.contains f).map (·.name)
/-- the defs of the name, by class -/
def Tabs.mth (T : Tabs) (m : Str) (n : Nat) : List (Str × String) := T.cls.filterMap fun r => (r.mths.lookup m).bind fun i => if i.2 = n then some (r.name, i.1) else none
structure Gam where
  T : Tabs
  N : List Str
  sc : Scope
  raw : Option Scope
  lv : List Str
def fnP (Γ : Gam) (x : Str) : Bool := match Γ.raw with
  | none => true
  | some sc => sc.names.lookup x == some .cell || Γ.sc.names.lookup x == some .local
structure CxOk (CA : Str → Addr) (k : Nat) (C : Calls) (Γ : Gam) (X : Cx) : Prop where
  N : X.N = Γ.N
  nd : X.N.Nodup
  sc : X.env.scope = Γ.sc
  knd : Γ.sc.kind = .function
  calm : X.calm = true
  xe : X.xe = fun _ _ => False
  room : Room k X.A
  fn : ∀ x, fnP Γ x = true → X.fn x = true ∨ X.env.scope.names.lookup x = some .local
  blt : ∀ x ∈ Γ.T.blts, X.mg x = none
  cst : ∀ x d, Γ.T.cst.lookup x = some d → ∃ v u, X.mg x = some u ∧ RelV v u ∧ ∀ θ H, (∀ b o, X.K.lookup b = some o → b ∉ θ) → R X.K θ H v d
  fns : ∀ x i n, Γ.T.fns.lookup x = some (i, n) → FnRef CA k X C x i n
  fld : ∀ f, FldOk CA X (Γ.T.fld f) f
  mth : ∀ m n c i, (Γ.T.mth m n).lookup c = some i → MthRef CA k X C c m i n
  mak : ∀ r ∈ Γ.T.cls, MakRef CA k X C r.name r.name r.init r.np
  gd : Γ.T.rep = true → X.A.guards = some []
  exc : ∀ c ∈ Γ.T.exc, ExcRef CA X c
  rsf : ∀ x i n, Γ.T.fns.lookup x = some (i, n) → ExRef CA k X C x i n
  fr : Γ.raw = none → X.stack = X.env :: X.outer ∧ X.env.frame = some X.env.locals
theorem beq_of {x : Option NameKind} {k : NameKind} (h : (x == some k) = true) : x = some k := eq_of_beq h
theorem CxOk.blk {CA : Str → Addr} {k : Nat} {C : Calls} {Γ : Gam} {X : Cx} (h : CxOk CA k C Γ X) {scope : Scope} (hk : scope.kind = .function) (s0 : Shared) (H0 : Hp) (B : Addr) (cl : List (Str × Addr)) (fp : List Addr) :
    CxOk CA k C { Γ with sc := relS scope Γ.sc, raw := some scope } (X.blk s0 H0 scope (compEnvC scope cl B X.env) fp) where
  N := h.N
  nd := h.nd
  sc := by
    show relS scope X.env.scope = _
    rw [h.sc]
  knd := hk
  calm := h.calm
  xe := rfl
  room := h.room
  fn := fun x hx => by
    unfold fnP at hx
    simp only [Bool.or_eq_true] at hx
    rcases hx with hx | hx
    · exact .inl hx
    · refine .inr ?_
      show (relS scope X.env.scope).names.lookup x = _
      rw [h.sc]
      exact beq_of hx
  blt := h.blt
  cst := h.cst
  fns := fun x i n e => ⟨(h.fns x i n e).ex⟩
  fld := h.fld
  mth := fun m n c i e => ⟨(h.mth m n c i e).cls, (h.mth m n c i e).ex⟩
  mak := fun r hr => ⟨(h.mak r hr).mg, (h.mak r hr).ex⟩
  gd := h.gd
  exc := fun c hc => ⟨(h.exc c hc).mg, (h.exc c hc).kp, (h.exc c hc).ex, (h.exc c hc).sb, (h.exc c hc).ty, (h.exc c hc).cl, (h.exc c hc).se⟩
  rsf := fun x i n e => ⟨(h.rsf x i n e).ex⟩
  fr := fun z => by cases z
theorem CxOk.tr {CA : Str → Addr} {k : Nat} {C : Calls} {Γ : Gam} {X : Cx} (h : CxOk CA k C Γ X) (pn : List (Addr × Obj)) (xe : Value → Shared → Prop) : CxOk CA k C Γ (X.tr pn xe).nox where
  N := h.N
  nd := h.nd
  sc := h.sc
  knd := h.knd
  calm := h.calm
  xe := rfl
  room := h.room
  fn := h.fn
  blt := h.blt
  cst := h.cst
  fns := fun x i n e => ⟨(h.fns x i n e).ex⟩
  fld := h.fld
  mth := fun m n c i e => ⟨(h.mth m n c i e).cls, (h.mth m n c i e).ex⟩
  mak := fun r hr => ⟨(h.mak r hr).mg, (h.mak r hr).ex⟩
  gd := h.gd
  exc := fun c hc => ⟨(h.exc c hc).mg, (h.exc c hc).kp, (h.exc c hc).ex, (h.exc c hc).sb, (h.exc c hc).ty, (h.exc c hc).cl, (h.exc c hc).se⟩
  rsf := fun x i n e => ⟨(h.rsf x i n e).ex⟩
  fr := h.fr
/-- the slot of a name -/
def slot (Γ : Gam) (x : Str) : Option Nat := Γ.N.findIdx? (· == x)
theorem findIdx_get {α : Type} [BEq α] [LawfulBEq α] {x : α} : ∀ {l : List α} {i : Nat}, l.findIdx? (· == x) = some i → l[i]? = some x := fun {l i} h => by
  obtain ⟨h1, h2, _⟩ := List.findIdx?_eq_some_iff_getElem.mp h
  rw [List.getElem?_eq_getElem h1]
  exact congrArg some (eq_of_beq h2)
def isVis (Γ : Gam) (x : Str) : Bool := match Γ.sc.names.lookup x with
  | some .local => true
  | some .cell => true
  | some .free => true
  | _ => false
def isLoc (Γ : Gam) (x : Str) : Bool := match Γ.sc.names.lookup x with
  | some .local => true
  | some .cell => true
  | _ => false
def isGl (Γ : Gam) (x : Str) : Bool := Γ.sc.names.lookup x == some .globalImplicit
section
variable {CA : Str → Addr} {k : Nat} {C : Calls} {Γ : Gam} {X : Cx} {x : Str} {i : Nat}
theorem CxOk.slotOk (h : CxOk CA k C Γ X) (e : Ev.slot Γ x = some i) : X.N[i]? = some x := by rw [h.N]; exact findIdx_get e
theorem CxOk.vis (h : CxOk CA k C Γ X) (e : isVis Γ x = true) : Vis X.env.scope x := by
  unfold isVis at e
  rw [h.sc]
  split at e
  · exact .inl (by assumption)
  · exact .inr (.inl (by assumption))
  · exact .inr (.inr (by assumption))
  · cases e
theorem CxOk.loc (h : CxOk CA k C Γ X) (e : isLoc Γ x = true) : Loc X.env.scope x := by
  unfold isLoc at e
  rw [h.sc]
  split at e
  · exact .inl (by assumption)
  · exact .inr (by assumption)
  · cases e
theorem CxOk.gl (h : CxOk CA k C Γ X) (e : isGl Γ x = true) : Gl X x := by
  unfold isGl at e
  show X.env.scope.names.lookup x = _
  rw [h.sc]
  exact beq_of e
theorem CxOk.store (h : CxOk CA k C Γ X) (e : Ev.slot Γ x = some i) (hl : isLoc Γ x = true) (hf : fnP Γ x = true) : Store X i x := ⟨h.nd, h.slotOk e, h.loc hl, h.fn x hf⟩
end
end Ev
set_option Elab.async false
set_option linter.all false
set_option maxRecDepth 100000
namespace Ev
open PySem PySem.Spec L2

/-! ## name += e, name -= e of ints, texts and tuples -/
section
open PyProof.Rows HT
theorem noI_tuple_add : typeLookup (.type "tuple") (dunderI "add") = pure none := by rw [typeLookup_type, builtinLookup_eq_fast]; kernel_rfl
variable {prog : Program} {w : World} {A : Around} {E : Value → Shared → Prop} {s : Shared}
theorem icat_tup {t b : Addr} {vs ws : List Value} {Q : Value → Shared → Prop} (ht : IsTup s.heap t vs.toArray) (hb : IsTup s.heap b ws.toArray)
    (h0 : vs = [] → Q (.ref b) s) (h1 : vs ≠ [] → ws = [] → Q (.ref t) s) (h2 : vs ≠ [] → ws ≠ [] → Q (.ref s.heap.objs.size) { s with heap := s.heap.push { cls := .type "tuple", data := .seq (vs ++ ws).toArray } })
    (hsz : vs.length + ws.length ≤ sizeLine) : wpAny (model prog w) A (inplaceOp .Add (.ref t) (.ref b)) Q E s := by
  obtain ⟨⟨cls, dd, data, sl⟩, ho, hc, n, hd⟩ := id ht
  obtain ⟨⟨cls2, dd2, data2, sl2⟩, ho2, hc2, n2, hd2⟩ := id hb
  simp only at hc hd hc2 hd2
  subst hc hd hc2 hd2
  have e : vs.toArray ++ ws.toArray = (vs ++ ws).toArray := by simp
  by_cases hv : vs = []
  · subst hv
    exact wpAny_inplaceOp_concat ⟨_, ho, rfl⟩ ⟨_, ho2, rfl⟩ noI_tuple_add noFill_tuple_add seq_tuple_add (call_meets PySem.F.slot_tuple_add ⟨_, ho, rfl⟩ PySem.F.entry_tuple_add (PySem.F.args_tuple_add_2 _ _)
      (tuple_addW0 t b ([] : List Value).toArray ws.toArray n n2 dd dd2 sl sl2 (by simp)) ⟨ho, ho2, h0 rfl⟩)
  by_cases hw : ws = []
  · exact wpAny_inplaceOp_concat ⟨_, ho, rfl⟩ ⟨_, ho2, rfl⟩ noI_tuple_add noFill_tuple_add seq_tuple_add (call_meets PySem.F.slot_tuple_add ⟨_, ho, rfl⟩ PySem.F.entry_tuple_add (PySem.F.args_tuple_add_2 _ _)
      (tuple_addW1 t b vs.toArray ws.toArray n n2 dd dd2 sl sl2 (by simpa using hv) (by simp [hw])) ⟨ho, ho2, h1 hv hw⟩)
  · refine wpAny_inplaceOp_concat ⟨_, ho, rfl⟩ ⟨_, ho2, rfl⟩ noI_tuple_add noFill_tuple_add seq_tuple_add (call_meets PySem.F.slot_tuple_add ⟨_, ho, rfl⟩ PySem.F.entry_tuple_add (PySem.F.args_tuple_add_2 _ _)
      (tuple_addW2 t b vs.toArray ws.toArray n n2 dd dd2 sl sl2 (by simpa using hv) (by simpa using hw) (by rw [List.size_toArray, List.size_toArray]; exact hsz)) ⟨ho, ho2, ?_⟩)
    rw [e]
    exact h2 hv hw
theorem iop_catA {X : Cx} : OpR X (inplaceOp .Add) (rCatA X.K) := by
  intro pins s σ H x y v u Q I rx ry h
  obtain ⟨a, b, xs, ys, rfl, rfl, ha, hb, hz, q0, q1, q2⟩ := h
  cases rx
  cases ry
  obtain ⟨its, r1, p1, _⟩ := I.tuple ha
  obtain ⟨its2, r2, p2, _⟩ := I.tuple hb
  refine icat_tup p1 p2 (fun z => ⟨.ref b, H, I, rfl, q0 (r1.nil_iff.mp z)⟩) (fun z1 z => ⟨.ref a, H, I, rfl, q1 (fun w => z1 (r1.nil_iff.mpr w)) (r2.nil_iff.mp z)⟩) (fun z1 z => ?_) (by rw [← r1.length, ← r2.length]; exact hz)
  refine ⟨.ref s.heap.objs.size, _, I.laid (t' := s.toks) (o := .tup (xs ++ ys)) (fun b ob q => Heap.get?_push_of_some _ q) (Nat.le_refl _) ?_, rfl, q2 (fun w => z1 (r1.nil_iff.mpr w)) (fun w => z (r2.nil_iff.mpr w)) _ (I.hok.fresh (Nat.le_refl _))⟩
  exact ⟨by rw [List.length_append]; exact hz, _, r1.append r2, IsTup.new _ _⟩
end
def bIAdd : Val → Val → List MO → Option Val
  | .d (.int i), .d (.int j), _ => some (.d (.int (i + j)))
  | .d (.str a), .d (.str b), _ => if a.length + b.length ≤ sizeLine then some (.d (.str (a ++ b))) else none
  | .d (.tup a), .d (.tup b), _ => if a.length + b.length ≤ sizeLine then some (.d (.tup (a ++ b))) else none
  | _, _, _ => none
section
variable {CA : Str → Addr} {X : Cx}
theorem ok_iadd : OpOk CA X (inplaceOp .Add) bIAdd := by
  intro x y L z hz θ H v u Q l kf rx ry q
  unfold bIAdd at hz
  split at hz
  · cases hz
    cases rx; cases ry
    exact rBin_of iop_add ⟨_, _, rfl, rfl, q.same l (.int _)⟩
  · split at hz
    · cases hz
      cases rx; cases ry
      exact rBin_of iop_add_str ⟨_, _, rfl, rfl, by assumption, q.same l (.str _)⟩
    · cases hz
  · split at hz
    · rename_i hlen
      cases hz
      cases rx with
      | tup a1 a2 a3 =>
        cases ry with
        | tup b1 b2 b3 =>
          refine rBin_of iop_catA ⟨_, _, _, _, rfl, rfl, a2, b2, by rw [a3.length, b3.length]; exact hlen, fun e => ?_, fun _ e => ?_, fun _ _ p hp => q.tup l (a3.append b3) hp⟩
          · subst e
            cases a3
            exact q.same l (.tup b1 b2 b3)
          · subst e
            cases b3
            rw [List.append_nil] at q
            exact q.same l (.tup a1 a2 a3)
    · cases hz
  · cases hz
theorem ok_isub : OpOk CA X (inplaceOp .Sub) bSub := by
  intro x y L z hz θ H v u Q l kf rx ry q
  unfold bSub at hz
  split at hz
  · cases hz
    cases rx; cases ry
    exact rBin_of iop_sub ⟨_, _, rfl, rfl, q.same l (.int _)⟩
  · cases hz
end
end Ev
set_option Elab.async false
set_option linter.all false
set_option maxRecDepth 100000
namespace Ev
open PySem PySem.Spec L2

/-! ## repr of a tuple -/
def biRepr : List Val → List MO → Option Val
  | [.d (.tup xs)], _ => if (toP (.tup xs)).canLay0 = true ∧ (toP (.tup xs)).showable = true ∧ (toP (.tup xs)).depth ≤ 150 ∧ (toP (.tup xs)).shown.length ≤ sizeLine then some (.d (.str (toP (.tup xs)).shown)) else none
  | _, _ => none
section
variable {CA : Str → Addr} {X : Cx}
theorem ok_repr (hg : X.A.guards = some []) (hu : X.A.units + 200 < cLine) : BiOk CA X (.builtin "repr") biRepr := by
  intro xs L z hz θ H vs Q l kf r q
  unfold biRepr at hz
  split at hz
  · split at hz
    · rename_i xs _ hc
      cases hz
      obtain ⟨c1, c2, c3, c4⟩ := hc
      obtain ⟨v, rfl, rx⟩ := one_of r
      have dp := R.dp rx c1
      cases rx with
      | tup a1 a2 a3 =>
        intro pins s σ us I rv
        obtain ⟨u, rfl, ru⟩ := vals1 rv
        obtain ⟨as, rd⟩ := Dp.reads I _ _ _ dp ru
        cases ru
        refine repr_of_reads' (h₀ := s.heap) rd c2 (PyData.noDict_hsm (PyData.hasDict_of_canLay _ c1)) hg (by omega) (fun _ _ e => e) (fun h' u tk hk => ?_) c4
        exact ⟨.str _, H, I.kept hk, ⟨_, rfl⟩, q.same l (.str _)⟩
    · cases hz
  · cases hz
end
end Ev
set_option Elab.async false
set_option linter.all false
set_option maxRecDepth 100000
set_option maxHeartbeats 4000000
namespace Ev
open PySem PySem.Spec L2 PyProof.Rows

/-! ## sorted(set(ints)) of a list of ints -/
def dedupI : List Int → List Int
  | [] => []
  | x :: r => if x ∈ r then dedupI r else x :: dedupI r
theorem dedupI_mem : ∀ {is : List Int} {k : Int}, k ∈ dedupI is ↔ k ∈ is
  | [], _ => Iff.rfl
  | x :: r, k => by
    unfold dedupI
    split
    · rename_i h
      rw [dedupI_mem, List.mem_cons]
      exact ⟨.inr, fun h2 => h2.elim (fun e => e ▸ h) id⟩
    · rw [List.mem_cons, List.mem_cons, dedupI_mem]
theorem dedupI_nodup : ∀ is : List Int, (dedupI is).Nodup
  | [] => List.nodup_nil
  | x :: r => by
    unfold dedupI
    split
    · exact dedupI_nodup r
    · exact List.nodup_cons.mpr ⟨fun h => by rename_i h2; exact h2 (dedupI_mem.mp h), dedupI_nodup r⟩
theorem dedupI_len : ∀ is : List Int, (dedupI is).length ≤ is.length
  | [] => Nat.le_refl _
  | x :: r => by
    unfold dedupI
    have := dedupI_len r
    split
    · rw [List.length_cons]; omega
    · rw [List.length_cons, List.length_cons]; omega
@[reducible] def nu (w : World) : Obj := { cls := .type "set", dict := none, data := .set #[] 0 (.fresh 0 0 (!w.params.followText "set-order")) }
/-- a set of these ints stands at the next place -/
def SetMade (w : World) (s : Shared) (is : List Int) (r : Value) (s2 : Shared) : Prop := r = .ref s.heap.objs.size ∧ ∃ h' tk c, s2 = { s with heap := h', toks := tk } ∧ SetR w h' s.heap.objs.size (fun j => decide (j ∈ is)) c ∧ c ≤ (dedupI is).length ∧ ∀ b o, s.heap.get? b = some o → h'.get? b = some o
section
variable {P : Program} {w : World} {A : Around} {E : Value → Shared → Prop} {s : Shared}
/-- as many as there are unlike ones -/
theorem setR_few {h : Heap} {a : Addr} {is ks : List Int} {c : Nat} (R : SetR w h a (fun j => decide (j ∈ ks)) c) (hk : ∀ k ∈ ks, k ∈ is) : c ≤ (dedupI is).length := by
  obtain ⟨o, es, ep, t, ho, hex, hd, g, nd, hm, hb, hf, hn, hr, hl⟩ := R
  rw [← hn]
  have h1 := List.Nodup.length_le_of_subset nd (l₂ := dedupI is) fun k hk2 => dedupI_mem.mpr (hk k (by simpa using (hm k).mpr hk2))
  simpa using h1
/-- a set takes in what a walk hands out: few of them unlike -/
theorem fill_few {I : Addr} {fp wr : List Addr} {G : Array GenState → Array GenState → Prop} {n : Nat} {Pv : Nat → Value → Prop} {St : Nat → Shared → Prop} {R : Result → Shared → Prop}
    (W : WalksS P w A.in1 I fp wr G n Pv St) (S : Addr) (off : S ∉ fp) (is : List Int) (hn : n = is.length) (hb : (dedupI is).length + 1 < scanBound) (val : ∀ i v, Pv i v → ∃ k t, is[i]? = some k ∧ v = .int k t) :
    ∀ (todo i : Nat) (s : Shared), i + todo = n → St i s → (∃ c, SetR w s.heap S (fun j => decide (j ∈ is.take i)) c) →
      (∀ s' c, Moved (S :: wr) G s s' → SetR w s'.heap S (fun j => decide (j ∈ is)) c → R (.ok (.ret .none)) s') → codeAny (model P w) A (.builtin "set.update.loop" ⟨[.ref S, .ref I], []⟩) R s := by
  have offw : S ∉ wr := fun h => off (W.sub _ h)
  have more : ∀ b ∈ wr, b ∈ S :: wr := fun b hb => List.mem_cons_of_mem _ hb
  intro todo
  induction todo with
  | zero =>
    intro i s hi st ⟨c, hS⟩ hR
    obtain rfl : i = n := by omega
    refine codeAny_builtin F.entry_set_update_loop ?_
    rw [Around.under_plainId F.plain_set_update_loop _]
    refine wpAny_bind (m := pyNext (.ref I)) (W.done s _ _ st fun s' mv => ?_)
    rw [List.take_of_length_le (by omega)] at hS
    exact wpAny_pure (hR s' c (mv.mono more) (hS.at fun o e => mv.heap S o offw e))
  | succ todo ih =>
    intro i s hi st ⟨c, hS⟩ hR
    refine codeAny_builtin F.entry_set_update_loop ?_
    rw [Around.under_plainId F.plain_set_update_loop _]
    refine wpAny_bind (m := pyNext (.ref I)) (W.item i s _ _ (by omega) st fun v s' pv st' mv => ?_)
    obtain ⟨z, t, hz, rfl⟩ := val i v pv
    have hS' : SetR w s'.heap S (fun j => decide (j ∈ is.take i)) c := hS.at fun o e => mv.heap S o offw e
    have few := setR_few (is := is) hS' fun k hk => List.mem_of_mem_take hk
    refine wpAny_bind (m := holding [Value.int z t] (setAdd S (.int z t))) (wpAny_holding ?_)
    unfold setAdd
    refine wpAny_holding (wpAny_bind ((intKind P w).pyHash (k := z) (intKind_is _ _ _ _) ?_))
    refine setR_add_hashed (s := { s' with toks := s'.toks + 1 }) hS' (by omega) fun h' same hS2 => ?_
    have next : SetR w h' S (fun j => decide (j ∈ is.take (i + 1))) (if decide (z ∈ is.take i) = true then c else c + 1) := hS2.congr fun j => by
      rw [List.take_add_one, hz]
      simp [List.mem_append]
    refine wpAny_pure ⟨plainId_quiet F.plain_set_update_loop _, ih (i + 1) _ (by omega) (W.frame _ s' _ _ st' (Nat.le_succ _) fun b hb o e => ?_) ⟨_, next⟩ fun s'' c2 mv2 hS3 => ?_⟩
    · rw [same.2 b (fun h : b = S => off (by rw [← h]; exact hb))]; exact e
    · refine hR s'' c2 (Moved.trans W.gtrans ((mv.mono more).then_heap (Nat.le_succ _) fun b o hb e => ?_) mv2) hS3
      rw [same.2 b (fun h : b = S => hb (by rw [h]; exact List.mem_cons_self))]; exact e
theorem init_list {l : Addr} {arr : Array Value} {is : List Int} (hh : A.handled = none) (hl : s.heap.IsList l arr) (hi : IntsAre arr.toList is) (hb : (dedupI is).length + 1 < scanBound) :
    codeAny (model P w) A (.call (.builtin "set.__init__") ⟨[.ref s.heap.objs.size, .ref l], []⟩) (wants (fun r s2 => r = .none ∧ SetMade w s is (.ref s.heap.objs.size) s2) E) { s with heap := s.heap.push (nu w) } := by
  have size_eq : arr.size = is.length := by have := hi.length; rwa [Array.length_toList] at this
  have at0 : (s.heap.push (nu w)).get? s.heap.objs.size = some (nu w) := Heap.get?_push_size _ rfl
  have ty : Shared.TypeIs { s with heap := s.heap.push (nu w) } (.ref s.heap.objs.size) "set" := ⟨_, at0, rfl⟩
  have sz1 : (s.heap.push (nu w)).objs.size = s.heap.objs.size + 1 := Heap.size_push ..
  refine codeAny_call_builtin F.called_set.init.plain F.entry_set_init (check_set_init_1 ty ?_)
  obtain ⟨⟨cl, dd, dt, sl⟩, hol, c1, ep, c2⟩ := hl
  simp only at c1 c2
  subst c1 c2
  have old := Heap.get?_push_of_some (nu w) hol
  have lt_l : l < s.heap.objs.size := Heap.lt_size hol
  have f1 := F.sub_list_set; have f2 := F.sub_list_frozenset
  have f3 : (Value.type "list" == Value.type "dict") = false := by decide
  have again : (s.heap.push (nu w)).IsList l arr := ⟨_, old, rfl, ep, rfl⟩
  unfold Builtin.«set.__init__» noKeywords Builtin.Frozenset.updateFrom
  generalize hit : pyIter = it
  wp_walk
  subst hit
  refine wpAny_pyIter_list again (wpAny_bind (wpAny_runValue ?_))
  have h3 : A.in1.in1.handled = none := by simp [hh]
  have off : l ≠ (s.heap.push (nu w)).objs.size := Nat.ne_of_lt (by rw [sz1]; exact Nat.lt_succ_of_lt lt_l)
  have away : s.heap.objs.size ∉ [(s.heap.push (nu w)).objs.size, l] := by
    rw [sz1]
    simp only [List.mem_cons, List.not_mem_nil, or_false, not_or]
    exact ⟨Nat.ne_of_lt (Nat.lt_succ_self _), Nat.ne_of_gt lt_l⟩
  have vals : ∀ (i : Nat) (v : Value), arr[i]? = some v → ∃ k t, is[i]? = some k ∧ v = .int k t := fun i v e => by
    have lt : i < is.length := size_eq ▸ (Array.getElem?_eq_some_iff.mp e).1
    obtain ⟨t, q⟩ := hi.int_at i v (by rwa [Array.getElem?_toList])
    exact ⟨_, t, List.getElem?_eq_getElem lt, by rw [q, List.getD_eq_getElem?_getD, List.getElem?_eq_getElem lt] <;> rfl⟩
  have start := Heap.get?_push_of_some { cls := .type "list_iterator", data := .fields #[.ref l, .int 0 0] } at0
  refine fill_few (Walks.list h3 _ l off arr).toS s.heap.objs.size away is size_eq hb vals arr.size 0 _ (by omega) ?stands ?first ?last
  case stands => exact ⟨⟨_, Heap.get?_push_size _ rfl, rfl, rfl⟩, again.push _⟩
  case first => exact ⟨0, setR_new_at start⟩
  intro s2 c hm R
  obtain ⟨h', g2, d2, tk, os2⟩ := s2
  obtain rfl : g2 = s.gens := hm.gens
  obtain rfl : d2 = s.drawn := hm.drawn
  obtain rfl : os2 = s.os := hm.os
  refine wpAny_pure (?_ : wpAny _ _ (ret Value.none) _ _ _)
  refine wpAny_pure ⟨rfl, rfl, h', tk, c, rfl, R, setR_few R fun k hk => hk, fun b o e => ?_⟩
  have lt_b := Heap.lt_size e
  refine hm.heap b o ?_ (Heap.get?_push_of_some _ (Heap.get?_push_of_some _ e))
  rw [sz1]
  simp only [List.mem_cons, List.not_mem_nil, or_false, not_or]
  exact ⟨Nat.ne_of_lt lt_b, Nat.ne_of_lt (Nat.lt_succ_of_lt lt_b)⟩
theorem set_of_list {l : Addr} {arr : Array Value} {is : List Int} {Q : Value → Shared → Prop} (hh : A.handled = none) (hl : s.heap.IsList l arr) (hi : IntsAre arr.toList is) (hb : (dedupI is).length + 1 < scanBound) (q : ∀ r s2, SetMade w s is r s2 → Q r s2) :
    wpAny (model P w) A (call (.type "set") [.ref l]) Q E s := by
  obtain ⟨c, tl, mro⟩ := F.called_set.mro
  have e1 := F.called_set.made; have e2 := sub_set_self
  have e2' := F.called_set.sub
  refine wpAny_call (codeAny_of_tree (?_ : wpAny _ _ (callAny (.type "set") _) _ _ _))
  refine wpAny_pure ⟨Code.quiet_builtin _ (by decide +kernel), codeAny_builtin F.entry_type_call ?_⟩
  rw [Around.under_plain (weight_type_call_type "set" [.ref l] []) rfl]
  have e3 := F.called_set.notType; have e4 := F.called_set.canCreate
  have e5 := F.typeCall_set_1 (.ref l)
  repeat (any_goals (first | assumption | wp_step))
  refine codeAny_mono (code_set_led1 (.ref l) (E := E) (Q₁ := fun o s1 => o = .ref s.heap.objs.size ∧ s1 = { s with heap := s.heap.push (nu w) }) ⟨rfl, rfl⟩) fun r s1 hr => ?_
  match r, hr with
  | .error e, hr => exact hr
  | .ok .next, hr | .ok .brk, hr | .ok .cont, hr => exact hr.elim
  | .ok (.ret o), hr =>
    obtain ⟨rfl, rfl⟩ := hr
    have at0 : (s.heap.push (nu w)).get? s.heap.objs.size = some (nu w) := Heap.get?_push_size _ rfl
    have ty : Shared.TypeIs { s with heap := s.heap.push (nu w) } (.ref s.heap.objs.size) "set" := ⟨_, at0, rfl⟩
    have e6 := F.called_set.init.lookup; have e7 := F.called_set.init.bind (.ref s.heap.objs.size)
    repeat (any_goals (first | assumption | wp_step))
    refine codeAny_mono (init_list (E := E) (by simpa using hh) hl hi hb) fun r2 s2 hr2 => ?_
    match r2, hr2 with
    | .error e, hr2 => exact hr2
    | .ok .next, hr2 | .ok .brk, hr2 | .ok .cont, hr2 => exact hr2.elim
    | .ok (.ret r3), hr2 =>
      obtain ⟨rfl, hr3⟩ := hr2
      repeat (any_goals (first | assumption | wp_step))
      exact q _ _ hr3
end
def rSetL (K : PySem.W.Frag) (w : World) : List V → Hp → VK → Prop := fun vs H Q => ∃ (a : Addr) (is : List Int), vs = [.ref a] ∧ SqL K H a (is.map V.int) ∧ (dedupI is).length < 64 ∧ ∀ p c, H p = none → c ≤ (dedupI is).length → Q (.ref p) (upd H p (SetO w p (fun j => decide (j ∈ is)) c))
section
variable {X : Cx}
theorem cr_setL (hc : X.calm = true) : CallR X (.type "set") (rSetL X.K X.w) := by
  intro pins s σ H vs us Q I r h
  obtain ⟨a, is, rfl, hs, h64, q⟩ := h
  rw [Vals.ref1 r]
  obtain ⟨its, rv, pl, hz⟩ := I.list hs
  refine set_of_list (I.ok.hd hc) pl.isList (is := is) (by simpa using ints_of_vals rv) (by unfold scanBound; omega) fun r s2 h2 => ?_
  obtain ⟨rfl, h', tk, c, rfl, R, hcn, k⟩ := h2
  exact ⟨.ref _, _, I.laid (t' := tk) k (Nat.le_refl _) (setO_new R), rfl, q _ c (I.hok.fresh (Nat.le_refl _)) hcn⟩
def rSetTI (K : PySem.W.Frag) (w : World) : List V → Hp → VK → Prop := fun vs H Q => ∃ (a : Addr) (is : List Int), vs = [.ref a] ∧ SqT K H a (is.map V.int) ∧ is.length < 64 ∧ ∀ p c, H p = none → c ≤ is.length → Q (.ref p) (upd H p (SetO w p (fun j => decide (j ∈ is)) c))
theorem cr_setTI (hc : X.calm = true) : CallR X (.type "set") (rSetTI X.K X.w) := by
  intro pins s σ H vs us Q I r h
  obtain ⟨a, is, rfl, hs, h64, q⟩ := h
  rw [Vals.ref1 r]
  obtain ⟨its, rv, pl, hz⟩ := I.tuple hs
  refine call_set_tupI is (I.ok.hd hc) pl (by simpa using ints_of_vals rv) (by unfold scanBound; omega) fun h' tk c R hcn k => ?_
  exact ⟨.ref _, _, I.laid (t' := tk) k (Nat.le_refl _) (setO_new R), rfl, q _ c (I.hok.fresh (Nat.le_refl _)) hcn⟩
end
end Ev
set_option Elab.async false
set_option linter.all false
set_option maxRecDepth 100000
namespace Ev
open PySem PySem.Spec L2

/-- the members, each once, in order -/
def setI (is : List Int) : List Int := sortI (dedupI is)
theorem setI_mem {is : List Int} {k : Int} : k ∈ setI is ↔ k ∈ is := by
  unfold setI
  rw [(sortI_perm _).mem_iff, dedupI_mem]
theorem setI_nodup (is : List Int) : (setI is).Nodup := (sortI_perm _).nodup_iff.mpr (dedupI_nodup is)
theorem setI_sorted (is : List Int) : (setI is).Pairwise (· < ·) := by
  have h1 := sortI_sorted (dedupI is)
  have h2 : (sortI (dedupI is)).Pairwise (· ≠ ·) := setI_nodup is
  exact (h1.and h2).imp fun h => by omega
theorem strict_unique : ∀ {xs ys : List Int}, xs.Pairwise (· < ·) → ys.Pairwise (· < ·) → (∀ k, k ∈ xs ↔ k ∈ ys) → xs = ys
  | [], [], _, _, _ => rfl
  | [], y :: ys, _, _, h => by have := (h y).mpr (by simp); simp at this
  | x :: xs, [], _, _, h => by have := (h x).mp (by simp); simp at this
  | x :: xs, y :: ys, h1, h2, h => by
    rw [List.pairwise_cons] at h1 h2
    have e : x = y := by
      have a := (h x).mp (by simp)
      have b := (h y).mpr (by simp)
      rw [List.mem_cons] at a b
      rcases a with a | a
      · exact a
      · rcases b with b | b
        · exact b.symm
        · have := h2.1 _ a
          have := h1.1 _ b
          omega
    subst e
    refine congrArg _ (strict_unique h1.2 h2.2 fun k => ?_)
    have q := h k
    rw [List.mem_cons, List.mem_cons] at q
    constructor
    · intro hk
      have := h1.1 _ hk
      rcases q.mp (.inr hk) with z | z
      · omega
      · exact z
    · intro hk
      have := h2.1 _ hk
      rcases q.mpr (.inr hk) with z | z
      · omega
      · exact z
theorem setI_unique {is ns : List Int} (h1 : ns.Pairwise (· < ·)) (h2 : ∀ k : Int, k ∈ ns ↔ k ∈ is) : ns = setI is := strict_unique h1 (setI_sorted is) fun k => (h2 k).trans setI_mem.symm
def mSortSet (m : M) : M := fun C ρ L => (m C ρ L).bind fun x L1 => match (view L1 (fz x)).bind asInts with
  | some is => if is.length < 64 ∨ (dedupI is).length < 64 then .ok (.new ((setI is).map .int)) L1 else .no
  | none => match fz x with
    | .d (.tup ds) => match asInts ds with
      | some is => if is.length < 64 then .ok (.new ((setI is).map .int)) L1 else .no
      | none => .no
    | _ => .no
section
variable {CA : Str → Addr} {X : Cx} {C : Calls} {e : Expr} {m : M} {pos : Pos}
theorem se_sortSet {p p2 pos2 : Pos} (h : SE CA X C e m) (hc : X.calm = true) (hg : Gl X "sorted") (hm : X.mg "sorted" = none) (hg2 : Gl X "set") (hm2 : X.mg "set" = none) (hs : noStar e = true) :
    SE CA X C (.Call (.Name "sorted" p) [.Call (.Name "set" p2) [e] [] pos2] [] pos) (mSortSet m) := fun ρ L z L' hm' θ σ H Q S q => by
  obtain ⟨x, L1, e1, hm'⟩ := Out.bind_ok hm'
  have b1 : bootBuiltins "sorted" = some (.builtin "sorted") := by decide +kernel
  have b2 : bootBuiltins "set" = some (.type "set") := by decide +kernel
  split at hm'
  · rename_i is e2
    split at hm'
    · rename_i h64
      have h64 : (dedupI is).length < 64 := by have := dedupI_len is; omega
      cases hm'
      obtain ⟨ys, e3, e4⟩ := bind_ok e2
      rw [asInts_ok e4] at e3
      refine ofE (pe_callB rCall_ok hg hm b1 (pa_cons (pe_callTy rCall_ok hg2 hm2 b2 (pa_cons (sE e) pa_nil (star_of hs)) (by decide) (by decide) (star_of hs) rfl) pa_nil rfl) (by decide) (by decide) rfl rfl) (h.use e1 S fun v θ1 H1 x1 S1 r1 => ?_)
      obtain ⟨a, ws, rfl, h1, h2⟩ := view_ok S1.live r1 e3
      rw [h2.ints] at h1
      refine rCall_of (cr_setL hc) ⟨a, is, rfl, h1.sq, h64, fun p c hp hc' => ?_⟩
      refine rCall_kf fun _ => rCall_of (cr_sortedSet hc) ⟨p, _, c, rfl, upd_same, by omega, fun ns p2 hs2 hmem _ hp2 kf => ?_⟩
      rw [setI_unique (is := is) hs2 fun k => (hmem k).trans (by simp)] at kf ⊢
      obtain ⟨x2, l2⟩ := S1.live.laid (o := SetO X.w p (fun j => decide (j ∈ is)) c) hp
      exact (q.later (x1.trans x2)).lst l2 (RL.of_ints _) hp2 kf
    · cases hm'
  · split at hm'
    · rename_i ds hx
      split at hm'
      · rename_i is e2
        split at hm'
        · rename_i h64
          cases hm'
          refine ofE (pe_callB rCall_ok hg hm b1 (pa_cons (pe_callTy rCall_ok hg2 hm2 b2 (pa_cons (sE e) pa_nil (star_of hs)) (by decide) (by decide) (star_of hs) rfl) pa_nil rfl) (by decide) (by decide) rfl rfl) (h.use e1 S fun v θ1 H1 x1 S1 r1 => ?_)
          rw [hx, asInts_ok e2] at r1
          cases r1 with
          | tup h1 h2 h3 =>
            rw [h3.ints] at h2
            refine rCall_of (cr_setTI hc) ⟨_, is, rfl, h2, h64, fun p c hp hc' => ?_⟩
            refine rCall_kf fun _ => rCall_of (cr_sortedSet hc) ⟨p, _, c, rfl, upd_same, by omega, fun ns p2 hs2 hmem _ hp2 kf => ?_⟩
            rw [setI_unique (is := is) hs2 fun k => (hmem k).trans (by simp)] at kf ⊢
            obtain ⟨x2, l2⟩ := S1.live.laid (o := SetO X.w p (fun j => decide (j ∈ is)) c) hp
            exact (q.later (x1.trans x2)).lst l2 (RL.of_ints _) hp2 kf
        · cases hm'
      · cases hm'
    · cases hm'
end
end Ev
set_option Elab.async false
set_option linter.all false
set_option maxRecDepth 100000
set_option maxHeartbeats 1000000
/-! zip of two iterators of any kind; then of a list and a tuple -/
namespace EvM
open PySem PySem.Spec L2 PyProof.Rows
open PySem.Sem (wp)

/-- drawing from an iterator i that goes over a row at l -/
structure Draws (i l : Addr) (st : Nat → Heap → Prop) (xs : Array Value) : Prop where
  keep : ∀ {k : Nat} {h h' : Heap}, st k h → (∀ c, c = i ∨ c = l → ∀ o, h.get? c = some o → h'.get? c = some o) → st k h'
  item : ∀ {prog : Program} {w : World} {A : Around} {E : Value → Shared → Prop} {s : Shared} {k : Nat} {x : Value} {Q : Value → Shared → Prop}, st k s.heap → xs[k]? = some x →
    (∀ h', st (k + 1) h' → Heap.SameBut i s.heap h' → Q x { s with heap := h' }) → wpAny (model prog w) A (Builtin.SmallTypes.nextOf (.ref i)) Q E s
  stop : ∀ {prog : Program} {w : World} {A : Around} {E : Value → Shared → Prop} {s : Shared} {k : Nat} {Q : Value → Shared → Prop}, A.handled = none → st k s.heap → xs[k]? = none →
    (∀ h' e, Heap.ExtBut i s.heap h' → (∃ o, h'.get? e = some o ∧ o.cls = .type "StopIteration") → E (.ref e) { s with heap := h' }) → wpAny (model prog w) A (Builtin.SmallTypes.nextOf (.ref i)) Q E s
theorem Draws.ext {i l b : Addr} {st : Nat → Heap → Prop} {xs : Array Value} (U : Draws i l st xs) {k : Nat} {h h' : Heap} (q : st k h) (e : Heap.ExtBut b h h') (n1 : i ≠ b) (n2 : l ≠ b) : st k h' :=
  U.keep q fun c hc o ho => by
    rcases hc with rfl | rfl
    · exact e _ _ n1 ho
    · exact e _ _ n2 ho
theorem draws_list {i l : Addr} {xs : Array Value} (n : l ≠ i) : Draws i l (fun k h => h.IsListIter i l k ∧ h.IsList l xs) xs where
  keep := fun ⟨a, b⟩ e => ⟨a.at (e i (.inl rfl)), b.at (e l (.inr rfl))⟩
  item := fun ⟨a, b⟩ hx hQ => wpAny_nextOf_list_item a b hx fun h' q r => hQ h' ⟨q, b.extBut r.extBut n⟩ r
  stop := fun hh ⟨a, b⟩ hx hE => wpAny_nextOf_list_end hh a b hx hE
theorem draws_tuple {i l : Addr} {xs : Array Value} (n : l ≠ i) : Draws i l (fun k h => h.IsTupleIter i l k ∧ h.IsTuple l xs) xs where
  keep := fun ⟨a, b⟩ e => ⟨a.at (e i (.inl rfl)), b.at (e l (.inr rfl))⟩
  item := fun ⟨a, b⟩ hx hQ => RZ.nextOf_tuple_item a b hx fun h' q r => hQ h' ⟨q, b.extBut r.extBut n⟩ r
  stop := fun hh ⟨a, b⟩ hx hE => RZ.nextOf_tuple_end hh a b hx hE
section
variable {prog : Program} {w : World} {A : Around} {E : Value → Shared → Prop} {s : Shared} {z TI TO i1 i2 l1 l2 : Addr} {s1 s2 : Nat → Heap → Prop} {k1 k2 : Nat} {xs ys : Array Value} {x y a b : Value}

theorem next_some {Q : Value → Shared → Prop} (U : Draws i1 l1 s1 xs) (V : Draws i2 l2 s2 ys) (D : ZipApart z TI TO i1 i2 l1 l2)
    (hz : IsZip s.heap z TI TO .none) (hTI : IsPair s.heap TI (.ref i1) (.ref i2)) (hTO : IsPair s.heap TO a b) (h1 : s1 k1 s.heap) (h2 : s2 k2 s.heap) (hx : xs[k1]? = some x) (hy : ys[k2]? = some y)
    (hQ : ∀ h', IsZip h' z TI TO (rawInt s.heap.objs.size) → IsPair h' TO x y → s1 (k1 + 1) h' → s2 (k2 + 1) h' → IsPair h' s.heap.objs.size x y →
      (∀ c o, c ≠ z → c ≠ TO → c ≠ i1 → c ≠ i2 → s.heap.get? c = some o → h'.get? c = some o) → Q (.ref s.heap.objs.size) { s with heap := h' }) :
    wpAny (model prog w) A (Builtin.«zip.__next__» ⟨[.ref z], []⟩) (fun fin s' => ∃ v, fin = .done (.ret v) ∧ Q v s') E s := by
  show wpAny _ _ (field (.ref z) 2 >>= _) _ _ _
  refine wpAny_bind (wpAny_field hz rfl (x := .bool false) rfl ?_)
  show wpAny _ _ (field (.ref z) 3 >>= _) _ _ _
  refine wpAny_bind (wpAny_field hz rfl (x := .ref TI) rfl (wpAny_bind (wpAny_seqItems hTI rfl ?_)))
  show wpAny _ _ (Builtin.SmallTypes.ownedTupleIsFree (.ref z) >>= _) _ _ _
  unfold Builtin.SmallTypes.ownedTupleIsFree
  refine wpAny_bind (wpAny_bind (wpAny_field hz rfl (x := .none) rfl (wpAny_pure ?_)))
  simp only [if_true]
  refine wpAny_bind (wpAny_rule (wpAny_bind (wpAny_field hz rfl (x := .ref TO) rfl (wpAny_bind (wpAny_setField_rec hz (by simp) fun p1 z1 e1 => wpAny_bind ?_)))))
  replace z1 : IsZip p1 z TI TO .ellipsis := z1
  simp only [List.zipIdx_cons, List.zipIdx_nil, List.forIn_cons, List.forIn_nil]
  -- the first part
  refine wpAny_bind (wpAny_bind (wpAny_onRaise ?_))
  show wpAny _ _ (Builtin.SmallTypes.nextOf (.ref i1) >>= _) _ _ _
  refine wpAny_bind (U.item (U.ext h1 e1.extBut D.i1z D.l1z) hx fun p2 q2 e2 => wpAny_pure ?_)
  have t2 : IsPair p2 TO a b := e2.extBut _ _ D.TOi1 (e1.extBut _ _ D.TOz hTO)
  refine wpAny_bind (wpAny_seqItems t2 rfl (wpAny_bind (wpAny_updateSeq_pair t2 fun p3 t3 e3 => wpAny_bind (wpAny_letGo (wpAny_pure ?_)))))
  replace t3 : IsPair p3 TO x b := t3
  -- the second part
  refine wpAny_bind (wpAny_bind (wpAny_onRaise ?_))
  show wpAny _ _ (Builtin.SmallTypes.nextOf (.ref i2) >>= _) _ _ _
  have v3 : s2 k2 p3 := V.ext (V.ext (V.ext h2 e1.extBut D.i2z D.l2z) e2.extBut D.i12.symm D.l2i1) e3.extBut D.TOi2.symm D.l2TO
  refine wpAny_bind (V.item v3 hy fun p4 q4 e4 => wpAny_pure ?_)
  have t4 : IsPair p4 TO x b := e4.extBut _ _ D.TOi2 t3
  refine wpAny_bind (wpAny_seqItems t4 rfl (wpAny_bind (wpAny_updateSeq_pair t4 fun p5 t5 e5 => wpAny_bind (wpAny_letGo (wpAny_pure (wpAny_pure ?_))))))
  replace t5 : IsPair p5 TO x y := t5
  -- the pair
  refine wpAny_bind (wpAny_seqItems t5 rfl (wpAny_bind (wpAny_newTuple ?_)))
  have sz : p5.objs.size = s.heap.objs.size := by rw [e5.1, e4.1, e3.1, e2.1, e1.1]
  have z5 : IsZip p5 z TI TO .ellipsis := e5.extBut _ _ D.TOz.symm (e4.extBut _ _ D.i2z.symm (e3.extBut _ _ D.TOz.symm (e2.extBut _ _ D.i1z.symm z1)))
  have u5 : s1 (k1 + 1) p5 := U.ext (U.ext (U.ext q2 e3.extBut D.TOi1.symm D.l1TO) e4.extBut D.i12 D.l1i2) e5.extBut D.TOi1.symm D.l1TO
  have v5 : s2 (k2 + 1) p5 := V.ext q4 e5.extBut D.TOi2.symm D.l2TO
  have up5 : ∀ c o, c ≠ z → c ≠ TO → c ≠ i1 → c ≠ i2 → s.heap.get? c = some o → p5.get? c = some o := fun c o c1 c2 c3 c4 e =>
    e5.extBut _ _ c2 (e4.extBut _ _ c4 (e3.extBut _ _ c2 (e2.extBut _ _ c3 (e1.extBut _ _ c1 e))))
  have zlt : z < p5.objs.size := Heap.lt_size z5
  show wpAny _ _ (Builtin.SmallTypes.ownedTupleHandOut (.ref z) (.ref p5.objs.size) >>= _) _ _ _
  unfold Builtin.SmallTypes.ownedTupleHandOut
  have z6 : IsZip (p5.push { cls := .type "tuple", data := .seq #[x, y] }) z TI TO .ellipsis := Heap.get?_push_of_some _ z5
  refine wpAny_bind (wpAny_bind (wpAny_setField_rec z6 (by simp) fun p7 z7 e7 => ?_))
  replace z7 : IsZip p7 z TI TO (rawInt p5.objs.size) := z7
  refine wpAny_setField_rec z7 (by simp) fun p8 z8 e8 => ?_
  replace z8 : IsZip p8 z TI TO (rawInt p5.objs.size) := z8
  have up : ∀ c o, c ≠ z → p5.get? c = some o → p8.get? c = some o := fun c o c1 e => e8.extBut _ _ c1 (e7.extBut _ _ c1 (Heap.get?_push_of_some _ e))
  have t8 : IsPair p8 p5.objs.size x y := e8.extBut _ _ (Nat.ne_of_gt zlt) (e7.extBut _ _ (Nat.ne_of_gt zlt) (Heap.get?_push_size _ rfl))
  rw [sz] at z8 t8
  refine wpAny_pure ⟨_, rfl, ?_⟩
  show Q (.ref p5.objs.size) _
  rw [sz]
  refine hQ p8 z8 (up _ _ D.TOz t5) (U.keep u5 ?_) (V.keep v5 ?_) t8 fun c o c1 c2 c3 c4 e => up c o c1 (up5 c o c1 c2 c3 c4 e)
  · rintro c (rfl | rfl) o ho
    · exact up _ o D.i1z ho
    · exact up _ o D.l1z ho
  · rintro c (rfl | rfl) o ho
    · exact up _ o D.i2z ho
    · exact up _ o D.l2z ho
theorem next_none {Q : Fin → Shared → Prop} (hh : A.handled = none) (U : Draws i1 l1 s1 xs) (V : Draws i2 l2 s2 ys) (D : ZipApart z TI TO i1 i2 l1 l2)
    (hz : IsZip s.heap z TI TO .none) (hTI : IsPair s.heap TI (.ref i1) (.ref i2)) (hTO : IsPair s.heap TO a b) (h1 : s1 k1 s.heap) (h2 : s2 k2 s.heap) (hend : xs[k1]? = none ∨ ys[k2]? = none)
    (hE : ∀ h' e, (∀ c o, c ≠ z → c ≠ TO → c ≠ i1 → c ≠ i2 → s.heap.get? c = some o → h'.get? c = some o) → (∃ o, h'.get? e = some o ∧ o.cls = .type "StopIteration") → E (.ref e) { s with heap := h' }) :
    wpAny (model prog w) A (Builtin.«zip.__next__» ⟨[.ref z], []⟩) Q E s := by
  show wpAny _ _ (field (.ref z) 2 >>= _) _ _ _
  refine wpAny_bind (wpAny_field hz rfl (x := .bool false) rfl ?_)
  show wpAny _ _ (field (.ref z) 3 >>= _) _ _ _
  refine wpAny_bind (wpAny_field hz rfl (x := .ref TI) rfl (wpAny_bind (wpAny_seqItems hTI rfl ?_)))
  show wpAny _ _ (Builtin.SmallTypes.ownedTupleIsFree (.ref z) >>= _) _ _ _
  unfold Builtin.SmallTypes.ownedTupleIsFree
  refine wpAny_bind (wpAny_bind (wpAny_field hz rfl (x := .none) rfl (wpAny_pure ?_)))
  simp only [if_true]
  refine wpAny_bind (wpAny_rule (wpAny_bind (wpAny_field hz rfl (x := .ref TO) rfl (wpAny_bind (wpAny_setField_rec hz (by simp) fun p1 z1 e1 => wpAny_bind ?_)))))
  replace z1 : IsZip p1 z TI TO .ellipsis := z1
  simp only [List.zipIdx_cons, List.zipIdx_nil, List.forIn_cons, List.forIn_nil]
  refine wpAny_bind (wpAny_bind (wpAny_onRaise ?_))
  show wpAny _ _ (Builtin.SmallTypes.nextOf (.ref i1) >>= _) _ _ _
  have other : ∀ {h : Heap} {e : Addr} {f : Value}, IsZip h z TI TO f → (∃ o, h.get? e = some o ∧ o.cls = .type "StopIteration") → e ≠ z := fun g ⟨o, ho, hc⟩ q => by
    subst q
    rw [g] at ho
    cases ho
    simp at hc
  cases hx : xs[k1]? with
  | none =>
    refine wpAny_bind (U.stop hh (U.ext h1 e1.extBut D.i1z D.l1z) hx fun p2 e e2 he => ?_)
    have z2 : IsZip p2 z TI TO .ellipsis := e2 _ _ D.i1z.symm z1
    have hez := other z2 he
    obtain ⟨o, ho, hc⟩ := he
    exact wpAny_setField_rec z2 (by simp) fun p3 _ e3 => hE p3 e (fun c o c1 _ c3 _ q => e3.extBut _ _ c1 (e2 _ _ c3 (e1.extBut _ _ c1 q))) ⟨o, e3.extBut _ _ hez ho, hc⟩
  | some x =>
    have hy : ys[k2]? = none := by
      rcases hend with q | q
      · rw [hx] at q; cases q
      · exact q
    refine wpAny_bind (U.item (U.ext h1 e1.extBut D.i1z D.l1z) hx fun p2 q2 e2 => wpAny_pure ?_)
    have t2 : IsPair p2 TO a b := e2.extBut _ _ D.TOi1 (e1.extBut _ _ D.TOz hTO)
    refine wpAny_bind (wpAny_seqItems t2 rfl (wpAny_bind (wpAny_updateSeq_pair t2 fun p3 t3 e3 => wpAny_bind (wpAny_letGo (wpAny_pure ?_)))))
    refine wpAny_bind (wpAny_bind (wpAny_onRaise ?_))
    show wpAny _ _ (Builtin.SmallTypes.nextOf (.ref i2) >>= _) _ _ _
    have v3 : s2 k2 p3 := V.ext (V.ext (V.ext h2 e1.extBut D.i2z D.l2z) e2.extBut D.i12.symm D.l2i1) e3.extBut D.TOi2.symm D.l2TO
    refine wpAny_bind (V.stop hh v3 hy fun p4 e e4 he => ?_)
    have z4 : IsZip p4 z TI TO .ellipsis := e4 _ _ D.i2z.symm (e3.extBut _ _ D.TOz.symm (e2.extBut _ _ D.i1z.symm z1))
    have hez := other z4 he
    obtain ⟨o, ho, hc⟩ := he
    exact wpAny_setField_rec z4 (by simp) fun p5 _ e5 => hE p5 e (fun c o c1 c2 c3 c4 q => e5.extBut _ _ c1 (e4 _ _ c4 (e3.extBut _ _ c2 (e2.extBut _ _ c3 (e1.extBut _ _ c1 q))))) ⟨o, e5.extBut _ _ hez ho, hc⟩
end
/-! ### a list and a tuple -/
abbrev p1 (h : Heap) (l : Addr) : Heap := h.push { cls := .type "list_iterator", data := .fields #[.ref l, .int 0 0] }
abbrev p2 (h : Heap) (l t : Addr) : Heap := (p1 h l).push { cls := .type "tuple_iterator", data := .fields #[.ref t, .int 0 0] }
abbrev p3 (h : Heap) (l t : Addr) : Heap := (p2 h l t).push { cls := .type "tuple", data := .seq #[.ref h.objs.size, .ref (p1 h l).objs.size] }
abbrev p4 (h : Heap) (l t : Addr) : Heap := (p3 h l t).push { cls := .type "tuple", data := .seq #[.none, .none] }
abbrev p5 (h : Heap) (l t : Addr) : Heap := (p4 h l t).push { cls := .type "zip", data := .fields #[.none, .bool false, .bool false, .ref (p2 h l t).objs.size, .ref (p3 h l t).objs.size] }
theorem meets_new (l t : Addr) (xs ys : Array Value) :
    Meets (Builtin.«zip.__new__» ⟨[.type "zip", .ref l, .ref t], []⟩) (fun _ R s => s.heap.IsList l xs ∧ s.heap.IsTuple t ys ∧ R (.ok (.ret (.ref (p4 s.heap l t).objs.size))) { s with heap := p5 s.heap l t }) :=
  .of_wp fun prog w A R s h => by
    obtain ⟨hp, g, d, tk, os⟩ := s
    obtain ⟨hl, ht, h⟩ := h
    have hsub := sub_zip
    have a1 : Heap.IsList (Shared.heap ⟨hp, g, d, tk, os⟩) l xs := hl
    have a2 : Heap.IsTuple (Shared.heap ⟨p1 hp l, g, d, tk, os⟩) t ys := Heap.IsTuple.push ht _
    wp_walk using wpAny_pyIter_list a1, wpAny_pyIter_tuple a2
    exact ⟨_, rfl, h⟩
theorem call_mixed {prog : Program} {w : World} {A : Around} {E : Value → Shared → Prop} {s : Shared} {l t : Addr} {xs ys : Array Value} {Q : Value → Shared → Prop} (hl : s.heap.IsList l xs) (ht : s.heap.IsTuple t ys)
    (h : ∀ h', IsZip h' (s.heap.objs.size + 4) (s.heap.objs.size + 2) (s.heap.objs.size + 3) .none → IsPair h' (s.heap.objs.size + 2) (.ref s.heap.objs.size) (.ref (s.heap.objs.size + 1)) →
      IsPair h' (s.heap.objs.size + 3) .none .none → h'.IsListIter s.heap.objs.size l 0 → h'.IsTupleIter (s.heap.objs.size + 1) t 0 →
      (∀ c o, s.heap.get? c = some o → h'.get? c = some o) → Q (.ref (s.heap.objs.size + 4)) { s with heap := h' }) :
    wpAny (model prog w) A (call (.type "zip") [.ref l, .ref t]) Q E s := by
  refine callType_new F.called_zip (by decide) (F.typeCall_zip_2 _ _) (F.newCall_zip_2 _ _) (fun obj => F.args_object_init_3 obj _ _) F.entry_zip_new (meets_new l t xs ys) ⟨hl, ht, ?_⟩
  have z1 : (p1 s.heap l).objs.size = s.heap.objs.size + 1 := Heap.size_push ..
  have z2 : (p2 s.heap l t).objs.size = s.heap.objs.size + 2 := by rw [Heap.size_push, z1]
  have z3 : (p3 s.heap l t).objs.size = s.heap.objs.size + 3 := by rw [Heap.size_push, z2]
  have z4 : (p4 s.heap l t).objs.size = s.heap.objs.size + 4 := by rw [Heap.size_push, z3]
  have g5 : (p5 s.heap l t).get? (p4 s.heap l t).objs.size = some _ := Heap.get?_push_size _ rfl
  have g4 : (p5 s.heap l t).get? (p3 s.heap l t).objs.size = some _ := Heap.get?_push_of_some _ (Heap.get?_push_size _ rfl)
  have g3 : (p5 s.heap l t).get? (p2 s.heap l t).objs.size = some _ := Heap.get?_push_of_some _ (Heap.get?_push_of_some _ (Heap.get?_push_size _ rfl))
  have g2 : (p5 s.heap l t).get? (p1 s.heap l).objs.size = some _ := Heap.get?_push_of_some _ (Heap.get?_push_of_some _ (Heap.get?_push_of_some _ (Heap.get?_push_size _ rfl)))
  have g1 : (p5 s.heap l t).get? s.heap.objs.size = some _ := Heap.get?_push_of_some _ (Heap.get?_push_of_some _ (Heap.get?_push_of_some _ (Heap.get?_push_of_some _ (Heap.get?_push_size _ rfl))))
  rw [z2, z3, z4] at g5
  rw [z1, z2] at g3
  rw [z3] at g4
  rw [z1] at g2
  show _ ∧ _
  rw [z4]
  exact ⟨⟨_, g5, rfl⟩, h _ g5 g3 g4 ⟨_, g1, rfl, rfl⟩ ⟨_, g2, rfl, rfl⟩ fun c o x =>
    Heap.get?_push_of_some _ (Heap.get?_push_of_some _ (Heap.get?_push_of_some _ (Heap.get?_push_of_some _ (Heap.get?_push_of_some _ x))))⟩
/-- the list at a and the tuple at b as they stand at each turn, the items in new pairs -/
def ItzM (K : PySem.W.Frag) (a b : Addr) : It :=
  ⟨fun i H => ∃ (xs ys : List V) (x y : V), SqL K H a xs ∧ SqT K H b ys ∧ xs[i]? = some x ∧ ys[i]? = some y,
    fun i H v H' => ∃ T x y, v = .ref T ∧ H T = none ∧ H' = upd H T (.tup [x, y]) ∧ (∀ xs, SqL K H a xs → xs[i]? = some x) ∧ ∀ ys, SqT K H b ys → ys[i]? = some y,
    fun i H => ∃ xs ys : List V, SqL K H a xs ∧ SqT K H b ys ∧ (xs.length ≤ i ∨ ys.length ≤ i)⟩
section
variable {P : Program} {w : World} {K : PySem.W.Frag} {elts : List Expr} {kk : Nat} {tpos : Pos} {a b z TI TO i1 i2 : Addr}
theorem five_of {c z TI TO i1 i2 : Addr} (h : c ∈ [z, TI, TO, i1, i2]) : c = z ∨ c = TI ∨ c = TO ∨ c = i1 ∨ c = i2 := by simpa using h
/-- how it stands between two turns -/
structure Stands (a b z TI TO i1 i2 : Addr) (i : Nat) (h : Heap) : Prop where
  zip : IsZip h z TI TO .none
  its : IsPair h TI (.ref i1) (.ref i2)
  own : ∃ x y, IsPair h TO x y
  one : h.IsListIter i1 a i
  two : h.IsTupleIter i2 b i
theorem Stands.obj {i : Nat} {h : Heap} (q : Stands a b z TI TO i1 i2 i h) {c : Addr} (hc : c ∈ [z, TI, TO, i1, i2]) : ∃ o, h.get? c = some o ∧ ∀ v, o.data ≠ .cell v := by
  obtain ⟨hz, hTI, ⟨x, y, hTO⟩, ⟨o1, e1, _, d1⟩, ⟨o2, e2, _, d2⟩⟩ := q
  rcases five_of hc with rfl | rfl | rfl | rfl | rfl
  · exact ⟨_, hz, fun v q => nomatch q⟩
  · exact ⟨_, hTI, fun v q => nomatch q⟩
  · exact ⟨_, hTO, fun v q => nomatch q⟩
  · exact ⟨o1, e1, fun v q => by rw [d1] at q; cases q⟩
  · exact ⟨o2, e2, fun v q => by rw [d2] at q; cases q⟩
theorem turn_mixed (D : ZipApart z TI TO i1 i2 a b) : Turn P w K (.Tuple elts kk tpos) (ItzM K a b) [z, TI, TO, i1, i2] z (Stands a b z TI TO i1 i2) where
  mem := by simp
  obj := fun i h st c hc => st.obj hc
  keep := fun i h h' st k => by
    obtain ⟨hz, hTI, ⟨x, y, hTO⟩, h1, h2⟩ := st
    exact ⟨k z (by simp) _ hz, k TI (by simp) _ hTI, ⟨x, y, k TO (by simp) _ hTO⟩, h1.at fun o q => k i1 (by simp) o q, h2.at fun o q => k i2 (by simp) o q⟩
  item := by
    intro X hP hw hK hc i pins s σ H E I hf st hg
    subst hP hw hK
    obtain ⟨xs, ys, x, y, hqx, hqy, hx, hy⟩ := hg
    obtain ⟨its, rv, p, _⟩ := I.list hqx
    obtain ⟨its2, rv2, p2, _⟩ := I.tuple hqy
    obtain ⟨u, hu, ru⟩ := rv.get hx
    obtain ⟨u2, hu2, ru2⟩ := rv2.get hy
    have at_ : ∀ c ∈ [z, TI, TO, i1, i2], c < s.heap.objs.size := fun c hc => by
      obtain ⟨o, ho, _⟩ := st.obj hc
      exact Heap.lt_size ho
    obtain ⟨hz, hTI, ⟨x0, y0, hTO⟩, h1, h2⟩ := st
    have hT : s.TypeIs (.ref z) "zip" := ⟨_, hz, rfl⟩
    unfold pyNext
    refine wpAny_bind (wpAny_attempt (wpAny_callSpecial?_slot (name := Str.ofString "__next__") hT F.slot_zip_next
      (wpAny_call_entry F.slot_zip_next hT F.entry_zip_next (next_some (draws_list D.l1i1) (draws_tuple D.l2i2) D hz hTI hTO ⟨h1, p.isList⟩ ⟨h2, p2⟩ (x := u) (y := u2) (by simpa using hu) (by simpa using hu2) fun h' z' TO' a1 a2 hP hk => wpAny_pure ?_) (F.args_zip_next_1 _))))
    refine ⟨_, rfl, wpAny_letOwnedTupleGo_zip (s := { s with heap := h' }) z' fun h'' z'' sb => ?_⟩
    have hP2 : h''.get? s.heap.objs.size = some { cls := .type "tuple", data := .seq #[u, u2] } := (sb.2 _ (Nat.ne_of_gt (at_ z (by simp)))).trans hP
    have new : ObjOk X.prog X.w (upd H s.heap.objs.size (.tup [x, y])) h'' s.heap.objs.size (.tup [x, y]) :=
      ⟨by show 2 ≤ sizeLine; decide, [u, u2], .cons ru (.cons ru2 .nil), ⟨_, hP2, rfl, _, rfl⟩⟩
    have I1 : Inv X pins σ (upd H s.heap.objs.size (.tup [x, y])) { s with heap := h'' } :=
      I.turnedNew (t' := s.toks) (ch := [z, TI, TO, i1, i2]) (fun c o hb q => (sb.2 c (fun q' => hb (by simp [q']))).trans (hk c o (fun q' => hb (by simp [q'])) (fun q' => hb (by simp [q'])) (fun q' => hb (by simp [q'])) (fun q' => hb (by simp [q'])) q)) hf (Nat.le_refl _) new
    refine ⟨.ref s.heap.objs.size, _, I1, rfl, ⟨_, x, y, rfl, I.hok.fresh (Nat.le_refl _), rfl, fun l hl => by rw [I.list_inj hl hqx]; exact hx, fun l hl => by rw [I.tuple_inj hl hqy]; exact hy⟩, ⟨z'', ?_, ⟨u, u2, ?_⟩, ?_, ?_⟩, fun c hcm => ?_⟩
    · exact (sb.2 _ D.TIz).trans (hk _ _ D.TIz D.TITO D.TIi1 D.TIi2 hTI)
    · exact (sb.2 _ D.TOz).trans TO'
    · exact a1.1.at fun o q => (sb.2 _ D.i1z).trans q
    · exact a2.1.at fun o q => (sb.2 _ D.i2z).trans q
    · rw [upd_ne (Nat.ne_of_lt (at_ c hcm))]
      exact (hf c hcm).1
  done := by
    intro X hP hw hK hc i pins s σ H E I hf st hg
    subst hP hw hK
    obtain ⟨hz, hTI, ⟨x0, y0, hTO⟩, h1, h2⟩ := st
    obtain ⟨xs, ys, hqx, hqy, hend⟩ := hg
    obtain ⟨its, rv, p, _⟩ := I.list hqx
    obtain ⟨its2, rv2, p2, _⟩ := I.tuple hqy
    have e1 := rv.length
    have e2 := rv2.length
    have he : its.toArray[i]? = none ∨ its2.toArray[i]? = none := by
      rcases hend with q | q
      · exact .inl (by simp; omega)
      · exact .inr (by simp; omega)
    have hT : s.TypeIs (.ref z) "zip" := ⟨_, hz, rfl⟩
    unfold pyNext
    refine wpAny_bind (wpAny_attempt (wpAny_callSpecial?_slot (name := Str.ofString "__next__") hT F.slot_zip_next
      (wpAny_call_entry F.slot_zip_next hT F.entry_zip_next (next_none (I.ok.hd hc) (draws_list D.l1i1) (draws_tuple D.l2i2) D hz hTI hTO ⟨h1, p.isList⟩ ⟨h2, p2⟩ he fun h' e hk he => ?_) (F.args_zip_next_1 _))))
    obtain ⟨o, ho, hce⟩ := he
    refine wpAny_bind (wpAny_isInstance (T := "StopIteration") (b := true) ⟨o, ho, hce⟩ isSubtype_stop (wpAny_pure ⟨rfl, ?_⟩))
    exact I.turnedL (t' := s.toks) (ch := [z, TI, TO, i1, i2]) (fun c o hb q => hk c o (fun q' => hb (by simp [q'])) (fun q' => hb (by simp [q'])) (fun q' => hb (by simp [q'])) (fun q' => hb (by simp [q'])) q) hf
  self := fun A i s Q E st h => wpAny_pyIter_zip st.zip h
end
def iZipM (K : PySem.W.Frag) (ta : TA) : TI := fun σ H R => ta σ H fun vs H1 => ∃ a b xs ys, vs = [.ref a, .ref b] ∧ SqL K H1 a xs ∧ SqT K H1 b ys ∧ R (ItzM K a b) H1
theorem pi_zipM {X : Cx} {e e2 : Expr} {ta : TA} {p pos tpos : Pos} {elts : List Expr} {kk : Nat} (hg : Gl X "zip") (hm : X.mg "zip" = none) (ha : PA X [e, e2] ta)
    (hs : starEach [e, e2] X.env = (false, eval e X.env) :: starEach [e2] X.env) (hpl : (backTo pos (starEach [e2] X.env)).any (·.1) = false) :
    PI X (.Tuple elts kk tpos) (.Call (.Name "zip" p) [e, e2] [] pos) (iZipM X.K ta) := by
  refine ⟨fun pins s σ H R I h => ?_⟩
  refine Call_ (ld_blt I hg hm PyProof.Rows.boot_zip (PyProof.Rows.callWith_type1 (thn (ha.run pos pins s σ H _ I h) fun us s1 ⟨vs, H1, I1, r1, q1⟩ => ?_) hs hpl))
  obtain ⟨a, b, xs, ys, rfl, hqx, hqy, q⟩ := q1
  cases r1 with
  | cons r rr =>
  cases rr with
  | cons r' rr =>
  cases rr
  cases r
  cases r'
  obtain ⟨its, rv, g1, _⟩ := I1.list hqx
  obtain ⟨its2, rv2, g2, _⟩ := I1.tuple hqy
  obtain ⟨o2, ho2, _⟩ := id g2
  refine call_mixed g1.isList (show s1.heap.IsTuple b its2.toArray from g2) fun h' hz hTI hTO h1 h2 hk => wpAny_pyIter_zip hz ?_
  have I2 : Inv X pins σ H1 { s1 with heap := h' } := I1.kept (t' := s1.toks) hk
  refine ⟨_, [s1.heap.objs.size + 4, s1.heap.objs.size + 2, s1.heap.objs.size + 3, s1.heap.objs.size, s1.heap.objs.size + 1], _, _, H1, rfl, I2, turn_mixed (PySem.W.ktu_apart s1.heap.objs.size a b g1.lt (Heap.lt_size ho2)), ⟨hz, hTI, ⟨_, _, hTO⟩, h1, h2⟩, fun c hc => ?_, q⟩
  have hle : s1.heap.objs.size ≤ c := by
    rcases five_of hc with q | q | q | q | q <;> rw [q] <;> first | exact Nat.le_add_right _ _ | exact Nat.le_refl _
  exact I1.fpOk hle (I1.hok.fresh hle)
end EvM
set_option Elab.async false
set_option linter.all false
set_option maxRecDepth 100000
namespace Ev
open PySem PySem.Spec L2

/-! ## min, max of two ints; zip of two tuples or two lists -/
def biMin : List Val → List MO → Option Val
  | [.d (.int i), .d (.int j)], _ => some (.d (.int (if j < i then j else i)))
  | _, _ => none
def biMax : List Val → List MO → Option Val
  | [.d (.int i), .d (.int j)], _ => some (.d (.int (if j > i then j else i)))
  | _, _ => none
section
variable {CA : Str → Addr} {X : Cx} {C : Calls} {e a b : Expr} {m ma mb : M} {pos : Pos}
theorem ok_min (hc : X.calm = true) : BiOk CA X (.builtin "min") biMin := by
  intro xs L z hz θ H vs Q l kf r q
  unfold biMin at hz
  split at hz
  · cases hz
    obtain ⟨v, w, rfl, h1, h2⟩ := two_of r
    cases h1
    cases h2
    exact rCall_of (call_min2 hc) ⟨_, _, rfl, q.same l (.int _)⟩
  · cases hz
theorem ok_max (hc : X.calm = true) : BiOk CA X (.builtin "max") biMax := by
  intro xs L z hz θ H vs Q l kf r q
  unfold biMax at hz
  split at hz
  · cases hz
    obtain ⟨v, w, rfl, h1, h2⟩ := two_of r
    cases h1
    cases h2
    exact rCall_of (call_max2 hc) ⟨_, _, rfl, q.same l (.int _)⟩
  · cases hz
def zipD (xs ys : List D) : List D := List.zipWith (fun x y => .tup [x, y]) xs ys
def mZip (ms : MA) : MI := fun C ρ L => (ms C ρ L).bind fun xs L1 => match xs with
  | [.d (.tup a), .d (.tup b)] => .ok ⟨zipD a b, none⟩ L1
  | [.d (.lst a), .d (.lst b)] => .ok ⟨zipD a b, none⟩ L1
  | [.d (.lst a), .d (.tup b)] => .ok ⟨zipD a b, none⟩ L1
  | _ => .no
section
variable {K : PySem.W.Frag} {θ : List Addr} {H : Hp} {p q : Addr} {vs us : List V} {xs ys : List D}
theorem zip_get {xs ys : List D} {i : Nat} (hi : i < (zipD xs ys).length) : ∃ x y, xs[i]? = some x ∧ ys[i]? = some y ∧ (zipD xs ys)[i]? = some (.tup [x, y]) := by
  unfold zipD at hi ⊢
  rw [List.length_zipWith] at hi
  have h1 : i < xs.length := by omega
  have h2 : i < ys.length := by omega
  exact ⟨xs[i], ys[i], List.getElem?_eq_getElem h1, List.getElem?_eq_getElem h2, by rw [List.getElem?_zipWith, List.getElem?_eq_getElem h1, List.getElem?_eq_getElem h2]⟩
theorem it_zipT (np : p ∉ θ) (nq : q ∉ θ) (h : SqT K H p vs) (h' : SqT K H q us) (r : RL K θ H vs xs) (r' : RL K θ H us ys) : ItOk K CA (RZ.ItzT K p q) ⟨zipD xs ys, none⟩ θ H := by
  refine ⟨fun θ' L H' i x _ _ hi => ?_, fun θ' L H' i y H'' x l _ hy hi => ?_, fun θ' L H' x _ _ => ?_⟩
  · obtain ⟨d, d', e1, e2, _⟩ := zip_get hi
    obtain ⟨v, hv, _⟩ := r.get e1
    obtain ⟨u, hu, _⟩ := r'.get e2
    exact ⟨vs, us, v, u, (x.sqT np h).2, (x.sqT nq h').2, hv, hu⟩
  · obtain ⟨T, v, u, rfl, hT, rfl, f1, f2⟩ := hy
    obtain ⟨d, d', e1, e2, e3⟩ := zip_get hi
    obtain ⟨dv, hd, rd⟩ := r.get' (f1 vs (x.sqT np h).2)
    obtain ⟨du, hd', rd'⟩ := r'.get' (f2 us (x.sqT nq h').2)
    rw [e1] at hd; cases hd
    rw [e2] at hd'; cases hd'
    obtain ⟨e, l'⟩ := l.laid (o := .tup [v, u]) hT
    refine ⟨_, e3, e, l', .tup (l.free hT) (.inl (.inl upd_same)) ?_⟩
    exact RL.mono (x.trans e) (.cons rd (.cons rd' .nil))
  · refine ⟨vs, us, (x.sqT np h).2, (x.sqT nq h').2, ?_⟩
    rw [r.length, r'.length]
    show _ ≤ (zipD xs ys).length ∨ _ ≤ (zipD xs ys).length
    unfold zipD
    rw [List.length_zipWith]
    omega
theorem it_zipL (np : p ∉ θ) (nq : q ∉ θ) (h : LsOk K H p vs) (h' : LsOk K H q us) (r : RL K θ H vs xs) (r' : RL K θ H us ys) : ItOk K CA (Itz K p q) ⟨zipD xs ys, none⟩ θ H := by
  refine ⟨fun θ' L H' i x _ _ hi => ?_, fun θ' L H' i y H'' x l _ hy hi => ?_, fun θ' L H' x _ _ => ?_⟩
  · obtain ⟨d, d', e1, e2, _⟩ := zip_get hi
    obtain ⟨v, hv, _⟩ := r.get e1
    obtain ⟨u, hu, _⟩ := r'.get e2
    exact ⟨vs, us, v, u, (x.ls np h).2.sq, (x.ls nq h').2.sq, hv, hu⟩
  · obtain ⟨T, v, u, rfl, hT, rfl, f1, f2⟩ := hy
    obtain ⟨d, d', e1, e2, e3⟩ := zip_get hi
    obtain ⟨dv, hd, rd⟩ := r.get' (f1 vs (x.ls np h).2.sq)
    obtain ⟨du, hd', rd'⟩ := r'.get' (f2 us (x.ls nq h').2.sq)
    rw [e1] at hd; cases hd
    rw [e2] at hd'; cases hd'
    obtain ⟨e, l'⟩ := l.laid (o := .tup [v, u]) hT
    refine ⟨_, e3, e, l', .tup (l.free hT) (.inl (.inl upd_same)) ?_⟩
    exact RL.mono (x.trans e) (.cons rd (.cons rd' .nil))
  · refine ⟨vs, us, (x.ls np h).2.sq, (x.ls nq h').2.sq, ?_⟩
    rw [r.length, r'.length]
    show _ ≤ (zipD xs ys).length ∨ _ ≤ (zipD xs ys).length
    unfold zipD
    rw [List.length_zipWith]
    omega
theorem it_zipM (np : p ∉ θ) (nq : q ∉ θ) (h : LsOk K H p vs) (h' : SqT K H q us) (r : RL K θ H vs xs) (r' : RL K θ H us ys) : ItOk K CA (EvM.ItzM K p q) ⟨zipD xs ys, none⟩ θ H := by
  refine ⟨fun θ' L H' i x _ _ hi => ?_, fun θ' L H' i y H'' x l _ hy hi => ?_, fun θ' L H' x _ _ => ?_⟩
  · obtain ⟨d, d', e1, e2, _⟩ := zip_get hi
    obtain ⟨v, hv, _⟩ := r.get e1
    obtain ⟨u, hu, _⟩ := r'.get e2
    exact ⟨vs, us, v, u, (x.ls np h).2.sq, (x.sqT nq h').2, hv, hu⟩
  · obtain ⟨T, v, u, rfl, hT, rfl, f1, f2⟩ := hy
    obtain ⟨d, d', e1, e2, e3⟩ := zip_get hi
    obtain ⟨dv, hd, rd⟩ := r.get' (f1 vs (x.ls np h).2.sq)
    obtain ⟨du, hd', rd'⟩ := r'.get' (f2 us (x.sqT nq h').2)
    rw [e1] at hd; cases hd
    rw [e2] at hd'; cases hd'
    obtain ⟨e, l'⟩ := l.laid (o := .tup [v, u]) hT
    refine ⟨_, e3, e, l', .tup (l.free hT) (.inl (.inl upd_same)) ?_⟩
    exact RL.mono (x.trans e) (.cons rd (.cons rd' .nil))
  · refine ⟨vs, us, (x.ls np h).2.sq, (x.sqT nq h').2, ?_⟩
    rw [r.length, r'.length]
    show _ ≤ (zipD xs ys).length ∨ _ ≤ (zipD xs ys).length
    unfold zipD
    rw [List.length_zipWith]
    omega
end
theorem si_zip {p tpos : Pos} {elts : List Expr} {kk : Nat} {ms : MA} (hg : Gl X "zip") (hm : X.mg "zip" = none) (h : SA CA X C [a, b] ms) (hs : [a, b].all noStar = true) : SI CA X C (.Tuple elts kk tpos) (.Call (.Name "zip" p) [a, b] [] pos) (mZip ms) := fun ρ L s L' hm' θ σ H Q S q => by
  obtain ⟨xs, L1, e1, hm'⟩ := Out.bind_ok hm'
  have hs' := hs
  rw [List.all_cons, Bool.and_eq_true] at hs'
  split at hm'
  · cases hm'
    refine ofI (RZ.pi_zipA hg hm (sA _) (star_of hs'.1) (backTo_star _ hs'.2)) (h.use e1 S fun vs θ1 H1 x1 S1 r1 => ?_)
    obtain ⟨v, u, rfl, h1, h2⟩ := two_of r1
    cases h1 with
    | tup a1 a2 a3 =>
      cases h2 with
      | tup b1 b2 b3 => exact ⟨_, _, _, _, rfl, .inr ⟨a2, b2, q _ θ1 H1 x1 S1 (it_zipT a1 b1 a2 b2 a3 b3) trivial⟩⟩
  · cases hm'
    refine ofI (RZ.pi_zipA hg hm (sA _) (star_of hs'.1) (backTo_star _ hs'.2)) (h.use e1 S fun vs θ1 H1 x1 S1 r1 => ?_)
    obtain ⟨v, u, rfl, h1, h2⟩ := two_of r1
    cases h1 with
    | lst a1 a2 a3 =>
      cases h2 with
      | lst b1 b2 b3 => exact ⟨_, _, _, _, rfl, .inl ⟨a2.sq, b2.sq, q _ θ1 H1 x1 S1 (it_zipL a1 b1 a2 b2 a3 b3) trivial⟩⟩
  · cases hm'
    refine ofI (EvM.pi_zipM hg hm (sA _) (star_of hs'.1) (backTo_star _ hs'.2)) (h.use e1 S fun vs θ1 H1 x1 S1 r1 => ?_)
    obtain ⟨v, u, rfl, h1, h2⟩ := two_of r1
    cases h1 with
    | lst a1 a2 a3 =>
      cases h2 with
      | tup b1 b2 b3 => exact ⟨_, _, _, _, rfl, a2.sq, b2, q _ θ1 H1 x1 S1 (it_zipM a1 b1 a2 b2 a3 b3) trivial⟩
  · cases hm'
end
end Ev
set_option Elab.async false
set_option linter.all false
set_option maxRecDepth 100000
namespace Ev
open PySem PySem.Spec L2

/-! ## while -/
def whileM (t : MT) (mb : MS) (C : Calls) : Nat → Rho → List MO → Out (Fl × Rho)
  | 0, _, _ => .no
  | n + 1, ρ, L => (t C ρ L).bind fun k L1 => if k = true then (mb C ρ L1).bind fun r L2 => match r with
    | (.next, ρ1) => whileM t mb C n ρ1 L2
    | (.cont, ρ1) => whileM t mb C n ρ1 L2
    | (.brk, ρ1) => .ok (.next, ρ1) L2
    | (.ret v, ρ1) => .ok (.ret v, ρ1) L2 else .ok (.next, ρ) L1
open Classical in
noncomputable def mWhile (t : MT) (mb : MS) : MS := fun C ρ L => if h : ∃ n r L', whileM t mb C n ρ L = .ok r L' then whileM t mb C h.choose ρ L else .no
section
variable {CA : Str → Addr} {X : Cx} {C : Calls} {c : Expr} {t : MT} {mb : MS} {pos : Pos} {sts : List Stmt}
theorem ss_while (hp : X.xe = fun _ _ => False) (ht : STt CA X C c t) (hb : SSs CA X C sts mb) : SS CA X C (.While c sts [] pos) (mWhile t mb) := fun ρ L r L' hm θ σ H D S q => by
  obtain ⟨m0, hm⟩ : ∃ n, whileM t mb C n ρ L = .ok r L' := by
    unfold mWhile at hm
    split at hm
    · exact ⟨_, hm⟩
    · cases hm
  have hpo : PassesOwn (model X.prog X.w) X.A X.env X.xe := by rw [hp]; exact PassesOwn.never
  refine ofS (ps_while hpo (sT c) (sSs sts)) ?_
  refine ⟨fun m σ' H' => ∃ θ' ρ' L2, Ext X.K θ H θ' H' ∧ (KF X.K H' → Sim X.K CA θ' ρ' L2 σ' H') ∧ whileM t mb C m ρ' L2 = .ok r L', ⟨m0, θ, ρ, L, S.refl, fun _ => S, hm⟩, ?_⟩
  rintro m σ' H' ⟨θ', ρ', L2, x', S', hf⟩
  intro pins s I
  have S1 := S' (kf_of I)
  cases m with
  | zero => cases hf
  | succ n =>
    unfold whileM at hf
    obtain ⟨k, L1, e1, hf⟩ := Out.bind_ok hf
    refine (ht.use e1 S1 fun θ1 H1 x1 S2 => ?_) pins s I
    cases k with
    | false =>
      rw [if_neg Bool.false_ne_true] at hf ⊢
      cases hf
      exact q θ1 σ' H1 (x'.trans x1) S2
    | true =>
      rw [if_pos rfl] at hf ⊢
      obtain ⟨⟨f, ρ3⟩, L3, e3, hf⟩ := Out.bind_ok hf
      refine ⟨fun σ'' H'' => ∃ θ'' ρ'' L'', Ext X.K θ H θ'' H'' ∧ (KF X.K H'' → Sim X.K CA θ'' ρ'' L'' σ'' H'') ∧ whileM t mb C n ρ'' L'' = .ok r L', fun σ'' H'' z => ⟨n, Nat.lt_succ_self n, z⟩, ?_⟩
      refine hb ρ' L1 (f, ρ3) L3 e3 θ1 σ' H1 _ S2 ?_
      have x03 := x'.trans x1
      cases f with
      | next => exact fun θ4 σ4 H4 x4 S4 => ⟨θ4, ρ3, L3, x03.trans x4, fun _ => S4, hf⟩
      | cont => exact fun θ4 σ4 H4 x4 S4 => ⟨θ4, ρ3, L3, x03.trans x4, fun _ => S4, hf⟩
      | brk =>
        cases hf
        exact fun θ4 σ4 H4 x4 S4 => q θ4 σ4 H4 (x03.trans x4) S4
      | ret v =>
        cases hf
        exact PostE.later x03 q
theorem whileM_more {n : Nat} {ρ : Rho} {L : List MO} {r : Fl × Rho} {L' : List MO} (h : whileM t mb C n ρ L = .ok r L') : whileM t mb C (n + 1) ρ L = .ok r L' := by
  induction n generalizing ρ L with
  | zero => cases h
  | succ n ih =>
    unfold whileM at h ⊢
    obtain ⟨k, L1, e1, h⟩ := Out.bind_ok h
    rw [e1]
    show (if k = true then _ else _) = _
    cases k with
    | false => exact h
    | true =>
      rw [if_pos rfl] at h ⊢
      obtain ⟨⟨f, ρ3⟩, L3, e3, h⟩ := Out.bind_ok h
      rw [e3]
      cases f with
      | next => exact ih h
      | cont => exact ih h
      | brk => exact h
      | ret v => exact h
theorem whileM_le {n k : Nat} (hk : n ≤ k) {ρ : Rho} {L : List MO} {r : Fl × Rho} {L' : List MO} (h : whileM t mb C n ρ L = .ok r L') : whileM t mb C k ρ L = .ok r L' := by
  induction hk with
  | refl => exact h
  | step _ ih => exact whileM_more ih
theorem mWhile_ok {n : Nat} {ρ : Rho} {L : List MO} {r : Fl × Rho} {L' : List MO} (h : whileM t mb C n ρ L = .ok r L') : mWhile t mb C ρ L = .ok r L' := by
  have ex : ∃ n r L', whileM t mb C n ρ L = .ok r L' := ⟨n, r, L', h⟩
  unfold mWhile
  rw [dif_pos ex]
  obtain ⟨r2, L2, h2⟩ := ex.choose_spec
  have a := whileM_le (Nat.le_max_left n ex.choose) h
  have b := whileM_le (Nat.le_max_right n ex.choose) h2
  rw [a] at b
  rw [h2]
  exact b.symm
end
end Ev
set_option Elab.async false
set_option linter.all false
set_option maxRecDepth 100000
namespace Ev
open PySem PySem.Spec L2

/-! ## o.pop(0) of a list of ours -/
def mPop (mo me : M) : M := fun C ρ L => (mo C ρ L).bind fun o L1 => (me C ρ L1).bind fun y L2 => match fz o, fz y with
  | .h n, .d (.int i) => match L1[n]?, L2[n]? with
    | some (.lst _), some (.lst (x :: xs)) => if i = 0 then .ok (.d x) (L2.set n (.lst xs)) else .no
    | _, _ => .no
  | _, _ => .no
section
variable {CA : Str → Addr} {X : Cx} {C : Calls} {o e : Expr} {mo me : M} {apos cpos : Pos}
theorem se_pop (ho : SE CA X C o mo) (he : SE CA X C e me) (hbase : attributeBase o "pop" X.env (eval o X.env) = eval o X.env) (hline : (apos.endLine == cpos.line) = true) (hs : noStar e = true) :
    SE CA X C (.Call (.Attribute o "pop" apos) [e] [] cpos) (mPop mo me) := fun ρ L z L' hm θ σ H Q S q => by
  obtain ⟨ov, L1, e1, hm⟩ := Out.bind_ok hm
  obtain ⟨y, L2, e2, hm⟩ := Out.bind_ok hm
  split at hm
  · rename_i n i eo ey
    split at hm
    · rename_i xs0 x xs hL1 hL2
      split at hm
      · rename_i hi
        subst hi
        cases hm
        have hst := star_of (env := X.env) (es := []) hs
        refine ofE (pe_bm PySem.F.plainAttrs_list PySem.F.slot_list_pop PySem.F.type_list_pop mt_popAt (sE o) (pa_cons (sE e) pa_nil hst) hbase (by rw [hst]; rfl) hline hst rfl) (ho.use e1 S fun v θ1 H1 x1 S1 r1 => ?_)
        rw [eo] at r1
        obtain ⟨p, rfl, hp⟩ := r1
        obtain ⟨p', vs0, g1, g2, _⟩ := S1.live.lst hL1
        rw [hp] at g1; cases g1
        refine ⟨.inl ⟨rfl, vs0, (LsOk.of g2).sq⟩, he.use e2 S1 fun u θ2 H2 x2 S2 r2 => ?_⟩
        rw [ey] at r2
        cases r2
        have hp2 := x2.get hp
        obtain ⟨p', vs, h1, h2, h3⟩ := S2.live.lst hL2
        rw [hp2] at h1; cases h1
        cases h3 with
        | @cons w ws _ _ hw hws =>
          refine ⟨p, w :: ws, 0, 0, w, rfl, rfl, h2, by omega, by omega, by simp [seqIndex?], rfl, ?_⟩
          obtain ⟨x3, l3⟩ := S2.live.write hp2 (o := .lst ws) (m := .lst xs) ⟨_, upd_same, RL.mono (S2.live.writeX hp2 _) hws⟩
          exact q w θ2 _ ((x1.trans x2).trans x3) l3 (R.mono (S2.live.writeX hp2 _) hw)
      · cases hm
    · cases hm
  · cases hm
end
end Ev
set_option Elab.async false
set_option linter.all false
set_option maxRecDepth 100000
namespace Ev
open PySem PySem.Spec L2

/-! ## o.extend(e) of a list of ours, e a list just made -/
def mExt (mo me : M) : M := fun C ρ L => (mo C ρ L).bind fun o L1 => (me C ρ L1).bind fun y L2 => match fz o, y with
  | .h n, .new zs => match L1[n]?, L2[n]? with
    | some (.lst _), some (.lst xs) => if xs.length + zs.length ≤ sizeLine then .ok (.d .non) (L2.set n (.lst (xs ++ zs))) else .no
    | _, _ => .no
  | _, _ => .no
theorem NewAt.raw {K : PySem.W.Frag} {CA : Str → Addr} {θ θ' : List Addr} {H H' : Hp} {L' : List MO} {a : Addr} {xs : List D} (h : NewAt K CA θ H θ' L' a xs H') : ∃ vs, H' a = some (.lst vs) ∧ RL K θ' H' vs xs := by
  have hl := h.more.at_ θ'.length a (.lst xs) (by simp) (by rw [h.live.len]; simp)
  obtain ⟨vs, e, r⟩ := hl
  exact ⟨vs, e, r.less fun b hb => List.mem_append_left _ hb⟩
section
variable {CA : Str → Addr} {X : Cx} {C : Calls} {o e : Expr} {mo me : M} {apos cpos : Pos}
theorem se_ext (ho : SE CA X C o mo) (he : SE CA X C e me) (hbase : attributeBase o "extend" X.env (eval o X.env) = eval o X.env) (hline : (apos.endLine == cpos.line) = true) (hs : noStar e = true) :
    SE CA X C (.Call (.Attribute o "extend" apos) [e] [] cpos) (mExt mo me) := fun ρ L z L' hm θ σ H Q S q => by
  obtain ⟨ov, L1, e1, hm⟩ := Out.bind_ok hm
  obtain ⟨y, L2, e2, hm⟩ := Out.bind_ok hm
  split at hm
  · rename_i n zs eo
    split at hm
    · rename_i xs0 xs hL1 hL2
      split at hm
      · rename_i hlen
        cases hm
        have hst := star_of (env := X.env) (es := []) hs
        refine ofE (pe_bm PySem.F.plainAttrs_list PySem.F.slot_list_extend PySem.F.type_list_extend mt_extend (sE o) (pa_cons (sE e) pa_nil hst) hbase (by rw [hst]; rfl) hline hst rfl) (ho.use e1 S fun v θ1 H1 x1 S1 r1 => ?_)
        rw [eo] at r1
        obtain ⟨p, rfl, hp⟩ := r1
        obtain ⟨p', vs0, g1, g2, _⟩ := S1.live.lst hL1
        rw [hp] at g1; cases g1
        refine ⟨.inl ⟨rfl, vs0, (LsOk.of g2).sq⟩, semE_kf (he ρ L1 _ L2 e2 θ1 σ H1 _ S1 fun b θ2 H2 N kf => ?_)⟩
        obtain ⟨us, hb, rb⟩ := N.raw
        have hp2 := N.ext.get hp
        obtain ⟨p', vs, h1, h2, h3⟩ := N.live.lst hL2
        rw [hp2] at h1; cases h1
        refine ⟨p, b, vs, us, rfl, rfl, h2, hb, by rw [h3.length, rb.length]; exact hlen, ?_⟩
        obtain ⟨x3, l3⟩ := N.live.write hp2 (o := .lst (vs ++ us)) (m := .lst (xs ++ zs)) ⟨_, upd_same, RL.mono (N.live.writeX hp2 _) (h3.append rb)⟩
        exact q .non θ2 _ ((x1.trans N.ext).trans x3) l3 .non
      · cases hm
    · cases hm
  · cases hm
end
end Ev
set_option Elab.async false
set_option linter.all false
set_option maxRecDepth 100000
namespace HT
open PySem PySem.Spec PyProof.Rows
section
variable {prog : Program} {w : World} {A : Around} {E : Value → Shared → Prop} {s : Shared}
theorem rangeRev (xs : Array Value) : ((List.range xs.size).filterMap fun (m : Nat) => xs[(((xs.size : Int) - 1) + (m : Int) * (-1)).toNat]?) = xs.toList.reverse := by
  have e : (fun (m : Nat) => xs[(((xs.size : Int) - 1) + (m : Int) * (-1)).toNat]?) = (fun x => xs[x]?) ∘ fun k => xs.size - 1 - k := by
    funext m
    have : (((xs.size : Int) - 1) + (m : Int) * (-1)).toNat = xs.size - 1 - m := by omega
    rw [this]
    rfl
  rw [e, ← List.filterMap_map, PySem.W.krv_range, List.filterMap_reverse, PySem.W.krv_all]
theorem sliceApplied_rev {sl : Addr} {vl vu vs : Value} {n : Nat} {Q : Int × Int × Nat → Shared → Prop} (hs : s.heap.IsSliceOf sl vl vu vs) (pl : IsPart vl none) (pu : IsPart vu none) (ps : IsPart vs (some (-1)))
    (h : Q ((n : Int) - 1, -1, n) s) : wpAny (model prog w) A (Builtin.Slice.sliceApplied (.ref sl) (pure (n : Int))) Q E s := by
  obtain ⟨os, hos, hcs, hds⟩ := id hs
  unfold Builtin.Slice.sliceApplied Builtin.Slice.sliceFields
  refine wpAny_bind (wpAny_bind (wpAny_field hos hds (x := vl) rfl (wpAny_bind (wpAny_field hos hds (x := vu) rfl (wpAny_bind (wpAny_field hos hds (x := vs) rfl (wpAny_pure ?_)))))))
  refine wpAny_bind (slicePart_ ps ?_)
  show wpAny _ _ (if ((-1 : Int) == 0) = true then _ else _) _ _ s
  rw [if_neg (by decide)]
  refine wpAny_bind (slicePart_ pl (wpAny_bind (slicePart_ pu (wpAny_bind (wpAny_pure ?_)))))
  show wpAny _ _ (pure ((n : Int) - 1, (-1 : Int), Builtin.Slice.slicePlaces ((n : Int) - 1) (-1) (-1))) _ _ s
  have e : Builtin.Slice.slicePlaces ((n : Int) - 1) (-1) (-1) = n := by
    unfold Builtin.Slice.slicePlaces
    have h1 : ¬ ((-1 : Int) > 0) := by omega
    have h2 : (- -1 : Int) = 1 := by omega
    simp only [h1, if_false, h2, Int.ediv_one]
    split <;> omega
  rw [e]
  exact wpAny_pure h
theorem getItem_tuple_rev {t sl : Addr} {items : Array Value} {vl vu vs : Value} {Q : Value → Shared → Prop} (ht : IsTup s.heap t items) (hs : s.heap.IsSliceOf sl vl vu vs) (pl : IsPart vl none) (pu : IsPart vu none) (ps : IsPart vs (some (-1)))
    (h : Q (.ref s.heap.objs.size) { s with heap := s.heap.push { cls := .type "tuple", data := .seq items.toList.reverse.toArray } })
    (hsz : items.size ≤ sizeLine) : wpAny (model prog w) A (getItem (.ref t) (.ref sl)) Q E s := by
  have htake : sizeOk (.seq items.toList.reverse.toArray) := by
    show items.toList.reverse.toArray.size ≤ sizeLine
    rw [List.size_toArray, List.length_reverse, Array.length_toList]
    exact hsz
  obtain ⟨os, hos, hcs, hds⟩ := id hs
  have hTs : s.TypeIs (.ref sl) "slice" := ⟨os, hos, hcs⟩
  unfold getItem
  try with_reducible refine wpAny_holding ?_
  first | refine wpAny_bind (wpAny_pure ?_) | skip
  refine wpAny_bind (wpAny_sequenceKey ht.typeIs (by decide) ?_)
  refine wpAny_bind (wpAny_callSpecial?_slot (name := Str.ofString "__getitem__") ht.typeIs PyProof.Rows.slot_tuple_getitem
    (wpAny_call_entry PyProof.Rows.slot_tuple_getitem ht.typeIs entry_tuple_getitem ?_ (args_tuple_getitem _ _)))
  show wpAny _ _ (Builtin.Tuple.tupleItemsOf (.ref t) >>= _) _ _ s
  refine wpAny_bind (tupleItemsOf_ ht ?_)
  refine wpAny_bind (wpAny_typeOf hTs ?_)
  rw [if_pos (by decide)]
  refine wpAny_bind (sliceApplied_rev hs pl pu ps ?_)
  have hno : ¬ ((((items.size : Int) - 1) == 0 && (-1 : Int) == 1 && items.size == items.size) = true) := by
    intro q
    rw [Bool.and_eq_true, Bool.and_eq_true] at q
    have q1 : (-1 : Int) = 1 := eq_of_beq q.1.2
    omega
  show wpAny _ _ (if (((items.size : Int) - 1) == 0 && (-1 : Int) == 1 && items.size == items.size) = true then _ else _) _ _ s
  rw [if_neg hno, rangeRev]
  first
    | exact wpAny_bind (m := Builtin.Tuple.tupleExact _) (wpAny_newObj_type (wpAny_pure ⟨_, rfl, wpAny_pure h⟩) htake)
    | exact wpAny_bind (m := Builtin.Tuple.tupleExact _) (wpAny_newObj_type (wpAny_bind (wpAny_pure (wpAny_pure ⟨_, rfl, wpAny_pure h⟩))) htake)
    | exact wpAny_bind (wpAny_bind (m := Builtin.Tuple.tupleExact _) (wpAny_newObj_type (wpAny_pure (wpAny_pure ⟨_, rfl, wpAny_pure h⟩)) htake))
    | exact wpAny_bind (wpAny_bind (m := Builtin.Tuple.tupleExact _) (wpAny_newObj_type (wpAny_pure ⟨_, rfl, wpAny_pure h⟩) htake))
end
end HT
namespace Ev
open PySem PySem.Spec L2 PyProof.Rows

/-! ## t[::-1] -/
def tRev (K : PySem.W.Frag) (te : TE) : TE := fun σ H Q => te σ H fun x H1 => (∃ a xs, x = .ref a ∧ SqL K H1 a xs ∧ ∀ p, H1 p = none → KF K (upd H1 p (.lst xs.reverse)) → Q (.ref p) (upd H1 p (.lst xs.reverse))) ∨
  ∃ a xs, x = .ref a ∧ SqT K H1 a xs ∧ ∀ p, H1 p = none → Q (.ref p) (upd H1 p (.tup xs.reverse))
theorem pe_rev {X : Cx} {e : Expr} {te : TE} {k : Nat} {p1 p2 p3 pos : Pos} (he : PE X e te) : PE X (.Subscript e (.Slice none none (some (.UnaryOp .USub (.Constant (.int 1) k p1) p2)) p3) pos) (tRev X.K te) := by
  refine ⟨fun pins s σ H Q I h => ?_⟩
  refine Subscript_ (thn (he.run pins s σ H _ I h) fun v s1 ⟨x, H1, I1, r1, q1⟩ => ?_)
  have hst : PO X (some (.UnaryOp .USub (.Constant (.int 1) k p1) p2)) (tPart (tUn (rU fun i => .int (-i)) (tC (.int 1)))) := po_some (pe_un un_neg pe_int)
  refine wpAny_Slice (thn (po_none.run pins s1 σ H1 (fun o H2 => o = none ∧ H2 = H1) I1 ⟨rfl, rfl⟩) fun vl s2 ⟨l, H2, I2, pl, el, e2⟩ => ?_)
  subst el e2
  refine thn (po_none.run pins s2 σ H2 (fun o H3 => o = none ∧ H3 = H2) I2 ⟨rfl, rfl⟩) fun vu s3 ⟨u, H3, I3, pu, eu, e3⟩ => ?_
  subst eu e3
  refine thn (hst.run pins s3 σ H3 (fun o H4 => o = some (-1) ∧ H4 = H3) I3 ⟨1, rfl, -1, rfl, rfl, rfl⟩) fun vs s4 ⟨o, H4, I4, ps, eo, e4⟩ => ?_
  subst eo e4
  have I5 : Inv X pins σ H4 { s4 with heap := s4.heap.push { cls := .type "slice", data := .fields #[vl, vu, vs] } } := I4.kept (t' := s4.toks) fun b ob q => Heap.get?_push_of_some _ q
  rcases q1 with ⟨a, xs, ex, hx, q⟩ | ⟨a, xs, ex, hx, q⟩
  · subst ex
    cases r1
    obtain ⟨its, r, ht, hz⟩ := I5.list hx
    have hlen := r.length
    show wpAny (model X.prog X.w) X.A (subscriptTail e (.Slice none none (some (.UnaryOp .USub (.Constant (.int 1) k p1) p2)) p3) (.ref a) (.ref s4.heap.objs.size)) (EP X pins σ Q) X.xe { s4 with heap := s4.heap.push { cls := .type "slice", data := .fields #[vl, vu, vs] } }
    refine tail_any (ops := [.ref a, .ref s4.heap.objs.size]) ht.isList.typeIs (PySem.slot_list_getitem.lookup) ?_ (by with_unfolding_all rfl)
    refine wpAny_getItem_list_slice ht.isList (Heap.IsSliceOf.new _ vl vu vs) pl pu ps (by decide) ?_ (by rw [List.size_toArray]; omega)
    rw [PySem.W.krv_pick]
    have I6 := I5.laid (t' := s4.toks) (o := .lst xs.reverse) (fun b ob q => Heap.get?_push_of_some _ q) (Nat.le_refl _) ⟨by rw [List.length_reverse]; exact hz, _, 0, r.reverse, Heap.get?_push_size _ rfl⟩
    exact ⟨.ref _, _, I6, rfl, q _ (I5.hok.fresh (Nat.le_refl _)) (kf_of I6)⟩
  · subst ex
    cases r1
    obtain ⟨its, r, ht, hz⟩ := I5.tuple hx
    have hlen := r.length
    show wpAny (model X.prog X.w) X.A (subscriptTail e (.Slice none none (some (.UnaryOp .USub (.Constant (.int 1) k p1) p2)) p3) (.ref a) (.ref s4.heap.objs.size)) (EP X pins σ Q) X.xe { s4 with heap := s4.heap.push { cls := .type "slice", data := .fields #[vl, vu, vs] } }
    refine tail_any (ops := [.ref a, .ref s4.heap.objs.size]) ht.typeIs (PyProof.Rows.slot_tuple_getitem.lookup) ?_ (by with_unfolding_all rfl)
    refine HT.getItem_tuple_rev ht (Heap.IsSliceOf.new _ vl vu vs) pl pu ps ?_ (by rw [List.size_toArray]; omega)
    refine ⟨.ref _, _, I5.laid (t' := s4.toks) (o := .tup xs.reverse) (fun b ob q => Heap.get?_push_of_some _ q) (Nat.le_refl _) ?_, rfl, q _ (I5.hok.fresh (Nat.le_refl _))⟩
    exact ⟨by rw [List.length_reverse]; exact hz, _, r.reverse, IsTup.new _ _⟩
def bRev (L : List MO) : Val → Option Val
  | .d (.tup xs) => some (.d (.tup xs.reverse))
  | x => (view L x).map fun xs => .new xs.reverse
def mRev (m : M) : M := fun C ρ L => (m C ρ L).bind fun x L1 => ofOpt (bRev L1 (fz x)) L1
section
variable {CA : Str → Addr} {X : Cx} {C : Calls} {a : Expr} {ma : M} {pos : Pos}
theorem se_rev {k : Nat} {p1 p2 p3 : Pos} (ha : SE CA X C a ma) : SE CA X C (.Subscript a (.Slice none none (some (.UnaryOp .USub (.Constant (.int 1) k p1) p2)) p3) pos) (mRev ma) := fun ρ L z L' hm θ σ H Q S q => by
  obtain ⟨x, L1, e1, hm⟩ := Out.bind_ok hm
  obtain ⟨e2, rfl⟩ := ofOpt_ok hm
  refine ofE (pe_rev (sE a)) (ha.use e1 S fun v θ1 H1 x1 S1 r1 => ?_)
  have q := q.later x1
  have l := S1.live
  unfold bRev at e2
  split at e2
  · rename_i xs hx
    cases e2
    rw [hx] at r1
    cases r1 with
    | tup h1 h2 h3 => exact .inr ⟨_, _, rfl, h2, fun p hp => q.tup l h3.reverse hp⟩
  · cases e : view L' (fz x) with
    | none => rw [e] at e2; cases e2
    | some xs =>
      rw [e] at e2; cases e2
      obtain ⟨b, vs, rfl, h1, h2⟩ := view_ok l r1 e
      exact .inl ⟨b, vs, rfl, h1.sq, fun p hp kf => q.lst l h2.reverse hp kf⟩
end
end Ev
set_option Elab.async false
set_option linter.all false
set_option maxRecDepth 100000
namespace Ev
open PySem PySem.Spec L2

/-! ## for x in reversed(t), t a tuple -/
def mRvs (m : M) : MI := fun C ρ L => (m C ρ L).bind fun x L1 => match fz x with
  | .d (.tup xs) => .ok ⟨xs.reverse, none⟩ L1
  | _ => .no
section
variable {CA : Str → Addr} {X : Cx} {C : Calls} {e tg : Expr} {m : M} {pos : Pos}
theorem it_rev {K : PySem.W.Frag} {θ : List Addr} {H : Hp} {p : Addr} {vs : List V} {xs : List D} (np : p ∉ θ) (h : SqT K H p vs) (r : RL K θ H vs xs) : ItOk K CA (RT.ItvT K p vs.length) ⟨xs.reverse, none⟩ θ H := by
  have hl := r.length
  refine ⟨fun θ' L H' i x _ _ hi => ?_, fun θ' L H' i y H'' x l _ hy hi => ?_, fun θ' L H' x _ _ => ?_⟩
  · have h' := (x.sqT np h).2
    have hi : i < xs.length := by simpa using hi
    obtain ⟨v, hv, _⟩ := r.get (List.getElem?_eq_getElem (show vs.length - 1 - i < xs.length by omega))
    exact ⟨by omega, vs, v, h', hv⟩
  · obtain ⟨rfl, q⟩ := hy
    have h' := (x.sqT np h).2
    have hi : i < xs.length := by simpa using hi
    obtain ⟨d, hd, rd⟩ := r.get' (q vs h')
    exact ⟨d, by show xs.reverse[i]? = _; rw [List.getElem?_reverse hi, ← hl]; exact hd, Ext.refl l.kk, l, R.mono x rd⟩
  · show vs.length ≤ xs.reverse.length
    rw [List.length_reverse]
    omega
theorem si_rev {p : Pos} (hg : Gl X "reversed") (hmg : X.mg "reversed" = none) (h : SE CA X C e m) (hs : noStar e = true) : SI CA X C tg (.Call (.Name "reversed" p) [e] [] pos) (mRvs m) := fun ρ L s L' hm θ σ H Q S q => by
  obtain ⟨x, L1, e1, hm⟩ := Out.bind_ok hm
  split at hm
  · rename_i xs ex
    cases hm
    refine ofI (RT.pi_revA hg hmg (sE e) (star_of hs)) (h.use e1 S fun v θ1 H1 x1 S1 r1 => ?_)
    rw [ex] at r1
    cases r1 with
    | tup h1 h2 h3 => exact ⟨_, _, rfl, .inr ⟨h2, q _ θ1 H1 x1 S1 (it_rev h1 h2 h3) trivial⟩⟩
  · cases hm
end
end Ev
set_option Elab.async false
set_option linter.all false
set_option maxRecDepth 100000
namespace Ev
open PySem PySem.Spec L2

/-! ## from the text to denotations -/
structure Den where
  e : Gam → Expr → Option M
  t : Gam → Expr → Option MT
  i : Gam → Expr → Expr → Option MI
  g : Gam → Expr → Option (List Nat × MG)
  s : Gam → Stmt → Option MS
  x : Gam → Expr → Option M
def argsOf (f : Expr → Option M) : List Expr → Option MA
  | [] => some mNil
  | e :: es => if noStar e = true then (f e).bind fun m => (argsOf f es).map fun ms => mCons m ms else none
def cstOf : Const → Option D
  | .none => some .non
  | .bool b => some (.bl b)
  | .int i => some (.int i)
  | .str x => some (.str x)
  | _ => none
def nameOf (Γ : Gam) (x : Str) : Option M :=
  if (x == ("__debug__" : Str)) = true ∨ (x == ("__classdict__" : Str)) = true then none
  else if isVis Γ x = true then (slot Γ x).map mVar
  else if isGl Γ x = true then (Γ.T.cst.lookup x).map mK
  else none
def opB : Operator → Option (Val → Val → List MO → Option Val)
  | .Add => some bAdd
  | .Sub => some bSub
  | .Mult => some bMul
  | .Mod => some bMod
  | .FloorDiv => some bDiv
  | _ => none
def cmpG : CmpOp → Option (Val → Val → List MO → Option Val)
  | .Eq => some (cEq false)
  | .NotEq => some (cEq true)
  | .Lt => some (cLt fun i j => decide (i < j))
  | .LtE => some (cLt fun i j => decide (i ≤ j))
  | .Gt => some (cLt fun i j => decide (j < i))
  | .GtE => some (cLt fun i j => decide (j ≤ i))
  | .In => some (cIn false)
  | .NotIn => some (cIn true)
  | .Is => some (cIs false)
  | .IsNot => some (cIs true)
def binOf (r : Gam → Expr → Option M) (Γ : Gam) (a : Expr) (op : Operator) (b : Expr) : Option M := (opB op).bind fun g => (r Γ a).bind fun ma => (r Γ b).map fun mb => mBin g ma mb
def boolOf (r : Gam → Expr → Option M) (Γ : Gam) (op : BoolOp) (pos : Pos) : List Expr → Option M
  | [a] => r Γ a
  | a :: b :: rest => (r Γ a).bind fun ma => (r Γ (.BoolOp op (b :: rest) pos)).map fun mb => match op with
    | .And => mAnd ma mb
    | .Or => mOr ma mb
  | [] => none
def unOf (r : Gam → Expr → Option M) (Γ : Gam) (op : UnaryOp) (a : Expr) : Option M := match op with
  | .USub => (r Γ a).map mNeg
  | .Not => (r Γ a).map mNot
  | _ => none
def cmpOf (r : Gam → Expr → Option M) (Γ : Gam) (a : Expr) (ops : List CmpOp) (bs : List Expr) : Option M := match ops, bs with
  | [op], [b] => if noSet b = true then (cmpG op).bind fun g => (r Γ a).bind fun ma => (r Γ b).map fun mb => mBin g ma mb else none
  | [op, op'], [b, c] => if noSet c = true then (cmpG op).bind fun g => (cmpG op').bind fun g' => (r Γ a).bind fun ma => (r Γ b).bind fun mb => (r Γ c).map fun mc => mChain g g' ma mb mc else none
  | _, _ => none
def partOf (r : Gam → Expr → Option M) (Γ : Gam) : Option Expr → Option MO'
  | none => some mNoPart
  | some e => (r Γ e).map mPart
def subOf (r : Gam → Expr → Option M) (Γ : Gam) (a b : Expr) : Option M := match b with
  | .Slice lo hi none _ => (r Γ a).bind fun ma => (partOf r Γ lo).bind fun ml => (partOf r Γ hi).map fun mh => mSl ma ml mh
  | .Slice none none (some (.UnaryOp .USub (.Constant (.int 1) _ _) _)) _ => (r Γ a).map mRev
  | .Slice _ _ (some _) _ => none
  | b => if noSl b = true then (r Γ a).bind fun ma => (r Γ b).map fun mb => mBin bIx ma mb else none
def keyOf' : Const → Option Key
  | .int i => some (.inl i)
  | .str x => some (.inr x)
  | _ => none
def pairsOf : List (Option Expr) → List Expr → Option (List (Key × D))
  | [], [] => some []
  | some (.Constant c _ _) :: ks, .Constant v _ _ :: vs => (keyOf' c).bind fun k => (cstOf v).bind fun d => (pairsOf ks vs).map fun r => (k, d) :: r
  | _, _ => none
def dictOf' (keys : List (Option Expr)) (values : List Expr) : Option M := match keys, values with
  | [], [] => some mDic0
  | keys, values => (pairsOf keys values).bind fun kds => if keys.length ≤ 15 ∧ (kds.map (·.1)).Nodup then some (mDic kds) else none
def keysOf : List (Option Expr) → Option (List Key)
  | [] => some []
  | some (.Constant c _ _) :: ks => (keyOf' c).bind fun k => (keysOf ks).map fun r => k :: r
  | _ => none
/-- a dict of ours -/
def dictH (r : Gam → Expr → Option M) (Γ : Gam) (keys : List (Option Expr)) (values : List Expr) : Option M := match keys, values with
  | [], [] => some mDicH0
  | keys, values => (keysOf keys).bind fun ks => if keys.length ≤ 15 ∧ ks.Nodup ∧ keys.length = values.length then (argsOf (r Γ) values).map fun ms => mDicH ks ms else none
def dictE (r : Gam → Expr → Option M) (Γ : Gam) (keys : List (Option Expr)) (values : List Expr) : Option M := match dictOf' keys values with
  | some m => some m
  | none => dictH r Γ keys values
def biTab : List (Str × Bool × String × (List Val → List MO → Option Val)) :=
  [("len", false, "len", biLen), ("sum", false, "sum", biSum), ("all", false, "all", biAll), ("any", false, "any", biAny), ("sorted", false, "sorted", biSorted), ("min", false, "min", biMin), ("max", false, "max", biMax),
   ("int", true, "int", biInt), ("tuple", true, "tuple", biTuple), ("list", true, "list", biList)]
def isiOf (r : Gam → Expr → Option M) (Γ : Gam) (e : Expr) (t : Str) : Option M :=
  if noStar e = true ∧ isGl Γ "isinstance" = true ∧ ("isinstance" : Str) ∈ Γ.T.blts ∧ isGl Γ t = true ∧ t ∈ Γ.T.blts then
    (isTypes.find? fun (T : String) => Str.ofString T == t).bind fun T => (r Γ e).map fun m => mIsi T m
  else none
def plainCall (r : Gam → Expr → Option M) (Γ : Gam) (f : Str) (args : List Expr) : Option M :=
  if isGl Γ f = true ∧ (f == ("__debug__" : Str)) = false ∧ args.all noStar = true then
    if f ∈ Γ.T.blts then match args with
      | [] => none
      | e :: es => if (f == ("repr" : Str)) = true then (if Γ.T.rep = true then (argsOf (r Γ) (e :: es)).map fun ms => mBi biRepr ms else none) else (biTab.lookup f).bind fun b => (argsOf (r Γ) (e :: es)).map fun ms => mBi b.2.2 ms
    else match Γ.T.cls.find? (fun c => c.name == f) with
      | some c => match args with
        | [] => none
        | e :: es => if (e :: es).length = c.np then (argsOf (r Γ) (e :: es)).map fun ms => mMak c.name c.init ms else none
      | none => (Γ.T.fns.lookup f).bind fun i => if args.length = i.2 then (argsOf (r Γ) args).map fun ms => mCall i.1 ms else none
  else none
/-- sorted(set(e)) -/
def setArg (Γ : Gam) (x : Str) : Expr → Option Expr
  | .Call (.Name y _) [e] [] _ => if (x == ("sorted" : Str)) = true ∧ (y == ("set" : Str)) = true ∧ noStar e = true ∧ isGl Γ "sorted" = true ∧ isGl Γ "set" = true ∧ ("sorted" : Str) ∈ Γ.T.blts ∧ ("set" : Str) ∈ Γ.T.blts then some e else none
  | _ => none
/-- name.append(e) -/
def appOf (r : Gam → Expr → Option M) (Γ : Gam) (x : Str) (p : Pos) (nm : Str) (apos cpos : Pos) (args : List Expr) : Option M := match args with
  | [e] => if (nm == ("append" : Str)) = true ∧ (apos.endLine == cpos.line) = true ∧ noStar e = true then (r Γ (.Name x p)).bind fun mo => (r Γ e).map fun me => mApp mo me
    else if (nm == ("pop" : Str)) = true ∧ (apos.endLine == cpos.line) = true ∧ noStar e = true then (r Γ (.Name x p)).bind fun mo => (r Γ e).map fun me => mPop mo me
    else if (nm == ("extend" : Str)) = true ∧ (apos.endLine == cpos.line) = true ∧ noStar e = true then (r Γ (.Name x p)).bind fun mo => (r Γ e).map fun me => mExt mo me else none
  | _ => none
/-- name.m(e, ..) of an own class -/
def mthOf (r : Gam → Expr → Option M) (Γ : Gam) (o : Expr) (nm : Str) (apos cpos : Pos) (args : List Expr) : Option M := match args with
  | e :: es => if (e :: es).all noStar = true ∧ (e :: es).length < 30 ∧ (apos.endLine == cpos.line) = true ∧ (Γ.T.mth nm (e :: es).length).isEmpty = false then (r Γ o).bind fun mo => (argsOf (r Γ) (e :: es)).map fun ms => mMth (Γ.T.mth nm (e :: es).length) mo nm ms else none
  | [] => none
def callOf (r : Gam → Expr → Option M) (Γ : Gam) (f : Expr) (args : List Expr) (kws : List Keyword) (cpos : Pos) : Option M := match f, kws with
  | .Attribute (.Name x p) nm apos, [] => match mthOf r Γ (.Name x p) nm apos cpos args with
    | some m => some m
    | none => appOf r Γ x p nm apos cpos args
  | .Attribute (.Call (.Name x p) (b :: bs) [] p2) nm apos, [] => mthOf r Γ (.Call (.Name x p) (b :: bs) [] p2) nm apos cpos args
  | .Name x _, [] => match args with
    | [e, .Name t _] => if (x == ("isinstance" : Str)) = true then isiOf r Γ e t else plainCall r Γ x args
    | [b] => match setArg Γ x b with
      | some e => (r Γ e).map mSortSet
      | none => plainCall r Γ x args
    | _ => plainCall r Γ x args
  | _, _ => none
def ownOf (Γ : Gam) (scope : Scope) : List (Str × Nat) := scope.names.filterMap fun y => match y.2 with
  | .local => (slot Γ y.1).map fun i => (y.1, i)
  | .cell => (slot Γ y.1).map fun i => (y.1, i)
  | _ => none
def Gam.inBlk (Γ : Gam) (scope : Scope) : Gam := { Γ with sc := relS scope Γ.sc, raw := some scope }
def ifsOf (t : Gam → Expr → Option MT) (Γ : Gam) : List Expr → Option MT
  | [] => some mtYes
  | [c] => t Γ c
  | _ => none
noncomputable def compOf (r : Den) (Γ : Gam) (elt : Expr) (gens : List Comprehension) (scope : Scope) : Option M := match gens with
  | [⟨tg, iter, ifs, 0⟩] => if blkC Γ.N Γ.sc scope (ownOf Γ scope) = true ∧ noSetI iter = true then
      (r.i Γ tg iter).bind fun it => (r.g (Γ.inBlk scope) tg).bind fun g => (ifsOf r.t (Γ.inBlk scope) ifs).bind fun t => (r.e (Γ.inBlk scope) elt).bind fun m =>
        if (∀ i ∈ g.1, i ∈ (ownOf Γ scope).map (·.2)) then some (mComp it ((ownOf Γ scope).map (·.2)) g.2 t m) else none
    else none
  | [⟨tg, iter, ifs, 0⟩, ⟨tg1, iter1, ifs1, 0⟩] => if blkC Γ.N Γ.sc scope (ownOf Γ scope) = true ∧ noSetI iter = true ∧ noSetI iter1 = true then
      (r.i Γ tg iter).bind fun it => (r.g (Γ.inBlk scope) tg).bind fun g => (ifsOf r.t (Γ.inBlk scope) ifs).bind fun t => (r.i (Γ.inBlk scope) tg1 iter1).bind fun it1 => (r.g (Γ.inBlk scope) tg1).bind fun g1 => (ifsOf r.t (Γ.inBlk scope) ifs1).bind fun t1 => (r.e (Γ.inBlk scope) elt).bind fun m =>
        if (∀ i ∈ g.1, i ∈ (ownOf Γ scope).map (·.2)) ∧ (∀ i ∈ g1.1, i ∈ (ownOf Γ scope).map (·.2)) then some (mComp2 it ((ownOf Γ scope).map (·.2)) g.2 t it1 g1.1 g1.2 t1 m) else none
    else none
  | _ => none
noncomputable def denE (r : Den) (Γ : Gam) : Expr → Option M
  | .Constant c _ _ => (cstOf c).map mK
  | .Name x _ => nameOf Γ x
  | .BinOp a op b _ => binOf r.e Γ a op b
  | .UnaryOp op a _ => unOf r.e Γ op a
  | .BoolOp op vs pos => boolOf r.e Γ op pos vs
  | .Compare a ops bs _ => cmpOf r.e Γ a ops bs
  | .IfExp c a b _ => (r.t Γ c).bind fun t => (r.e Γ a).bind fun ma => (r.e Γ b).map fun mb => mIf t ma mb
  | .Tuple es _ _ => (argsOf (r.e Γ) es).map mTup
  | .List es _ => (argsOf (r.e Γ) es).map mLst
  | .Dict ks vs _ => dictE r.e Γ ks vs
  | .Subscript a b _ => subOf r.e Γ a b
  | .Call f args kws pos => callOf r.e Γ f args kws pos
  | .Attribute (.Name x p) f _ => if (Γ.T.fld f).isEmpty = false then (r.e Γ (.Name x p)).map fun m => mFld (Γ.T.fld f) m f else none
  | .ListComp elt gens scope _ => compOf r Γ elt gens scope
  | _ => none
/-- and, or as tests: the tails -/
def boolT (r : Gam → Expr → Option MT) (Γ : Gam) (op : BoolOp) : List Expr → Option MT
  | [a] => r Γ a
  | a :: b :: rest => (r Γ a).bind fun ta => (boolT r Γ op (b :: rest)).map fun tb => match op with
    | .And => mtAnd ta tb
    | .Or => mtOr ta tb
  | [] => none
def cmpT (r : Gam → Expr → Option M) (Γ : Gam) (a : Expr) (ops : List CmpOp) (bs : List Expr) : Option MT := (cmpOf r Γ a ops bs).map mtOf
noncomputable def denT (r : Den) (Γ : Gam) : Expr → Option MT
  | .BoolOp op vs _ => boolT r.t Γ op vs
  | .Compare a ops bs _ => cmpT r.e Γ a ops bs
  | .UnaryOp .Not a _ => (r.t Γ a).map mtNot
  | .IfExp .. => none
  | e => (r.e Γ e).map mtTru
def rngOf (r : Gam → Expr → Option M) (Γ : Gam) (args : List Expr) : Option MI :=
  if isGl Γ "range" = true ∧ ("range" : Str) ∈ Γ.T.blts ∧ args.all noStar = true then match args with
    | [a] => (r Γ a).map mRng1
    | [a, b] => (r Γ a).bind fun ma => (r Γ b).map fun mb => mRng2 ma mb
    | _ => none
  else none
def isRange : Expr → Bool
  | .Call (.Name f _) _ [] _ => f == ("range" : Str)
  | _ => false
def zipOf (r : Gam → Expr → Option M) (Γ : Gam) (tg : Expr) (args : List Expr) : Option MI :=
  if isGl Γ "zip" = true ∧ ("zip" : Str) ∈ Γ.T.blts ∧ args.all noStar = true then match tg, args with
    | .Tuple _ _ _, [a, b] => (argsOf (r Γ) [a, b]).map mZip
    | _, _ => none
  else none
def rvsOf (r : Gam → Expr → Option M) (Γ : Gam) (args : List Expr) : Option MI := match args with
  | [a] => if isGl Γ "reversed" = true ∧ ("reversed" : Str) ∈ Γ.T.blts ∧ noStar a = true then (r Γ a).map mRvs else none
  | _ => none
noncomputable def denI (r : Den) (Γ : Gam) (tg e : Expr) : Option MI := match e with
  | .Call (.Name f p) args [] pos => if (f == ("range" : Str)) = true then rngOf r.e Γ args else if (f == ("zip" : Str)) = true then zipOf r.e Γ tg args else if (f == ("reversed" : Str)) = true then rvsOf r.e Γ args else (r.e Γ (.Call (.Name f p) args [] pos)).map mIt
  | e => (r.e Γ e).map mIt
/-- targets -/
def gsOf (f : Expr → Option (List Nat × MG)) : List Expr → Option (List Nat × (List D → Calls → Rho → List MO → Out Rho))
  | [] => some ([], gNil')
  | t :: ts => if noStarT t = true then (f t).bind fun g => (gsOf f ts).map fun r => (g.1 ++ r.1, gCons' g.2 r.2) else none
noncomputable def denG (r : Den) (Γ : Gam) : Expr → Option (List Nat × MG)
  | .Name x _ => if isLoc Γ x = true ∧ fnP Γ x = true then (slot Γ x).map fun i => ([i], gName' i) else none
  | .Tuple ts _ _ => if ts.all noStarT = true then (gsOf (r.g Γ) ts).map fun g => (g.1, gTup' ts.length g.2) else none
  | .Subscript o i _ => if noSl i = true then (r.e Γ o).bind fun mo => (r.e Γ i).map fun mi => ([], gSub' mo mi) else none
  | _ => none
def ssOf (f : Stmt → Option MS) : List Stmt → Option MS
  | [] => some mEmpty
  | [s] => f s
  | s :: r => (f s).bind fun m => (ssOf f r).map fun n => mSeq m n
/-- what an assignment does with its name -/
def setK (Γ : Gam) (x : Str) (i : Nat) (m : M) : MS := if x ∈ Γ.lv then mSetL i m else mSet i m
/-- a comprehension's list goes to the name at once -/
def swapC (Γ : Gam) (x : Str) (p2 : Pos) (scope : Scope) (pos : Pos) : Bool :=
  Γ.sc.names.lookup x == some .local && p2.line == pos.line && !(scope.names.any fun y => y.1 == x && (y.2 == .local || y.2 == .cell))
def isStarred : Expr → Bool
  | .Starred .. => true
  | _ => false
/-- the plain local names on the first one's line -/
def parNames (Γ : Gam) (ts : List Expr) : List Str := ts.filterMap fun t => match t with
  | .Name id pos => if (Γ.sc.names.lookup id == some .local && pos.line == (Option.map (fun z => z.pos.line) ts.head?).getD 0) = true then some id else none
  | _ => none
/-- a, b = x, y: the names that are stored so; none inside: as any other tuple -/
def parOf (Γ : Gam) (ts vs : List Expr) : Option (Option (List Str)) :=
  if ((!(ts.length == 2 || ts.length == 3)) || vs.length != ts.length) = true then some none
  else if vs.any isStarred = true then some none
  else if ((parNames Γ ts).length != ts.length || (parNames Γ ts).eraseDups.length != (parNames Γ ts).length) = true then some none
  else if vs.all (foldedForSure 8) = true then some none
  else if vs.all (constantsAlone 8) = true then none
  else some (some (parNames Γ ts))
def okRhs : Expr → Bool
  | .SetComp .. => false
  | .DictComp .. => false
  | _ => true
def isLcl (Γ : Gam) (x : Str) : Bool := Γ.sc.names.lookup x == some .local
/-- what goes to a live name -/
def liveOf (r : Gam → Expr → Option M) (Γ : Gam) (x : Str) (e : Expr) : Option M := if x ∈ Γ.lv then (match e with
  | .Dict ks vs _ => dictH r Γ ks vs
  | e => r Γ e) else r Γ e
noncomputable def asgOf (r : Den) (Γ : Gam) (tg e : Expr) (pos : Pos) : Option MS := match tg with
  | .Name x p2 => if isLoc Γ x = true ∧ fnP Γ x = true ∧ okRhs e = true then (slot Γ x).bind fun i => (liveOf r.e Γ x e).map fun m => setK Γ x i m else none
  | .Tuple ts j p => match e with
    | .Tuple vs _ _ => (parOf Γ ts vs).bind fun w => match w with
      | none => (r.e Γ e).bind fun m => (r.g Γ (.Tuple ts j p)).map fun g => mAsg m g.2
      | some names => match ts, vs with
        | [.Name x _, .Name y _], [a, b] => if names = [x, y] ∧ x ≠ y ∧ isLcl Γ x = true ∧ isLcl Γ y = true then (slot Γ x).bind fun i => (slot Γ y).bind fun l => (argsOf (r.e Γ) [a, b]).map fun ms => mPar2 i l ms else none
        | [.Name x _, .Name y _, .Name z _], [a, b, c] => if names = [x, y, z] ∧ x ≠ y ∧ x ≠ z ∧ y ≠ z ∧ isLcl Γ x = true ∧ isLcl Γ y = true ∧ isLcl Γ z = true then (slot Γ x).bind fun i => (slot Γ y).bind fun l => (slot Γ z).bind fun k => (argsOf (r.e Γ) [a, b, c]).map fun ms => mPar3 i l k ms else none
        | _, _ => none
    | e => (r.e Γ e).bind fun m => (r.g Γ (.Tuple ts j p)).map fun g => mAsg m g.2
  | .Subscript o i p => (r.e Γ e).bind fun m => (r.g Γ (.Subscript o i p)).map fun g => mAsg m g.2
  | .Attribute (.Name x p) f _ => if noComp e = true ∧ (Γ.T.fld f).isEmpty = false then (r.e Γ e).bind fun m => (r.e Γ (.Name x p)).map fun mo => mSetA (Γ.T.fld f) mo f m else none
  | _ => none
def opAug : Operator → Option (Val → Val → List MO → Option Val)
  | .Add => some bIAdd
  | .Sub => some bSub
  | _ => none
/-- a call of a def that may raise, or with such a call in it -/
def isNamed (xs : List Str) : Expr → Bool
  | .Call (.Name f _) _ _ _ => xs.contains f
  | _ => false
def isRse (Γ : Gam) : Expr → Bool
  | .Call (.Name f _) args _ _ => Γ.T.rse.contains f || args.any (isNamed Γ.T.rse)
  | _ => false
def argsX (r : Gam → Expr → Option M) (Γ : Gam) : List Expr → Option MA
  | [] => some mNil
  | e :: es => if noStar e = true then (r Γ e).bind fun m => (argsX r Γ es).map fun ms => mConsX m ms else none
def callX (r : Gam → Expr → Option M) (Γ : Gam) : Expr → Option M
  | .Call (.Name f _) (e :: es) [] _ => if isGl Γ f = true ∧ (f == ("__debug__" : Str)) = false ∧ (e :: es).all noStar = true then
      (Γ.T.fns.lookup f).bind fun i => if (e :: es).length = i.2 then (argsX r Γ (e :: es)).map fun ms => mCallX i.1 ms else none
    else none
  | _ => none
def denX (r : Den) (Γ : Gam) (e : Expr) : Option M := if isRse Γ e = true then callX r.x Γ e else (r.e Γ e).map mKill
def asgX (r : Den) (Γ : Gam) : Expr → Expr → Option MS
  | .Name x _, .Call f a k p => if isLoc Γ x = true ∧ fnP Γ x = true ∧ x ∉ Γ.lv then (slot Γ x).bind fun i => (r.x Γ (.Call f a k p)).map fun m => mSetX i m else none
  | _, _ => none
def raiseOf (Γ : Gam) : Expr → Option MS
  | .Call (.Name c _) [.Constant (.str _) _ _] [] _ => if isGl Γ c = true ∧ c ∈ Γ.T.exc ∧ (c == ("__debug__" : Str)) = false then some (mRaise c) else none
  | _ => none
def tryOf (r : Den) (Γ : Gam) (body : List Stmt) : List ExceptHandler → Option MS
  | [.ExceptHandler (some (.Name c _)) none [.Return (some (.Constant k _ _)) _] _] => if isGl Γ c = true ∧ c ∈ Γ.T.exc ∧ (c == ("__debug__" : Str)) = false ∧ Γ.raw.isNone = true then (cstOf k).bind fun d => (ssOf (r.s Γ) body).map fun mb => mTry c d mb else none
  | _ => none
noncomputable def denS (r : Den) (Γ : Gam) : Stmt → Option MS
  | .Return none _ => some mRetN
  | .Return (some e) _ => if isRse Γ e = true then (r.x Γ e).map mRetX else (r.e Γ e).map mRet
  | .If c a b _ => (r.t Γ c).bind fun t => (ssOf (r.s Γ) a).bind fun ma => (ssOf (r.s Γ) b).map fun mb => mIfS t ma mb
  | .For tg iter body [] _ => if noSetI iter = true then (r.i Γ tg iter).bind fun it => (r.g Γ tg).bind fun g => (ssOf (r.s Γ) body).map fun mb => mFor it g.2 mb else none
  | .While c body [] _ => (r.t Γ c).bind fun t => (ssOf (r.s Γ) body).map fun mb => mWhile t mb
  | .AugAssign (.Name x _) op e _ => if isLoc Γ x = true ∧ fnP Γ x = true then (opAug op).bind fun g => (slot Γ x).bind fun i => (r.e Γ e).map fun m => mAug i g m else none
  | .AugAssign (.Attribute (.Name x p) f _) op e _ => if (Γ.T.fld f).isEmpty = false then (opAug op).bind fun g => (r.e Γ (.Name x p)).bind fun mo => (r.e Γ e).map fun m => mAugA (Γ.T.fld f) mo f g m else none
  | .Assign [tg] e pos => if isRse Γ e = true then asgX r Γ tg e else asgOf r Γ tg e pos
  | .Expr e _ => if noComp e = true then (r.e Γ e).map mDrop else none
  | .Raise (some e) none _ => raiseOf Γ e
  | .Try body hs [] [] _ => tryOf r Γ body hs
  | .Pass _ => some mEmpty
  | .Break _ => some mBrk
  | .Continue _ => some mCont
  | _ => none
noncomputable def den : Nat → Den
  | 0 => ⟨fun _ _ => none, fun _ _ => none, fun _ _ _ => none, fun _ _ => none, fun _ _ => none, fun _ _ => none⟩
  | n + 1 => ⟨denE (den n), denT (den n), denI (den n), denG (den n), denS (den n), denX (den n)⟩
end Ev
set_option Elab.async false
set_option linter.all false
set_option maxRecDepth 100000
namespace Ev
open PySem PySem.Spec L2
structure DOk (CA : Str → Addr) (k : Nat) (C : Calls) (r : Den) : Prop where
  e : ∀ Γ X, CxOk CA k C Γ X → ∀ e m, r.e Γ e = some m → SE CA X C e m
  t : ∀ Γ X, CxOk CA k C Γ X → ∀ e m, r.t Γ e = some m → STt CA X C e m
  i : ∀ Γ X, CxOk CA k C Γ X → ∀ tg e m, r.i Γ tg e = some m → SI CA X C tg e m
  g : ∀ Γ X, CxOk CA k C Γ X → ∀ e m, r.g Γ e = some m → SG CA X C e m.1 m.2
  s : ∀ Γ X, CxOk CA k C Γ X → ∀ e m, r.s Γ e = some m → SS CA X C e m
  sx : ∀ Γ X, CxOk CA k C Γ X.nox → ∀ st m, r.s Γ st = some m → SX CA X C st m
  lc : ∀ Γ X, CxOk CA k C Γ X → ∀ elt gens scope pos m, r.e Γ (.ListComp elt gens scope pos) = some m → ∀ {i : Nat} {y : Str} {py spos : Pos} {mset : M → MS}, (mset = mSet i ∨ mset = mSetL i) → X.N[i]? = some y → X.env.scope.names.lookup y = some .local →
    swapsWith (.ListComp elt gens scope pos) (some (.Name y py)) spos.line X.env = pure true → SS CA X C (.Assign [.Name y py] (.ListComp elt gens scope pos) spos) (mset m)
  x : ∀ Γ X, CxOk CA k C Γ X.nox → ∀ e m, r.x Γ e = some m → SE CA X C e m ∧ SEX CA X C e m
section
variable {CA : Str → Addr} {k : Nat} {C : Calls} {Γ : Gam} {X : Cx} {r : Den}
theorem CxOk.units (h : CxOk CA k C Γ X) : X.A.units + 200 < cLine := by have := h.room.un; omega
theorem args_ok (D : DOk CA k C r) (h : CxOk CA k C Γ X) : ∀ {es : List Expr} {ms : MA}, argsOf (r.e Γ) es = some ms → SA CA X C es ms ∧ es.all noStar = true ∧ ∀ ρ L xs L', ms C ρ L = .ok xs L' → xs.length = es.length
  | [], ms, e => by
    cases e
    exact ⟨sa_nil, rfl, fun ρ L xs L' hm => by cases hm; rfl⟩
  | e :: es, ms, he => by
    unfold argsOf at he
    split at he
    · rename_i hs
      obtain ⟨m, e1, he⟩ := bind_ok he
      obtain ⟨ms', e2, rfl⟩ := map_ok he
      obtain ⟨i1, i2, i3⟩ := args_ok D h e2
      refine ⟨sa_cons (D.e Γ X h e m e1) i1 hs, by rw [List.all_cons, hs, i2]; rfl, fun ρ L xs L' hm => ?_⟩
      obtain ⟨x, L1, e1, hm⟩ := Out.bind_ok hm
      obtain ⟨ys, L2, e2, hm⟩ := Out.bind_ok hm
      cases hm
      simp [i3 _ _ _ _ e2]
    · cases he
theorem cst_ok {c : Const} {d : D} {j : Nat} {pos : Pos} (h : cstOf c = some d) : ∃ v, PE X (.Constant c j pos) (tC v) ∧ ∀ K θ H, R K θ H v d := by
  cases c with
  | none => cases h; exact ⟨_, pe_non, fun _ _ _ => .non⟩
  | bool b => cases h; exact ⟨_, pe_bl, fun _ _ _ => .bl b⟩
  | int i => cases h; exact ⟨_, pe_int, fun _ _ _ => .int i⟩
  | str x => cases h; exact ⟨_, pe_str, fun _ _ _ => .str x⟩
  | _ => cases h
theorem name_ok (h : CxOk CA k C Γ X) {x : Str} {m : M} {pos : Pos} (e : nameOf Γ x = some m) : SE CA X C (.Name x pos) m := by
  unfold nameOf at e
  split at e
  · cases e
  · rename_i hn
    rw [not_or] at hn
    have h1 : (x == ("__debug__" : Str)) = false := Bool.eq_false_iff.mpr hn.1
    have h2 : (x == ("__classdict__" : Str)) = false := Bool.eq_false_iff.mpr hn.2
    split at e
    · rename_i hv
      obtain ⟨i, e1, rfl⟩ := map_ok e
      exact se_var (h.slotOk e1) (h.vis hv) h1 h2
    · split at e
      · rename_i hg
        obtain ⟨d, e1, rfl⟩ := map_ok e
        obtain ⟨v, u, q1, q2, q3⟩ := h.cst x d e1
        exact se_glob (h.gl hg) q1 q2 h1 q3
      · cases e
theorem opB_ok {op : Operator} {g : Val → Val → List MO → Option Val} (h : opB op = some g) : OpOk CA X (binaryOp op) g := by
  cases op <;> first | (cases h; first | exact ok_add | exact ok_sub | exact ok_mul | exact ok_mod | exact ok_div) | cases h
theorem cmpG_ok (hu : X.A.units + 200 < cLine) {op : CmpOp} {g : Val → Val → List MO → Option Val} (h : cmpG op = some g) : OpOk CA X (compareOp op) g := by
  cases op <;> cases h
  · exact ok_eq hu false
  · exact ok_eq hu true
  · exact ok_lt
  · exact ok_le
  · exact ok_gt
  · exact ok_ge
  · exact ok_is false
  · exact ok_is true
  · exact ok_in hu false
  · exact ok_in hu true
theorem bool_ok (D : DOk CA k C r) (h : CxOk CA k C Γ X) {op : BoolOp} {vs : List Expr} {pos : Pos} {m : M} (e : boolOf r.e Γ op pos vs = some m) : SE CA X C (.BoolOp op vs pos) m := by
  unfold boolOf at e
  split at e
  · exact se_one (D.e Γ X h _ m e)
  · obtain ⟨ma, e1, e⟩ := bind_ok e
    obtain ⟨mb, e2, rfl⟩ := map_ok e
    cases op with
    | And => exact se_and (D.e Γ X h _ ma e1) (D.e Γ X h _ mb e2)
    | Or => exact se_or (D.e Γ X h _ ma e1) (D.e Γ X h _ mb e2)
  · cases e
theorem un_ok (D : DOk CA k C r) (h : CxOk CA k C Γ X) {op : UnaryOp} {a : Expr} {pos : Pos} {m : M} (e : unOf r.e Γ op a = some m) : SE CA X C (.UnaryOp op a pos) m := by
  unfold unOf at e
  split at e
  · obtain ⟨ma, e1, rfl⟩ := map_ok e
    exact se_neg (D.e Γ X h _ ma e1)
  · obtain ⟨ma, e1, rfl⟩ := map_ok e
    exact se_not (D.e Γ X h _ ma e1)
  · cases e
theorem cmp_ok (D : DOk CA k C r) (h : CxOk CA k C Γ X) {a : Expr} {ops : List CmpOp} {bs : List Expr} {pos : Pos} {m : M} (e : cmpOf r.e Γ a ops bs = some m) : SE CA X C (.Compare a ops bs pos) m ∧ STt CA X C (.Compare a ops bs pos) (mtOf m) := by
  unfold cmpOf at e
  split at e
  · split at e
    · rename_i hs
      obtain ⟨g, e1, e⟩ := bind_ok e
      obtain ⟨ma, e2, e⟩ := bind_ok e
      obtain ⟨mb, e3, rfl⟩ := map_ok e
      have ho := cmpG_ok (CA := CA) h.units e1
      exact ⟨se_cmp ho (D.e Γ X h _ ma e2) (D.e Γ X h _ mb e3) hs, st_cmp ho (D.e Γ X h _ ma e2) (D.e Γ X h _ mb e3) hs⟩
    · cases e
  · split at e
    · rename_i hs
      obtain ⟨g, e1, e⟩ := bind_ok e
      obtain ⟨g', e1', e⟩ := bind_ok e
      obtain ⟨ma, e2, e⟩ := bind_ok e
      obtain ⟨mb, e3, e⟩ := bind_ok e
      obtain ⟨mc, e4, rfl⟩ := map_ok e
      have ho := cmpG_ok (CA := CA) h.units e1
      have ho' := cmpG_ok (CA := CA) h.units e1'
      exact ⟨se_chain ho ho' (D.e Γ X h _ ma e2) (D.e Γ X h _ mb e3) (D.e Γ X h _ mc e4) hs, st_chain ho ho' (D.e Γ X h _ ma e2) (D.e Γ X h _ mb e3) (D.e Γ X h _ mc e4) hs⟩
    · cases e
  · cases e
theorem part_ok (D : DOk CA k C r) (h : CxOk CA k C Γ X) {o : Option Expr} {m : MO'} (e : partOf r.e Γ o = some m) : SO CA X C o m := by
  unfold partOf at e
  split at e
  · cases e; exact so_none
  · obtain ⟨ma, e1, rfl⟩ := map_ok e
    exact so_some (D.e Γ X h _ ma e1)
theorem sub_ok (D : DOk CA k C r) (h : CxOk CA k C Γ X) {a b : Expr} {pos : Pos} {m : M} (e : subOf r.e Γ a b = some m) : SE CA X C (.Subscript a b pos) m := by
  unfold subOf at e
  split at e
  · obtain ⟨ma, e1, e⟩ := bind_ok e
    obtain ⟨ml, e2, e⟩ := bind_ok e
    obtain ⟨mh, e3, rfl⟩ := map_ok e
    exact se_sl (D.e Γ X h _ ma e1) (part_ok D h e2) (part_ok D h e3)
  · obtain ⟨ma, e1, rfl⟩ := map_ok e
    exact se_rev (D.e Γ X h _ ma e1)
  · cases e
  · split at e
    · rename_i hs
      obtain ⟨ma, e1, e⟩ := bind_ok e
      obtain ⟨mb, e2, rfl⟩ := map_ok e
      exact se_ix (D.e Γ X h _ ma e1) (D.e Γ X h _ mb e2) hs
    · cases e
theorem key_ok {c : Const} {key : Key} {j : Nat} {pos : Pos} (h : keyOf' c = some key) : PE X (.Constant c j pos) (tC (kV key)) := by
  cases c with
  | int i => cases h; exact pe_int
  | str x => cases h; exact pe_str
  | _ => cases h
theorem pairs_ok : ∀ {keys : List (Option Expr)} {values : List Expr} {kds : List (Key × D)}, pairsOf keys values = some kds → ∃ us, SPairs X keys values us kds
  | [], [], _, h => by cases h; exact ⟨_, .nil⟩
  | some (.Constant c _ _) :: ks, .Constant v _ _ :: vs, kds, h => by
    obtain ⟨key, e1, h⟩ := bind_ok h
    obtain ⟨d, e2, h⟩ := bind_ok h
    obtain ⟨r, e3, rfl⟩ := map_ok h
    obtain ⟨us, q⟩ := pairs_ok e3
    obtain ⟨w, q1, q2⟩ := cst_ok (X := X) e2
    exact ⟨_, .cons (key_ok e1) q1 q2 q⟩
  | [], _ :: _, _, h => by simp [pairsOf] at h
  | none :: _, _, _, h => by simp [pairsOf] at h
  | some _ :: _, [], _, h => by simp [pairsOf] at h
  | some a :: _, b :: _, kds, h => by
    unfold pairsOf at h
    split at h
    · rename_i e1 e2; cases e1
    · rename_i c _ _ ks v _ _ vs e1 e2
      cases e1; cases e2
      obtain ⟨key, e1, h⟩ := bind_ok h
      obtain ⟨d, e2, h⟩ := bind_ok h
      obtain ⟨r, e3, rfl⟩ := map_ok h
      obtain ⟨us, q⟩ := pairs_ok e3
      obtain ⟨w, q1, q2⟩ := cst_ok (X := X) e2
      exact ⟨_, .cons (key_ok e1) q1 q2 q⟩
    · cases h
theorem dict_ok {keys : List (Option Expr)} {values : List Expr} {pos : Pos} {m : M} (e : dictOf' keys values = some m) : SE CA X C (.Dict keys values pos) m := by
  unfold dictOf' at e
  split at e
  · cases e; exact se_dic0
  · rename_i h0
    obtain ⟨kds, e1, e⟩ := bind_ok e
    split at e
    · rename_i hc
      cases e
      obtain ⟨us, q⟩ := pairs_ok (X := X) e1
      refine se_dic q ?_ hc.1 hc.2
      rintro rfl
      cases q
      exact h0 rfl rfl
    · cases e
theorem keys_ok : ∀ {keys : List (Option Expr)} {ks : List Key}, keysOf keys = some ks → ks.length = keys.length
  | [], _, h => by cases h; rfl
  | some (.Constant c _ _) :: keys, ks, h => by
    obtain ⟨key, e1, h⟩ := bind_ok h
    obtain ⟨r, e2, rfl⟩ := map_ok h
    simp [keys_ok e2]
  | none :: _, _, h => by simp [keysOf] at h
  | some a :: keys, ks, h => by
    unfold keysOf at h
    split at h
    · rename_i e; cases e
    · rename_i e
      cases e
      obtain ⟨key, e1, h⟩ := bind_ok h
      obtain ⟨r, e2, rfl⟩ := map_ok h
      simp [keys_ok e2]
    · cases h
theorem dictH_pairs (D : DOk CA k C r) (h : CxOk CA k C Γ X) : ∀ {keys : List (Option Expr)} {values : List Expr} {ks : List Key} {ms : MA}, keysOf keys = some ks → argsOf (r.e Γ) values = some ms → keys.length = values.length → SPairsE CA X C keys values ks ms
  | [], [], _, _, e1, e2, _ => by cases e1; cases e2; exact .nil
  | [], _ :: _, _, _, _, _, z => by simp at z
  | _ :: _, [], _, _, _, _, z => by simp at z
  | a :: keys, v :: values, ks, ms, e1, e2, z => by
    unfold keysOf at e1
    split at e1
    · rename_i q; cases q
    · rename_i c j pos keys' q
      cases q
      obtain ⟨key, q1, e1⟩ := bind_ok e1
      obtain ⟨ks', q2, rfl⟩ := map_ok e1
      unfold argsOf at e2
      split at e2
      · obtain ⟨m, q3, e2⟩ := bind_ok e2
        obtain ⟨ms', q4, rfl⟩ := map_ok e2
        exact .cons (key_ok q1) (D.e Γ X h v m q3) (dictH_pairs D h q2 q4 (by simpa using z))
      · cases e2
    · cases e1
theorem dictH_ok (D : DOk CA k C r) (h : CxOk CA k C Γ X) {keys : List (Option Expr)} {values : List Expr} {pos : Pos} {m : M} (e : dictH r.e Γ keys values = some m) : SE CA X C (.Dict keys values pos) m := by
  unfold dictH at e
  split at e
  · cases e; exact se_dicH0
  · rename_i h0
    obtain ⟨ks, e1, e⟩ := bind_ok e
    split at e
    · rename_i hc
      obtain ⟨ms, e2, rfl⟩ := map_ok e
      refine se_dicH (dictH_pairs D h e1 e2 hc.2.2) ?_ hc.1 hc.2.1
      rintro rfl
      have h3 := hc.2.2
      cases values with
      | nil => exact h0 rfl rfl
      | cons _ _ => simp at h3
    · cases e
theorem dictE_ok (D : DOk CA k C r) (h : CxOk CA k C Γ X) {keys : List (Option Expr)} {values : List Expr} {pos : Pos} {m : M} (e : dictE r.e Γ keys values = some m) : SE CA X C (.Dict keys values pos) m := by
  unfold dictE at e
  split at e
  · rename_i m' e1
    cases e
    exact dict_ok e1
  · exact dictH_ok D h e
def biGood (CA : Str → Addr) (b : Str × Bool × String × (List Val → List MO → Option Val)) : Prop :=
  (∀ X : Cx, X.calm = true → BiOk CA X (if b.2.1 = true then .type b.2.2.1 else .builtin b.2.2.1) b.2.2.2) ∧ bootBuiltins b.1 = some (if b.2.1 = true then .type b.2.2.1 else .builtin b.2.2.1) ∧ b.1 ≠ "__name__"
theorem biTab_ok : ∀ b ∈ biTab, biGood CA b := by
  intro b hb
  simp only [biTab, List.mem_cons, List.mem_nil_iff, or_false] at hb
  rcases hb with rfl | rfl | rfl | rfl | rfl | rfl | rfl | rfl | rfl | rfl
  · exact ⟨fun X _ => ok_len, by decide +kernel, by decide⟩
  · exact ⟨fun X hc => ok_sum hc, by decide +kernel, by decide⟩
  · exact ⟨fun X hc => ok_all hc, by decide +kernel, by decide⟩
  · exact ⟨fun X hc => ok_any hc, by decide +kernel, by decide⟩
  · exact ⟨fun X hc => ok_sorted, by decide +kernel, by decide⟩
  · exact ⟨fun X hc => ok_min hc, by decide +kernel, by decide⟩
  · exact ⟨fun X hc => ok_max hc, by decide +kernel, by decide⟩
  · exact ⟨fun X hc => ok_int, by decide +kernel, by decide⟩
  · exact ⟨fun X hc => ok_tuple, by decide +kernel, by decide⟩
  · exact ⟨fun X hc => ok_list, by decide +kernel, by decide⟩
theorem plain_ok (D : DOk CA k C r) (h : CxOk CA k C Γ X) {x : Str} {args : List Expr} {p pos : Pos} {m : M} (e : plainCall r.e Γ x args = some m) : SE CA X C (.Call (.Name x p) args [] pos) m := by
  unfold plainCall at e
  split at e
  · rename_i hc
    split at e
    · rename_i hb
      split at e
      · cases e
      · rename_i a es
        split at e
        · rename_i hrp
          split at e
          · rename_i hT
            obtain ⟨ms, e2, rfl⟩ := map_ok e
            obtain ⟨i1, i2, _⟩ := args_ok D h e2
            have hx := eq_of_beq hrp
            subst hx
            exact se_biB (ok_repr (h.gd hT) h.units) (h.gl hc.1) (h.blt _ hb) (by decide +kernel) i1 (by decide) hc.2.1 hc.2.2
          · cases e
        obtain ⟨b, e1, e⟩ := bind_ok e
        obtain ⟨ms, e2, rfl⟩ := map_ok e
        obtain ⟨i1, i2, _⟩ := args_ok D h e2
        obtain ⟨g1, g2, g3⟩ := biTab_ok (CA := CA) (x, b) (mem_of_lookup e1)
        obtain ⟨ty, id, g⟩ := b
        have g1 := g1 X h.calm
        cases ty with
        | true => exact se_biT g1 (h.gl hc.1) (h.blt x hb) g2 i1 g3 hc.2.1 hc.2.2
        | false => exact se_biB g1 (h.gl hc.1) (h.blt x hb) g2 i1 g3 hc.2.1 hc.2.2
    · split at e
      · rename_i c hcf
        split at e
        · cases e
        · split at e
          · rename_i hl
            obtain ⟨ms, e2, rfl⟩ := map_ok e
            obtain ⟨i1, i2, i3⟩ := args_ok D h e2
            have hcm := List.mem_of_find?_eq_some hcf
            have hcn : c.name = x := eq_of_beq (List.find?_some (p := fun c => ClsRow.name c == x) hcf)
            have F := h.mak c hcm
            rw [hcn] at F ⊢
            exact se_mak F h.room (h.gl hc.1) i1 (fun ρ L xs L' hm => (i3 ρ L xs L' hm).trans hl) hc.2.1 hc.2.2
          · cases e
      · obtain ⟨⟨id, n⟩, e1, e⟩ := bind_ok e
        split at e
        · rename_i hl
          obtain ⟨ms, e2, rfl⟩ := map_ok e
          obtain ⟨i1, i2, i3⟩ := args_ok D h e2
          have F := h.fns x id n e1
          cases args with
          | nil =>
            have hn : n = 0 := hl.symm
            subst hn
            cases e2
            exact se_call0 F h.room (h.gl hc.1) hc.2.1
          | cons a es => exact se_call F h.room (h.gl hc.1) i1 (fun ρ L xs L' hm => (i3 ρ L xs L' hm).trans hl) hc.2.1 hc.2.2
        · cases e
  · cases e
theorem isTypes_boot : ∀ T ∈ isTypes, bootBuiltins (Str.ofString T) = some (.type T) ∧ Str.ofString T ≠ "__name__" ∧ (Str.ofString T == ("__debug__" : Str)) = false := by
  intro T hT
  simp only [isTypes, List.mem_cons, List.mem_nil_iff, or_false] at hT
  rcases hT with rfl | rfl | rfl | rfl | rfl | rfl <;> exact ⟨by decide +kernel, by decide, by decide⟩
theorem isi_ok (D : DOk CA k C r) (h : CxOk CA k C Γ X) {e : Expr} {t : Str} {p p2 pos : Pos} {m : M} (he : isiOf r.e Γ e t = some m) : SE CA X C (.Call (.Name "isinstance" p) [e, .Name t p2] [] pos) m := by
  unfold isiOf at he
  split at he
  · rename_i hc
    obtain ⟨T, e1, he⟩ := bind_ok he
    obtain ⟨m', e2, rfl⟩ := map_ok he
    have hT := List.mem_of_find?_eq_some e1
    have ht : t = Str.ofString T := by
      have q := List.find?_some (p := fun (T : String) => Str.ofString T == t) e1
      exact (eq_of_beq q).symm
    obtain ⟨b1, b2, b3⟩ := isTypes_boot T hT
    subst ht
    exact se_isi (x := "") (D.e Γ X h _ m' e2) hT (h.gl hc.2.1) (h.blt _ hc.2.2.1) (h.gl hc.2.2.2.1) (h.blt _ hc.2.2.2.2) b1 b2 b3 hc.1
  · cases he
theorem setArg_ok (D : DOk CA k C r) (h : CxOk CA k C Γ X) {x : Str} {b e : Expr} {p pos : Pos} {m : M} (hb : setArg Γ x b = some e) (he : r.e Γ e = some m) : SE CA X C (.Call (.Name x p) [b] [] pos) (mSortSet m) := by
  unfold setArg at hb
  split at hb
  · split at hb
    · rename_i hc
      cases hb
      obtain ⟨c1, c2, c3, c4, c5, c6, c7⟩ := hc
      rw [eq_of_beq c1, eq_of_beq c2]
      exact se_sortSet (D.e Γ X h _ m he) h.calm (h.gl c4) (h.blt _ c6) (h.gl c5) (h.blt _ c7) c3
    · cases hb
  · cases hb
theorem app_ok (D : DOk CA k C r) (h : CxOk CA k C Γ X) {x nm : Str} {args : List Expr} {p apos cpos : Pos} {m : M} (he : appOf r.e Γ x p nm apos cpos args = some m) : SE CA X C (.Call (.Attribute (.Name x p) nm apos) args [] cpos) m := by
  unfold appOf at he
  split at he
  · split at he
    · rename_i hc
      obtain ⟨mo, e1, he⟩ := bind_ok he
      obtain ⟨me, e2, rfl⟩ := map_ok he
      rw [eq_of_beq hc.1]
      exact se_app (D.e Γ X h _ mo e1) (D.e Γ X h _ me e2) rfl hc.2.1 hc.2.2
    · split at he
      · rename_i hc
        obtain ⟨mo, e1, he⟩ := bind_ok he
        obtain ⟨me, e2, rfl⟩ := map_ok he
        rw [eq_of_beq hc.1]
        exact se_pop (D.e Γ X h _ mo e1) (D.e Γ X h _ me e2) rfl hc.2.1 hc.2.2
      · split at he
        · rename_i hc
          obtain ⟨mo, e1, he⟩ := bind_ok he
          obtain ⟨me, e2, rfl⟩ := map_ok he
          rw [eq_of_beq hc.1]
          exact se_ext (D.e Γ X h _ mo e1) (D.e Γ X h _ me e2) rfl hc.2.1 hc.2.2
        · cases he
  · cases he
theorem few_of {cpos : Pos} {env : Env} : ∀ {es : List Expr}, es.all noStar = true → (backTo cpos (starEach es env)).all (!·.1) = true
  | [], _ => rfl
  | e :: es, h => by
    rw [List.all_cons, Bool.and_eq_true] at h
    rw [star_of h.1]
    show (true && _) = true
    exact few_of h.2
theorem mth_ht {o : Expr} {nm : Str} {apos cpos : Pos} {es : List Expr} {env : Env} (hb : attributeBase o nm env (eval o env) = eval o env) (h1 : es.all noStar = true) (h2 : es.length < 30) (h3 : (apos.endLine == cpos.line) = true) :
    eval (.Call (.Attribute o nm apos) es [] cpos) env = (do
      let ov ← eval o env
      standAt apos.atName
      let (f, first) ← holding [ov] (getMethod ov nm (plainOf o env))
      callWith cpos f first (backTo cpos (starEach es env)) (backToKw cpos (keywordEach [] env))) := by
  have hf : methodCallForm (es.length + ([] : List Keyword).length) (backTo cpos (starEach es env)) (backToKw cpos (keywordEach [] env)) = true := by
    show (((backTo cpos (starEach es env)).all (!·.1) && true) && decide (es.length + 0 + 0 < 30)) = true
    rw [few_of h1]
    simpa using h2
  show (do
    let ov ← attributeBase o nm env (eval o env)
    standAt apos.atName
    methodCall o nm apos cpos env ov (es.length + ([] : List Keyword).length) (backTo cpos (starEach es env)) (backToKw cpos (keywordEach [] env))) = _
  rw [hb]
  congr 1
  funext ov
  congr 1
  funext _
  exact mcall_line hf h3
theorem mth_ok (D : DOk CA k C r) (h : CxOk CA k C Γ X) {o : Expr} {nm : Str} {args : List Expr} {apos cpos : Pos} {m : M} (hb : attributeBase o nm X.env (eval o X.env) = eval o X.env) (he : mthOf r.e Γ o nm apos cpos args = some m) : SE CA X C (.Call (.Attribute o nm apos) args [] cpos) m := by
  unfold mthOf at he
  split at he
  · split at he
    · rename_i hc
      obtain ⟨mo, e1, he⟩ := bind_ok he
      obtain ⟨ms, e2, rfl⟩ := map_ok he
      obtain ⟨i1, i2, i3⟩ := args_ok D h e2
      exact se_mth (fun c i hi => h.mth nm _ c i hi) h.room (D.e Γ X h _ mo e1) i1 i3 hc.1 (mth_ht hb hc.1 hc.2.1 hc.2.2.1)
    · cases he
  · cases he
theorem call_ok (D : DOk CA k C r) (h : CxOk CA k C Γ X) {f : Expr} {args : List Expr} {kws : List Keyword} {pos : Pos} {m : M} (e : callOf r.e Γ f args kws pos = some m) : SE CA X C (.Call f args kws pos) m := by
  unfold callOf at e
  split at e
  · split at e
    · rename_i m' e1
      cases e
      exact mth_ok D h rfl e1
    · exact app_ok D h e
  · exact mth_ok D h rfl e
  · split at e
    · split at e
      · rename_i hx
        rw [eq_of_beq hx]
        exact isi_ok D h e
      · exact plain_ok D h e
    · split at e
      · rename_i e1
        obtain ⟨m', e2, rfl⟩ := map_ok e
        exact setArg_ok D h e1 e2
      · exact plain_ok D h e
    · exact plain_ok D h e
  · cases e
theorem own_ok {Γ : Gam} {scope : Scope} (hb : blkC Γ.N Γ.sc scope (ownOf Γ scope) = true) (h : CxOk CA k C Γ X) : BlkOk X.N X.env.scope scope (ownOf Γ scope) := by
  rw [h.N, h.sc]
  exact blkOk_by hb
theorem ifs_ok (D : DOk CA k C r) (h : CxOk CA k C Γ X) {ifs : List Expr} {t : MT} (e : ifsOf r.t Γ ifs = some t) : STs CA X C ifs t := by
  unfold ifsOf at e
  split at e
  · cases e; exact sts_nil
  · exact sts_one (D.t Γ X h _ t e)
  · cases e
theorem comp_ok (D : DOk CA k C r) (h : CxOk CA k C Γ X) {elt : Expr} {gens : List Comprehension} {scope : Scope} {pos : Pos} {m : M} (e : compOf r Γ elt gens scope = some m) :
    SE CA X C (.ListComp elt gens scope pos) m ∧ ∀ {i : Nat} {y : Str} {py spos : Pos} {mset : M → MS}, (mset = mSet i ∨ mset = mSetL i) → X.N[i]? = some y → X.env.scope.names.lookup y = some .local → swapsWith (.ListComp elt gens scope pos) (some (.Name y py)) spos.line X.env = pure true → SS CA X C (.Assign [.Name y py] (.ListComp elt gens scope pos) spos) (mset m) := by
  unfold compOf at e
  split at e
  · split at e
    · rename_i hc
      obtain ⟨it, e1, e⟩ := bind_ok e
      obtain ⟨g, e2, e⟩ := bind_ok e
      obtain ⟨t, e3, e⟩ := bind_ok e
      obtain ⟨mm, e4, e⟩ := bind_ok e
      split at e
      · rename_i his
        cases e
        have ok := own_ok hc.1 h
        have hb := fun s0 H0 B cl fp => CxOk.blk h ok.kind s0 H0 B cl fp
        have a1 := D.i Γ X h _ _ it e1
        have a2 : Blk X scope fun Y => SG CA Y C _ g.1 g.2 := fun s0 H0 B cl fp => D.g _ _ (hb s0 H0 B cl fp) _ g e2
        have a3 : Blk X scope fun Y => STs CA Y C _ t := fun s0 H0 B cl fp => ifs_ok D (hb s0 H0 B cl fp) e3
        have a4 : Blk X scope fun Y => SE CA Y C elt mm := fun s0 H0 B cl fp => D.e _ _ (hb s0 H0 B cl fp) _ mm e4
        exact ⟨se_comp h.calm h.nd ok a1 a2 a3 a4 his hc.2, fun hset hy hyl hsw => ss_setComp hset h.calm h.nd hy hyl hsw ok a1 a2 a3 a4 his hc.2⟩
      · cases e
    · cases e
  · rename_i tg iter ifs tg1 iter1 ifs1
    split at e
    · rename_i hc
      obtain ⟨it, e1, e⟩ := bind_ok e
      obtain ⟨g, e2, e⟩ := bind_ok e
      obtain ⟨t, e3, e⟩ := bind_ok e
      obtain ⟨it1, e1', e⟩ := bind_ok e
      obtain ⟨g1, e2', e⟩ := bind_ok e
      obtain ⟨t1, e3', e⟩ := bind_ok e
      obtain ⟨mm, e4, e⟩ := bind_ok e
      split at e
      · rename_i his
        cases e
        have ok := own_ok hc.1 h
        have hb := fun s0 H0 B cl fp => CxOk.blk h ok.kind s0 H0 B cl fp
        have a1 := D.i Γ X h _ _ it e1
        have a2 : Blk X scope fun Y => SG CA Y C _ g.1 g.2 := fun s0 H0 B cl fp => D.g _ _ (hb s0 H0 B cl fp) _ g e2
        have a3 : Blk X scope fun Y => STs CA Y C _ t := fun s0 H0 B cl fp => ifs_ok D (hb s0 H0 B cl fp) e3
        have b1 : Blk X scope fun Y => SI CA Y C tg1 iter1 it1 := fun s0 H0 B cl fp => D.i _ _ (hb s0 H0 B cl fp) _ _ it1 e1'
        have b2 : Blk X scope fun Y => SG CA Y C _ g1.1 g1.2 := fun s0 H0 B cl fp => D.g _ _ (hb s0 H0 B cl fp) _ g1 e2'
        have b3 : Blk X scope fun Y => STs CA Y C _ t1 := fun s0 H0 B cl fp => ifs_ok D (hb s0 H0 B cl fp) e3'
        have a4 : Blk X scope fun Y => SE CA Y C elt mm := fun s0 H0 B cl fp => D.e _ _ (hb s0 H0 B cl fp) _ mm e4
        exact ⟨se_comp2 h.calm h.nd ok his.2 a1 a2 a3 b1 b2 b3 a4 his.1 (fun i hi => hi) hc.2.1 hc.2.2, fun hset hy hyl hsw => ss_setComp2 hset h.calm h.nd hy hyl hsw ok his.2 a1 a2 a3 b1 b2 b3 a4 his.1 (fun i hi => hi) hc.2.1 hc.2.2⟩
      · cases e
    · cases e
  · cases e

theorem boolT_ok (D : DOk CA k C r) (h : CxOk CA k C Γ X) {op : BoolOp} {pos : Pos} : ∀ {vs : List Expr} {t : MT}, boolT r.t Γ op vs = some t → SWt CA X C (.BoolOp op vs pos) t
  | [a], t, e => by
    have e : r.t Γ a = some t := e
    cases op with
    | And => exact sw_and1 (D.t Γ X h _ t e)
    | Or => exact sw_or1 (D.t Γ X h _ t e)
  | a :: b :: rest, t, e => by
    unfold boolT at e
    obtain ⟨ta, e1, e⟩ := bind_ok e
    obtain ⟨tb, e2, rfl⟩ := map_ok e
    have ih := boolT_ok D h (op := op) (pos := pos) e2
    cases op with
    | And => exact sw_and (D.t Γ X h _ ta e1) ih
    | Or => exact sw_or (D.t Γ X h _ ta e1) ih
  | [], t, e => by cases e
theorem rng_ok (D : DOk CA k C r) (h : CxOk CA k C Γ X) {args : List Expr} {p pos : Pos} {m : MI} {tg : Expr} (e : rngOf r.e Γ args = some m) : SI CA X C tg (.Call (.Name "range" p) args [] pos) m := by
  unfold rngOf at e
  split at e
  · rename_i hc
    split at e
    · obtain ⟨ma, e1, rfl⟩ := map_ok e
      have hs := hc.2.2
      rw [List.all_cons, Bool.and_eq_true] at hs
      exact si_rng1 (h.gl hc.1) (h.blt _ hc.2.1) (D.e Γ X h _ ma e1) hs.1
    · obtain ⟨ma, e1, e⟩ := bind_ok e
      obtain ⟨mb, e2, rfl⟩ := map_ok e
      have hs := hc.2.2
      rw [List.all_cons, List.all_cons, Bool.and_eq_true, Bool.and_eq_true] at hs
      exact si_rng2 (h.gl hc.1) (h.blt _ hc.2.1) (D.e Γ X h _ ma e1) (D.e Γ X h _ mb e2) hs.1 hs.2.1
    · cases e
  · cases e
theorem gs_ok (D : DOk CA k C r) (h : CxOk CA k C Γ X) : ∀ {ts : List Expr} {g : List Nat × (List Ev.D → Calls → Rho → List MO → Out Rho)}, gsOf (r.g Γ) ts = some g → SGs CA X C ts g.1 g.2
  | [], g, e => by cases e; exact sgs_nil
  | t :: ts, g, e => by
    unfold gsOf at e
    split at e
    · rename_i hs
      obtain ⟨g1, e1, e⟩ := bind_ok e
      obtain ⟨g2, e2, rfl⟩ := map_ok e
      exact sgs_cons (D.g Γ X h _ g1 e1) (gs_ok D h e2) hs
    · cases e
theorem ss_ok (D : DOk CA k C r) (h : CxOk CA k C Γ X) : ∀ {sts : List Stmt} {m : MS}, ssOf (r.s Γ) sts = some m → SSs CA X C sts m
  | [], m, e => by cases e; exact ss_empty
  | [s], m, e => ss_one (D.s Γ X h _ m e)
  | s :: s2 :: rest, m, e => by
    unfold ssOf at e
    obtain ⟨m1, e1, e⟩ := bind_ok e
    obtain ⟨m2, e2, rfl⟩ := map_ok e
    exact ss_cons (D.s Γ X h _ m1 e1) (ss_ok D h e2)
theorem e_ok (D : DOk CA k C r) (h : CxOk CA k C Γ X) {e : Expr} {m : M} (he : denE r Γ e = some m) : SE CA X C e m := by
  cases e with
  | Constant c j pos =>
    obtain ⟨d, e1, rfl⟩ := map_ok he
    obtain ⟨v, q1, q2⟩ := cst_ok (X := X) (j := j) (pos := pos) e1
    exact se_const q1 q2
  | Name x pos => exact name_ok h he
  | BinOp a op b pos =>
    obtain ⟨g, e1, he⟩ := bind_ok he
    obtain ⟨ma, e2, he⟩ := bind_ok he
    obtain ⟨mb, e3, rfl⟩ := map_ok he
    exact se_bin (opB_ok e1) (D.e Γ X h _ ma e2) (D.e Γ X h _ mb e3)
  | UnaryOp op a pos => exact un_ok D h he
  | BoolOp op vs pos => exact bool_ok D h he
  | Compare a ops bs pos => exact (cmp_ok D h he).1
  | IfExp c a b pos =>
    obtain ⟨t, e1, he⟩ := bind_ok he
    obtain ⟨ma, e2, he⟩ := bind_ok he
    obtain ⟨mb, e3, rfl⟩ := map_ok he
    exact se_if (D.t Γ X h _ t e1) (D.e Γ X h _ ma e2) (D.e Γ X h _ mb e3)
  | Tuple es j pos =>
    obtain ⟨ms, e1, rfl⟩ := map_ok he
    exact se_tup (args_ok D h e1).1
  | List es pos =>
    obtain ⟨ms, e1, rfl⟩ := map_ok he
    exact se_lst (args_ok D h e1).1
  | Dict ks vs pos => exact dictE_ok D h he
  | Subscript a b pos => exact sub_ok D h he
  | Attribute e f pos =>
    cases e with
    | Name x p =>
      have he : (if (Γ.T.fld f).isEmpty = false then (r.e Γ (.Name x p)).map fun m => mFld (Γ.T.fld f) m f else none) = some m := he
      split at he
      · obtain ⟨m', e1, rfl⟩ := map_ok he
        exact se_fld (D.e Γ X h _ m' e1) rfl (h.fld f)
      · cases he
    | _ => cases he
  | Call f args kws pos => exact call_ok D h he
  | ListComp elt gens scope pos => exact (comp_ok D h he).1
  | _ => cases he
theorem t_ok (D : DOk CA k C r) (h : CxOk CA k C Γ X) {e : Expr} {m : MT} (he : denT r Γ e = some m) : STt CA X C e m := by
  unfold denT at he
  split at he
  · exact st_w (boolT_ok D h he)
  · obtain ⟨m', e1, rfl⟩ := map_ok he
    exact (cmp_ok D h e1).2
  · obtain ⟨t, e1, rfl⟩ := map_ok he
    exact st_not (D.t Γ X h _ t e1)
  · cases he
  · rename_i h1 h2 h3 h4
    obtain ⟨m', e1, rfl⟩ := map_ok he
    refine st_plain (D.e Γ X h _ m' e1) ?_
    cases e with
    | BoolOp op vs pos => exact (h1 _ _ _ rfl).elim
    | Compare a ops bs pos => exact (h2 _ _ _ _ rfl).elim
    | IfExp c a b pos => exact (h4 _ _ _ _ rfl).elim
    | UnaryOp op a pos => cases op <;> first | rfl | exact (h3 _ _ rfl).elim
    | _ => rfl
theorem zip_ok (D : DOk CA k C r) (h : CxOk CA k C Γ X) {args : List Expr} {p pos : Pos} {m : MI} {tg : Expr} (e : zipOf r.e Γ tg args = some m) : SI CA X C tg (.Call (.Name "zip" p) args [] pos) m := by
  unfold zipOf at e
  split at e
  · rename_i hc
    split at e
    · obtain ⟨ms, e1, rfl⟩ := map_ok e
      exact si_zip (h.gl hc.1) (h.blt _ hc.2.1) (args_ok D h e1).1 hc.2.2
    · cases e
  · cases e
theorem rvs_ok (D : DOk CA k C r) (h : CxOk CA k C Γ X) {tg : Expr} {args : List Expr} {p pos : Pos} {m : MI} (he : rvsOf r.e Γ args = some m) : SI CA X C tg (.Call (.Name "reversed" p) args [] pos) m := by
  unfold rvsOf at he
  split at he
  · split at he
    · rename_i hc
      obtain ⟨ma, e1, rfl⟩ := map_ok he
      exact si_rev (h.gl hc.1) (h.blt _ hc.2.1) (D.e Γ X h _ ma e1) hc.2.2
    · cases he
  · cases he
theorem i_ok (D : DOk CA k C r) (h : CxOk CA k C Γ X) {tg e : Expr} {m : MI} (he : denI r Γ tg e = some m) : SI CA X C tg e m := by
  unfold denI at he
  split at he
  · split at he
    · rename_i hx
      rw [eq_of_beq hx]
      exact rng_ok D h he
    · split at he
      · rename_i hx
        rw [eq_of_beq hx]
        exact zip_ok D h he
      · split at he
        · rename_i hx
          rw [eq_of_beq hx]
          exact rvs_ok D h he
        · obtain ⟨m', e1, rfl⟩ := map_ok he
          exact si_it (D.e Γ X h _ m' e1)
  · obtain ⟨m', e1, rfl⟩ := map_ok he
    exact si_it (D.e Γ X h _ m' e1)
theorem g_ok (D : DOk CA k C r) (h : CxOk CA k C Γ X) {e : Expr} {m : List Nat × MG} (he : denG r Γ e = some m) : SG CA X C e m.1 m.2 := by
  cases e with
  | Name x pos =>
    have he : (if isLoc Γ x = true ∧ fnP Γ x = true then (slot Γ x).map fun i => ([i], gName' i) else none) = some m := he
    split at he
    · rename_i hc
      obtain ⟨i, e1, rfl⟩ := map_ok he
      exact sg_name (h.store e1 hc.1 hc.2)
    · cases he
  | Tuple ts j pos =>
    have he : (if ts.all noStarT = true then (gsOf (r.g Γ) ts).map fun g => (g.1, gTup' ts.length g.2) else none) = some m := he
    split at he
    · rename_i hs
      obtain ⟨g, e1, rfl⟩ := map_ok he
      exact sg_tup h.calm (gs_ok D h e1) hs
    · cases he
  | Subscript o i pos =>
    have he : (if noSl i = true then (r.e Γ o).bind fun mo => (r.e Γ i).map fun mi => (([] : List Nat), gSub' mo mi) else none) = some m := he
    split at he
    · rename_i hs
      obtain ⟨mo, e1, he⟩ := bind_ok he
      obtain ⟨mi, e2, rfl⟩ := map_ok he
      exact sg_sub h.units (D.e Γ X h _ mo e1) (D.e Γ X h _ mi e2) hs
    · cases he
  | _ => cases he
/-! ### assignments -/
theorem blockKind_of (h : CxOk CA k C Γ X) : X.env.blockKind = .function := by
  unfold Env.blockKind
  rw [h.sc, h.knd]
  rfl
theorem swapsC (h : CxOk CA k C Γ X) {elt : Expr} {gens : List Comprehension} {scope : Scope} {pos p2 : Pos} {x : Str} {l : Nat} : ∃ b, swapsWith (.ListComp elt gens scope pos) (some (.Name x p2)) l X.env = pure b ∧ (b = true → X.env.scope.names.lookup x = some .local) := by
  refine ⟨_, by unfold swapsWith; rfl, fun hb => ?_⟩
  rw [blockKind_of h] at hb
  simp only [Bool.and_eq_true] at hb
  exact eq_of_beq hb.1.1.2
theorem par_ok (h : CxOk CA k C Γ X) {ts vs : List Expr} {j j2 : Nat} {p p2 : Pos} {w : Option (List Str)} (e : parOf Γ ts vs = some w) : swappedStores [.Tuple ts j p] (.Tuple vs j2 p2) X.env = pure w := by
  have hk : ∀ id, X.env.kindOf id = Γ.sc.names.lookup id := fun id => by
    show X.env.scope.names.lookup id = _
    rw [h.sc]
  have hbk := blockKind_of h
  have hst : ∀ f : Expr → Bool, (∀ x, f x = isStarred x) → vs.any f = vs.any isStarred := fun f hf => by
    rw [show f = isStarred from funext hf]
  have hnm : ∀ f : Expr → Option Str, (∀ x, f x = match x with
      | .Name id pos => if (Γ.sc.names.lookup id == some .local && pos.line == (Option.map (fun z => z.pos.line) ts.head?).getD 0) = true then some id else none
      | _ => none) → ts.filterMap f = parNames Γ ts := fun f hf => by
    unfold parNames
    congr 1
    funext x
    rw [hf x]
    all_goals (cases x <;> rfl)
  unfold parOf at e
  unfold swappedStores
  dsimp only
  rw [hbk]
  simp only [hk]
  rw [hst _ (fun x => by cases x <;> rfl), hnm _ (fun x => by cases x <;> rfl)]
  have hb : (ScopeKind.function != ScopeKind.function) = false := rfl
  rw [hb, Bool.or_false]
  split at e
  · rename_i c
    cases e
    rw [if_pos c]
  · rename_i c
    rw [if_neg c]
    split at e
    · rename_i c
      cases e
      rw [if_pos c]
    · rename_i c
      rw [if_neg c]
      split at e
      · rename_i c
        cases e
        rw [if_pos c]
      · rename_i c
        rw [if_neg c]
        split at e
        · rename_i c
          cases e
          rw [if_pos c]
        · rename_i c
          rw [if_neg c]
          split at e
          · cases e
          · rename_i c
            cases e
            rw [if_neg c]
theorem setK_eq (Γ : Gam) (x : Str) (i : Nat) : (fun m => setK Γ x i m) = mSet i ∨ (fun m => setK Γ x i m) = mSetL i := by
  unfold setK
  by_cases h : x ∈ Γ.lv
  · exact .inr (by funext m; rw [if_pos h])
  · exact .inl (by funext m; rw [if_neg h])
theorem ss_setK (D : DOk CA k C r) (h : CxOk CA k C Γ X) {x : Str} {i : Nat} {e : Expr} {m : M} {p2 pos : Pos} (hs : Store X i x) (hr : okRhs e = true) (he : r.e Γ e = some m) : SS CA X C (.Assign [.Name x p2] e pos) (setK Γ x i m) := by
  have he' := D.e Γ X h _ m he
  have plain : swapsWith e (some (.Name x p2)) pos.line X.env = pure false → SS CA X C (.Assign [.Name x p2] e pos) (setK Γ x i m) := fun hsw => by
    unfold setK
    split
    · exact ss_setL hs he' hsw
    · exact ss_set hs he' hsw
  by_cases hc : noComp e = true
  · exact plain (swaps_of hc)
  · cases e with
    | ListComp elt gens scope p =>
      obtain ⟨b, q1, q2⟩ := swapsC h (elt := elt) (gens := gens) (scope := scope) (pos := p) (p2 := p2) (x := x) (l := pos.line)
      cases b with
      | false => exact plain q1
      | true => exact D.lc Γ X h elt gens scope p m he (mset := fun m => setK Γ x i m) (setK_eq Γ x i) hs.ix (q2 rfl) q1
    | SetComp => exact absurd (show false = true from hr) Bool.false_ne_true
    | DictComp => exact absurd (show false = true from hr) Bool.false_ne_true
    | _ => exact (hc rfl).elim
theorem slot_ne (h : CxOk CA k C Γ X) {x y : Str} {i l : Nat} (h1 : slot Γ x = some i) (h2 : slot Γ y = some l) (hne : x ≠ y) : i ≠ l := fun e => by
  have q1 := h.slotOk h1
  have q2 := h.slotOk h2
  rw [e, q2] at q1
  exact hne (Option.some.inj q1).symm
theorem lcl_of (h : CxOk CA k C Γ X) {x : Str} (e : isLcl Γ x = true) : X.env.scope.names.lookup x = some .local := by
  rw [h.sc]
  exact beq_of e
theorem asg_ok (D : DOk CA k C r) (h : CxOk CA k C Γ X) {tg e : Expr} {pos : Pos} {m : MS} (he : asgOf r Γ tg e pos = some m) : SS CA X C (.Assign [tg] e pos) m := by
  unfold asgOf at he
  split at he
  · split at he
    · rename_i hc
      obtain ⟨i, e1, he⟩ := bind_ok he
      obtain ⟨m', e2, rfl⟩ := map_ok he
      unfold liveOf at e2
      split at e2
      · rename_i hlv
        split at e2
        · unfold setK
          rw [if_pos hlv]
          exact ss_setL (h.store e1 hc.1 hc.2.1) (dictH_ok D h e2) (swaps_of rfl)
        · exact ss_setK D h (h.store e1 hc.1 hc.2.1) hc.2.2 e2
      · exact ss_setK D h (h.store e1 hc.1 hc.2.1) hc.2.2 e2
    · cases he
  · split at he
    · obtain ⟨w, e1, he⟩ := bind_ok he
      split at he
      · obtain ⟨m', e2, he⟩ := bind_ok he
        obtain ⟨g, e3, rfl⟩ := map_ok he
        exact ss_asg (D.e Γ X h _ m' e2) (D.g Γ X h _ g e3) rfl (par_ok h e1) rfl
      · split at he
        · split at he
          · rename_i hn
            obtain ⟨i, e2, he⟩ := bind_ok he
            obtain ⟨l, e3, he⟩ := bind_ok he
            obtain ⟨ms, e4, rfl⟩ := map_ok he
            rw [hn.1] at e1
            exact ss_par2 h.calm h.nd (h.slotOk e2) (h.slotOk e3) (slot_ne h e2 e3 hn.2.1) (lcl_of h hn.2.2.1) (lcl_of h hn.2.2.2) (args_ok D h e4).1 (par_ok h e1)
          · cases he
        · split at he
          · rename_i hn
            obtain ⟨i, e2, he⟩ := bind_ok he
            obtain ⟨l, e3, he⟩ := bind_ok he
            obtain ⟨o, e5, he⟩ := bind_ok he
            obtain ⟨ms, e4, rfl⟩ := map_ok he
            rw [hn.1] at e1
            exact ss_par3 h.calm h.nd (h.slotOk e2) (h.slotOk e3) (h.slotOk e5) (slot_ne h e2 e3 hn.2.1) (slot_ne h e2 e5 hn.2.2.1) (slot_ne h e3 e5 hn.2.2.2.1) (lcl_of h hn.2.2.2.2.1) (lcl_of h hn.2.2.2.2.2.1) (lcl_of h hn.2.2.2.2.2.2) (args_ok D h e4).1 (par_ok h e1)
          · cases he
        · cases he
    · rename_i hne
      obtain ⟨m', e2, he⟩ := bind_ok he
      obtain ⟨g, e3, rfl⟩ := map_ok he
      refine ss_asg (D.e Γ X h _ m' e2) (D.g Γ X h _ g e3) ?_ ?_ rfl
      · cases e <;> rfl
      · cases e <;> first | rfl | exact (hne _ _ _ rfl).elim
  · obtain ⟨m', e2, he⟩ := bind_ok he
    obtain ⟨g, e3, rfl⟩ := map_ok he
    refine ss_asg (D.e Γ X h _ m' e2) (D.g Γ X h _ g e3) ?_ ?_ rfl
    · cases e <;> rfl
    · cases e <;> rfl
  · split at he
    · rename_i hc
      obtain ⟨m', e2, he⟩ := bind_ok he
      obtain ⟨mo, e3, rfl⟩ := map_ok he
      exact ss_setA (D.e Γ X h _ mo e3) (D.e Γ X h _ m' e2) (h.fld _) (swaps_of hc.1)
    · cases he
  · cases he
theorem opAug_ok {op : Operator} {g : Val → Val → List MO → Option Val} (e : opAug op = some g) : OpOk CA X (inplaceOp op) g := by
  unfold opAug at e
  split at e
  · cases e; exact ok_iadd
  · cases e; exact ok_isub
  · cases e
/-! ### what is raised -/
theorem cst_all {c : Const} {d : D} (h : cstOf c = some d) : ∃ v, (∀ (X : Cx) (j : Nat) (pos : Pos), PE X (.Constant c j pos) (tC v)) ∧ ∀ K θ H, R K θ H v d := by
  cases c with
  | none => cases h; exact ⟨_, fun _ _ _ => pe_non, fun _ _ _ => .non⟩
  | bool b => cases h; exact ⟨_, fun _ _ _ => pe_bl, fun _ _ _ => .bl b⟩
  | int i => cases h; exact ⟨_, fun _ _ _ => pe_int, fun _ _ _ => .int i⟩
  | str x => cases h; exact ⟨_, fun _ _ _ => pe_str, fun _ _ _ => .str x⟩
  | _ => cases h
theorem SA.un {es : List Expr} {ms : MA} (h : SA CA X.nox C es ms) : SA CA X C es ms := fun ρ L xs L' hm θ σ H Q S q => by
  intro pos pins s I
  refine wpAny_mono (h ρ L xs L' hm θ σ H Q S q pos pins s (I.wish _)) (fun us s1 hs => ?_) fun _ _ z => False.elim z
  obtain ⟨vs, H1, I1, r1, q1⟩ := hs
  exact ⟨vs, H1, I1.unwish, r1, q1⟩
/-- what never raises -/
def NX (m : MS) : Prop := ∀ C ρ L e, m C ρ L ≠ .ex e
theorem NX.sx {st : Stmt} {m : MS} (h : NX m) : SX CA X C st m := fun W tk po ρ L e hm => (h _ _ _ _ hm).elim
theorem bind_nx {α β : Type} {o : Out α} {f : α → List MO → Out β} {e : Exc} (h : ∀ a L, f a L ≠ .ex e) : o.bind f ≠ .ex e := by
  cases o with
  | no => intro z; cases z
  | ok a L => exact h a L
  | ex x => intro z; cases z
theorem nx_ret {m : M} : NX (mRet m) := fun C ρ L e => bind_nx fun a L z => by cases z
theorem nx_drop {m : M} : NX (mDrop m) := fun C ρ L e => bind_nx fun a L z => by cases z
theorem nx_set {i : Nat} {m : M} : NX (mSet i m) := fun C ρ L e => bind_nx fun a L z => by cases z
theorem nx_setL {i : Nat} {m : M} : NX (mSetL i m) := fun C ρ L e => bind_nx fun a L z => by cases a <;> cases z
theorem nx_setK {Γ : Gam} {x : Str} {i : Nat} {m : M} : NX (setK Γ x i m) := by
  unfold setK
  split
  · exact nx_setL
  · exact nx_set
theorem nx_asg {m : M} {g : MG} : NX (mAsg m g) := fun C ρ L e => bind_nx fun a L => bind_nx fun a L z => by cases z
theorem nx_par2 {i l : Nat} {ms : MA} : NX (mPar2 i l ms) := fun C ρ L e => bind_nx fun a L z => by
  split at z <;> cases z
theorem nx_par3 {i l k : Nat} {ms : MA} : NX (mPar3 i l k ms) := fun C ρ L e => bind_nx fun a L z => by
  split at z <;> cases z
theorem nx_aug {i : Nat} {g : Val → Val → List MO → Option Val} {m : M} : NX (mAug i g m) := fun C ρ L e z => by
  unfold mAug at z
  repeat' (first | (split at z) | (exact bind_nx (fun a L z => by first | cases z | (split at z <;> cases z)) z) | (cases z))
theorem nx_augA {cs : List Str} {mo m : M} {f : Str} {g : Val → Val → List MO → Option Val} : NX (mAugA cs mo f g m) := fun C ρ L e => bind_nx fun o L1 z => by
  split at z
  · refine bind_nx (fun y L2 z => ?_) z
    split at z
    · split at z
      · split at z <;> cases z
      · cases z
    · cases z
  · cases z
theorem nx_setA {cs : List Str} {mo m : M} {f : Str} : NX (mSetA cs mo f m) := fun C ρ L e => bind_nx fun y L1 => bind_nx fun o L2 z => by
  split at z <;> cases z
theorem nx_while {t : MT} {mb : MS} : NX (mWhile t mb) := fun C ρ L e z => by
  unfold mWhile at z
  split at z
  · rename_i h
    obtain ⟨r, L', q⟩ := h.choose_spec
    rw [q] at z
    cases z
  · cases z
theorem asg_nx {tg e : Expr} {pos : Pos} {m : MS} (he : asgOf r Γ tg e pos = some m) : NX m := by
  unfold asgOf at he
  split at he
  · split at he
    · obtain ⟨i, e1, he⟩ := bind_ok he
      obtain ⟨m', e2, rfl⟩ := map_ok he
      exact nx_setK
    · cases he
  · split at he
    · obtain ⟨w, e1, he⟩ := bind_ok he
      split at he
      · obtain ⟨m', e2, he⟩ := bind_ok he
        obtain ⟨g, e3, rfl⟩ := map_ok he
        exact nx_asg
      · split at he
        · split at he
          · obtain ⟨i, e2, he⟩ := bind_ok he
            obtain ⟨l, e3, he⟩ := bind_ok he
            obtain ⟨ms, e4, rfl⟩ := map_ok he
            exact nx_par2
          · cases he
        · split at he
          · obtain ⟨i, e2, he⟩ := bind_ok he
            obtain ⟨l, e3, he⟩ := bind_ok he
            obtain ⟨o, e5, he⟩ := bind_ok he
            obtain ⟨ms, e4, rfl⟩ := map_ok he
            exact nx_par3
          · cases he
        · cases he
    · obtain ⟨m', e2, he⟩ := bind_ok he
      obtain ⟨g, e3, rfl⟩ := map_ok he
      exact nx_asg
  · obtain ⟨m', e2, he⟩ := bind_ok he
    obtain ⟨g, e3, rfl⟩ := map_ok he
    exact nx_asg
  · split at he
    · obtain ⟨m', e2, he⟩ := bind_ok he
      obtain ⟨mo, e3, rfl⟩ := map_ok he
      exact nx_setA
    · cases he
  · cases he
theorem nx_try {c : Str} {d : D} {mb : MS} : NX (mTry c d mb) := fun C ρ L e z => by
  unfold mTry at z
  split at z
  · cases z
  · split at z <;> cases z
  · cases z
theorem CxOk.noxx (h : CxOk CA k C Γ X) : CxOk CA k C Γ X.nox := by
  have e : X.nox = X := by
    have := h.xe
    cases X
    simp only at this
    subst this
    rfl
  rw [e]
  exact h
theorem sxs_ok (D : DOk CA k C r) (h : CxOk CA k C Γ X.nox) : ∀ {sts : List Stmt} {m : MS}, ssOf (r.s Γ) sts = some m → SXs CA X C sts m
  | [], m, he => by cases he; exact SXs.nil
  | [s], m, he => SXs.one (D.sx Γ X h s m he)
  | s :: t :: rest, m, he => by
    obtain ⟨m1, e1, he⟩ := bind_ok he
    obtain ⟨n1, e2, rfl⟩ := map_ok he
    exact SXs.cons (SS.un (D.s Γ X.nox h s m1 e1)) (D.sx Γ X h s m1 e1) (sxs_ok D h e2)
theorem argsX_ok (D : DOk CA k C r) (h : CxOk CA k C Γ X.nox) : ∀ {es : List Expr} {ms : MA}, argsX r.x Γ es = some ms → SA CA X C es ms ∧ SAX CA X C es ms ∧ ∀ ρ L xs L', ms C ρ L = .ok xs L' → xs.length = es.length
  | [], ms, he => by
    cases he
    exact ⟨sa_nil, sax_nil, fun ρ L xs L' hm => by cases hm; rfl⟩
  | e :: es, ms, he => by
    have he : (if noStar e = true then (r.x Γ e).bind fun m => (argsX r.x Γ es).map fun ms => mConsX m ms else none) = some ms := he
    split at he
    · rename_i hs
      obtain ⟨m, e1, he⟩ := bind_ok he
      obtain ⟨ns, e2, rfl⟩ := map_ok he
      obtain ⟨i1, i2, i3⟩ := argsX_ok D h e2
      obtain ⟨x1, x2⟩ := D.x Γ X h e m e1
      refine ⟨sa_consX x1 i1 hs, sax_cons x1 x2 i2 hs, fun ρ L xs L' hm => ?_⟩
      obtain ⟨y, L1, e3, hm⟩ := Out.bindX_ok hm
      obtain ⟨ys, L2, e4, hm⟩ := Out.bindX_ok hm
      cases hm
      simp [i3 _ _ _ _ e4]
    · cases he
theorem callX_ok (D : DOk CA k C r) (h : CxOk CA k C Γ X.nox) {e : Expr} {m : M} (he : callX r.x Γ e = some m) : SE CA X C e m ∧ SEX CA X C e m := by
  unfold callX at he
  split at he
  · split at he
    · rename_i hc
      obtain ⟨⟨id, n⟩, e1, he⟩ := bind_ok he
      split at he
      · rename_i hl
        obtain ⟨ms, e2, rfl⟩ := map_ok he
        obtain ⟨i1, i2, i3⟩ := argsX_ok D h e2
        have F := h.fns _ id n e1
        have G := h.rsf _ id n e1
        exact ⟨se_callX ⟨F.ex⟩ h.room (h.gl hc.1) i1 (fun ρ L xs L' hm => (i3 ρ L xs L' hm).trans hl) hc.2.1 hc.2.2, sex_callX ⟨G.ex⟩ h.room (h.gl hc.1) i1 i2 (fun ρ L xs L' hm => (i3 ρ L xs L' hm).trans hl) hc.2.1 hc.2.2⟩
      · cases he
    · cases he
  · cases he
theorem x_ok (D : DOk CA k C r) (h : CxOk CA k C Γ X.nox) {e : Expr} {m : M} (he : denX r Γ e = some m) : SE CA X C e m ∧ SEX CA X C e m := by
  unfold denX at he
  split at he
  · exact callX_ok D h he
  · obtain ⟨m', e1, rfl⟩ := map_ok he
    exact ⟨se_kill (SE.un (D.e Γ X.nox h e m' e1)), sex_kill⟩
theorem asgX_ok (D : DOk CA k C r) (h : CxOk CA k C Γ X.nox) {tg e : Expr} {pos : Pos} {m : MS} (he : asgX r Γ tg e = some m) : SS CA X C (.Assign [tg] e pos) m ∧ SX CA X C (.Assign [tg] e pos) m := by
  unfold asgX at he
  split at he
  · split at he
    · rename_i hc
      obtain ⟨i, e1, he⟩ := bind_ok he
      obtain ⟨m', e2, rfl⟩ := map_ok he
      obtain ⟨x1, x2⟩ := D.x Γ X h _ m' e2
      have st := h.store e1 hc.1 hc.2.1
      have st : Store X i _ := ⟨st.nd, st.ix, st.loc, st.fn⟩
      exact ⟨ss_setX st x1 (swaps_of rfl), sx_setX st x2 (swaps_of rfl)⟩
    · cases he
  · cases he
theorem raise_ok (h : CxOk CA k C Γ X.nox) {e : Expr} {pos : Pos} {m : MS} (he : raiseOf Γ e = some m) : SS CA X C (.Raise (some e) none pos) m ∧ SX CA X C (.Raise (some e) none pos) m := by
  unfold raiseOf at he
  split at he
  · split at he
    · rename_i hc
      cases he
      have F := h.exc _ hc.2.1
      exact ⟨fun ρ L r L' hm => (by cases hm), sx_raise ⟨F.mg, F.kp, F.ex, F.sb, F.ty, F.cl, F.se⟩ h.calm (h.gl hc.1) hc.2.2⟩
    · cases he
  · cases he
theorem try_ok (D : DOk CA k C r) (h : CxOk CA k C Γ X) {body : List Stmt} {hs : List ExceptHandler} {pos : Pos} {m : MS} (he : tryOf r Γ body hs = some m) : SS CA X C (.Try body hs [] [] pos) m := by
  unfold tryOf at he
  split at he
  · split at he
    · rename_i hc
      obtain ⟨d, e1, he⟩ := bind_ok he
      obtain ⟨mb, e2, rfl⟩ := map_ok he
      obtain ⟨f1, f2⟩ := h.fr (by simpa using hc.2.2.2)
      obtain ⟨v, hk, hv⟩ := cst_all e1
      exact ss_try (h.exc _ hc.2.1) f1 f2 (h.gl hc.1) hc.2.2.1 (fun X' => hk X' _ _) hv (fun pn xe => SSs.un (ss_ok D (h.tr pn xe) e2)) fun pn xe => sxs_ok D (h.tr pn xe) e2
    · cases he
  · cases he
theorem s_ok (D : DOk CA k C r) (h : CxOk CA k C Γ X) {st : Stmt} {m : MS} (he : denS r Γ st = some m) : SS CA X C st m := by
  unfold denS at he
  split at he
  · cases he; exact ss_retN
  · split at he
    · obtain ⟨m', e1, rfl⟩ := map_ok he
      exact ss_retX (D.x Γ X h.noxx _ m' e1).1
    · obtain ⟨m', e1, rfl⟩ := map_ok he
      exact ss_ret (D.e Γ X h _ m' e1)
  · obtain ⟨t, e1, he⟩ := bind_ok he
    obtain ⟨ma, e2, he⟩ := bind_ok he
    obtain ⟨mb, e3, rfl⟩ := map_ok he
    exact ss_if (D.t Γ X h _ t e1) (ss_ok D h e2) (ss_ok D h e3)
  · split at he
    · rename_i hs
      obtain ⟨it, e1, he⟩ := bind_ok he
      obtain ⟨g, e2, he⟩ := bind_ok he
      obtain ⟨mb, e3, rfl⟩ := map_ok he
      exact ss_for h.xe h.calm (D.i Γ X h _ _ it e1) (D.g Γ X h _ g e2) (ss_ok D h e3) hs
    · cases he
  · obtain ⟨t, e1, he⟩ := bind_ok he
    obtain ⟨mb, e2, rfl⟩ := map_ok he
    exact ss_while h.xe (D.t Γ X h _ t e1) (ss_ok D h e2)
  · split at he
    · rename_i hc
      obtain ⟨g, e1, he⟩ := bind_ok he
      obtain ⟨i, e2, he⟩ := bind_ok he
      obtain ⟨m', e3, rfl⟩ := map_ok he
      exact ss_aug (h.store e2 hc.1 hc.2) (opAug_ok e1) (D.e Γ X h _ m' e3)
    · cases he
  · split at he
    · obtain ⟨g, e1, he⟩ := bind_ok he
      obtain ⟨mo, e2, he⟩ := bind_ok he
      obtain ⟨m', e3, rfl⟩ := map_ok he
      exact ss_augA (opAug_ok e1) (D.e Γ X h _ mo e2) (D.e Γ X h _ m' e3) (h.fld _)
    · cases he
  · split at he
    · exact (asgX_ok D h.noxx he).1
    · exact asg_ok D h he
  · split at he
    · rename_i hs
      obtain ⟨m', e1, rfl⟩ := map_ok he
      exact ss_drop (D.e Γ X h _ m' e1) hs
    · cases he
  · exact (raise_ok h.noxx he).1
  · exact try_ok D h he
  · cases he; exact ss_pass
  · cases he; exact ss_brk
  · cases he; exact ss_cont
  · cases he
theorem sx_ok (D : DOk CA k C r) (h : CxOk CA k C Γ X.nox) {st : Stmt} {m : MS} (he : denS r Γ st = some m) : SX CA X C st m := by
  unfold denS at he
  split at he
  · cases he; exact NX.sx fun C ρ L e z => by cases z
  · split at he
    · obtain ⟨m', e1, rfl⟩ := map_ok he
      exact sx_retX (D.x Γ X h _ m' e1).2
    · obtain ⟨m', e1, rfl⟩ := map_ok he
      exact nx_ret.sx
  · obtain ⟨t, e1, he⟩ := bind_ok he
    obtain ⟨ma, e2, he⟩ := bind_ok he
    obtain ⟨mb, e3, rfl⟩ := map_ok he
    exact sx_if (STt.un (D.t Γ X.nox h _ t e1)) (sxs_ok D h e2) (sxs_ok D h e3)
  · split at he
    · rename_i hs
      obtain ⟨it, e1, he⟩ := bind_ok he
      obtain ⟨g, e2, he⟩ := bind_ok he
      obtain ⟨mb, e3, rfl⟩ := map_ok he
      exact sx_for h.calm (SI.un (D.i Γ X.nox h _ _ it e1)) (SG.un (D.g Γ X.nox h _ g e2)) (SSs.un (ss_ok D h e3)) (sxs_ok D h e3) hs
    · cases he
  · obtain ⟨t, e1, he⟩ := bind_ok he
    obtain ⟨mb, e2, rfl⟩ := map_ok he
    exact nx_while.sx
  · split at he
    · obtain ⟨g, e1, he⟩ := bind_ok he
      obtain ⟨i, e2, he⟩ := bind_ok he
      obtain ⟨m', e3, rfl⟩ := map_ok he
      exact nx_aug.sx
    · cases he
  · split at he
    · obtain ⟨g, e1, he⟩ := bind_ok he
      obtain ⟨mo, e2, he⟩ := bind_ok he
      obtain ⟨m', e3, rfl⟩ := map_ok he
      exact nx_augA.sx
    · cases he
  · split at he
    · exact (asgX_ok D h he).2
    · exact (asg_nx he).sx
  · split at he
    · obtain ⟨m', e1, rfl⟩ := map_ok he
      exact nx_drop.sx
    · cases he
  · exact (raise_ok h he).2
  · unfold tryOf at he
    split at he
    · split at he
      · obtain ⟨d, e1, he⟩ := bind_ok he
        obtain ⟨mb, e2, rfl⟩ := map_ok he
        exact nx_try.sx
      · cases he
    · cases he
  · cases he; exact NX.sx fun C ρ L e z => by cases z
  · cases he; exact NX.sx fun C ρ L e z => by cases z
  · cases he; exact NX.sx fun C ρ L e z => by cases z
  · cases he
end
theorem den_ok {CA : Str → Addr} {k : Nat} {C : Calls} : ∀ n, DOk CA k C (den n)
  | 0 => by
    refine ⟨?_, ?_, ?_, ?_, ?_, ?_, ?_, ?_⟩
    · intro Γ X h e m he; cases he
    · intro Γ X h e m he; cases he
    · intro Γ X h tg e m he; cases he
    · intro Γ X h e m he; cases he
    · intro Γ X h e m he; cases he
    · intro Γ X h e m he; cases he
    · intro Γ X h elt gens scope pos m he; cases he
    · intro Γ X h e m he; cases he
  | n + 1 => by
    have D := den_ok (CA := CA) (k := k) (C := C) n
    exact ⟨fun Γ X h e m he => e_ok D h he, fun Γ X h e m he => t_ok D h he, fun Γ X h tg e m he => i_ok D h he, fun Γ X h e m he => g_ok D h he, fun Γ X h e m he => s_ok D h he, fun Γ X h e m he => sx_ok D h he, fun Γ X h elt gens scope pos m he => (comp_ok D h he).2, fun Γ X h e m he => x_ok D h he⟩
end Ev
set_option Elab.async false
set_option linter.all false
set_option maxRecDepth 100000
namespace Ev
open PySem PySem.Spec PyProof.Rows L2

/-! ## the whole program -/
/-- a def of the text with its denotation -/
structure DefOk (K : PySem.W.Frag) (P : Prog) (T : Tabs) (f : Addr) (fd : FuncData) (id : String) (n : Nat) (ps : List Str) : Prop where
  ex : ∃ (name qual : Str) (st : Stmt) (N lv : List Str) (body : MS), Fun K name qual st f fd ∧ FnScope N ps (defScope st) ∧ Binds K fd ps [] ∧ ps.length = n ∧ P id = some ⟨n, N.length, body⟩ ∧ ssOf ((den 60).s ⟨T, N, defScope st, none, lv⟩) (defBody st) = some body
/-- an own exception class -/
structure XcOk (K : PySem.W.Frag) (CA : Str → Addr) (mg : Str → Option Value) (c : Str) : Prop where
  mg : mg c = some (.ref (CA c))
  kp : PySem.W.keepIn K (.ref (CA c)) = true
  ex : PySem.W.excIn K (CA c) [.type "ValueError", .type "Exception", .type "BaseException", .type "object"] "ValueError.__new__" = true
  sb : PySem.W.subIn K (.ref (CA c)) (.type "BaseException") = some true
  ty : PySem.W.typeIn K (.ref (CA c)) = some (.type "type")
  cl : PySem.W.isClsIn K (CA c) = true
  se : PySem.W.subIn K (.ref (CA c)) (.ref (CA c)) = some true
/-- the table's facts -/
structure TabOk (K : PySem.W.Frag) (CA : Str → Addr) (mg : Str → Option Value) (P : Prog) (T : Tabs) : Prop where
  blt : ∀ x ∈ T.blts, mg x = none
  cst : ∀ x d, T.cst.lookup x = some d → ∃ v u, mg x = some u ∧ RelV v u ∧ ∀ θ H, (∀ b o, K.lookup b = some o → b ∉ θ) → R K θ H v d
  fns : ∀ x i n, T.fns.lookup x = some (i, n) → ∃ f fd ps, mg x = some (.ref f) ∧ PySem.W.keepIn K (.ref f) = true ∧ DefOk K P T f fd i n ps
  cls : ∀ r ∈ T.cls, Cls K (CA r.name) ∧ (∀ f ∈ r.flds, NoAttr K (CA r.name) f) ∧ mg r.name = some (.ref (CA r.name)) ∧ (∃ f fd ps, Mk K (CA r.name) f ∧ DefOk K P T f fd r.init (r.np + 1) ps) ∧
    ∀ m i n, r.mths.lookup m = some (i, n) → ∃ f fd ps, Meth K (CA r.name) m f ∧ DefOk K P T f fd i (n + 1) ps
  exc : ∀ c ∈ T.exc, XcOk K CA mg c
section
variable {Pr : Program} {w : World} {K : PySem.W.Frag} {CA : Str → Addr} {mg : Str → Option Value} {base : Heap} {P : Prog} {T : Tabs}
theorem semSs_pre {X : Cx} {st : List Stmt} {D : Ends} {σ : L2.St} {H : Hp} (h : KF X.K H → semSs X st D σ H) : semSs X st D σ H := fun pins s I => h (kf_of I) pins s I
theorem start_env {θ : List Addr} {H : Hp} {N : List Str} {vs : List V} {xs : List Val} {n : Nat} (r : Paired (RV K θ H) vs xs) (hl : xs.length = n) : (∀ (i : Nat) (x : Val), (xs.map some ++ List.replicate (N.length - n) none)[i]? = some (some x) → ∃ v, (L2.start N vs)[i]? = some (some v) ∧ RV K θ H v x) ∧
    (xs.map some ++ List.replicate (N.length - n) none).length = (L2.start N vs).length := by
  have hv := Paired.length r
  refine ⟨fun i x h => ?_, by unfold L2.start; simp [hv, hl]⟩
  by_cases hi : i < xs.length
  · rw [List.getElem?_append_left (by simpa using hi), List.getElem?_map, List.getElem?_eq_getElem hi] at h
    have hx : xs[i] = x := by simpa using h
    have hx' : xs[i]? = some x := by rw [List.getElem?_eq_getElem hi, hx]
    have : ∃ v, vs[i]? = some v ∧ RV K θ H v x := by
      clear hx h hl
      induction r generalizing i with
      | nil => simp at hx'
      | cons h t ih =>
        cases i with
        | zero => simp at hx'; subst hx'; exact ⟨_, rfl, h⟩
        | succ i => simp at hx' hi; obtain ⟨v, q⟩ := ih (Paired.length t) i hi hx'; exact ⟨v, by simpa using q⟩
    obtain ⟨v, q1, q2⟩ := this
    refine ⟨v, ?_, q2⟩
    unfold L2.start
    rw [List.getElem?_append_left (by rw [List.length_map, hv]; exact hi), List.getElem?_map, q1]
    rfl
  · rw [List.getElem?_append_right (by simpa using hi)] at h
    rw [List.getElem?_replicate] at h
    split at h <;> cases h
theorem unmk_none {θ : List Addr} {H : Hp} : ∀ {vs : List V} {xs : List Val}, Paired (RV K θ H) vs xs → unmk xs = none
  | _, _, .nil => rfl
  | _, _, .cons (b := x) h t => by
    cases x with
    | d x => rfl
    | h n => rfl
    | new xs => exact h.elim
/-- what a def of ours keeps -/
def Both (Pr : Program) (w : World) (K : PySem.W.Frag) (CA : Str → Addr) (mg : Str → Option Value) (base : Heap) (P : Prog) (j : Nat) (f : Addr) (fd : FuncData) (id : String) (n : Nat) (ps : List Str) : Prop :=
  FnOk Pr w K mg base CX0 j f fd ps (spOf K CA (run P j id) n) ∧ FnOk Pr w K mg base (L2.CX Pr w) j f fd ps (spEx K CA (run P j id) n)
theorem cx_ok (TO : TabOk K CA mg P T) {rp : Bool} {k : Nat} (ihs : ∀ j, j ≤ k → ∀ (f : Addr) (fd : FuncData) (id : String) (n : Nat) (ps : List Str), DefOk K P T f fd id n ps → Both Pr w K CA mg base P j f fd id n ps)
    {f : Addr} {ps : List Str} {qual : Str} {st : Stmt} {N lv : List Str} (S : FnScope N ps (defScope st)) (CX : CXT)
    (cdv : Value) (A : Around) (outer : List Env) (s : Shared) (H : Hp) (E : XK) (hg : rp = true → A.guards = some []) (hr : Room k (A.deeper (envOfC qual (defScope st) s.heap.objs.size f cdv))) :
    CxOk CA k (run P k) ⟨{ T with rep := rp }, N, defScope st, none, lv⟩ (cxOf CX Pr w K mg base N qual (defScope st) f cdv A outer s H E).nox := by
  have ih := ihs k (Nat.le_refl _)
  have bnd : ∀ {f : Addr} {fd : FuncData} {id : String} {n : Nat} {ps : List Str}, DefOk K P T f fd id n ps → Binds K fd ps [] ∧ ps.length = n := fun h => ⟨h.ex.choose_spec.choose_spec.choose_spec.choose_spec.choose_spec.choose_spec.2.2.1, h.ex.choose_spec.choose_spec.choose_spec.choose_spec.choose_spec.choose_spec.2.2.2.1⟩
  refine ⟨rfl, S.nd, rfl, S.kind, rfl, rfl, hr, fun x _ => .inl rfl, TO.blt, TO.cst, fun x i m e => ?_, fun f c hcf => ?_, fun m n c i hm => ?_, fun row hrow => ?_, fun hrp => hg hrp, fun c hc => ?_, fun x i m e => ?_, fun _ => ⟨rfl, rfl⟩⟩
  · obtain ⟨g, gd, qs, q1, q2, q3⟩ := TO.fns x i m e
    exact ⟨g, gd, qs, q1, q2, (ih g gd i m qs q3).1, (bnd q3).1⟩
  · obtain ⟨row, hrow, rfl⟩ := List.mem_map.mp hcf
    rw [List.mem_filter] at hrow
    obtain ⟨q1, q2, _⟩ := TO.cls row hrow.1
    exact ⟨q1, q2 f (by simpa using hrow.2)⟩
  · have hmem := mem_of_lookup hm
    obtain ⟨row, hrow, e⟩ := List.mem_filterMap.mp hmem
    obtain ⟨⟨i', n'⟩, e1, e⟩ := bind_ok e
    split at e
    · rename_i hn'
      cases e
      simp only at hn'
      subst hn'
      obtain ⟨q1, _, _, _, q5⟩ := TO.cls row hrow
      obtain ⟨g, gd, qs, p1, p2⟩ := q5 m _ n' e1
      exact ⟨q1, g, gd, qs, p1, (ih g gd _ (n' + 1) qs p2).1, (bnd p2).1⟩
    · cases e
  · obtain ⟨_, _, q3, ⟨g, gd, qs, p1, p2⟩, _⟩ := TO.cls row hrow
    refine ⟨q3, ?_⟩
    cases k with
    | zero => exact .inl fun xs L z L' e => by cases e
    | succ k' => exact .inr ⟨k', g, gd, qs, rfl, p1, (ihs k' (Nat.le_succ _) g gd row.init (row.np + 1) qs p2).1, (bnd p2).1, (bnd p2).2.symm⟩
  · have F := TO.exc c hc
    exact ⟨F.mg, F.kp, F.ex, F.sb, F.ty, F.cl, F.se⟩
  · obtain ⟨g, gd, qs, q1, q2, q3⟩ := TO.fns x i m e
    exact ⟨g, gd, qs, q1, q2, (ih g gd i m qs q3).2, (bnd q3).1⟩
theorem body_ok (TO : TabOk K CA mg P T) (gl : base.Ns mainGlobals mg) {rp : Bool} {k : Nat} (ihs : ∀ j, j ≤ k → ∀ (f : Addr) (fd : FuncData) (id : String) (n : Nat) (ps : List Str), DefOk K P T f fd id n ps → Both Pr w K CA mg base P j f fd id n ps)
    {f : Addr} {id : String} {n : Nat} {ps : List Str} {qual : Str} {st : Stmt} {N lv : List Str} {body : MS} (S : FnScope N ps (defScope st)) (hn : ps.length = n) (hP : P id = some ⟨n, N.length, body⟩) (hd : ssOf ((den 60).s ⟨{ T with rep := rp }, N, defScope st, none, lv⟩) (defBody st) = some body)
    (cdv : Value) (A : Around) (outer : List Env) (s : Shared) (H : Hp) (vs : List V) (Q : VK) (E : XK) (hg : rp = true → A.guards = some []) (hr : Room k (A.deeper (envOfC qual (defScope st) s.heap.objs.size f cdv))) (q : spOf K CA (run P (k + 1) id) n vs H Q E) :
    ∃ t, PSs (cxOf CX0 Pr w K mg base N qual (defScope st) f cdv A outer s H E).nox (defBody st) t ∧ t { nx := fun _ H' => Q .non H', rt := Q } (L2.start N vs) H := by
    obtain ⟨hvl, θ, L, xs, z, L', hm, l, r, q⟩ := q
    have hk := unmk_none r
    have hm : (match unmk xs with
      | some ys => run P k id ys L
      | none => match P id with
        | some d => d.go (run P k) xs L
        | none => .no) = Out.ok z L' := hm
    rw [hk] at hm
    have hm : (match P id with
      | some d => d.go (run P k) xs L
      | none => .no) = Out.ok z L' := hm
    rw [hP] at hm
    have hm : (if xs.length = n then cutO L.length ((body (run P k) (xs.map some ++ List.replicate (N.length - n) none) L).bindX fun r L1 => match r.1 with
      | .ret x => fin L.length x L1
      | .next => fin L.length (.d .non) L1
      | _ => .no)
      else .no) = Out.ok z L' := hm
    split at hm
    · rename_i hl
      obtain ⟨⟨fl, ρ'⟩, L1, e1, hm⟩ := Out.bindX_ok (cutO_ok hm)
      refine ⟨_, sSs _, semSs_pre fun kf => ?_⟩
      obtain ⟨h1, h2⟩ := start_env (N := N) r hl
      have S0 : Sim K CA θ (xs.map some ++ List.replicate (N.length - n) none) L (L2.start N vs) H := ⟨l, h1, kf, h2⟩
      have hc := cx_ok (Pr := Pr) (w := w) (base := base) (qual := qual) (f := f) (lv := lv) TO ihs S CX0 cdv A outer s H E hg hr
      refine ss_ok (den_ok 60) hc hd _ L (fl, ρ') L1 e1 θ _ H _ S0 ?_
      have hL : L.length = θ.length := l.len.symm
      rw [hL] at hm
      cases fl with
      | ret x => exact fin_ok hm q
      | next =>
        have := fin_ok hm q
        exact fun θ' σ' H' e S' => this .non θ' H' e S'.live .non
      | brk => cases hm
      | cont => cases hm
    · cases hm
theorem fin_nx {n : Nat} {x : Val} {L : List MO} {e : Exc} : fin n x L ≠ .ex e := by
  unfold fin
  split
  · split
    · split
      · intro z; cases z
      · split <;> (intro z; cases z)
    · intro z; cases z
  · intro z; cases z
theorem cutX_cls {n : Nat} {e : Exc} : (cutX n e).cls = e.cls := by
  unfold cutX
  split <;> rfl
theorem bodyX_ok (TO : TabOk K CA mg P T) (gl : base.Ns mainGlobals mg) {rp : Bool} {k : Nat} (ihs : ∀ j, j ≤ k → ∀ (f : Addr) (fd : FuncData) (id : String) (n : Nat) (ps : List Str), DefOk K P T f fd id n ps → Both Pr w K CA mg base P j f fd id n ps)
    {f : Addr} {id : String} {n : Nat} {ps : List Str} {qual : Str} {st : Stmt} {N lv : List Str} {body : MS} (S : FnScope N ps (defScope st)) (hn : ps.length = n) (hP : P id = some ⟨n, N.length, body⟩) (hd : ssOf ((den 60).s ⟨{ T with rep := rp }, N, defScope st, none, lv⟩) (defBody st) = some body)
    (cdv : Value) (A : Around) (outer : List Env) (s : Shared) (H : Hp) (vs : List V) (Q : VK) (E : XK) (hg : rp = true → A.guards = some []) (hr : Room k (A.deeper (envOfC qual (defScope st) s.heap.objs.size f cdv))) (q : spEx K CA (run P (k + 1) id) n vs H Q E) :
    ∃ t, PSs (cxOf (L2.CX Pr w) Pr w K mg base N qual (defScope st) f cdv A outer s H E) (defBody st) t ∧ t { nx := fun _ H' => Q .non H', rt := Q } (L2.start N vs) H := by
    obtain ⟨hvl, θ, L, xs, z, hm, l, r, q⟩ := q
    have hk := unmk_none r
    have hm : (match unmk xs with
      | some ys => run P k id ys L
      | none => match P id with
        | some d => d.go (run P k) xs L
        | none => .no) = Out.ex z := hm
    rw [hk] at hm
    have hm : (match P id with
      | some d => d.go (run P k) xs L
      | none => .no) = Out.ex z := hm
    rw [hP] at hm
    have hm : (if xs.length = n then cutO L.length ((body (run P k) (xs.map some ++ List.replicate (N.length - n) none) L).bindX fun r L1 => match r.1 with
      | .ret x => fin L.length x L1
      | .next => fin L.length (.d .non) L1
      | _ => .no)
      else .no) = Out.ex z := hm
    split at hm
    · rename_i hl
      obtain ⟨z', hm2, rfl⟩ := cutO_ex hm
      clear hm
      rcases Out.bindX_ex hm2 with e1 | ⟨⟨fl, ρ'⟩, L1, e1, hm⟩
      · refine ⟨_, sSs _, semSs_pre fun kf => ?_⟩
        obtain ⟨h1, h2⟩ := start_env (N := N) r hl
        have S0 : Sim K CA θ (xs.map some ++ List.replicate (N.length - n) none) L (L2.start N vs) H := ⟨l, h1, kf, h2⟩
        have hc := cx_ok (Pr := Pr) (w := w) (base := base) (qual := qual) (f := f) (lv := lv) TO ihs S (L2.CX Pr w) cdv A outer s H E hg hr
        refine sxs_ok (den_ok 60) hc hd (fun cls d _ H => E cls d H) (takes_of rfl rfl rfl rfl) (passes_of rfl) _ L z' e1 θ _ H _ S0 fun θ' σ' H' d x' l' => ?_
        rw [← cutX_cls (n := L.length) (e := z')]
        unfold cutX at q ⊢
        split at q
        · rename_i hb
          have hL : L.length = θ.length := l.len.symm
          rw [hL] at hb q
          have lt := l'.take _ hb
          have et := take_pre x'.pre.choose_spec
          rw [et] at lt
          rw [if_pos (by rw [hL]; exact hb)]
          exact q θ H' d ⟨fun b u h1 h2 => ⟨h1, (x'.keep b u h1 h2).2⟩, ⟨[], by simp⟩, x'.trk, lt.kk⟩ lt
        · rename_i hb
          rw [if_neg hb]
          exact q θ' H' d x' l'
      · cases fl with
        | ret x => exact (fin_nx hm).elim
        | next => exact (fin_nx hm).elim
        | brk => cases hm
        | cont => cases hm
    · cases hm
theorem def_oks (TO : TabOk K CA mg P T) (hT : T.rep = false) (gl : base.Ns mainGlobals mg) (k : Nat) : ∀ j, j ≤ k → ∀ (f : Addr) (fd : FuncData) (id : String) (n : Nat) (ps : List Str), DefOk K P T f fd id n ps → Both Pr w K CA mg base P j f fd id n ps := by
  have zero : ∀ (f : Addr) (fd : FuncData) (id : String) (n : Nat) (ps : List Str), Both Pr w K CA mg base P 0 f fd id n ps := fun f fd id n ps => by
    have no : ∀ vs H Q E, ¬ spOf K CA (run P 0 id) n vs H Q E := fun vs H Q E h => by
      obtain ⟨_, θ, L, xs, z, L', h, _⟩ := h
      cases h
    have nx : ∀ vs H Q E, ¬ spEx K CA (run P 0 id) n vs H Q E := fun vs H Q E h => by
      obtain ⟨_, θ, L, xs, z, h, _⟩ := h
      cases h
    exact ⟨⟨fun vs H Q E h => absurd h (no vs H Q E), fun A outer s H args us vs Q E _ _ _ _ h => absurd h (no vs H Q E)⟩, ⟨fun vs H Q E h => absurd h (nx vs H Q E), fun A outer s H args us vs Q E _ _ _ _ h => absurd h (nx vs H Q E)⟩⟩
  induction k with
  | zero =>
    intro j hj f fd id n ps h
    obtain rfl : j = 0 := by omega
    exact zero f fd id n ps
  | succ k ih =>
    intro j hj f fd id n ps h
    by_cases hjk : j ≤ k
    · exact ih j hjk f fd id n ps h
    obtain rfl : j = k + 1 := by omega
    obtain ⟨name, qual, st, N, lv, body, F, S, B, hn, hP, hd⟩ := h.ex
    have e : ({ T with rep := false } : Tabs) = T := by cases T; cases hT; rfl
    exact ⟨F.ok S (fun vs H Q E q => q.1.trans hn.symm) fun cdv A outer s H vs Q E hr q => body_ok TO gl (rp := false) ih S hn hP (by rw [e]; exact hd) cdv A outer s H vs Q E (fun z => by cases z) hr q,
      F.okX S (fun vs H Q E q => q.1.trans hn.symm) fun cdv A outer s H vs Q E hr q => bodyX_ok TO gl (rp := false) ih S hn hP (by rw [e]; exact hd) cdv A outer s H vs Q E (fun z => by cases z) hr q⟩
/-- the law's own def, called where no guard stands -/
theorem law_fn (TO : TabOk K CA mg P T) (hT : T.rep = false) (gl : base.Ns mainGlobals mg) {k : Nat} {f : Addr} {fd : FuncData} {id : String} {n : Nat} {ps : List Str} (h : DefOk K P { T with rep := true } f fd id n ps)
    (A : Around) (outer : List Env) (s : Shared) (H : Hp) (args : Args) (us : List Value) (vs : List V) (Q : VK) (E : XK) (hg : A.guards = some []) (hr : Room k A) (e0 : Env0 Pr w K mg base A outer s H) (hb : BindsTo s fd args (ps.zip us)) (rv : Vals vs us) (hsp : spOf K CA (run P k id) n vs H Q E) :
    codeAny (model Pr w) A (.call (.ref f) args) (CR CX0 outer Pr w H s Q E) s := by
  cases k with
  | zero =>
    obtain ⟨_, θ, L, xs, z, L', h, _⟩ := hsp
    cases h
  | succ k =>
  obtain ⟨name, qual, st, N, lv, body, F, S, B, hn, hP, hd⟩ := h.ex
  obtain ⟨oc, od, kV, doc, pm, an, cdv, ct, osl, rfl, lk, hcd⟩ := F.ex
  have KX : K.In s.heap := e0.mod.kin.keeps fun b o e => (e0.bs b o e).1
  have lim : s.heap.NoLimit := e0.mod.nolimit.keeps fun b o e => (e0.bs b o e).1
  have hl : vs.length = ps.length := hsp.1.trans hn.symm
  have hkind : ∀ y ∈ ps.zip us, (defScope st).names.lookup y.1 = some .local ∨ ((defScope st).names.lookup y.1 = some .cell ∧ ((cellsFrom (s.heap.objs.size + 1) (defScope st).names []).lookup y.1).isSome = true) := fun ⟨a, v⟩ hy =>
    (S.par a (List.of_mem_zip hy).1).imp (fun z => z) fun q => ⟨q, PySem.W.cellsFrom_some _ _ _ (.inl q)⟩
  refine codeAny_call_function hr.depth (KX _ _ lk) rfl S.co S.gen rfl (PySem.W.codeRec_of KX hcd) (hb _ _ _ _ ?_)
  refine wpAny_newFunctionEnv_cells S.kind hkind fun env he s1 x => ?_
  subst he
  refine ⟨lim.keeps x.toInCall.keep, codeAny_func ?_⟩
  obtain ⟨t, ht, hq⟩ := body_ok (Pr := Pr) (w := w) (base := base) TO gl (rp := true) (def_oks TO hT gl k) S hn hP hd cdv A outer s H vs Q E (fun _ => hg) (Room.deeper (k := k) hr _) hsp
  have I : Inv (cxOf CX0 Pr w K mg base N qual (defScope st) f cdv A outer s H E) [] (L2.start N vs) H s1 := inv_start S hr.hd e0 hl rv x
  refine wpAny_mono (ht.nox.run [] s1 (L2.start N vs) H _ I hq) (fun fl s' hs => ?_) fun e s' hs => hs
  have fin : ∀ {σ' : L2.St} {H' : Hp} {v : V} {u : Value}, Inv (cxOf CX0 Pr w K mg base N qual (defScope st) f cdv A outer s H E) [] σ' H' s' → RelV v u → Q v H' → CE outer Pr w H s Q u s' :=
    fun {σ' H' v u} J rv q => ⟨v, H', J.os, J.bare, J.base, J.hok, rv, q⟩
  cases fl with
  | ret u =>
    obtain ⟨v, σ', H', J, rv, q⟩ := hs
    exact fin J rv q
  | next =>
    obtain ⟨σ', H', J, q⟩ := hs
    exact fin (v := V.non) (u := Value.none) J rfl q
  | brk =>
    obtain ⟨_, _, _, q⟩ := hs
    exact False.elim q
  | cont =>
    obtain ⟨_, _, _, q⟩ := hs
    exact False.elim q

/-! ## the law's own call -/
theorem law_run {mb : Str → Option Value} {k : Nat} {fa a : Addr} {fd : FuncData} {x : Str} {s₁ : Shared} {vs : List Value} {ns : List Int}
    (KX : K.In s₁.heap) (hns : s₁.heap.Ns mainGlobals mg) (hb : s₁.heap.Ns builtinsNs mb) (hbb : ∀ x : Str, x ≠ "__name__" → mb x = bootBuiltins x) (hlim : s₁.heap.NoLimit) (hg : s₁.gens = #[])
    (ha : s₁.heap.get? a = some { cls := .type "list", data := .seq vs.toArray }) (hi : PyProof.Rows.IntsAre vs ns) (hl : ns.length ≤ sizeLine) (hr : Room k callerA)
    (F : ∀ base : Heap, K.In base → base.Ns mainGlobals mg → ∀ (A : Around) (outer : List Env) (s : Shared) (H : Hp) (args : Args) (us : List Value) (vs : List V) (Q : VK) (E : XK), A.guards = some [] → Room k A → Env0 Pr w K mg base A outer s H → BindsTo s fd args ([x].zip us) → Vals vs us → spOf K CA (run P k "law") 1 vs H Q E →
      codeAny (model Pr w) A (.call (.ref fa) args) (CR CX0 outer Pr w H s Q E) s) (hbind : ∀ (s : Shared) (u : Value), BindsTo s fd ⟨[u], []⟩ [(x, u)])
    (hlaw : run P k "law" [.d (.lst (ns.map .int))] [] = .ok (.d (.bl true)) []) :
    codeAny (model Pr w) callerA (.call (.ref fa) ⟨[.ref a], []⟩) (fun r s' => r = .ok (.ret (.bool true)) ∧ PySem.OldK s₁.heap s'.heap ∧ s'.os = s₁.os ∧ PyProof.Rows.AllBare s'.gens) s₁ := by
  have rv := vals_ints hi
  have lenV := hi.length
  -- what is tracked: the script, where it is none of the module's own objects
  let H : Hp := fun b => if b = a ∧ K.lookup a = none then some (.frz { cls := .type "list", data := .seq vs.toArray } (.lst (ns.map V.int))) else none
  have Hne : ∀ {b : Addr} {u : HO}, H b = some u → b = a ∧ K.lookup a = none ∧ u = .frz { cls := .type "list", data := .seq vs.toArray } (.lst (ns.map V.int)) := fun {b u} e => by
    by_cases c : b = a ∧ K.lookup a = none
    · have e : (if b = a ∧ K.lookup a = none then some (HO.frz { cls := .type "list", data := .seq vs.toArray } (.lst (ns.map V.int))) else none) = some u := e
      rw [if_pos c] at e
      cases e
      exact ⟨c.1, c.2, rfl⟩
    · have e : (if b = a ∧ K.lookup a = none then some (HO.frz { cls := .type "list", data := .seq vs.toArray } (.lst (ns.map V.int))) else none) = some u := e
      rw [if_neg c] at e
      cases e
  have hok : HOk Pr w H s₁.heap := fun b u e => by
    obtain ⟨rfl, _, rfl⟩ := Hne e
    exact ⟨ha, by rw [List.length_map]; exact hl, vs, _, rv, ha⟩
  have script : LsOk K H a (ns.map V.int) := by
    cases hk : K.lookup a with
    | none => exact .inl (.inr ⟨_, show (if a = a ∧ K.lookup a = none then _ else _) = _ from if_pos ⟨rfl, hk⟩⟩)
    | some o =>
      have e := KX a o hk
      rw [ha] at e
      cases e
      exact .inr ⟨vs.toArray, _, hk, by rw [List.size_toArray, lenV]; exact hl, by simpa using rv⟩
  have low : ∀ {b : Addr} {o : Obj}, s₁.heap.get? b = some o → (∀ es ep, o.data ≠ .dict es ep) ∨ H b = none := fun {b o} e => by
    cases q : H b with
    | none => exact .inr rfl
    | some u =>
      obtain ⟨rfl, _, _⟩ := Hne q
      rw [ha] at e
      cases e
      exact .inl fun es ep z => by cases z
  have nsK : ∀ {b : Addr} {m : Str → Option Value}, s₁.heap.Ns b m → (hidT s₁.heap H).Ns b m := fun {b m} ⟨o, es, ep, e, d, r⟩ => by
    refine ⟨o, es, ep, hidT_get e ?_, d, r⟩
    rcases low e with z | z
    · exact absurd d (z es ep)
    · exact z
  have hKb : K.In (hidT s₁.heap H) := fun b o e => hidT_get (KX b o e) (by
    cases q : H b with
    | none => rfl
    | some u =>
      obtain ⟨rfl, z, _⟩ := Hne q
      rw [e] at z; cases z)
  have hM : Mod K mg (hidT s₁.heap H) := ⟨hKb, nsK hns, ⟨mb, nsK hb, hbb⟩, let ⟨mc, h1, h2⟩ := hlim; ⟨mc, nsK h1, h2⟩⟩
  have e0 : Env0 Pr w K mg (hidT s₁.heap H) callerA [] s₁ H := ⟨rfl, hM, fun b o e => of_hidT e, Nat.le_of_eq (hidT_size _ _), trivial, fun b hb => absurd (show b ∈ ([] : List Addr) from hb) (by simp), hok, .of_eq hg⟩
  have sp : spOf K CA (run P k "law") 1 [.ref a] H (fun v _ => v = .bl true) (fun _ _ _ => False) :=
    ⟨rfl, [], [], [.d (.lst (ns.map .int))], .d (.bl true), [], hlaw, ⟨rfl, List.nodup_nil, fun n p m h => by simp at h, fun _ _ _ h => by simp at h⟩, .cons (show R K [] H (.ref a) (.lst (ns.map .int)) from .lst (by simp) script (RL.of_ints ns)) .nil,
      fun v θ' H' _ _ r => by cases r; rfl⟩
  refine codeAny_mono (F _ hKb (nsK hns) callerA [] s₁ H ⟨[.ref a], []⟩ [.ref a] [.ref a] _ _ rfl hr e0 (hbind s₁ (.ref a)) (.cons rfl .nil) sp) fun r s' h => ?_
  cases r with
  | error e => exact False.elim h
  | ok fl =>
    cases fl with
    | next => exact False.elim h
    | brk => exact False.elim h
    | cont => exact False.elim h
    | ret u =>
      obtain ⟨v, H', os, bare, un, hok', r', q⟩ := h
      have q' : v = .bl true := q
      subst q'
      obtain rfl : u = Value.bool true := r'
      refine ⟨rfl, PySem.OldK.of_keep fun b o e => ?_, os, bare⟩
      cases q : H b with
      | none => exact un.keep b o e q (by intro z; exact absurd (show b ∈ ([] : List Addr) from z) (by simp)) (by simp)
      | some u =>
        obtain ⟨_, _, rfl⟩ := Hne q
        obtain ⟨e1, _⟩ := hok b _ q
        obtain ⟨e2, _⟩ := hok' b _ (un.frzs b _ _ q)
        rw [e] at e1; cases e1
        exact e2
theorem look_nil {β : Type} {Q : Str → β → Prop} : ∀ x y, ([] : List (Str × β)).lookup x = some y → Q x y := fun _ _ h => by cases h
theorem look_cons {β : Type} {Q : Str → β → Prop} {a : Str} {b : β} {l : List (Str × β)} (h : Q a b) (t : ∀ x y, l.lookup x = some y → Q x y) : ∀ x y, ((a, b) :: l).lookup x = some y → Q x y := fun x y e => by
  rw [List.lookup_cons] at e
  split at e
  · rename_i hx
    cases e
    rw [eq_of_beq hx]
    exact h
  · exact t x y e
abbrev CstOk (K : PySem.W.Frag) (mg : Str → Option Value) (x : Str) (d : D) : Prop := ∃ v u, mg x = some u ∧ RelV v u ∧ ∀ θ H, (∀ b o, K.lookup b = some o → b ∉ θ) → R K θ H v d
theorem cst_int {x : Str} {i : Int} {t : Tok} (h : mg x = some (.int i t)) : CstOk K mg x (.int i) := ⟨.int i, _, h, ⟨t, rfl⟩, fun _ _ _ => .int i⟩
theorem cst_str {x y : Str} {t : Tok} (h : mg x = some (.str y t)) : CstOk K mg x (.str y) := ⟨.str y, _, h, ⟨t, rfl⟩, fun _ _ _ => .str y⟩
theorem cst_tup {x : Str} {p : Addr} {o : Obj} {its : Array Value} {n : Nat} {vs : List V} {ds : List D} (h : mg x = some (.ref p)) (l : K.lookup p = some o) (hc : o.cls = .type "tuple") (hd : o.data = .seq its n) (hz : its.size ≤ sizeLine) (hv : Vals vs its.toList)
    (hr : ∀ θ H, (∀ b o, K.lookup b = some o → b ∉ θ) → RL K θ H vs ds) : CstOk K mg x (.tup ds) := ⟨.ref p, _, h, rfl, fun θ H kk => .tup (kk p _ l) (.inr ⟨o, its, n, l, hc, hd, hz, hv⟩) (hr θ H kk)⟩
abbrev FnOk' (K : PySem.W.Frag) (mg : Str → Option Value) (P : Prog) (T : Tabs) (x : Str) (i : String × Nat) : Prop := ∃ f fd ps, mg x = some (.ref f) ∧ PySem.W.keepIn K (.ref f) = true ∧ DefOk K P T f fd i.1 i.2 ps
def MthOk (K : PySem.W.Frag) (mg : Str → Option Value) (P : Prog) (T : Tabs) (C : Addr) (m : Str) (i : String × Nat) : Prop := ∃ f fd ps, Meth K C m f ∧ DefOk K P T f fd i.1 (i.2 + 1) ps
def ClsOk (K : PySem.W.Frag) (CA : Str → Addr) (mg : Str → Option Value) (P : Prog) (T : Tabs) (r : ClsRow) : Prop := Cls K (CA r.name) ∧ (∀ f ∈ r.flds, NoAttr K (CA r.name) f) ∧ mg r.name = some (.ref (CA r.name)) ∧ (∃ f fd ps, Mk K (CA r.name) f ∧ DefOk K P T f fd r.init (r.np + 1) ps) ∧
    ∀ m i n, r.mths.lookup m = some (i, n) → ∃ f fd ps, Meth K (CA r.name) m f ∧ DefOk K P T f fd i (n + 1) ps
theorem clsOk {CA : Str → Addr} {C : Addr} {name : Str} {init : String} {np : Nat} {flds : List Str} {mths : List (Str × String × Nat)} (hC : CA name = C) (h1 : Cls K C) (h2 : ∀ f ∈ flds, NoAttr K C f) (h3 : mg name = some (.ref C)) (h4 : ∃ f fd ps, Mk K C f ∧ DefOk K P T f fd init (np + 1) ps)
    (h5 : ∀ m i, mths.lookup m = some i → MthOk K mg P T C m i) : ClsOk K CA mg P T ⟨name, init, np, flds, mths⟩ := by
  subst hC
  exact ⟨h1, h2, h3, h4, fun m i n e => h5 m (i, n) e⟩
theorem tab_mk (h1 : ∀ x ∈ T.blts, mg x = none) (h2 : ∀ x d, T.cst.lookup x = some d → CstOk K mg x d) (h3 : ∀ x i, T.fns.lookup x = some i → FnOk' K mg P T x i) (h4 : ∀ r ∈ T.cls, ClsOk K CA mg P T r) (h5 : ∀ c ∈ T.exc, XcOk K CA mg c) : TabOk K CA mg P T := ⟨h1, h2, fun x i n e => h3 x (i, n) e, h4, h5⟩
theorem xcOk {CA : Str → Addr} {C : Addr} {c : Str} (hC : CA c = C) (h1 : mg c = some (.ref C)) (h2 : PySem.W.keepIn K (.ref C) = true) (h3 : PySem.W.excIn K C [.type "ValueError", .type "Exception", .type "BaseException", .type "object"] "ValueError.__new__" = true)
    (h4 : PySem.W.subIn K (.ref C) (.type "BaseException") = some true) (h5 : PySem.W.typeIn K (.ref C) = some (.type "type")) (h6 : PySem.W.isClsIn K C = true) (h7 : PySem.W.subIn K (.ref C) (.ref C) = some true) : XcOk K CA mg c := by
  subst hC
  exact ⟨h1, h2, h3, h4, h5, h6, h7⟩
/-- what the law's row asks, from the run of the denotation -/
theorem walk {l : PySem.W.OpenLaw} {n k : Nat} {q : Program} {loose : List Str} {XP : (Str → Option Value) → Heap → Prop} {YP : World → Heap → Prop} {d : DefRec} {KK : Params → PySem.W.Frag} {x : Str}
    (hn : l.most = some n) (hn2 : n ≤ sizeLine) (hdf : d.params.defaults = []) (hr : Room k callerA)
    (hY : ∀ (w : World) (h : Heap), YP w h → (KK w.params).In h)
    (F : ∀ (w : World) (mg : Str → Option Value) (fa : Addr) (h : Heap), (KK w.params).In h → h.Ns mainGlobals mg → mg d.name = some (.ref fa) →
      ∃ (CA : Str → Addr) (fd : FuncData), (∀ (s : Shared) (u : Value), BindsTo s fd ⟨[u], []⟩ [(x, u)]) ∧ TabOk (KK w.params) CA mg P T ∧ DefOk (KK w.params) P { T with rep := true } fa fd "law" 1 [x])
    (hT : T.rep = false)
    (hlaw : ∀ ns : List Int, ns.length ≤ n → run P k "law" [.d (.lst (ns.map .int))] [] = .ok (.d (.bl true)) []) :
    PySem.W.WalkO q loose XP YP l.row.toRowW d [] (fun f vs => PySem.call f vs) := by
  refine Att.attach_call hn hdf fun w s₀ s₁ mg mb fa o pm cd doc a vs ns G Y ho hd hcd hmg hobj hints hlen hg => ?_
  have KX := hY w _ Y
  obtain ⟨CA, fd, hb, TO, DO⟩ := F w mg fa _ KX G.T.g hmg
  exact law_run (CA := CA) KX G.T.g G.T.b G.T.builtins G.T.nolimit hg hobj hints (Nat.le_trans hlen hn2) hr (fun base _ gl => law_fn TO hT gl DO) hb (hlaw ns hlen)
end
end Ev
set_option Elab.async false
set_option linter.all false
set_option maxRecDepth 100000
namespace Ev
open PySem PySem.Spec L2
theorem fm_nil {α : Type} {Q : α → Prop} : ∀ x ∈ ([] : List α), Q x := fun _ h => by cases h
theorem fm_cons {α : Type} {Q : α → Prop} {a : α} {l : List α} (h : Q a) (t : ∀ x ∈ l, Q x) : ∀ x ∈ a :: l, Q x := fun x hx => by
  rcases List.mem_cons.mp hx with e | e
  · rw [e]; exact h
  · exact t x e
theorem rv_non : RelV .non .none := rfl
theorem rv_bl {b : Bool} : RelV (.bl b) (.bool b) := rfl
theorem rv_int {i : Int} {t : Tok} : RelV (.int i) (.int i t) := ⟨t, rfl⟩
theorem rv_str {x : Str} {t : Tok} : RelV (.str x) (.str x t) := ⟨t, rfl⟩
theorem rv_ref {a : Addr} : RelV (.ref a) (.ref a) := rfl
end Ev
set_option Elab.async false
set_option linter.all false
set_option maxRecDepth 100000
namespace Ev
open PySem PySem.Spec L2

@[simp] theorem sizeLine_val : sizeLine = 16777216 := by decide
@[simp] theorem ofString_inj {a b : String} : (Str.ofString a = Str.ofString b) = (a = b) := propext ⟨fun h => by
  rw [Str.ofString_eq_toList, Str.ofString_eq_toList] at h
  have h1 : (a.toList.map Char.toNat).toArray = (b.toList.map Char.toNat).toArray := congrArg Str.cps h
  have h2 : a.toList.map Char.toNat = b.toList.map Char.toNat := by simpa using h1
  have h3 : a.toList = b.toList := List.map_inj_right (fun x y e => Char.toNat_inj.mp e) |>.mp h2
  exact String.toList_inj.mp h3, fun h => by rw [h]⟩
/-! ## reading denotations: o ends well, and so that Q -/
structure Out.sat {α : Type} (o : Out α) (Q : α → List MO → Prop) : Prop where
  ex : ∃ a L, o = .ok a L ∧ Q a L
theorem Out.sat_mono {α : Type} {o : Out α} {Q R : α → List MO → Prop} (h : o.sat Q) (q : ∀ a L, Q a L → R a L) : o.sat R := by
  obtain ⟨a, L, e, h⟩ := h.ex
  exact ⟨a, L, e, q a L h⟩
theorem Out.sat_eq {α : Type} {o : Out α} {a : α} {L : List MO} : o.sat (fun b L' => b = a ∧ L' = L) ↔ o = .ok a L :=
  ⟨fun h => by obtain ⟨a, L, e, rfl, rfl⟩ := h.ex; exact e, fun e => ⟨a, L, e, rfl, rfl⟩⟩
theorem Out.sat_run {α : Type} {o : Out α} {L : List MO} {R : α → Prop} (h : o.sat fun a L' => R a ∧ L' = L) : ∃ a, R a ∧ o = .ok a L := by
  obtain ⟨a, L, e, hr, rfl⟩ := h.ex
  exact ⟨a, hr, e⟩
section
variable {C : Calls} {ρ : Rho} {L : List MO}
@[simp] theorem sat_ok {α : Type} {a : α} {Q : α → List MO → Prop} : (Out.ok a L).sat Q = Q a L := propext ⟨fun h => by obtain ⟨a, L, e, h⟩ := h.ex; cases e; exact h, fun h => ⟨a, L, rfl, h⟩⟩
@[simp] theorem sat_no {α : Type} {Q : α → List MO → Prop} : (Out.no : Out α).sat Q = False := propext ⟨fun h => (by obtain ⟨a, L, e, h⟩ := h.ex; cases e), False.elim⟩
@[simp] theorem sat_ex {α : Type} {x : Exc} {Q : α → List MO → Prop} : (Out.ex x : Out α).sat Q = False := propext ⟨fun h => (by obtain ⟨a, L, e, h⟩ := h.ex; cases e), False.elim⟩
@[simp] theorem sat_bindX {α β : Type} {o : Out α} {f : α → List MO → Out β} {Q : β → List MO → Prop} : (o.bindX f).sat Q = o.sat (fun a L => (f a L).sat Q) := by
  cases o with
  | no => simp
  | ok a L => simp
  | ex e => simp
theorem sat_cutO {n : Nat} {o : Out Val} {Q : Val → List MO → Prop} : (cutO n o).sat Q = o.sat Q := by
  cases o with
  | no => rfl
  | ok a L => rfl
  | ex e => simp [cutO]
@[simp] theorem sat_bind {α β : Type} {o : Out α} {f : α → List MO → Out β} {Q : β → List MO → Prop} : (o.bind f).sat Q = o.sat (fun a L => (f a L).sat Q) := by
  cases o with
  | ok a L => rw [sat_ok]
  | no => rw [sat_no]; exact sat_no.symm
  | ex e => rw [sat_ex]; exact sat_no
@[simp] theorem sat_ite {α : Type} {c : Prop} [Decidable c] {a b : Out α} {Q : α → List MO → Prop} : (if c then a else b).sat Q = if c then a.sat Q else b.sat Q := by
  split <;> rfl
@[simp] theorem sat_if_ok {α : Type} {c : Prop} [Decidable c] {a : Out α} {Q : α → List MO → Prop} : (if c then a.sat Q else False) = (c ∧ a.sat Q) := by
  by_cases h : c <;> simp [h]
@[simp] theorem fz_dd {d : D} : fz (.d d) = .d d := rfl
@[simp] theorem fz_h {n : Nat} : fz (.h n) = .h n := rfl
@[simp] theorem fz_new {xs : List D} : fz (.new xs) = .d (.lst xs) := rfl
/-! ### expressions -/
def optSat (o : Option Val) (Q : Val → Prop) : Prop := match o with
  | some z => Q z
  | none => False
@[simp] theorem optSat_some {z : Val} {Q : Val → Prop} : optSat (some z) Q = Q z := rfl
@[simp] theorem optSat_none {Q : Val → Prop} : optSat none Q = False := rfl
@[simp] theorem optSat_ite {c : Prop} [Decidable c] {a b : Option Val} {Q : Val → Prop} : optSat (if c then a else b) Q = if c then optSat a Q else optSat b Q := by
  split <;> rfl
@[simp] theorem optSat_if {c : Prop} [Decidable c] {a : Option Val} {Q : Val → Prop} : (if c then optSat a Q else False) = (c ∧ optSat a Q) := by
  by_cases h : c <;> simp [h]
@[simp] theorem sat_ofOpt {o : Option Val} {Q : Val → List MO → Prop} : (ofOpt o L).sat Q = optSat o fun z => Q z L := by
  cases o with
  | none => exact sat_no
  | some z => exact sat_ok
@[simp] theorem sat_mK {d : D} {Q : Val → List MO → Prop} : (mK d C ρ L).sat Q = Q (.d d) L := sat_ok
def slotSat (o : Option (Option Val)) (Q : Val → Prop) : Prop := match o with
  | some (some x) => Q (fz x)
  | _ => False
@[simp] theorem slotSat_some {x : Val} {Q : Val → Prop} : slotSat (some (some x)) Q = Q (fz x) := rfl
@[simp] theorem sat_mVar {i : Nat} {Q : Val → List MO → Prop} : (mVar i C ρ L).sat Q = slotSat ρ[i]? fun x => Q x L := by
  show (match ρ[i]? with
    | some (some x) => ofOpt (some (fz x)) L
    | _ => Out.no).sat Q = _
  generalize ρ[i]? = o
  cases o with
  | none => exact sat_no
  | some o =>
    cases o with
    | none => exact sat_no
    | some x => exact sat_ok
@[simp] theorem sat_mBin {g : Val → Val → List MO → Option Val} {ma mb : M} {Q : Val → List MO → Prop} : (mBin g ma mb C ρ L).sat Q = (ma C ρ L).sat fun x L1 => (mb C ρ L1).sat fun y L2 => optSat (g (fz x) (fz y) L2) fun z => Q z L2 := by
  simp [mBin]
def blSat (x : Val) (Q : Bool → Prop) : Prop := match x with
  | .d (.bl k) => Q k
  | _ => False
@[simp] theorem blSat_bl {k : Bool} {Q : Bool → Prop} : blSat (.d (.bl k)) Q = Q k := rfl
@[simp] theorem sat_mtOf {m : M} {Q : Bool → List MO → Prop} : (mtOf m C ρ L).sat Q = (m C ρ L).sat fun x L1 => blSat x fun k => Q k L1 := by
  rw [mtOf, sat_bind]
  congr 1
  funext x L1
  unfold blSat
  split <;> simp
def truSat (o : Option Bool) (Q : Bool → Prop) : Prop := match o with
  | some k => Q k
  | none => False
@[simp] theorem truSat_some {k : Bool} {Q : Bool → Prop} : truSat (some k) Q = Q k := rfl
@[simp] theorem truth_bl {b : Bool} : truth L (.d (.bl b)) = some b := rfl
@[simp] theorem truth_int {i : Int} : truth L (.d (.int i)) = some (i != 0) := rfl
@[simp] theorem truth_non : truth L (.d .non) = some false := rfl
@[simp] theorem truth_tup {xs : List D} : truth L (.d (.tup xs)) = some (!xs.isEmpty) := rfl
@[simp] theorem truth_dic {xs : List (Key × D)} : truth L (.d (.dic xs)) = some (!xs.isEmpty) := rfl
@[simp] theorem sat_mtTru {m : M} {Q : Bool → List MO → Prop} : (mtTru m C ρ L).sat Q = (m C ρ L).sat fun x L1 => truSat (truth L1 (fz x)) fun k => Q k L1 := by
  rw [mtTru, sat_bind]
  congr 1
  funext x L1
  unfold truSat
  split <;> simp_all
@[simp] theorem sat_mtNot {m : MT} {Q : Bool → List MO → Prop} : (mtNot m C ρ L).sat Q = (m C ρ L).sat fun k L1 => Q (!k) L1 := by simp [mtNot]
@[simp] theorem sat_mtAnd {m n : MT} {Q : Bool → List MO → Prop} : (mtAnd m n C ρ L).sat Q = (m C ρ L).sat fun k L1 => if k = true then (n C ρ L1).sat Q else Q false L1 := by simp [mtAnd]
@[simp] theorem sat_mtOr {m n : MT} {Q : Bool → List MO → Prop} : (mtOr m n C ρ L).sat Q = (m C ρ L).sat fun k L1 => if k = true then Q true L1 else (n C ρ L1).sat Q := by simp [mtOr]
@[simp] theorem sat_mtYes {Q : Bool → List MO → Prop} : (mtYes C ρ L).sat Q = Q true L := sat_ok
@[simp] theorem sat_mAnd {m n : M} {Q : Val → List MO → Prop} : (mAnd m n C ρ L).sat Q = (m C ρ L).sat fun x L1 => truSat (truth L1 (fz x)) fun k => if k = true then (n C ρ L1).sat Q else Q (fz x) L1 := by
  rw [mAnd, sat_bind]
  congr 1
  funext x L1
  unfold truSat
  split <;> simp_all
@[simp] theorem sat_mOr {m n : M} {Q : Val → List MO → Prop} : (mOr m n C ρ L).sat Q = (m C ρ L).sat fun x L1 => truSat (truth L1 (fz x)) fun k => if k = true then Q (fz x) L1 else (n C ρ L1).sat Q := by
  rw [mOr, sat_bind]
  congr 1
  funext x L1
  unfold truSat
  split <;> simp_all
@[simp] theorem sat_mNot {m : M} {Q : Val → List MO → Prop} : (mNot m C ρ L).sat Q = (m C ρ L).sat fun x L1 => truSat (truth L1 (fz x)) fun k => Q (.d (.bl (!k))) L1 := by
  rw [mNot, sat_bind]
  congr 1
  funext x L1
  unfold truSat
  split <;> simp_all
@[simp] theorem sat_mIf {t : MT} {m n : M} {Q : Val → List MO → Prop} : (mIf t m n C ρ L).sat Q = (t C ρ L).sat fun k L1 => if k = true then (m C ρ L1).sat Q else (n C ρ L1).sat Q := by simp [mIf]
def intSat (x : Val) (Q : Int → Prop) : Prop := match x with
  | .d (.int i) => Q i
  | _ => False
@[simp] theorem intSat_int {i : Int} {Q : Int → Prop} : intSat (.d (.int i)) Q = Q i := rfl
@[simp] theorem sat_mNeg {m : M} {Q : Val → List MO → Prop} : (mNeg m C ρ L).sat Q = (m C ρ L).sat fun x L1 => intSat x fun i => Q (.d (.int (-i))) L1 := by
  rw [mNeg, sat_bind]
  congr 1
  funext x L1
  unfold intSat
  split <;> simp
@[simp] theorem sat_mChain {g g' : Val → Val → List MO → Option Val} {ma mb mc : M} {Q : Val → List MO → Prop} : (mChain g g' ma mb mc C ρ L).sat Q = (ma C ρ L).sat fun x L1 => (mb C ρ L1).sat fun y L2 => optSat (g (fz x) (fz y) L2) fun w => blSat w fun k =>
    if k = true then (mc C ρ L2).sat fun z L3 => optSat (g' (fz y) (fz z) L3) fun z => Q z L3 else Q (.d (.bl false)) L2 := by
  rw [mChain, sat_bind]
  congr 1
  funext x L1
  rw [sat_bind]
  congr 1
  funext y L2
  cases g (fz x) (fz y) L2 with
  | none => exact sat_no
  | some w =>
    cases w with
    | d d =>
      cases d with
      | bl k => cases k <;> simp
      | _ => exact sat_no
    | _ => exact sat_no
@[simp] theorem sat_mNil {Q : List Val → List MO → Prop} : (mNil C ρ L).sat Q = Q [] L := sat_ok
@[simp] theorem sat_mCons {m : M} {ms : MA} {Q : List Val → List MO → Prop} : (mCons m ms C ρ L).sat Q = (m C ρ L).sat fun x L1 => (ms C ρ L1).sat fun xs L2 => Q (fz x :: xs) L2 := by simp [mCons]
def allSat (o : Option (List D)) (Q : List D → Prop) : Prop := match o with
  | some ds => ds.length ≤ sizeLine ∧ Q ds
  | none => False
@[simp] theorem allSat_some {ds : List D} {Q : List D → Prop} : allSat (some ds) Q = (ds.length ≤ sizeLine ∧ Q ds) := rfl
@[simp] theorem allD_nil : allD [] = some [] := rfl
@[simp] theorem allD_cons {x : D} {r : List Val} : allD (.d x :: r) = (allD r).map (x :: ·) := rfl
@[simp] theorem sat_mTup {ms : MA} {Q : Val → List MO → Prop} : (mTup ms C ρ L).sat Q = (ms C ρ L).sat fun xs L1 => allSat (allD xs) fun ds => Q (.d (.tup ds)) L1 := by
  rw [mTup, sat_bind]
  congr 1
  funext x L1
  unfold allSat
  split <;> simp_all
@[simp] theorem sat_mLst {ms : MA} {Q : Val → List MO → Prop} : (mLst ms C ρ L).sat Q = (ms C ρ L).sat fun xs L1 => allSat (allD xs) fun ds => Q (.new ds) L1 := by
  rw [mLst, sat_bind]
  congr 1
  funext x L1
  unfold allSat
  split <;> simp_all
@[simp] theorem sat_mSl {m : M} {lo hi : MO'} {Q : Val → List MO → Prop} : (mSl m lo hi C ρ L).sat Q = (m C ρ L).sat fun x L1 => (lo C ρ L1).sat fun l L2 => (hi C ρ L2).sat fun h L3 => optSat (bSl l h L3 (fz x)) fun z => Q z L3 := by simp [mSl]
@[simp] theorem sat_mNoPart {Q : Option Int → List MO → Prop} : (mNoPart C ρ L).sat Q = Q none L := sat_ok
@[simp] theorem sat_mPart {m : M} {Q : Option Int → List MO → Prop} : (mPart m C ρ L).sat Q = (m C ρ L).sat fun x L1 => intSat x fun i => Q (some i) L1 := by
  rw [mPart, sat_bind]
  congr 1
  funext x L1
  unfold intSat
  split <;> simp
@[simp] theorem sat_mBi {g : List Val → List MO → Option Val} {ms : MA} {Q : Val → List MO → Prop} : (mBi g ms C ρ L).sat Q = (ms C ρ L).sat fun xs L1 => optSat (g xs L1) fun z => Q z L1 := by simp [mBi]
@[simp] theorem sat_mCall {f : String} {ms : MA} {Q : Val → List MO → Prop} : (mCall f ms C ρ L).sat Q = (ms C ρ L).sat fun xs L1 => (C f xs L1).sat Q := by simp [mCall]
@[simp] theorem isiV_d {T : String} {x : D} : isiV T L (.d x) = some (isT (tyName x) T) := rfl
@[simp] theorem sat_mIsi {T : String} {m : M} {Q : Val → List MO → Prop} : (mIsi T m C ρ L).sat Q = (m C ρ L).sat fun x L1 => truSat (isiV T L1 (fz x)) fun k => Q (.d (.bl k)) L1 := by
  rw [mIsi, sat_bind]
  congr 1
  funext x L1
  unfold truSat
  split <;> simp_all
@[simp] theorem sat_mDic0 {Q : Val → List MO → Prop} : (mDic0 C ρ L).sat Q = Q (.d (.dic [])) L := sat_ok
@[simp] theorem sat_mDic {kds : List (Key × D)} {Q : Val → List MO → Prop} : (mDic kds C ρ L).sat Q = Q (.d (.dic kds)) L := sat_ok
def intsSat (o : Option (List Int)) (Q : List Int → Prop) : Prop := match o with
  | some is => (is.length < 64 ∨ (dedupI is).length < 64) ∧ Q is
  | none => False
@[simp] theorem intsSat_some {is : List Int} {Q : List Int → Prop} : intsSat (some is) Q = ((is.length < 64 ∨ (dedupI is).length < 64) ∧ Q is) := rfl
def intsSatT (o : Option (List Int)) (Q : List Int → Prop) : Prop := match o with
  | some is => is.length < 64 ∧ Q is
  | none => False
@[simp] theorem intsSatT_some {is : List Int} {Q : List Int → Prop} : intsSatT (some is) Q = (is.length < 64 ∧ Q is) := rfl
def setSat (x : Val) (L : List MO) (Q : List Int → Prop) : Prop := match x with
  | .d (.tup ds) => intsSatT (asInts ds) Q
  | x => intsSat ((view L x).bind asInts) Q
@[simp] theorem setSat_tup {ds : List D} {Q : List Int → Prop} : setSat (.d (.tup ds)) L Q = intsSatT (asInts ds) Q := rfl
@[simp] theorem setSat_lst {ds : List D} {Q : List Int → Prop} : setSat (.d (.lst ds)) L Q = intsSat ((view L (.d (.lst ds))).bind asInts) Q := rfl
@[simp] theorem setSat_h {n : Nat} {Q : List Int → Prop} : setSat (.h n) L Q = intsSat ((view L (.h n)).bind asInts) Q := rfl
@[simp] theorem sat_mSortSet {m : M} {Q : Val → List MO → Prop} : (mSortSet m C ρ L).sat Q = (m C ρ L).sat fun x L1 => setSat (fz x) L1 fun is => Q (.new ((setI is).map .int)) L1 := by
  rw [mSortSet, sat_bind]
  congr 1
  funext x L1
  have main : ∀ (o : Option (List Int)) (f : Out Val) (R : Prop), (o = none → f.sat Q = R) → (∀ is, o = some is → R = ((is.length < 64 ∨ (dedupI is).length < 64) ∧ Q (.new ((setI is).map .int)) L1)) →
      (match o with
        | some is => if is.length < 64 ∨ (dedupI is).length < 64 then Out.ok (.new ((setI is).map .int)) L1 else .no
        | none => f : Out Val).sat Q = R := fun o f R h1 h2 => by
    cases o with
    | none => exact h1 rfl
    | some is =>
      rw [h2 is rfl]
      show (if is.length < 64 ∨ (dedupI is).length < 64 then _ else _ : Out Val).sat Q = _
      rw [sat_ite, sat_no]
      by_cases h : is.length < 64 ∨ (dedupI is).length < 64 <;> simp [h]
  have two : ∀ o : Option (List Int), (match o with
        | some is => if is.length < 64 then Out.ok (.new ((setI is).map .int)) L1 else .no
        | none => .no : Out Val).sat Q = intsSatT o fun is => Q (.new ((setI is).map .int)) L1 := fun o => by
    cases o with
    | none => exact sat_no
    | some is =>
      show (if is.length < 64 then _ else _ : Out Val).sat Q = _
      rw [sat_ite, sat_no, intsSatT_some]
      by_cases h : is.length < 64 <;> simp [h]
  have plain : (view L1 (fz x)).bind asInts = none → ∀ R, R = False → (Out.no : Out Val).sat Q = R := fun _ R h => by rw [h]; exact sat_no
  cases hx : fz x with
  | h k =>
    refine main _ _ _ (fun e => ?_) (fun is e => ?_)
    · rw [setSat_h, e]; exact sat_no
    · rw [setSat_h, e, intsSat_some]
  | new ds => exact absurd hx (by cases x <;> simp)
  | d y =>
    cases y with
    | tup ds => exact two (asInts ds)
    | lst ds =>
      refine main _ _ _ (fun e => ?_) (fun is e => ?_)
      · rw [setSat_lst, e]; exact sat_no
      · rw [setSat_lst, e, intsSat_some]
    | _ => exact sat_no
/-! ### statements -/
@[simp] theorem sat_mEmpty {Q : Fl × Rho → List MO → Prop} : (mEmpty C ρ L).sat Q = Q (.next, ρ) L := sat_ok
def flSat (r : Fl × Rho) (N : Rho → Prop) (Q : Fl × Rho → Prop) : Prop := match r with
  | (.next, ρ) => N ρ
  | r => Q r
@[simp] theorem flSat_next {N : Rho → Prop} {Q : Fl × Rho → Prop} : flSat (.next, ρ) N Q = N ρ := rfl
@[simp] theorem flSat_ret {x : Val} {N : Rho → Prop} {Q : Fl × Rho → Prop} : flSat (.ret x, ρ) N Q = Q (.ret x, ρ) := rfl
@[simp] theorem flSat_brk {N : Rho → Prop} {Q : Fl × Rho → Prop} : flSat (.brk, ρ) N Q = Q (.brk, ρ) := rfl
@[simp] theorem flSat_cont {N : Rho → Prop} {Q : Fl × Rho → Prop} : flSat (.cont, ρ) N Q = Q (.cont, ρ) := rfl
@[simp] theorem sat_mSeq {m n : MS} {Q : Fl × Rho → List MO → Prop} : (mSeq m n C ρ L).sat Q = (m C ρ L).sat fun r L1 => flSat r (fun ρ1 => (n C ρ1 L1).sat Q) fun r => Q r L1 := by
  rw [mSeq, sat_bindX]
  congr 1
  funext r L1
  obtain ⟨f, ρ1⟩ := r
  cases f with
  | next => rfl
  | _ => exact sat_ok
@[simp] theorem sat_mRet {m : M} {Q : Fl × Rho → List MO → Prop} : (mRet m C ρ L).sat Q = (m C ρ L).sat fun x L1 => Q (.ret x, ρ) L1 := by simp [mRet]
@[simp] theorem sat_mRetN {Q : Fl × Rho → List MO → Prop} : (mRetN C ρ L).sat Q = Q (.ret (.d .non), ρ) L := sat_ok
@[simp] theorem sat_mIfS {t : MT} {m n : MS} {Q : Fl × Rho → List MO → Prop} : (mIfS t m n C ρ L).sat Q = (t C ρ L).sat fun k L1 => if k = true then (m C ρ L1).sat Q else (n C ρ L1).sat Q := by simp [mIfS]
@[simp] theorem sat_mDrop {m : M} {Q : Fl × Rho → List MO → Prop} : (mDrop m C ρ L).sat Q = (m C ρ L).sat fun _ L1 => Q (.next, ρ) L1 := by simp [mDrop]
@[simp] theorem sat_mBrk {Q : Fl × Rho → List MO → Prop} : (mBrk C ρ L).sat Q = Q (.brk, ρ) L := sat_ok
@[simp] theorem sat_mCont {Q : Fl × Rho → List MO → Prop} : (mCont C ρ L).sat Q = Q (.cont, ρ) L := sat_ok
@[simp] theorem sat_mSet {i : Nat} {m : M} {Q : Fl × Rho → List MO → Prop} : (mSet i m C ρ L).sat Q = (m C ρ L).sat fun x L1 => Q (.next, ρ.set i (some (fz x))) L1 := by simp [mSet]
def livSat (x : Val) (L : List MO) (Q : Val → List MO → Prop) : Prop := match x with
  | .new xs => Q (.h L.length) (L ++ [.lst xs])
  | x => Q x L
@[simp] theorem livSat_new {xs : List D} {Q : Val → List MO → Prop} : livSat (.new xs) L Q = Q (.h L.length) (L ++ [.lst xs]) := rfl
@[simp] theorem livSat_d {x : D} {Q : Val → List MO → Prop} : livSat (.d x) L Q = Q (.d x) L := rfl
@[simp] theorem livSat_h {n : Nat} {Q : Val → List MO → Prop} : livSat (.h n) L Q = Q (.h n) L := rfl
@[simp] theorem sat_mSetL {i : Nat} {m : M} {Q : Fl × Rho → List MO → Prop} : (mSetL i m C ρ L).sat Q = (m C ρ L).sat fun x L1 => livSat x L1 fun x L2 => Q (.next, ρ.set i (some x)) L2 := by
  rw [mSetL, sat_bind]
  congr 1
  funext x L1
  cases x <;> exact sat_ok
@[simp] theorem sat_mAsg {m : M} {g : MG} {Q : Fl × Rho → List MO → Prop} : (mAsg m g C ρ L).sat Q = (m C ρ L).sat fun x L1 => (g C (fz x) ρ L1).sat fun ρ1 L2 => Q (.next, ρ1) L2 := by simp [mAsg]
def parSat (xs : List Val) (Q : Val → Val → Prop) : Prop := match xs with
  | [x, y] => Q x y
  | _ => False
@[simp] theorem parSat_two {x y : Val} {Q : Val → Val → Prop} : parSat [x, y] Q = Q x y := rfl
@[simp] theorem sat_mPar2 {i j : Nat} {ms : MA} {Q : Fl × Rho → List MO → Prop} : (mPar2 i j ms C ρ L).sat Q = (ms C ρ L).sat fun xs L1 => parSat xs fun x y => Q (.next, (ρ.set i (some x)).set j (some y)) L1 := by
  rw [mPar2, sat_bind]
  congr 1
  funext xs L1
  unfold parSat
  split <;> simp
def par3Sat (xs : List Val) (Q : Val → Val → Val → Prop) : Prop := match xs with
  | [x, y, z] => Q x y z
  | _ => False
@[simp] theorem par3Sat_three {x y z : Val} {Q : Val → Val → Val → Prop} : par3Sat [x, y, z] Q = Q x y z := rfl
@[simp] theorem sat_mPar3 {i j l : Nat} {ms : MA} {Q : Fl × Rho → List MO → Prop} : (mPar3 i j l ms C ρ L).sat Q = (ms C ρ L).sat fun xs L1 => par3Sat xs fun x y z => Q (.next, ((ρ.set i (some x)).set j (some y)).set l (some z)) L1 := by
  rw [mPar3, sat_bind]
  congr 1
  funext xs L1
  unfold par3Sat
  split <;> simp
@[simp] theorem sat_gName {i : Nat} {x : Val} {Q : Rho → List MO → Prop} : (gName' i C x ρ L).sat Q = Q (ρ.set i (some x)) L := sat_ok
@[simp] theorem sat_gNil {Q : Rho → List MO → Prop} : (gNil' [] C ρ L).sat Q = Q ρ L := sat_ok
@[simp] theorem sat_gCons {g : MG} {r : List D → Calls → Rho → List MO → Out Rho} {d : D} {ds : List D} {Q : Rho → List MO → Prop} : (gCons' g r (d :: ds) C ρ L).sat Q = (g C (.d d) ρ L).sat fun ρ1 L1 => (r ds C ρ1 L1).sat Q := by simp [gCons']
@[simp] theorem sat_gTup {n : Nat} {r : List D → Calls → Rho → List MO → Out Rho} {ds : List D} {Q : Rho → List MO → Prop} : (gTup' n r C (.d (.tup ds)) ρ L).sat Q = (ds.length = n ∧ (r ds C ρ L).sat Q) := by simp [gTup']
def stoSat (o : Option (List MO)) (Q : List MO → Prop) : Prop := match o with
  | some L => Q L
  | none => False
@[simp] theorem stoSat_some {Q : List MO → Prop} : stoSat (some L) Q = Q L := rfl
@[simp] theorem sat_gSub {mo mi : M} {x : Val} {Q : Rho → List MO → Prop} : (gSub' mo mi C x ρ L).sat Q = (mo C ρ L).sat fun o L1 => (mi C ρ L1).sat fun i L2 => stoSat (setIx (fz o) (fz i) x L2) fun L3 => Q ρ L3 := by
  rw [gSub', sat_bind]
  congr 1
  funext o L1
  rw [sat_bind]
  congr 1
  funext i L2
  unfold stoSat
  split <;> simp_all
/-! ### operations on data -/
@[simp] theorem bAdd_int {i j : Int} : bAdd (.d (.int i)) (.d (.int j)) L = some (.d (.int (i + j))) := rfl
@[simp] theorem bAdd_str {a b : Str} : bAdd (.d (.str a)) (.d (.str b)) L = if a.length + b.length ≤ sizeLine then some (.d (.str (a ++ b))) else none := rfl
@[simp] theorem bAdd_tup {a b : List D} : bAdd (.d (.tup a)) (.d (.tup b)) L = if a.length + b.length ≤ sizeLine then some (.d (.tup (a ++ b))) else none := rfl
@[simp] theorem bAdd_lst {a b : List D} : bAdd (.d (.lst a)) (.d (.lst b)) L = if a.length + b.length ≤ sizeLine then some (.new (a ++ b)) else none := rfl
@[simp] theorem bSub_int {i j : Int} : bSub (.d (.int i)) (.d (.int j)) L = some (.d (.int (i - j))) := rfl
@[simp] theorem bMul_int {i j : Int} : bMul (.d (.int i)) (.d (.int j)) L = if mulOk i j = true then some (.d (.int (i * j))) else none := rfl
@[simp] theorem bMul_tup {xs : List D} {k : Int} : bMul (.d (.tup xs)) (.d (.int k)) L = if 0 < xs.length ∧ xs.length ≤ 1000 ∧ 2 ≤ k ∧ k ≤ 1000 then some (.d (.tup (List.replicate k.toNat xs).flatten)) else none := rfl
@[simp] theorem bMod_int {i j : Int} : bMod (.d (.int i)) (.d (.int j)) L = if 0 < j then some (.d (.int (i % j))) else none := rfl
@[simp] theorem bDiv_int {i j : Int} : bDiv (.d (.int i)) (.d (.int j)) L = if 0 < j ∧ j < 1073741824 then some (.d (.int (i / j))) else none := rfl
@[simp] theorem cLt_int {f : Int → Int → Bool} {i j : Int} : cLt f (.d (.int i)) (.d (.int j)) L = some (.d (.bl (f i j))) := rfl
@[simp] theorem cEq_int {n : Bool} {i j : Int} : cEq n (.d (.int i)) (.d (.int j)) L = some (.d (.bl (if n then !(i == j) else i == j))) := by cases n <;> rfl
@[simp] theorem cEq_str {n : Bool} {a b : Str} : cEq n (.d (.str a)) (.d (.str b)) L = some (.d (.bl (if n then !(a == b) else a == b))) := by cases n <;> rfl
@[simp] theorem cEq_bl {n : Bool} {a b : Bool} : cEq n (.d (.bl a)) (.d (.bl b)) L = some (.d (.bl (if n then !(a == b) else a == b))) := by cases n <;> rfl
@[simp] theorem bIx_tup {xs : List D} {i : Int} : bIx (.d (.tup xs)) (.d (.int i)) L = (atI xs i).map .d := rfl
@[simp] theorem bIx_lst {xs : List D} {i : Int} : bIx (.d (.lst xs)) (.d (.int i)) L = (atI xs i).map .d := by rfl
@[simp] theorem bSl_tup {xs : List D} {lo hi : Option Int} : bSl lo hi L (.d (.tup xs)) = some (.d (.tup (cutD xs lo hi))) := rfl
@[simp] theorem bSl_lst {xs : List D} {lo hi : Option Int} : bSl lo hi L (.d (.lst xs)) = some (.new (cutD xs lo hi)) := rfl
@[simp] theorem bSl_str {x : Str} {lo hi : Option Int} : bSl lo hi L (.d (.str x)) = if x.length ≤ sizeLine then some (.d (.str (L2.cutS x lo hi))) else none := rfl
@[simp] theorem biLen_tup {xs : List D} : biLen [.d (.tup xs)] L = some (.d (.int xs.length)) := rfl
@[simp] theorem biLen_lst {xs : List D} : biLen [.d (.lst xs)] L = some (.d (.int xs.length)) := rfl
@[simp] theorem biInt_int {i : Int} : biInt [.d (.int i)] L = some (.d (.int i)) := rfl
@[simp] theorem biInt_bl {k : Bool} : biInt [.d (.bl k)] L = some (.d (.int (if k then 1 else 0))) := rfl
@[simp] theorem biTuple_tup {xs : List D} : biTuple [.d (.tup xs)] L = some (.d (.tup xs)) := rfl
@[simp] theorem biTuple_lst {xs : List D} : biTuple [.d (.lst xs)] L = some (.d (.tup xs)) := rfl
@[simp] theorem biList_tup {xs : List D} : biList [.d (.tup xs)] L = some (.new xs) := rfl
@[simp] theorem biList_lst {xs : List D} : biList [.d (.lst xs)] L = some (.new xs) := rfl
@[simp] theorem asInts_map' {is : List Int} : asInts (is.map D.int) = some is := asInts_map is
@[simp] theorem biSum_ints {is : List Int} : biSum [.d (.lst (is.map .int))] L = some (.d (.int is.sum)) := by
  show ((some (is.map D.int)).bind asInts).map _ = _
  simp
@[simp] theorem view_lst {xs : List D} : view L (.d (.lst xs)) = some xs := rfl
@[simp] theorem atI_zero {x : D} {xs : List D} : atI (x :: xs) 0 = some x := by simp [atI, ixN]
@[simp] theorem atI_one {x y : D} {xs : List D} : atI (x :: y :: xs) 1 = some y := by
  simp [atI, ixN]
  rw [if_pos (by omega)]
  rfl
@[simp] theorem atI_two {x y z : D} {xs : List D} : atI (x :: y :: z :: xs) 2 = some z := by
  simp [atI, ixN]
  rw [if_pos (by omega)]
  rfl
theorem atI_lt {xs : List D} {i : Int} (h0 : 0 ≤ i) (h1 : i < xs.length) : ∃ x, atI xs i = some x ∧ x ∈ xs ∧ xs[i.toNat]? = some x := by
  have hl : i.toNat < xs.length := by omega
  refine ⟨xs[i.toNat], ?_, List.getElem_mem hl, by rw [List.getElem?_eq_getElem hl]⟩
  unfold atI ixN
  rw [if_pos h0, if_pos h1]
  show xs[i.toNat]? = _
  rw [List.getElem?_eq_getElem hl]
end
/-! ### calls -/
def Wf (L : List MO) : Prop := L.all (MO.below L.length) = true
theorem Wf.nil : Wf [] := rfl
theorem run_sat {P : Prog} {n : Nat} {f : String} {d : FnDef} {xs : List Val} {L : List MO} {Q : Val → List MO → Prop} (hP : P f = some d) (hl : xs.length = d.np)
    (h : (d.body (run P n) (xs.map some ++ List.replicate (d.ns - d.np) none) L).sat fun r L1 => ∃ x, (r.1 = .ret x ∨ r.1 = .next ∧ x = .d .non) ∧ (fin L.length x L1).sat Q) (hk : unmk xs = none := by rfl) : (run P (n + 1) f xs L).sat Q := by
  show (match unmk xs with
    | some ys => run P n f ys L
    | none => match P f with
      | some d => d.go (run P n) xs L
      | none => .no).sat Q
  rw [hk]
  show (match P f with
    | some d => d.go (run P n) xs L
    | none => .no).sat Q
  rw [hP]
  show (d.go (run P n) xs L).sat Q
  unfold FnDef.go
  rw [if_pos hl, sat_cutO, sat_bindX]
  refine Out.sat_mono h fun r L1 ⟨x, h1, h2⟩ => ?_
  rcases h1 with h1 | ⟨h1, rfl⟩
  · rw [h1]; exact h2
  · rw [h1]; exact h2
theorem fin_d {L : List MO} {x : D} {L1 : List MO} {n : Nat} {Q : Val → List MO → Prop} (h : (L1.take n).all (MO.below n) = true) : (fin n (.d x) L1).sat Q = Q (.d x) (L1.take n) := by
  unfold fin
  rw [if_pos h]
  exact sat_ok
theorem fin_new {L : List MO} {xs : List D} {L1 : List MO} {n : Nat} {Q : Val → List MO → Prop} (h : (L1.take n).all (MO.below n) = true) : (fin n (.new xs) L1).sat Q = Q (.new xs) (L1.take n) := by
  unfold fin
  rw [if_pos h]
  exact sat_ok
/-- a def that leaves the store as it was -/
theorem run_pure {P : Prog} {n : Nat} {f : String} {d : FnDef} {xs : List Val} {L : List MO} {v : Val} (hP : P f = some d) (hl : xs.length = d.np) (hw : Wf L) (hv : ∀ k, v ≠ .h k)
    (h : (d.body (run P n) (xs.map some ++ List.replicate (d.ns - d.np) none) L).sat fun r L1 => r.1 = .ret v ∧ L1.take L.length = L) (hk : unmk xs = none := by rfl) : run P (n + 1) f xs L = .ok v L := by
  rw [← Out.sat_eq]
  refine run_sat hP hl (Out.sat_mono h fun r L1 ⟨h1, h2⟩ => ⟨v, .inl h1, ?_⟩) hk
  have hw' : (L1.take L.length).all (MO.below L.length) = true := by rw [h2]; exact hw
  cases v with
  | d x => rw [fin_d (L := L) hw', h2]; exact ⟨rfl, rfl⟩
  | new xs => rw [fin_new (L := L) hw', h2]; exact ⟨rfl, rfl⟩
  | h k => exact (hv k rfl).elim
end Ev
set_option Elab.async false
set_option linter.all false
set_option maxRecDepth 100000
namespace F
open PySem PySem.Spec L2 Ev

noncomputable def f_basics_is_whole : FnDef := ⟨1, 1, mRet (mAnd (mIsi "int" (mVar 0)) (mNot (mIsi "bool" (mVar 0))))⟩
noncomputable def f_basics_is_from : FnDef := ⟨3, 3, mRet (mAnd (mCall "basics.is_whole" (mCons (mVar 0) mNil)) (mChain (cLt fun i j => decide (i ≤ j)) (cLt fun i j => decide (i ≤ j)) (mVar 1) (mVar 0) (mVar 2)))⟩
noncomputable def f_expressions_has_shape : FnDef := ⟨3, 3, mSeq (mIfS (mtOr (mtNot (mtTru (mIsi "tuple" (mVar 0)))) (mtOr (mtOf (mBin (cEq false) (mBi biLen (mCons (mVar 0) mNil)) (mK (D.int 0)))) (mtOr (mtNot (mtTru (mIsi "str" (mBin bIx (mVar 0) (mK (D.int 0)))))) (mtOf (mBin (cEq false) (mVar 2) (mK (D.int 0))))))) (mRet (mK (D.bl false))) (mEmpty)) (mSeq (mIfS (mtOf (mBin (cEq false) (mBin bIx (mVar 0) (mK (D.int 0))) (mK (D.str "number")))) (mRet (mAnd (mBin (cEq false) (mBi biLen (mCons (mVar 0) mNil)) (mK (D.int 2))) (mCall "basics.is_from" (mCons (mBin bIx (mVar 0) (mK (D.int 1))) (mCons (mK (D.int 0)) (mCons (mBin bSub (mK (D.int 1000)) (mK (D.int 1))) mNil)))))) (mEmpty)) (mSeq (mIfS (mtOf (mBin (cEq false) (mBin bIx (mVar 0) (mK (D.int 0))) (mK (D.str "name")))) (mRet (mAnd (mBin (cEq false) (mBi biLen (mCons (mVar 0) mNil)) (mK (D.int 2))) (mCall "basics.is_from" (mCons (mBin bIx (mVar 0) (mK (D.int 1))) (mCons (mK (D.int 0)) (mCons (mBin bSub (mVar 1) (mK (D.int 1))) mNil)))))) (mEmpty)) (mSeq (mIfS (mtOf (mBin (cEq false) (mBin bIx (mVar 0) (mK (D.int 0))) (mK (D.str "not")))) (mRet (mAnd (mBin (cEq false) (mBi biLen (mCons (mVar 0) mNil)) (mK (D.int 2))) (mCall "expressions.has_shape" (mCons (mBin bIx (mVar 0) (mK (D.int 1))) (mCons (mVar 1) (mCons (mBin bSub (mVar 2) (mK (D.int 1))) mNil)))))) (mEmpty)) (mSeq (mIfS (mtOr (mtOf (mBin (cIn true) (mBin bIx (mVar 0) (mK (D.int 0))) (mK (D.tup [(D.str "plus"), (D.str "minus"), (D.str "times"), (D.str "less"), (D.str "same")])))) (mtOf (mBin (cEq true) (mBi biLen (mCons (mVar 0) mNil)) (mK (D.int 3))))) (mRet (mK (D.bl false))) (mEmpty)) (mRet (mAnd (mCall "expressions.has_shape" (mCons (mBin bIx (mVar 0) (mK (D.int 1))) (mCons (mVar 1) (mCons (mBin bSub (mVar 2) (mK (D.int 1))) mNil)))) (mCall "expressions.has_shape" (mCons (mBin bIx (mVar 0) (mK (D.int 2))) (mCons (mVar 1) (mCons (mBin bSub (mVar 2) (mK (D.int 1))) mNil))))))))))⟩
noncomputable def f_expressions_is_expression : FnDef := ⟨1, 1, mRet (mCall "expressions.has_shape" (mCons (mVar 0) (mCons (mK (D.int 4)) (mCons (mK (D.int 60)) mNil))))⟩
noncomputable def f_expressions_worked : FnDef := ⟨3, 3, mSeq (mIfS (mtOf (mBin (cEq false) (mVar 0) (mK (D.str "plus")))) (mRet (mBin bMod (mBin bAdd (mVar 1) (mVar 2)) (mK (D.int 1000)))) (mEmpty)) (mSeq (mIfS (mtOf (mBin (cEq false) (mVar 0) (mK (D.str "minus")))) (mRet (mBin bMod (mBin bSub (mVar 1) (mVar 2)) (mK (D.int 1000)))) (mEmpty)) (mSeq (mIfS (mtOf (mBin (cEq false) (mVar 0) (mK (D.str "times")))) (mRet (mBin bMod (mBin bMul (mVar 1) (mVar 2)) (mK (D.int 1000)))) (mEmpty)) (mRet (mIf (mtOf (mBin (cEq false) (mVar 0) (mK (D.str "less")))) (mBi biInt (mCons (mBin (cLt fun i j => decide (i < j)) (mVar 1) (mVar 2)) mNil)) (mBi biInt (mCons (mBin (cEq false) (mVar 1) (mVar 2)) mNil))))))⟩
noncomputable def f_expressions_value_of : FnDef := ⟨2, 2, mSeq (mIfS (mtOf (mBin (cEq false) (mBin bIx (mVar 0) (mK (D.int 0))) (mK (D.str "number")))) (mRet (mBin bIx (mVar 0) (mK (D.int 1)))) (mEmpty)) (mSeq (mIfS (mtOf (mBin (cEq false) (mBin bIx (mVar 0) (mK (D.int 0))) (mK (D.str "name")))) (mRet (mBin bIx (mVar 1) (mBin bIx (mVar 0) (mK (D.int 1))))) (mEmpty)) (mSeq (mIfS (mtOf (mBin (cEq false) (mBin bIx (mVar 0) (mK (D.int 0))) (mK (D.str "not")))) (mRet (mBi biInt (mCons (mBin (cEq false) (mCall "expressions.value_of" (mCons (mBin bIx (mVar 0) (mK (D.int 1))) (mCons (mVar 1) mNil))) (mK (D.int 0))) mNil))) (mEmpty)) (mRet (mCall "expressions.worked" (mCons (mBin bIx (mVar 0) (mK (D.int 0))) (mCons (mCall "expressions.value_of" (mCons (mBin bIx (mVar 0) (mK (D.int 1))) (mCons (mVar 1) mNil))) (mCons (mCall "expressions.value_of" (mCons (mBin bIx (mVar 0) (mK (D.int 2))) (mCons (mVar 1) mNil))) mNil)))))))⟩
noncomputable def f_expressions_names_in : FnDef := ⟨1, 3, mSeq (mIfS (mtOf (mBin (cEq false) (mBin bIx (mVar 0) (mK (D.int 0))) (mK (D.str "name")))) (mRet (mLst (mCons (mBin bIx (mVar 0) (mK (D.int 1))) mNil))) (mEmpty)) (mSeq (mIfS (mtOf (mBin (cEq false) (mBin bIx (mVar 0) (mK (D.int 0))) (mK (D.str "number")))) (mRet (mLst mNil)) (mEmpty)) (mRet (mSortSet (mComp2 (mIt (mSl (mVar 0) (mPart (mK (D.int 1))) mNoPart)) [1, 2] (gName' 1) mtYes (mIt (mCall "expressions.names_in" (mCons (mVar 1) mNil))) [2] (gName' 2) mtYes (mVar 2)))))⟩
noncomputable def f_expressions_put_for : FnDef := ⟨3, 4, mSeq (mIfS (mtOf (mBin (cEq false) (mBin bIx (mVar 0) (mK (D.int 0))) (mK (D.str "name")))) (mRet (mIf (mtOf (mBin (cEq false) (mBin bIx (mVar 0) (mK (D.int 1))) (mVar 1))) (mVar 2) (mVar 0))) (mEmpty)) (mSeq (mIfS (mtOf (mBin (cEq false) (mBin bIx (mVar 0) (mK (D.int 0))) (mK (D.str "number")))) (mRet (mVar 0)) (mEmpty)) (mRet (mBin bAdd (mSl (mVar 0) mNoPart (mPart (mK (D.int 1)))) (mBi biTuple (mCons (mComp (mIt (mSl (mVar 0) (mPart (mK (D.int 1))) mNoPart)) [3] (gName' 3) mtYes (mCall "expressions.put_for" (mCons (mVar 3) (mCons (mVar 1) (mCons (mVar 2) mNil))))) mNil)))))⟩
noncomputable def f_expressions_size : FnDef := ⟨1, 2, mSeq (mIfS (mtOf (mBin (cIn false) (mBin bIx (mVar 0) (mK (D.int 0))) (mTup (mCons (mK (D.str "number")) (mCons (mK (D.str "name")) mNil))))) (mRet (mK (D.int 1))) (mEmpty)) (mRet (mBin bAdd (mK (D.int 1)) (mBi biSum (mCons (mComp (mIt (mSl (mVar 0) (mPart (mK (D.int 1))) mNoPart)) [1] (gName' 1) mtYes (mCall "expressions.size" (mCons (mVar 1) mNil))) mNil))))⟩
noncomputable def f__law_is_integer : FnDef := ⟨1, 1, mRet (mAnd (mIsi "int" (mVar 0)) (mNot (mIsi "bool" (mVar 0))))⟩
noncomputable def f__law_same : FnDef := ⟨2, 3, mSeq (mIfS (mtOr (mtTru (mIsi "tuple" (mVar 1))) (mtTru (mIsi "list" (mVar 1)))) (mSeq (mIfS (mtOr (mtOf (mBin (cEq true) (mIsi "tuple" (mVar 1)) (mIsi "tuple" (mVar 0)))) (mtOr (mtOf (mBin (cEq true) (mIsi "list" (mVar 1)) (mIsi "list" (mVar 0)))) (mtOf (mBin (cEq true) (mBi biLen (mCons (mVar 0) mNil)) (mBi biLen (mCons (mVar 1) mNil)))))) (mRet (mK (D.bl false))) (mEmpty)) (mRet (mBin (cEq false) (mBi biLen (mCons (mComp (mRng1 (mBi biLen (mCons (mVar 1) mNil))) [2] (gName' 2) (mtNot (mtTru (mCall "_law_same" (mCons (mBin bIx (mVar 0) (mVar 2)) (mCons (mBin bIx (mVar 1) (mVar 2)) mNil))))) (mVar 2)) mNil)) (mK (D.int 0))))) (mEmpty)) (mSeq (mIfS (mtOf (mBin (cIs false) (mVar 1) (mK D.non))) (mRet (mBin (cIs false) (mVar 0) (mK D.non))) (mEmpty)) (mSeq (mIfS (mtOr (mtTru (mIsi "bool" (mVar 1))) (mtTru (mIsi "bool" (mVar 0)))) (mRet (mAnd (mIsi "bool" (mVar 1)) (mAnd (mIsi "bool" (mVar 0)) (mBin (cEq false) (mVar 0) (mVar 1))))) (mEmpty)) (mSeq (mIfS (mtTru (mIsi "int" (mVar 1))) (mRet (mAnd (mIsi "int" (mVar 0)) (mBin (cEq false) (mVar 0) (mVar 1)))) (mEmpty)) (mRet (mAnd (mIsi "str" (mVar 0)) (mAnd (mIsi "str" (mVar 1)) (mBin (cEq false) (mVar 0) (mVar 1))))))))⟩
noncomputable def f__law_pool : FnDef := ⟨1, 3, mSeq (mSet 1 (mK (D.int 7))) (mSeq (mFor (mIt (mSl (mVar 0) mNoPart (mPart (mK (D.int 63))))) (gName' 2) (mSet 1 (mBin bMod (mBi biInt (mCons (mBin bAdd (mBin bMul (mVar 1) (mK (D.int 31))) (mVar 2)) mNil)) (mK (D.int 1000003))))) (mRet (mLst (mCons (mBi biList (mCons (mVar 0) mNil)) (mCons (mK (D.int 0)) (mCons (mK (D.int 0)) (mCons (mK (D.int 0)) (mCons (mVar 1) mNil))))))))⟩
noncomputable def f__law_spread : FnDef := ⟨1, 4, mSeq (mSet 1 (mBin bMod (mBi biInt (mCons (mVar 0) mNil)) (mK (D.int 2147483647)))) (mSeq (mSet 2 (mK (D.int 1))) (mSeq (mFor (mRng1 (mK (D.int 4))) (gName' 3) (mSeq (mSet 1 (mBin bMod (mBi biInt (mCons (mBin bAdd (mBin bAdd (mBin bMul (mVar 1) (mK (D.int 48271))) (mK (D.int 12345))) (mVar 3)) mNil)) (mK (D.int 2147483647)))) (mSet 2 (mBin bAdd (mBin bMul (mVar 2) (mK (D.int 2147483647))) (mVar 1))))) (mRet (mVar 2))))⟩
noncomputable def f__law_draw : FnDef := ⟨2, 5, mSeq (mIfS (mtAnd (mtOf (mBin (cLt fun i j => decide (i ≤ j)) (mBin bIx (mVar 0) (mK (D.int 2))) (mK (D.int 0)))) (mtOf (mBin (cLt fun i j => decide (i < j)) (mBin bIx (mVar 0) (mK (D.int 1))) (mBi biLen (mCons (mBin bIx (mVar 0) (mK (D.int 0))) mNil))))) (mSeq (mSet 2 (mBin bIx (mBin bIx (mVar 0) (mK (D.int 0))) (mBin bIx (mVar 0) (mK (D.int 1))))) (mSeq (mAsg (mBin bAdd (mBin bIx (mVar 0) (mK (D.int 1))) (mK (D.int 1))) (gSub' (mVar 0) (mK (D.int 1)))) (mSeq (mAsg (mVar 2) (gSub' (mVar 0) (mK (D.int 2)))) (mIfS (mtOf (mBin (cLt fun i j => decide (i < j)) (mVar 2) (mK (D.int 1000000000000000000)))) (mAsg (mCall "_law_spread" (mCons (mVar 2) mNil)) (gSub' (mVar 0) (mK (D.int 2)))) (mEmpty))))) (mEmpty)) (mSeq (mAsg (mBin bAdd (mBin bIx (mVar 0) (mK (D.int 3))) (mK (D.int 1))) (gSub' (mVar 0) (mK (D.int 3)))) (mSeq (mIfS (mtOf (mBin (cLt fun i j => decide (i ≤ j)) (mBin bIx (mVar 0) (mK (D.int 2))) (mK (D.int 0)))) (mSeq (mSet 3 (mBin bMod (mBi biInt (mCons (mBin bAdd (mBin bAdd (mBin bMul (mBin bIx (mVar 0) (mK (D.int 4))) (mK (D.int 48271))) (mBin bMul (mBin bIx (mVar 0) (mK (D.int 3))) (mK (D.int 69621)))) (mK (D.int 1))) mNil)) (mK (D.int 2147483647)))) (mSeq (mSet 3 (mBin bMod (mBi biInt (mCons (mBin bAdd (mBin bMul (mVar 3) (mK (D.int 16807))) (mBin bIx (mVar 0) (mK (D.int 3)))) mNil)) (mK (D.int 2147483629)))) (mRet (mBin bMod (mBin bDiv (mVar 3) (mK (D.int 5))) (mVar 1))))) (mEmpty)) (mSeq (mSet 4 (mBin bMod (mBi biInt (mCons (mBin bIx (mVar 0) (mK (D.int 2))) mNil)) (mVar 1))) (mSeq (mAsg (mBin bDiv (mBin bIx (mVar 0) (mK (D.int 2))) (mVar 1)) (gSub' (mVar 0) (mK (D.int 2)))) (mRet (mVar 4))))))⟩
noncomputable def f__law_pick : FnDef := ⟨2, 2, mRet (mBin bIx (mVar 1) (mCall "_law_draw" (mCons (mVar 0) (mCons (mBi biLen (mCons (mVar 1) mNil)) mNil))))⟩
noncomputable def f__law_bent : FnDef := ⟨2, 6, mSeq (mIfS (mtAnd (mtTru (mIsi "tuple" (mVar 1))) (mtAnd (mtOf (mBin (cLt fun i j => decide (j < i)) (mBi biLen (mCons (mVar 1) mNil)) (mK (D.int 0)))) (mtOf (mBin (cLt fun i j => decide (j < i)) (mCall "_law_draw" (mCons (mVar 0) (mCons (mK (D.int 4)) mNil))) (mK (D.int 0)))))) (mSeq (mSet 2 (mCall "_law_draw" (mCons (mVar 0) (mCons (mBi biLen (mCons (mVar 1) mNil)) mNil)))) (mRet (mBin bAdd (mBin bAdd (mSl (mVar 1) mNoPart (mPart (mVar 2))) (mTup (mCons (mCall "_law_bent" (mCons (mVar 0) (mCons (mBin bIx (mVar 1) (mVar 2)) mNil))) mNil))) (mSl (mVar 1) (mPart (mBin bAdd (mVar 2) (mK (D.int 1)))) mNoPart)))) (mEmpty)) (mSeq (mSet 3 (mCall "_law_draw" (mCons (mVar 0) (mCons (mK (D.int 9)) mNil)))) (mSeq (mIfS (mtOf (mBin (cEq false) (mVar 3) (mK (D.int 0)))) (mRet (mBin bIx (mTup (mCons (mK (D.str "x")) (mCons (mK (D.bl true)) (mCons (mTup mNil) (mCons (mK (D.int 0)) (mCons (mNeg (mK (D.int 1))) (mCons (mK D.non) (mCons (mK (D.bl false)) (mCons (mLst mNil) (mCons (mK (D.str "in")) (mCons (mK (D.int 1)) mNil))))))))))) (mCall "_law_draw" (mCons (mVar 0) (mCons (mK (D.int 10)) mNil))))) (mEmpty)) (mSeq (mIfS (mtTru (mCall "_law_is_integer" (mCons (mVar 1) mNil))) (mRet (mBin bAdd (mVar 1) (mBin bIx (mTup (mCons (mK (D.int 1)) (mCons (mNeg (mK (D.int 1))) (mCons (mK (D.int 2)) (mCons (mK (D.int 0)) mNil))))) (mCall "_law_draw" (mCons (mVar 0) (mCons (mK (D.int 4)) mNil)))))) (mEmpty)) (mSeq (mIfS (mtTru (mIsi "str" (mVar 1))) (mRet (mBin bIx (mTup (mCons (mBin bAdd (mVar 1) (mK (D.str "a"))) (mCons (mSl (mVar 1) (mPart (mK (D.int 1))) mNoPart) (mCons (mBin bAdd (mVar 1) (mK (D.str "A"))) (mCons (mBin bAdd (mVar 1) (mK (D.str " "))) (mCons (mSl (mVar 1) mNoPart (mPart (mK (D.int 1)))) mNil)))))) (mCall "_law_draw" (mCons (mVar 0) (mCons (mK (D.int 5)) mNil))))) (mEmpty)) (mSeq (mIfS (mtOr (mtNot (mtTru (mIsi "tuple" (mVar 1)))) (mtOf (mBin (cEq false) (mBi biLen (mCons (mVar 1) mNil)) (mK (D.int 0))))) (mRet (mIf (mtOf (mBin (cLt fun i j => decide (i < j)) (mVar 3) (mK (D.int 5)))) (mTup (mCons (mVar 1) (mCons (mK (D.int 0)) mNil))) (mTup mNil))) (mEmpty)) (mSeq (mSet 2 (mCall "_law_draw" (mCons (mVar 0) (mCons (mBi biLen (mCons (mVar 1) mNil)) mNil)))) (mSeq (mIfS (mtOf (mBin (cLt fun i j => decide (i < j)) (mVar 3) (mK (D.int 3)))) (mRet (mBin bAdd (mSl (mVar 1) mNoPart (mPart (mVar 2))) (mSl (mVar 1) (mPart (mBin bAdd (mVar 2) (mK (D.int 1)))) mNoPart))) (mEmpty)) (mSeq (mIfS (mtOf (mBin (cLt fun i j => decide (i < j)) (mVar 3) (mK (D.int 5)))) (mRet (mBin bAdd (mBin bAdd (mSl (mVar 1) mNoPart (mPart (mVar 2))) (mTup (mCons (mBin bIx (mVar 1) (mVar 2)) mNil))) (mSl (mVar 1) (mPart (mVar 2)) mNoPart))) (mEmpty)) (mSeq (mIfS (mtOf (mBin (cEq false) (mVar 3) (mK (D.int 5)))) (mRet (mBi biList (mCons (mVar 1) mNil))) (mEmpty)) (mSeq (mSet 4 (mCall "_law_draw" (mCons (mVar 0) (mCons (mBi biLen (mCons (mVar 1) mNil)) mNil)))) (mSeq (mSetL 5 (mBi biList (mCons (mVar 1) mNil))) (mSeq (mAsg (mBin bIx (mVar 1) (mVar 4)) (gSub' (mVar 5) (mVar 2))) (mSeq (mAsg (mBin bIx (mVar 1) (mVar 2)) (gSub' (mVar 5) (mVar 4))) (mRet (mBi biTuple (mCons (mVar 5) mNil))))))))))))))))⟩
noncomputable def f__law_booled : FnDef := ⟨1, 2, mSeq (mIfS (mtTru (mIsi "tuple" (mVar 0))) (mRet (mBi biTuple (mCons (mComp (mIt (mVar 0)) [1] (gName' 1) mtYes (mCall "_law_booled" (mCons (mVar 1) mNil))) mNil))) (mEmpty)) (mRet (mIf (mtAnd (mtTru (mCall "_law_is_integer" (mCons (mVar 0) mNil))) (mtOf (mBin (cIn false) (mVar 0) (mTup (mCons (mK (D.int 0)) (mCons (mK (D.int 1)) mNil)))))) (mBin (cEq false) (mVar 0) (mK (D.int 1))) (mVar 0)))⟩
noncomputable def f__law_listed : FnDef := ⟨2, 3, mSeq (mIfS (mtNot (mtTru (mIsi "tuple" (mVar 0)))) (mRet (mVar 0)) (mEmpty)) (mSeq (mIfS (mtOf (mBin (cEq false) (mVar 1) (mK (D.int 0)))) (mRet (mBi biList (mCons (mVar 0) mNil))) (mEmpty)) (mRet (mBi biTuple (mCons (mComp (mIt (mVar 0)) [2] (gName' 2) mtYes (mCall "_law_listed" (mCons (mVar 2) (mCons (mBin bSub (mVar 1) (mK (D.int 1))) mNil)))) mNil))))⟩
noncomputable def f__law_odd_values : FnDef := ⟨0, 2, mSeq (mSet 0 (mTup mNil)) (mSeq (mFor (mRng1 (mK (D.int 90))) (gName' 1) (mSet 0 (mTup (mCons (mVar 0) mNil)))) (mRet (mLst (mCons (mVar 0) (mCons (mTup (mCons (mK (D.str "plan")) (mCons (mVar 0) (mCons (mVar 0) mNil)))) (mCons (mK D.non) (mCons (mK (D.int 0)) (mCons (mK (D.int 1)) (mCons (mK (D.bl true)) (mCons (mK (D.bl false)) (mCons (mK (D.str "")) (mCons (mK (D.str "x")) (mCons (mTup mNil) (mCons (mLst mNil) (mCons (mDic0) (mCons (mTup (mCons (mTup mNil) mNil)) (mCons (mTup (mCons (mTup mNil) (mCons (mTup mNil) mNil))) (mCons (mTup (mCons (mK (D.int 0)) mNil)) (mCons (mTup (mCons (mK (D.int 1)) (mCons (mK (D.int 2)) mNil))) (mCons (mTup (mCons (mK (D.str "x")) mNil)) (mCons (mTup (mCons (mLst mNil) mNil)) (mCons (mDic [(.inr "a", (D.int 1))]) (mCons (mTup (mCons (mK D.non) mNil)) (mCons (mTup (mCons (mTup (mCons (mTup mNil) mNil)) mNil)) (mCons (mNeg (mK (D.int 1))) mNil)))))))))))))))))))))))))⟩
noncomputable def f__law_is_number : FnDef := ⟨3, 3, mRet (mAnd (mCall "_law_is_integer" (mCons (mVar 0) mNil)) (mAnd (mBin (cLt fun i j => decide (i ≤ j)) (mVar 1) (mVar 0)) (mBin (cLt fun i j => decide (i ≤ j)) (mVar 0) (mVar 2))))⟩
noncomputable def f__law_swapped : FnDef := ⟨2, 5, mSeq (mIfS (mtOr (mtNot (mtTru (mIsi "tuple" (mVar 1)))) (mtOf (mBin (cEq false) (mBi biLen (mCons (mVar 1) mNil)) (mK (D.int 0))))) (mRet (mVar 1)) (mEmpty)) (mSeq (mSet 2 (mCall "_law_draw" (mCons (mVar 0) (mCons (mBi biLen (mCons (mVar 1) mNil)) mNil)))) (mSeq (mIfS (mtAnd (mtTru (mIsi "tuple" (mBin bIx (mVar 1) (mVar 2)))) (mtOf (mBin (cLt fun i j => decide (j < i)) (mCall "_law_draw" (mCons (mVar 0) (mCons (mK (D.int 4)) mNil))) (mK (D.int 0))))) (mRet (mBin bAdd (mBin bAdd (mSl (mVar 1) mNoPart (mPart (mVar 2))) (mTup (mCons (mCall "_law_swapped" (mCons (mVar 0) (mCons (mBin bIx (mVar 1) (mVar 2)) mNil))) mNil))) (mSl (mVar 1) (mPart (mBin bAdd (mVar 2) (mK (D.int 1)))) mNoPart))) (mEmpty)) (mSeq (mSet 3 (mCall "_law_draw" (mCons (mVar 0) (mCons (mBi biLen (mCons (mVar 1) mNil)) mNil)))) (mSeq (mSetL 4 (mBi biList (mCons (mVar 1) mNil))) (mSeq (mAsg (mTup (mCons (mBin bIx (mVar 4) (mVar 3)) (mCons (mBin bIx (mVar 4) (mVar 2)) mNil))) (gTup' 2 (gCons' (gSub' (mVar 4) (mVar 2)) (gCons' (gSub' (mVar 4) (mVar 3)) gNil')))) (mRet (mBi biTuple (mCons (mVar 4) mNil))))))))⟩
noncomputable def f__law_changed : FnDef := ⟨3, 4, mSeq (mIfS (mtOr (mtNot (mtTru (mIsi "tuple" (mVar 1)))) (mtOr (mtOf (mBin (cEq false) (mBi biLen (mCons (mVar 1) mNil)) (mK (D.int 0)))) (mtOf (mBin (cEq false) (mCall "_law_draw" (mCons (mVar 0) (mCons (mK (D.int 7)) mNil))) (mK (D.int 0)))))) (mRet (mCall "_law_pick" (mCons (mVar 0) (mCons (mVar 2) mNil)))) (mEmpty)) (mSeq (mSet 3 (mCall "_law_draw" (mCons (mVar 0) (mCons (mBi biLen (mCons (mVar 1) mNil)) mNil)))) (mRet (mBin bAdd (mBin bAdd (mSl (mVar 1) mNoPart (mPart (mVar 3))) (mTup (mCons (mCall "_law_changed" (mCons (mVar 0) (mCons (mBin bIx (mVar 1) (mVar 3)) (mCons (mVar 2) mNil)))) mNil))) (mSl (mVar 1) (mPart (mBin bAdd (mVar 3) (mK (D.int 1)))) mNoPart))))⟩
noncomputable def f__law_worked : FnDef := ⟨3, 3, mSeq (mIfS (mtOf (mBin (cEq false) (mVar 0) (mK (D.str "plus")))) (mRet (mBin bMod (mBi biInt (mCons (mBin bAdd (mVar 1) (mVar 2)) mNil)) (mK (D.int 1000)))) (mEmpty)) (mSeq (mIfS (mtOf (mBin (cEq false) (mVar 0) (mK (D.str "minus")))) (mRet (mBin bMod (mBi biInt (mCons (mBin bSub (mVar 1) (mVar 2)) mNil)) (mK (D.int 1000)))) (mEmpty)) (mSeq (mIfS (mtOf (mBin (cEq false) (mVar 0) (mK (D.str "times")))) (mRet (mBin bMod (mBi biInt (mCons (mBin bMul (mVar 1) (mVar 2)) mNil)) (mK (D.int 1000)))) (mEmpty)) (mRet (mIf (mtOf (mBin (cEq false) (mVar 0) (mK (D.str "less")))) (mBi biInt (mCons (mBin (cLt fun i j => decide (i < j)) (mVar 1) (mVar 2)) mNil)) (mBi biInt (mCons (mBin (cEq false) (mVar 1) (mVar 2)) mNil))))))⟩
noncomputable def f__law_value : FnDef := ⟨2, 2, mSeq (mIfS (mtOf (mBin (cEq false) (mBin bIx (mVar 0) (mK (D.int 0))) (mK (D.str "number")))) (mRet (mBin bIx (mVar 0) (mK (D.int 1)))) (mEmpty)) (mSeq (mIfS (mtOf (mBin (cEq false) (mBin bIx (mVar 0) (mK (D.int 0))) (mK (D.str "name")))) (mRet (mBin bIx (mVar 1) (mBin bIx (mVar 0) (mK (D.int 1))))) (mEmpty)) (mSeq (mIfS (mtOf (mBin (cEq false) (mBin bIx (mVar 0) (mK (D.int 0))) (mK (D.str "not")))) (mRet (mBi biInt (mCons (mBin (cEq false) (mCall "_law_value" (mCons (mBin bIx (mVar 0) (mK (D.int 1))) (mCons (mVar 1) mNil))) (mK (D.int 0))) mNil))) (mEmpty)) (mRet (mCall "_law_worked" (mCons (mBin bIx (mVar 0) (mK (D.int 0))) (mCons (mCall "_law_value" (mCons (mBin bIx (mVar 0) (mK (D.int 1))) (mCons (mVar 1) mNil))) (mCons (mCall "_law_value" (mCons (mBin bIx (mVar 0) (mK (D.int 2))) (mCons (mVar 1) mNil))) mNil)))))))⟩
noncomputable def f__law_shape : FnDef := ⟨3, 3, mSeq (mIfS (mtOr (mtNot (mtTru (mIsi "tuple" (mVar 0)))) (mtOr (mtOf (mBin (cEq false) (mBi biLen (mCons (mVar 0) mNil)) (mK (D.int 0)))) (mtOr (mtNot (mtTru (mIsi "str" (mBin bIx (mVar 0) (mK (D.int 0)))))) (mtOf (mBin (cEq false) (mVar 2) (mK (D.int 0))))))) (mRet (mK (D.bl false))) (mEmpty)) (mSeq (mIfS (mtOr (mtOf (mBin (cEq false) (mBin bIx (mVar 0) (mK (D.int 0))) (mK (D.str "number")))) (mtOf (mBin (cEq false) (mBin bIx (mVar 0) (mK (D.int 0))) (mK (D.str "name"))))) (mRet (mAnd (mBin (cEq false) (mBi biLen (mCons (mVar 0) mNil)) (mK (D.int 2))) (mCall "_law_is_number" (mCons (mBin bIx (mVar 0) (mK (D.int 1))) (mCons (mK (D.int 0)) (mCons (mIf (mtOf (mBin (cEq false) (mBin bIx (mVar 0) (mK (D.int 0))) (mK (D.str "number")))) (mK (D.int 999)) (mBin bSub (mVar 1) (mK (D.int 1)))) mNil)))))) (mEmpty)) (mSeq (mIfS (mtOf (mBin (cEq false) (mBin bIx (mVar 0) (mK (D.int 0))) (mK (D.str "not")))) (mRet (mAnd (mBin (cEq false) (mBi biLen (mCons (mVar 0) mNil)) (mK (D.int 2))) (mCall "_law_shape" (mCons (mBin bIx (mVar 0) (mK (D.int 1))) (mCons (mVar 1) (mCons (mBin bSub (mVar 2) (mK (D.int 1))) mNil)))))) (mEmpty)) (mRet (mAnd (mBin (cIn false) (mBin bIx (mVar 0) (mK (D.int 0))) (mTup (mCons (mK (D.str "plus")) (mCons (mK (D.str "minus")) (mCons (mK (D.str "times")) (mCons (mK (D.str "less")) (mCons (mK (D.str "same")) mNil))))))) (mAnd (mBin (cEq false) (mBi biLen (mCons (mVar 0) mNil)) (mK (D.int 3))) (mAnd (mCall "_law_shape" (mCons (mBin bIx (mVar 0) (mK (D.int 1))) (mCons (mVar 1) (mCons (mBin bSub (mVar 2) (mK (D.int 1))) mNil)))) (mCall "_law_shape" (mCons (mBin bIx (mVar 0) (mK (D.int 2))) (mCons (mVar 1) (mCons (mBin bSub (mVar 2) (mK (D.int 1))) mNil))))))))))⟩
noncomputable def f__law_is_expression : FnDef := ⟨1, 1, mRet (mCall "_law_shape" (mCons (mVar 0) (mCons (mK (D.int 4)) (mCons (mK (D.int 60)) mNil))))⟩
noncomputable def f__law_names : FnDef := ⟨1, 3, mSeq (mIfS (mtOf (mBin (cEq false) (mBin bIx (mVar 0) (mK (D.int 0))) (mK (D.str "name")))) (mRet (mLst (mCons (mBin bIx (mVar 0) (mK (D.int 1))) mNil))) (mEmpty)) (mSeq (mSet 1 (mLst mNil)) (mSeq (mFor (mIt (mIf (mtOf (mBin (cEq true) (mBin bIx (mVar 0) (mK (D.int 0))) (mK (D.str "number")))) (mSl (mVar 0) (mPart (mK (D.int 1))) mNoPart) (mTup mNil))) (gName' 2) (mSet 1 (mBin bAdd (mVar 1) (mCall "_law_names" (mCons (mVar 2) mNil))))) (mRet (mSortSet (mVar 1)))))⟩
noncomputable def f__law_expression : FnDef := ⟨2, 3, mSeq (mIfS (mtOr (mtOf (mBin (cEq false) (mVar 1) (mK (D.int 0)))) (mtOf (mBin (cEq false) (mCall "_law_draw" (mCons (mVar 0) (mCons (mK (D.int 4)) mNil))) (mK (D.int 0))))) (mSeq (mIfS (mtOf (mBin (cLt fun i j => decide (i < j)) (mCall "_law_draw" (mCons (mVar 0) (mCons (mK (D.int 5)) mNil))) (mK (D.int 2)))) (mRet (mTup (mCons (mK (D.str "number")) (mCons (mBin bIx (mTup (mCons (mK (D.int 0)) (mCons (mK (D.int 1)) (mCons (mK (D.int 2)) (mCons (mK (D.int 3)) (mCons (mK (D.int 5)) (mCons (mK (D.int 9)) (mCons (mK (D.int 998)) (mCons (mK (D.int 999)) mNil))))))))) (mCall "_law_draw" (mCons (mVar 0) (mCons (mK (D.int 8)) mNil)))) mNil)))) (mEmpty)) (mRet (mTup (mCons (mK (D.str "name")) (mCons (mCall "_law_draw" (mCons (mVar 0) (mCons (mK (D.int 4)) mNil))) mNil))))) (mEmpty)) (mSeq (mSet 2 (mCall "_law_pick" (mCons (mVar 0) (mCons (mLst (mCons (mK (D.str "plus")) (mCons (mK (D.str "minus")) (mCons (mK (D.str "times")) (mCons (mK (D.str "less")) (mCons (mK (D.str "same")) (mCons (mK (D.str "not")) mNil))))))) mNil)))) (mSeq (mIfS (mtOf (mBin (cEq false) (mVar 2) (mK (D.str "not")))) (mRet (mTup (mCons (mK (D.str "not")) (mCons (mCall "_law_expression" (mCons (mVar 0) (mCons (mBin bSub (mVar 1) (mK (D.int 1))) mNil))) mNil)))) (mEmpty)) (mRet (mTup (mCons (mVar 2) (mCons (mCall "_law_expression" (mCons (mVar 0) (mCons (mBin bSub (mVar 1) (mK (D.int 1))) mNil))) (mCons (mCall "_law_expression" (mCons (mVar 0) (mCons (mBin bSub (mVar 1) (mK (D.int 1))) mNil))) mNil)))))))⟩
noncomputable def f__law_store : FnDef := ⟨1, 2, mRet (mBi biTuple (mCons (mComp (mRng1 (mK (D.int 4))) [1] (gName' 1) mtYes (mBin bIx (mTup (mCons (mK (D.int 0)) (mCons (mK (D.int 0)) (mCons (mK (D.int 1)) (mCons (mK (D.int 2)) (mCons (mK (D.int 5)) (mCons (mK (D.int 998)) mNil))))))) (mCall "_law_draw" (mCons (mVar 0) (mCons (mK (D.int 6)) mNil))))) mNil))⟩
noncomputable def f__law_bends : FnDef := ⟨2, 5, mSeq (mSet 2 (mLst (mCons (mK (D.int 0)) (mCons (mK (D.int 1)) (mCons (mK (D.int 2)) (mCons (mK (D.int 3)) (mCons (mK (D.int 4)) (mCons (mNeg (mK (D.int 1))) (mCons (mK (D.int 1000)) (mCons (mK (D.int 100001)) (mCons (mTup mNil) (mCons (mTup (mCons (mK (D.str "number")) (mCons (mK (D.int 1)) mNil))) (mCons (mTup (mCons (mK (D.str "name")) (mCons (mK (D.int 0)) mNil))) (mCons (mTup (mCons (mK (D.str "name")) (mCons (mK (D.int 4)) mNil))) (mCons (mTup (mCons (mK (D.str "turn")) mNil)) (mCons (mTup (mCons (mK (D.str "end")) mNil)) (mCons (mTup (mCons (mK (D.str "to")) (mCons (mK (D.int 0)) mNil))) (mCons (mTup (mCons (mK (D.str "jump")) (mCons (mK (D.int 0)) mNil))) (mCons (mTup (mCons (mK (D.str "tell")) (mCons (mTup (mCons (mK (D.str "name")) (mCons (mK (D.int 1)) mNil))) mNil))) mNil))))))))))))))))))) (mSeq (mSet 2 (mBin bAdd (mVar 2) (mLst (mCons (mTup (mCons (mK (D.str "set")) (mCons (mK (D.int 0)) (mCons (mTup (mCons (mK (D.str "number")) (mCons (mK (D.int 7)) mNil))) mNil)))) (mCons (mK (D.str "set")) (mCons (mK (D.str "jump")) (mCons (mK D.non) (mCons (mK (D.bl true)) (mCons (mTup (mCons (mK (D.int 0)) (mCons (mK (D.int 1)) mNil))) mNil))))))))) (mSeq (mSet 3 (mLst (mCons (mBi biList (mCons (mVar 1) mNil)) (mCons (mSl (mVar 1) (mPart (mK (D.int 1))) mNoPart) (mCons (mSl (mVar 1) mNoPart (mPart (mNeg (mK (D.int 1))))) (mCons (mBin bAdd (mVar 1) (mSl (mVar 1) (mPart (mNeg (mK (D.int 1)))) mNoPart)) (mCons (mTup (mCons (mVar 1) mNil)) (mCons (mCall "_law_listed" (mCons (mVar 1) (mCons (mK (D.int 1)) mNil))) (mCons (mCall "_law_listed" (mCons (mVar 1) (mCons (mK (D.int 2)) mNil))) (mCons (mCall "_law_booled" (mCons (mVar 1) mNil)) (mCons (mTup mNil) mNil))))))))))) (mSeq (mSet 3 (mBin bAdd (mBin bAdd (mVar 3) (mComp (mRng1 (mK (D.int 14))) [4] (gName' 4) mtYes (mCall "_law_changed" (mCons (mVar 0) (mCons (mVar 1) (mCons (mVar 2) mNil)))))) (mComp (mRng1 (mK (D.int 9))) [4] (gName' 4) mtYes (mCall "_law_swapped" (mCons (mVar 0) (mCons (mVar 1) mNil)))))) (mRet (mBin bAdd (mVar 3) (mComp (mRng1 (mK (D.int 7))) [4] (gName' 4) mtYes (mCall "_law_bent" (mCons (mVar 0) (mCons (mVar 1) mNil)))))))))⟩
noncomputable def f__law_size : FnDef := ⟨1, 2, mRet (mBin bAdd (mK (D.int 1)) (mBi biSum (mCons (mComp (mIt (mSl (mVar 0) (mPart (mK (D.int 1))) mNoPart)) [1] (gName' 1) (mtTru (mIsi "tuple" (mVar 1))) (mCall "_law_size" (mCons (mVar 1) mNil))) mNil)))⟩
noncomputable def f__law_put : FnDef := ⟨3, 4, mSeq (mIfS (mtOf (mBin (cEq false) (mVar 0) (mTup (mCons (mK (D.str "name")) (mCons (mVar 1) mNil))))) (mRet (mVar 2)) (mEmpty)) (mSeq (mIfS (mtOf (mBin (cIn false) (mBin bIx (mVar 0) (mK (D.int 0))) (mTup (mCons (mK (D.str "name")) (mCons (mK (D.str "number")) mNil))))) (mRet (mVar 0)) (mEmpty)) (mRet (mBin bAdd (mSl (mVar 0) mNoPart (mPart (mK (D.int 1)))) (mBi biTuple (mCons (mComp (mIt (mSl (mVar 0) (mPart (mK (D.int 1))) mNoPart)) [3] (gName' 3) mtYes (mCall "_law_put" (mCons (mVar 3) (mCons (mVar 1) (mCons (mVar 2) mNil))))) mNil)))))⟩
noncomputable def f_law : FnDef := ⟨1, 13, mSeq (mSetL 1 (mCall "_law_pool" (mCons (mVar 0) mNil))) (mSeq (mSet 2 (mTup (mCons (mK (D.str "name")) (mCons (mK (D.int 1)) mNil)))) (mSeq (mFor (mRng1 (mBin bAdd (mK (D.int 57)) (mCall "_law_draw" (mCons (mVar 1) (mCons (mK (D.int 6)) mNil))))) (gName' 3) (mSet 2 (mTup (mCons (mK (D.str "not")) (mCons (mVar 2) mNil))))) (mSeq (mFor (mRng1 (mK (D.int 4))) (gName' 4) (mSeq (mPar2 5 6 (mCons (mCall "_law_expression" (mCons (mVar 1) (mCons (mK (D.int 4)) mNil))) (mCons (mCall "_law_expression" (mCons (mVar 1) (mCons (mK (D.int 2)) mNil))) mNil))) (mSeq (mSet 7 (mCall "_law_store" (mCons (mVar 1) mNil))) (mSeq (mSet 8 (mCall "_law_draw" (mCons (mVar 1) (mCons (mK (D.int 4)) mNil)))) (mSeq (mSet 9 (mCall "expressions.put_for" (mCons (mVar 5) (mCons (mVar 8) (mCons (mVar 6) mNil))))) (mSeq (mSet 10 (mLst (mCons (mCall "expressions.value_of" (mCons (mVar 5) (mCons (mVar 7) mNil))) (mCons (mCall "expressions.names_in" (mCons (mVar 5) mNil)) (mCons (mCall "expressions.size" (mCons (mVar 5) mNil)) (mCons (mVar 9) mNil)))))) (mSeq (mIfS (mtNot (mtTru (mCall "_law_same" (mCons (mVar 10) (mCons (mLst (mCons (mCall "_law_value" (mCons (mVar 5) (mCons (mVar 7) mNil))) (mCons (mCall "_law_names" (mCons (mVar 5) mNil)) (mCons (mCall "_law_size" (mCons (mVar 5) mNil)) (mCons (mCall "_law_put" (mCons (mVar 5) (mCons (mVar 8) (mCons (mVar 6) mNil)))) mNil))))) mNil))))) (mRet (mK (D.bl false))) (mEmpty)) (mSeq (mSet 11 (mBin bAdd (mBin bAdd (mSl (mVar 7) mNoPart (mPart (mVar 8))) (mTup (mCons (mCall "_law_value" (mCons (mVar 6) (mCons (mVar 7) mNil))) mNil))) (mSl (mVar 7) (mPart (mBin bAdd (mVar 8) (mK (D.int 1)))) mNoPart))) (mSeq (mIfS (mtOf (mBin (cEq true) (mCall "expressions.value_of" (mCons (mVar 9) (mCons (mVar 7) mNil))) (mCall "expressions.value_of" (mCons (mVar 5) (mCons (mVar 11) mNil))))) (mRet (mK (D.bl false))) (mEmpty)) (mFor (mIt (mBin bAdd (mBin bAdd (mLst (mCons (mVar 5) (mCons (mVar 2) mNil))) (mCall "_law_bends" (mCons (mVar 1) (mCons (mVar 5) mNil)))) (mCall "_law_odd_values" mNil))) (gName' 12) (mIfS (mtNot (mtTru (mCall "_law_same" (mCons (mCall "expressions.is_expression" (mCons (mVar 12) mNil)) (mCons (mCall "_law_is_expression" (mCons (mVar 12) mNil)) mNil))))) (mRet (mK (D.bl false))) (mEmpty)))))))))))) (mRet (mK (D.bl true))))))⟩
end F
set_option Elab.async false
set_option linter.all false
set_option maxRecDepth 100000
namespace F
open PySem PySem.Spec L2 Ev

noncomputable def f_expressions_folded : FnDef := ⟨1, 3, mSeq (mIfS (mtOf (mBin (cIn false) (mBin bIx (mVar 0) (mK (D.int 0))) (mTup (mCons (mK (D.str "number")) (mCons (mK (D.str "name")) mNil))))) (mRet (mVar 0)) (mEmpty)) (mSeq (mSet 1 (mComp (mIt (mSl (mVar 0) (mPart (mK (D.int 1))) mNoPart)) [2] (gName' 2) mtYes (mCall "expressions.folded" (mCons (mVar 2) mNil)))) (mSeq (mIfS (mtTru (mBi biAll (mCons (mComp (mIt (mVar 1)) [2] (gName' 2) mtYes (mBin (cEq false) (mBin bIx (mVar 2) (mK (D.int 0))) (mK (D.str "number")))) mNil))) (mRet (mTup (mCons (mK (D.str "number")) (mCons (mCall "expressions.value_of" (mCons (mBin bAdd (mTup (mCons (mBin bIx (mVar 0) (mK (D.int 0))) mNil)) (mBi biTuple (mCons (mVar 1) mNil))) (mCons (mTup mNil) mNil))) mNil)))) (mEmpty)) (mSeq (mIfS (mtOf (mBin (cEq false) (mBin bIx (mVar 0) (mK (D.int 0))) (mK (D.str "not")))) (mRet (mTup (mCons (mK (D.str "not")) (mCons (mBin bIx (mVar 1) (mK (D.int 0))) mNil)))) (mEmpty)) (mRet (mCall "expressions.simpler" (mCons (mBin bIx (mVar 0) (mK (D.int 0))) (mCons (mBin bIx (mVar 1) (mK (D.int 0))) (mCons (mBin bIx (mVar 1) (mK (D.int 1))) mNil))))))))⟩
noncomputable def f_expressions_simpler : FnDef := ⟨3, 5, mSeq (mAsg (mTup (mCons (mTup (mCons (mK (D.str "number")) (mCons (mK (D.int 0)) mNil))) (mCons (mTup (mCons (mK (D.str "number")) (mCons (mK (D.int 1)) mNil))) mNil))) (gTup' 2 (gCons' (gName' 3) (gCons' (gName' 4) gNil')))) (mSeq (mIfS (mtOf (mBin (cEq false) (mVar 0) (mK (D.str "plus")))) (mRet (mIf (mtOf (mBin (cEq false) (mVar 1) (mVar 3))) (mVar 2) (mIf (mtOf (mBin (cEq false) (mVar 2) (mVar 3))) (mVar 1) (mTup (mCons (mVar 0) (mCons (mVar 1) (mCons (mVar 2) mNil))))))) (mEmpty)) (mSeq (mIfS (mtOf (mBin (cEq false) (mVar 0) (mK (D.str "minus")))) (mRet (mIf (mtOf (mBin (cEq false) (mVar 1) (mVar 2))) (mVar 3) (mIf (mtOf (mBin (cEq false) (mVar 2) (mVar 3))) (mVar 1) (mTup (mCons (mVar 0) (mCons (mVar 1) (mCons (mVar 2) mNil))))))) (mEmpty)) (mSeq (mIfS (mtOf (mBin (cEq false) (mVar 0) (mK (D.str "times")))) (mSeq (mIfS (mtOf (mBin (cIn false) (mVar 3) (mTup (mCons (mVar 1) (mCons (mVar 2) mNil))))) (mRet (mVar 3)) (mEmpty)) (mRet (mIf (mtOf (mBin (cEq false) (mVar 1) (mVar 4))) (mVar 2) (mIf (mtOf (mBin (cEq false) (mVar 2) (mVar 4))) (mVar 1) (mTup (mCons (mVar 0) (mCons (mVar 1) (mCons (mVar 2) mNil)))))))) (mEmpty)) (mSeq (mIfS (mtOf (mBin (cEq false) (mVar 1) (mVar 2))) (mRet (mTup (mCons (mK (D.str "number")) (mCons (mBi biInt (mCons (mBin (cEq false) (mVar 0) (mK (D.str "same"))) mNil)) mNil)))) (mEmpty)) (mRet (mIf (mtAnd (mtOf (mBin (cEq false) (mVar 0) (mK (D.str "less")))) (mtOf (mBin (cEq false) (mVar 2) (mVar 3)))) (mVar 3) (mTup (mCons (mVar 0) (mCons (mVar 1) (mCons (mVar 2) mNil))))))))))⟩
noncomputable def f__law_simple : FnDef := ⟨1, 8, mSeq (mIfS (mtOf (mBin (cIn false) (mBin bIx (mVar 0) (mK (D.int 0))) (mTup (mCons (mK (D.str "number")) (mCons (mK (D.str "name")) mNil))))) (mRet (mK (D.bl true))) (mEmpty)) (mSeq (mSet 1 (mSl (mVar 0) (mPart (mK (D.int 1))) mNoPart)) (mSeq (mIfS (mtOr (mtOf (mBin (cLt fun i j => decide (j < i)) (mBi biLen (mCons (mComp (mIt (mVar 1)) [7] (gName' 7) (mtNot (mtTru (mCall "_law_simple" (mCons (mVar 7) mNil)))) (mVar 7)) mNil)) (mK (D.int 0)))) (mtOf (mBin (cEq false) (mBi biLen (mCons (mComp (mIt (mVar 1)) [7] (gName' 7) (mtOf (mBin (cEq true) (mBin bIx (mVar 7) (mK (D.int 0))) (mK (D.str "number")))) (mVar 7)) mNil)) (mK (D.int 0))))) (mRet (mK (D.bl false))) (mEmpty)) (mSeq (mIfS (mtOf (mBin (cEq false) (mBin bIx (mVar 0) (mK (D.int 0))) (mK (D.str "not")))) (mRet (mK (D.bl true))) (mEmpty)) (mSeq (mAsg (mVar 0) (gTup' 3 (gCons' (gName' 2) (gCons' (gName' 3) (gCons' (gName' 4) gNil'))))) (mSeq (mAsg (mTup (mCons (mTup (mCons (mK (D.str "number")) (mCons (mK (D.int 0)) mNil))) (mCons (mTup (mCons (mK (D.str "number")) (mCons (mK (D.int 1)) mNil))) mNil))) (gTup' 2 (gCons' (gName' 5) (gCons' (gName' 6) gNil')))) (mSeq (mIfS (mtAnd (mtOf (mBin (cEq false) (mVar 3) (mVar 4))) (mtOf (mBin (cIn false) (mVar 2) (mTup (mCons (mK (D.str "minus")) (mCons (mK (D.str "less")) (mCons (mK (D.str "same")) mNil))))))) (mRet (mK (D.bl false))) (mEmpty)) (mSeq (mIfS (mtOr (mtAnd (mtOf (mBin (cEq false) (mVar 2) (mK (D.str "plus")))) (mtOf (mBin (cIn false) (mVar 5) (mVar 1)))) (mtAnd (mtOf (mBin (cIn false) (mVar 2) (mTup (mCons (mK (D.str "minus")) (mCons (mK (D.str "less")) mNil))))) (mtOf (mBin (cEq false) (mVar 4) (mVar 5))))) (mRet (mK (D.bl false))) (mEmpty)) (mRet (mNot (mAnd (mBin (cEq false) (mVar 2) (mK (D.str "times"))) (mOr (mBin (cIn false) (mVar 5) (mVar 1)) (mBin (cIn false) (mVar 6) (mVar 1)))))))))))))⟩
noncomputable def f__law_twins : FnDef := ⟨1, 5, mSeq (mSet 1 (mCall "_law_expression" (mCons (mVar 0) (mCons (mK (D.int 2)) mNil)))) (mSeq (mSet 2 (mCall "_law_pick" (mCons (mVar 0) (mCons (mLst (mCons (mVar 1) (mCons (mTup (mCons (mK (D.str "number")) (mCons (mK (D.int 0)) mNil))) (mCons (mTup (mCons (mK (D.str "number")) (mCons (mK (D.int 1)) mNil))) (mCons (mCall "_law_expression" (mCons (mVar 0) (mCons (mK (D.int 2)) mNil))) mNil))))) mNil)))) (mSeq (mSet 3 (mCall "_law_pick" (mCons (mVar 0) (mCons (mLst (mCons (mK (D.str "plus")) (mCons (mK (D.str "minus")) (mCons (mK (D.str "times")) (mCons (mK (D.str "less")) (mCons (mK (D.str "same")) mNil)))))) mNil)))) (mSeq (mSet 4 (mIf (mtOf (mBin (cEq false) (mCall "_law_draw" (mCons (mVar 0) (mCons (mK (D.int 2)) mNil))) (mK (D.int 0)))) (mTup (mCons (mVar 3) (mCons (mVar 1) (mCons (mVar 2) mNil)))) (mTup (mCons (mVar 3) (mCons (mVar 2) (mCons (mVar 1) mNil)))))) (mRet (mCall "_law_pick" (mCons (mVar 0) (mCons (mLst (mCons (mVar 4) (mCons (mTup (mCons (mK (D.str "not")) (mCons (mVar 4) mNil))) (mCons (mTup (mCons (mK (D.str "plus")) (mCons (mVar 4) (mCons (mVar 4) mNil)))) (mCons (mTup (mCons (mVar 3) (mCons (mVar 4) (mCons (mTup (mCons (mK (D.str "number")) (mCons (mK (D.int 1)) mNil))) mNil)))) mNil))))) mNil)))))))⟩
noncomputable def f_law2 : FnDef := ⟨1, 8, mSeq (mSetL 1 (mCall "_law_pool" (mCons (mVar 0) mNil))) (mSeq (mFor (mRng1 (mK (D.int 5))) (gName' 2) (mSeq (mSet 3 (mIf (mtOf (mBin (cLt fun i j => decide (i < j)) (mVar 2) (mK (D.int 3)))) (mCall "_law_twins" (mCons (mVar 1) mNil)) (mCall "_law_expression" (mCons (mVar 1) (mCons (mK (D.int 5)) mNil))))) (mSeq (mSet 4 (mCall "expressions.folded" (mCons (mVar 3) mNil))) (mSeq (mIfS (mtOr (mtNot (mtTru (mCall "_law_is_expression" (mCons (mVar 4) mNil)))) (mtOr (mtNot (mtTru (mCall "_law_simple" (mCons (mVar 4) mNil)))) (mtOr (mtOf (mBin (cLt fun i j => decide (j < i)) (mCall "expressions.size" (mCons (mVar 4) mNil)) (mCall "expressions.size" (mCons (mVar 3) mNil)))) (mtNot (mtTru (mCall "_law_same" (mCons (mCall "expressions.folded" (mCons (mVar 4) mNil)) (mCons (mVar 4) mNil)))))))) (mRet (mK (D.bl false))) (mEmpty)) (mSeq (mIfS (mtOf (mBin (cLt fun i j => decide (j < i)) (mBi biLen (mCons (mComp (mIt (mCall "expressions.names_in" (mCons (mVar 4) mNil))) [7] (gName' 7) (mtOf (mBin (cIn true) (mVar 7) (mCall "expressions.names_in" (mCons (mVar 3) mNil)))) (mVar 7)) mNil)) (mK (D.int 0)))) (mRet (mK (D.bl false))) (mEmpty)) (mFor (mRng1 (mK (D.int 4))) (gName' 5) (mSeq (mSet 6 (mCall "_law_store" (mCons (mVar 1) mNil))) (mIfS (mtOf (mBin (cEq true) (mCall "expressions.value_of" (mCons (mVar 4) (mCons (mVar 6) mNil))) (mCall "_law_value" (mCons (mVar 3) (mCons (mVar 6) mNil))))) (mRet (mK (D.bl false))) (mEmpty))))))))) (mRet (mK (D.bl true))))⟩
end F
set_option Elab.async false
set_option linter.all false
set_option maxRecDepth 100000
namespace F
open PySem PySem.Spec L2 Ev

noncomputable def f_basics_is_store : FnDef := ⟨1, 2, mRet (mAnd (mIsi "tuple" (mVar 0)) (mAnd (mBin (cEq false) (mBi biLen (mCons (mVar 0) mNil)) (mK (D.int 4))) (mBi biAll (mCons (mComp (mIt (mVar 0)) [1] (gName' 1) mtYes (mCall "basics.is_from" (mCons (mVar 1) (mCons (mK (D.int 0)) (mCons (mBin bSub (mK (D.int 1000)) (mK (D.int 1))) mNil))))) mNil))))⟩
noncomputable def f_basics_is_tagged : FnDef := ⟨3, 3, mRet (mAnd (mIsi "tuple" (mVar 0)) (mAnd (mBin (cEq false) (mBi biLen (mCons (mVar 0) mNil)) (mVar 2)) (mAnd (mIsi "str" (mBin bIx (mVar 0) (mK (D.int 0)))) (mBin (cEq false) (mBin bIx (mVar 0) (mK (D.int 0))) (mVar 1)))))⟩
noncomputable def f_basics_with_value : FnDef := ⟨3, 3, mRet (mBin bAdd (mBin bAdd (mSl (mVar 0) mNoPart (mPart (mVar 1))) (mTup (mCons (mVar 2) mNil))) (mSl (mVar 0) (mPart (mBin bAdd (mVar 1) (mK (D.int 1)))) mNoPart))⟩
noncomputable def f_trees_is_deed : FnDef := ⟨2, 2, mSeq (mIfS (mtTru (mCall "basics.is_tagged" (mCons (mVar 0) (mCons (mK (D.str "set")) (mCons (mK (D.int 3)) mNil))))) (mRet (mAnd (mCall "basics.is_from" (mCons (mBin bIx (mVar 0) (mK (D.int 1))) (mCons (mK (D.int 0)) (mCons (mBin bSub (mK (D.int 4)) (mK (D.int 1))) mNil)))) (mCall "expressions.is_expression" (mCons (mBin bIx (mVar 0) (mK (D.int 2))) mNil)))) (mEmpty)) (mSeq (mIfS (mtTru (mCall "basics.is_tagged" (mCons (mVar 0) (mCons (mK (D.str "tell")) (mCons (mK (D.int 2)) mNil))))) (mRet (mCall "expressions.is_expression" (mCons (mBin bIx (mVar 0) (mK (D.int 1))) mNil))) (mEmpty)) (mSeq (mIfS (mtTru (mCall "basics.is_tagged" (mCons (mVar 0) (mCons (mK (D.str "if")) (mCons (mK (D.int 4)) mNil))))) (mRet (mAnd (mCall "expressions.is_expression" (mCons (mBin bIx (mVar 0) (mK (D.int 1))) mNil)) (mAnd (mCall "trees.is_block" (mCons (mBin bIx (mVar 0) (mK (D.int 2))) (mCons (mBin bSub (mVar 1) (mK (D.int 1))) mNil))) (mCall "trees.is_block" (mCons (mBin bIx (mVar 0) (mK (D.int 3))) (mCons (mBin bSub (mVar 1) (mK (D.int 1))) mNil)))))) (mEmpty)) (mRet (mAnd (mCall "basics.is_tagged" (mCons (mVar 0) (mCons (mK (D.str "while")) (mCons (mK (D.int 3)) mNil)))) (mAnd (mCall "expressions.is_expression" (mCons (mBin bIx (mVar 0) (mK (D.int 1))) mNil)) (mCall "trees.is_block" (mCons (mBin bIx (mVar 0) (mK (D.int 2))) (mCons (mBin bSub (mVar 1) (mK (D.int 1))) mNil))))))))⟩
noncomputable def f_trees_is_block : FnDef := ⟨2, 3, mSeq (mIfS (mtOr (mtNot (mtTru (mIsi "tuple" (mVar 0)))) (mtOr (mtOf (mBin (cLt fun i j => decide (j < i)) (mBi biLen (mCons (mVar 0) mNil)) (mK (D.int 100000)))) (mtOf (mBin (cLt fun i j => decide (i < j)) (mVar 1) (mK (D.int 0)))))) (mRet (mK (D.bl false))) (mEmpty)) (mRet (mBi biAll (mCons (mComp (mIt (mVar 0)) [2] (gName' 2) mtYes (mCall "trees.is_deed" (mCons (mVar 2) (mCons (mVar 1) mNil)))) mNil)))⟩
noncomputable def f_steps_is_state : FnDef := ⟨1, 2, mSeq (mIfS (mtOr (mtNot (mtTru (mIsi "tuple" (mVar 0)))) (mtOr (mtOf (mBin (cEq true) (mBi biLen (mCons (mVar 0) mNil)) (mK (D.int 3)))) (mtOr (mtNot (mtTru (mCall "trees.is_block" (mCons (mBin bIx (mVar 0) (mK (D.int 0))) (mCons (mK (D.int 31)) mNil))))) (mtNot (mtTru (mCall "basics.is_store" (mCons (mBin bIx (mVar 0) (mK (D.int 1))) mNil))))))) (mRet (mK (D.bl false))) (mEmpty)) (mRet (mAnd (mIsi "tuple" (mBin bIx (mVar 0) (mK (D.int 2)))) (mBi biAll (mCons (mComp (mIt (mBin bIx (mVar 0) (mK (D.int 2)))) [1] (gName' 1) mtYes (mCall "steps.is_told" (mCons (mVar 1) mNil))) mNil))))⟩
noncomputable def f_steps_is_told : FnDef := ⟨1, 1, mRet (mCall "basics.is_store" (mCons (mTup (mCons (mVar 0) (mCons (mK (D.int 0)) (mCons (mK (D.int 0)) (mCons (mK (D.int 0)) mNil))))) mNil))⟩
noncomputable def f_steps_takes_turn : FnDef := ⟨1, 1, mRet (mAnd (mBin (cLt fun i j => decide (j < i)) (mBi biLen (mCons (mBin bIx (mVar 0) (mK (D.int 0))) mNil)) (mK (D.int 0))) (mBin (cEq false) (mBin bIx (mBin bIx (mBin bIx (mVar 0) (mK (D.int 0))) (mK (D.int 0))) (mK (D.int 0))) (mK (D.str "while"))))⟩
noncomputable def f_steps_step : FnDef := ⟨1, 7, mSeq (mAsg (mVar 0) (gTup' 3 (gCons' (gName' 1) (gCons' (gName' 2) (gCons' (gName' 3) gNil'))))) (mSeq (mIfS (mtOf (mBin (cEq false) (mBi biLen (mCons (mVar 1) mNil)) (mK (D.int 0)))) (mRet (mK D.non)) (mEmpty)) (mSeq (mPar2 4 5 (mCons (mBin bIx (mVar 1) (mK (D.int 0))) (mCons (mSl (mVar 1) (mPart (mK (D.int 1))) mNoPart) mNil))) (mSeq (mIfS (mtOf (mBin (cEq false) (mBin bIx (mVar 4) (mK (D.int 0))) (mK (D.str "set")))) (mRet (mTup (mCons (mVar 5) (mCons (mCall "basics.with_value" (mCons (mVar 2) (mCons (mBin bIx (mVar 4) (mK (D.int 1))) (mCons (mCall "expressions.value_of" (mCons (mBin bIx (mVar 4) (mK (D.int 2))) (mCons (mVar 2) mNil))) mNil)))) (mCons (mVar 3) mNil))))) (mEmpty)) (mSeq (mSet 6 (mCall "expressions.value_of" (mCons (mBin bIx (mVar 4) (mK (D.int 1))) (mCons (mVar 2) mNil)))) (mSeq (mIfS (mtOf (mBin (cEq false) (mBin bIx (mVar 4) (mK (D.int 0))) (mK (D.str "tell")))) (mRet (mTup (mCons (mVar 5) (mCons (mVar 2) (mCons (mBin bAdd (mVar 3) (mTup (mCons (mVar 6) mNil))) mNil))))) (mEmpty)) (mSeq (mIfS (mtOf (mBin (cEq false) (mBin bIx (mVar 4) (mK (D.int 0))) (mK (D.str "if")))) (mRet (mTup (mCons (mBin bAdd (mIf (mtOf (mBin (cEq true) (mVar 6) (mK (D.int 0)))) (mBin bIx (mVar 4) (mK (D.int 2))) (mBin bIx (mVar 4) (mK (D.int 3)))) (mVar 5)) (mCons (mVar 2) (mCons (mVar 3) mNil))))) (mEmpty)) (mRet (mTup (mCons (mIf (mtOf (mBin (cEq true) (mVar 6) (mK (D.int 0)))) (mBin bAdd (mBin bIx (mVar 4) (mK (D.int 2))) (mVar 1)) (mVar 5)) (mCons (mVar 2) (mCons (mVar 3) mNil)))))))))))⟩
noncomputable def f_steps_trace : FnDef := ⟨3, 5, mSeq (mSetL 3 (mLst (mCons (mTup (mCons (mVar 0) (mCons (mVar 1) (mCons (mTup mNil) mNil)))) mNil))) (mWhile (mtTru (mK (D.bl true))) (mSeq (mIfS (mtTru (mCall "steps.takes_turn" (mCons (mBin bIx (mVar 3) (mNeg (mK (D.int 1)))) mNil))) (mSeq (mIfS (mtOf (mBin (cEq false) (mVar 2) (mK (D.int 0)))) (mRet (mVar 3)) (mEmpty)) (mAug 2 bSub (mK (D.int 1)))) (mEmpty)) (mSeq (mSet 4 (mCall "steps.step" (mCons (mBin bIx (mVar 3) (mNeg (mK (D.int 1)))) mNil))) (mSeq (mIfS (mtOf (mBin (cIs false) (mVar 4) (mK D.non))) (mRet (mVar 3)) (mEmpty)) (mDrop (mApp (mVar 3) (mVar 4)))))))⟩
noncomputable def f_steps_run : FnDef := ⟨3, 6, mSeq (mAsg (mBin bIx (mCall "steps.trace" (mCons (mVar 0) (mCons (mVar 1) (mCons (mVar 2) mNil)))) (mNeg (mK (D.int 1)))) (gTup' 3 (gCons' (gName' 3) (gCons' (gName' 4) (gCons' (gName' 5) gNil'))))) (mRet (mIf (mtOf (mBin (cEq false) (mBi biLen (mCons (mVar 3) mNil)) (mK (D.int 0)))) (mTup (mCons (mK (D.str "end")) (mCons (mVar 4) (mCons (mVar 5) mNil)))) (mTup (mCons (mK (D.str "going")) (mCons (mVar 5) mNil)))))⟩
noncomputable def f_steps_fault : FnDef := ⟨3, 5, mSeq (mIfS (mtOr (mtNot (mtTru (mIsi "tuple" (mVar 2)))) (mtOr (mtOf (mBin (cEq false) (mBi biLen (mCons (mVar 2) mNil)) (mK (D.int 0)))) (mtNot (mtTru (mBi biAll (mCons (mComp (mIt (mVar 2)) [4] (gName' 4) mtYes (mCall "steps.is_state" (mCons (mVar 4) mNil))) mNil)))))) (mRet (mTup (mCons (mK (D.str "form")) (mCons (mK (D.int 0)) mNil)))) (mEmpty)) (mSeq (mIfS (mtOf (mBin (cEq true) (mBin bIx (mVar 2) (mK (D.int 0))) (mTup (mCons (mVar 0) (mCons (mVar 1) (mCons (mTup mNil) mNil)))))) (mRet (mTup (mCons (mK (D.str "start")) (mCons (mK (D.int 0)) mNil)))) (mEmpty)) (mSeq (mFor (mRng1 (mBin bSub (mBi biLen (mCons (mVar 2) mNil)) (mK (D.int 1)))) (gName' 3) (mIfS (mtOf (mBin (cEq true) (mCall "steps.step" (mCons (mBin bIx (mVar 2) (mVar 3)) mNil)) (mBin bIx (mVar 2) (mBin bAdd (mVar 3) (mK (D.int 1)))))) (mRet (mTup (mCons (mK (D.str "step")) (mCons (mBin bAdd (mVar 3) (mK (D.int 1))) mNil)))) (mEmpty))) (mRet (mK D.non))))⟩
noncomputable def f__law_is_row : FnDef := ⟨4, 5, mSeq (mIfS (mtOr (mtNot (mtTru (mIsi "tuple" (mVar 0)))) (mtAnd (mtOf (mBin (cIs true) (mVar 1) (mK D.non))) (mtOf (mBin (cEq true) (mBi biLen (mCons (mVar 0) mNil)) (mVar 1))))) (mRet (mK (D.bl false))) (mEmpty)) (mRet (mBin (cEq false) (mBi biLen (mCons (mComp (mIt (mVar 0)) [4] (gName' 4) (mtOr (mtNot (mtTru (mCall "_law_is_integer" (mCons (mVar 4) mNil)))) (mtOr (mtOf (mBin (cLt fun i j => decide (i < j)) (mVar 4) (mVar 2))) (mtOf (mBin (cLt fun i j => decide (j < i)) (mVar 4) (mVar 3))))) (mVar 4)) mNil)) (mK (D.int 0))))⟩
noncomputable def f__law_tagged : FnDef := ⟨3, 3, mRet (mAnd (mIsi "tuple" (mVar 0)) (mAnd (mBin (cEq false) (mBi biLen (mCons (mVar 0) mNil)) (mVar 2)) (mAnd (mIsi "str" (mBin bIx (mVar 0) (mK (D.int 0)))) (mBin (cEq false) (mBin bIx (mVar 0) (mK (D.int 0))) (mVar 1)))))⟩
noncomputable def f__law_block : FnDef := ⟨2, 3, mRet (mBi biTuple (mCons (mComp (mRng1 (mCall "_law_draw" (mCons (mVar 0) (mCons (mK (D.int 4)) mNil)))) [2] (gName' 2) mtYes (mCall "_law_deed" (mCons (mVar 0) (mCons (mVar 1) mNil)))) mNil))⟩
noncomputable def f__law_deed : FnDef := ⟨2, 5, mSeq (mSet 2 (mCall "_law_draw" (mCons (mVar 0) (mCons (mK (D.int 8)) mNil)))) (mSeq (mIfS (mtOr (mtOf (mBin (cEq false) (mVar 1) (mK (D.int 0)))) (mtOf (mBin (cLt fun i j => decide (i < j)) (mVar 2) (mK (D.int 4))))) (mSeq (mIfS (mtOf (mBin (cEq false) (mBin bMod (mVar 2) (mK (D.int 4))) (mK (D.int 3)))) (mRet (mTup (mCons (mK (D.str "tell")) (mCons (mCall "_law_expression" (mCons (mVar 0) (mCons (mK (D.int 2)) mNil))) mNil)))) (mEmpty)) (mRet (mTup (mCons (mK (D.str "set")) (mCons (mCall "_law_draw" (mCons (mVar 0) (mCons (mK (D.int 4)) mNil))) (mCons (mCall "_law_expression" (mCons (mVar 0) (mCons (mK (D.int 2)) mNil))) mNil)))))) (mEmpty)) (mSeq (mIfS (mtOf (mBin (cLt fun i j => decide (i < j)) (mVar 2) (mK (D.int 6)))) (mRet (mTup (mCons (mK (D.str "if")) (mCons (mCall "_law_expression" (mCons (mVar 0) (mCons (mK (D.int 2)) mNil))) (mCons (mCall "_law_block" (mCons (mVar 0) (mCons (mBin bSub (mVar 1) (mK (D.int 1))) mNil))) (mCons (mCall "_law_block" (mCons (mVar 0) (mCons (mBin bSub (mVar 1) (mK (D.int 1))) mNil))) mNil)))))) (mEmpty)) (mSeq (mSet 3 (mCall "_law_draw" (mCons (mVar 0) (mCons (mK (D.int 4)) mNil)))) (mSeq (mIfS (mtOf (mBin (cLt fun i j => decide (i < j)) (mCall "_law_draw" (mCons (mVar 0) (mCons (mK (D.int 5)) mNil))) (mK (D.int 3)))) (mSeq (mSet 4 (mTup (mCons (mK (D.str "set")) (mCons (mVar 3) (mCons (mTup (mCons (mK (D.str "plus")) (mCons (mTup (mCons (mK (D.str "name")) (mCons (mVar 3) mNil))) (mCons (mTup (mCons (mK (D.str "number")) (mCons (mBin bAdd (mK (D.int 1)) (mCall "_law_draw" (mCons (mVar 0) (mCons (mK (D.int 3)) mNil)))) mNil))) mNil)))) mNil))))) (mRet (mTup (mCons (mK (D.str "while")) (mCons (mTup (mCons (mK (D.str "less")) (mCons (mTup (mCons (mK (D.str "name")) (mCons (mVar 3) mNil))) (mCons (mTup (mCons (mK (D.str "number")) (mCons (mCall "_law_draw" (mCons (mVar 0) (mCons (mK (D.int 12)) mNil))) mNil))) mNil)))) (mCons (mBin bAdd (mCall "_law_block" (mCons (mVar 0) (mCons (mBin bSub (mVar 1) (mK (D.int 1))) mNil))) (mTup (mCons (mVar 4) mNil))) mNil)))))) (mEmpty)) (mRet (mTup (mCons (mK (D.str "while")) (mCons (mCall "_law_expression" (mCons (mVar 0) (mCons (mK (D.int 2)) mNil))) (mCons (mCall "_law_block" (mCons (mVar 0) (mCons (mBin bSub (mVar 1) (mK (D.int 1))) mNil))) mNil)))))))))⟩
noncomputable def f__law_program : FnDef := ⟨1, 2, mSeq (mSet 1 (mCall "_law_block" (mCons (mVar 0) (mCons (mK (D.int 3)) mNil)))) (mRet (mIf (mtOf (mBin (cEq true) (mVar 1) (mTup mNil))) (mVar 1) (mTup (mCons (mCall "_law_deed" (mCons (mVar 0) (mCons (mK (D.int 2)) mNil))) mNil))))⟩
noncomputable def f__law_turns : FnDef := ⟨1, 1, mRet (mBin bIx (mTup (mCons (mK (D.int 0)) (mCons (mK (D.int 1)) (mCons (mK (D.int 2)) (mCons (mK (D.int 5)) (mCons (mK (D.int 20)) mNil)))))) (mCall "_law_draw" (mCons (mVar 0) (mCons (mK (D.int 5)) mNil))))⟩
noncomputable def f__law_do : FnDef := ⟨2, 4, mSeq (mFor (mIt (mVar 0)) (gName' 2) (mSeq (mIfS (mtOf (mBin (cEq true) (mBin bIx (mVar 1) (mK (D.str "word"))) (mK (D.str "end")))) (mRet (mVar 1)) (mEmpty)) (mSeq (mSet 3 (mBin bIx (mVar 1) (mK (D.str "store")))) (mIfS (mtOf (mBin (cEq false) (mBin bIx (mVar 2) (mK (D.int 0))) (mK (D.str "set")))) (mAsg (mBin bAdd (mBin bAdd (mSl (mVar 3) mNoPart (mPart (mBin bIx (mVar 2) (mK (D.int 1))))) (mTup (mCons (mCall "_law_value" (mCons (mBin bIx (mVar 2) (mK (D.int 2))) (mCons (mVar 3) mNil))) mNil))) (mSl (mVar 3) (mPart (mBin bAdd (mBin bIx (mVar 2) (mK (D.int 1))) (mK (D.int 1)))) mNoPart)) (gSub' (mVar 1) (mK (D.str "store")))) (mIfS (mtOf (mBin (cEq false) (mBin bIx (mVar 2) (mK (D.int 0))) (mK (D.str "tell")))) (mAsg (mBin bAdd (mBin bIx (mVar 1) (mK (D.str "told"))) (mTup (mCons (mCall "_law_value" (mCons (mBin bIx (mVar 2) (mK (D.int 1))) (mCons (mVar 3) mNil))) mNil))) (gSub' (mVar 1) (mK (D.str "told")))) (mIfS (mtOf (mBin (cEq false) (mBin bIx (mVar 2) (mK (D.int 0))) (mK (D.str "if")))) (mDrop (mCall "_law_do" (mCons (mIf (mtOf (mBin (cEq true) (mCall "_law_value" (mCons (mBin bIx (mVar 2) (mK (D.int 1))) (mCons (mVar 3) mNil))) (mK (D.int 0)))) (mBin bIx (mVar 2) (mK (D.int 2))) (mBin bIx (mVar 2) (mK (D.int 3)))) (mCons (mVar 1) mNil)))) (mDrop (mCall "_law_loop" (mCons (mVar 2) (mCons (mVar 1) mNil)))))))))) (mRet (mVar 1))⟩
noncomputable def f__law_loop : FnDef := ⟨2, 3, mSeq (mSet 2 (mK (D.bl true))) (mSeq (mWhile (mtTru (mVar 2)) (mSeq (mIfS (mtOf (mBin (cEq false) (mBin bIx (mVar 1) (mK (D.str "turns"))) (mK (D.int 0)))) (mSeq (mAsg (mK (D.str "going")) (gSub' (mVar 1) (mK (D.str "word")))) (mRet (mVar 1))) (mEmpty)) (mSeq (mAsg (mBin bSub (mBin bIx (mVar 1) (mK (D.str "turns"))) (mK (D.int 1))) (gSub' (mVar 1) (mK (D.str "turns")))) (mSeq (mSet 2 (mBin (cEq true) (mCall "_law_value" (mCons (mBin bIx (mVar 0) (mK (D.int 1))) (mCons (mBin bIx (mVar 1) (mK (D.str "store"))) mNil))) (mK (D.int 0)))) (mIfS (mtTru (mVar 2)) (mSeq (mDrop (mCall "_law_do" (mCons (mBin bIx (mVar 0) (mK (D.int 2))) (mCons (mVar 1) mNil)))) (mSet 2 (mBin (cEq false) (mBin bIx (mVar 1) (mK (D.str "word"))) (mK (D.str "end"))))) (mEmpty)))))) (mRet (mVar 1)))⟩
noncomputable def f__law_run : FnDef := ⟨3, 4, mSeq (mSetL 3 (mDicH [.inr "word", .inr "store", .inr "told", .inr "turns"] (mCons (mK (D.str "end")) (mCons (mVar 1) (mCons (mTup mNil) (mCons (mVar 2) mNil)))))) (mSeq (mDrop (mCall "_law_do" (mCons (mVar 0) (mCons (mVar 3) mNil)))) (mRet (mIf (mtOf (mBin (cEq false) (mBin bIx (mVar 3) (mK (D.str "word"))) (mK (D.str "end")))) (mTup (mCons (mK (D.str "end")) (mCons (mBin bIx (mVar 3) (mK (D.str "store"))) (mCons (mBin bIx (mVar 3) (mK (D.str "told"))) mNil)))) (mTup (mCons (mK (D.str "going")) (mCons (mBin bIx (mVar 3) (mK (D.str "told"))) mNil))))))⟩
noncomputable def f__law_is_block : FnDef := ⟨2, 3, mSeq (mIfS (mtOr (mtNot (mtTru (mIsi "tuple" (mVar 0)))) (mtOr (mtOf (mBin (cLt fun i j => decide (j < i)) (mBi biLen (mCons (mVar 0) mNil)) (mK (D.int 100000)))) (mtOf (mBin (cLt fun i j => decide (i < j)) (mVar 1) (mK (D.int 0)))))) (mRet (mK (D.bl false))) (mEmpty)) (mRet (mBin (cEq false) (mBi biLen (mCons (mComp (mIt (mVar 0)) [2] (gName' 2) (mtNot (mtTru (mCall "_law_is_deed" (mCons (mVar 2) (mCons (mVar 1) mNil))))) (mVar 2)) mNil)) (mK (D.int 0))))⟩
noncomputable def f__law_is_deed : FnDef := ⟨2, 2, mSeq (mIfS (mtTru (mCall "_law_tagged" (mCons (mVar 0) (mCons (mK (D.str "set")) (mCons (mK (D.int 3)) mNil))))) (mRet (mAnd (mCall "_law_is_number" (mCons (mBin bIx (mVar 0) (mK (D.int 1))) (mCons (mK (D.int 0)) (mCons (mK (D.int 3)) mNil)))) (mCall "_law_is_expression" (mCons (mBin bIx (mVar 0) (mK (D.int 2))) mNil)))) (mEmpty)) (mSeq (mIfS (mtTru (mCall "_law_tagged" (mCons (mVar 0) (mCons (mK (D.str "tell")) (mCons (mK (D.int 2)) mNil))))) (mRet (mCall "_law_is_expression" (mCons (mBin bIx (mVar 0) (mK (D.int 1))) mNil))) (mEmpty)) (mSeq (mIfS (mtTru (mCall "_law_tagged" (mCons (mVar 0) (mCons (mK (D.str "if")) (mCons (mK (D.int 4)) mNil))))) (mRet (mAnd (mCall "_law_is_expression" (mCons (mBin bIx (mVar 0) (mK (D.int 1))) mNil)) (mAnd (mCall "_law_is_block" (mCons (mBin bIx (mVar 0) (mK (D.int 2))) (mCons (mBin bSub (mVar 1) (mK (D.int 1))) mNil))) (mCall "_law_is_block" (mCons (mBin bIx (mVar 0) (mK (D.int 3))) (mCons (mBin bSub (mVar 1) (mK (D.int 1))) mNil)))))) (mEmpty)) (mRet (mAnd (mCall "_law_tagged" (mCons (mVar 0) (mCons (mK (D.str "while")) (mCons (mK (D.int 3)) mNil)))) (mAnd (mCall "_law_is_expression" (mCons (mBin bIx (mVar 0) (mK (D.int 1))) mNil)) (mCall "_law_is_block" (mCons (mBin bIx (mVar 0) (mK (D.int 2))) (mCons (mBin bSub (mVar 1) (mK (D.int 1))) mNil))))))))⟩
noncomputable def f__law_step : FnDef := ⟨1, 7, mSeq (mAsg (mVar 0) (gTup' 3 (gCons' (gName' 1) (gCons' (gName' 2) (gCons' (gName' 3) gNil'))))) (mSeq (mIfS (mtOf (mBin (cEq false) (mVar 1) (mTup mNil))) (mRet (mK D.non)) (mEmpty)) (mSeq (mPar2 4 5 (mCons (mBin bIx (mVar 1) (mK (D.int 0))) (mCons (mSl (mVar 1) (mPart (mK (D.int 1))) mNoPart) mNil))) (mSeq (mIfS (mtOf (mBin (cEq false) (mBin bIx (mVar 4) (mK (D.int 0))) (mK (D.str "set")))) (mRet (mTup (mCons (mVar 5) (mCons (mBin bAdd (mBin bAdd (mSl (mVar 2) mNoPart (mPart (mBin bIx (mVar 4) (mK (D.int 1))))) (mTup (mCons (mCall "_law_value" (mCons (mBin bIx (mVar 4) (mK (D.int 2))) (mCons (mVar 2) mNil))) mNil))) (mSl (mVar 2) (mPart (mBin bAdd (mBin bIx (mVar 4) (mK (D.int 1))) (mK (D.int 1)))) mNoPart)) (mCons (mVar 3) mNil))))) (mEmpty)) (mSeq (mSet 6 (mCall "_law_value" (mCons (mBin bIx (mVar 4) (mK (D.int 1))) (mCons (mVar 2) mNil)))) (mSeq (mIfS (mtOf (mBin (cEq false) (mBin bIx (mVar 4) (mK (D.int 0))) (mK (D.str "tell")))) (mRet (mTup (mCons (mVar 5) (mCons (mVar 2) (mCons (mBin bAdd (mVar 3) (mTup (mCons (mVar 6) mNil))) mNil))))) (mEmpty)) (mSeq (mIfS (mtOf (mBin (cEq false) (mBin bIx (mVar 4) (mK (D.int 0))) (mK (D.str "if")))) (mRet (mTup (mCons (mBin bAdd (mIf (mtOf (mBin (cEq true) (mVar 6) (mK (D.int 0)))) (mBin bIx (mVar 4) (mK (D.int 2))) (mBin bIx (mVar 4) (mK (D.int 3)))) (mVar 5)) (mCons (mVar 2) (mCons (mVar 3) mNil))))) (mEmpty)) (mRet (mTup (mCons (mIf (mtOf (mBin (cEq true) (mVar 6) (mK (D.int 0)))) (mBin bAdd (mBin bIx (mVar 4) (mK (D.int 2))) (mVar 1)) (mVar 5)) (mCons (mVar 2) (mCons (mVar 3) mNil)))))))))))⟩
noncomputable def f__law_trace : FnDef := ⟨3, 4, mSeq (mSetL 3 (mLst (mCons (mTup (mCons (mVar 0) (mCons (mVar 1) (mCons (mTup mNil) mNil)))) mNil))) (mSeq (mWhile (mtAnd (mtOf (mBin (cEq true) (mBin bIx (mBin bIx (mVar 3) (mNeg (mK (D.int 1)))) (mK (D.int 0))) (mTup mNil))) (mtNot (mtAnd (mtOf (mBin (cEq false) (mBin bIx (mBin bIx (mBin bIx (mBin bIx (mVar 3) (mNeg (mK (D.int 1)))) (mK (D.int 0))) (mK (D.int 0))) (mK (D.int 0))) (mK (D.str "while")))) (mtOf (mBin (cEq false) (mVar 2) (mK (D.int 0))))))) (mSeq (mSet 2 (mBin bSub (mVar 2) (mBi biInt (mCons (mBin (cEq false) (mBin bIx (mBin bIx (mBin bIx (mBin bIx (mVar 3) (mNeg (mK (D.int 1)))) (mK (D.int 0))) (mK (D.int 0))) (mK (D.int 0))) (mK (D.str "while"))) mNil)))) (mDrop (mApp (mVar 3) (mCall "_law_step" (mCons (mBin bIx (mVar 3) (mNeg (mK (D.int 1)))) mNil)))))) (mRet (mVar 3)))⟩
noncomputable def f__law_state : FnDef := ⟨1, 1, mSeq (mIfS (mtOr (mtNot (mtTru (mIsi "tuple" (mVar 0)))) (mtOr (mtOf (mBin (cEq true) (mBi biLen (mCons (mVar 0) mNil)) (mK (D.int 3)))) (mtOr (mtNot (mtTru (mCall "_law_is_block" (mCons (mBin bIx (mVar 0) (mK (D.int 0))) (mCons (mK (D.int 31)) mNil))))) (mtNot (mtTru (mCall "_law_is_row" (mCons (mBin bIx (mVar 0) (mK (D.int 1))) (mCons (mK (D.int 4)) (mCons (mK (D.int 0)) (mCons (mK (D.int 999)) mNil)))))))))) (mRet (mK (D.bl false))) (mEmpty)) (mRet (mCall "_law_is_row" (mCons (mBin bIx (mVar 0) (mK (D.int 2))) (mCons (mK D.non) (mCons (mK (D.int 0)) (mCons (mK (D.int 999)) mNil))))))⟩
noncomputable def f__law_f_steps : FnDef := ⟨3, 6, mSeq (mIfS (mtOr (mtNot (mtTru (mIsi "tuple" (mVar 2)))) (mtOr (mtOf (mBin (cEq false) (mBi biLen (mCons (mVar 2) mNil)) (mK (D.int 0)))) (mtOf (mBin (cLt fun i j => decide (j < i)) (mBi biLen (mCons (mComp (mIt (mVar 2)) [4] (gName' 4) (mtNot (mtTru (mCall "_law_state" (mCons (mVar 4) mNil)))) (mVar 4)) mNil)) (mK (D.int 0)))))) (mRet (mTup (mCons (mK (D.str "form")) (mCons (mK (D.int 0)) mNil)))) (mEmpty)) (mSeq (mIfS (mtOf (mBin (cEq true) (mBin bIx (mVar 2) (mK (D.int 0))) (mTup (mCons (mVar 0) (mCons (mVar 1) (mCons (mTup mNil) mNil)))))) (mRet (mTup (mCons (mK (D.str "start")) (mCons (mK (D.int 0)) mNil)))) (mEmpty)) (mSeq (mSet 3 (mComp (mRng2 (mK (D.int 1)) (mBi biLen (mCons (mVar 2) mNil))) [5] (gName' 5) (mtOf (mBin (cEq true) (mCall "_law_step" (mCons (mBin bIx (mVar 2) (mBin bSub (mVar 5) (mK (D.int 1)))) mNil)) (mBin bIx (mVar 2) (mVar 5)))) (mVar 5))) (mRet (mIf (mtOf (mBin (cEq true) (mVar 3) (mLst mNil))) (mTup (mCons (mK (D.str "step")) (mCons (mBin bIx (mVar 3) (mK (D.int 0))) mNil))) (mK D.non)))))⟩
noncomputable def f_law4 : FnDef := ⟨1, 11, mSeq (mSetL 1 (mCall "_law_pool" (mCons (mVar 0) mNil))) (mSeq (mFor (mRng1 (mK (D.int 3))) (gName' 2) (mSeq (mPar3 3 4 5 (mCons (mCall "_law_program" (mCons (mVar 1) mNil)) (mCons (mCall "_law_store" (mCons (mVar 1) mNil)) (mCons (mCall "_law_turns" (mCons (mVar 1) mNil)) mNil)))) (mSeq (mSet 6 (mCall "steps.trace" (mCons (mVar 3) (mCons (mVar 4) (mCons (mVar 5) mNil))))) (mSeq (mIfS (mtOr (mtNot (mtTru (mCall "_law_same" (mCons (mVar 6) (mCons (mCall "_law_trace" (mCons (mVar 3) (mCons (mVar 4) (mCons (mVar 5) mNil)))) mNil))))) (mtNot (mtTru (mCall "_law_same" (mCons (mCall "steps.run" (mCons (mVar 3) (mCons (mVar 4) (mCons (mVar 5) mNil)))) (mCons (mCall "_law_run" (mCons (mVar 3) (mCons (mVar 4) (mCons (mVar 5) mNil)))) mNil)))))) (mRet (mK (D.bl false))) (mEmpty)) (mSeq (mFor (mIt (mSl (mVar 6) mNoPart (mPart (mK (D.int 20))))) (gName' 7) (mIfS (mtNot (mtTru (mCall "_law_same" (mCons (mLst (mCons (mCall "steps.step" (mCons (mVar 7) mNil)) (mCons (mCall "steps.takes_turn" (mCons (mVar 7) mNil)) mNil))) (mCons (mLst (mCons (mCall "_law_step" (mCons (mVar 7) mNil)) (mCons (mAnd (mBin (cEq true) (mBin bIx (mVar 7) (mK (D.int 0))) (mTup mNil)) (mBin (cEq false) (mBin bIx (mBin bIx (mBin bIx (mVar 7) (mK (D.int 0))) (mK (D.int 0))) (mK (D.int 0))) (mK (D.str "while")))) mNil))) mNil))))) (mRet (mK (D.bl false))) (mEmpty))) (mSeq (mSet 8 (mBi biTuple (mCons (mSl (mVar 6) mNoPart (mPart (mK (D.int 12)))) mNil))) (mSeq (mSet 9 (mSl (mVar 8) mNoPart (mPart (mBin bAdd (mK (D.int 1)) (mCall "_law_draw" (mCons (mVar 1) (mCons (mBi biLen (mCons (mVar 8) mNil)) mNil))))))) (mFor (mIt (mBin bAdd (mBin bAdd (mLst (mCons (mVar 8) (mCons (mVar 9) (mCons (mSl (mVar 8) (mPart (mK (D.int 1))) mNoPart) (mCons (mBin bAdd (mVar 8) (mSl (mVar 8) (mPart (mNeg (mK (D.int 1)))) mNoPart)) mNil))))) (mSl (mCall "_law_bends" (mCons (mVar 1) (mCons (mVar 8) mNil))) mNoPart (mPart (mK (D.int 16))))) (mCall "_law_odd_values" mNil))) (gName' 10) (mIfS (mtNot (mtTru (mCall "_law_same" (mCons (mCall "steps.fault" (mCons (mVar 3) (mCons (mVar 4) (mCons (mVar 10) mNil)))) (mCons (mCall "_law_f_steps" (mCons (mVar 3) (mCons (mVar 4) (mCons (mVar 10) mNil)))) mNil))))) (mRet (mK (D.bl false))) (mEmpty)))))))))) (mRet (mK (D.bl true))))⟩
end F
set_option Elab.async false
set_option linter.all false
set_option maxRecDepth 100000
set_option maxHeartbeats 4000000
namespace F
open PySem PySem.Spec L2 Ev

noncomputable def f_trees_fault : FnDef := ⟨1, 1, mRet (mIf (mtTru (mCall "trees.is_block" (mCons (mVar 0) (mCons (mK (D.int 30)) mNil)))) (mK D.non) (mK (D.tup [(D.str "form"), (D.int 0)])))⟩
noncomputable def f_Run___init__ : FnDef := ⟨3, 3, mSeq (mSetA ["Run"] (mVar 0) "store" (mVar 1)) (mSeq (mSetA ["Run"] (mVar 0) "told" (mTup mNil)) (mSetA ["Run"] (mVar 0) "turns" (mVar 2)))⟩
noncomputable def f_Run_do_block : FnDef := ⟨2, 3, mSeq (mFor (mIt (mVar 1)) (gName' 2) (mIfS (mtNot (mtTru (mMth [("Run", "Run.do")] (mVar 0) "do" (mCons (mVar 2) mNil)))) (mRet (mK (D.bl false))) (mEmpty))) (mRet (mK (D.bl true)))⟩
noncomputable def f_Run_do : FnDef := ⟨2, 2, mSeq (mIfS (mtOf (mBin (cEq false) (mBin bIx (mVar 1) (mK (D.int 0))) (mK (D.str "set")))) (mSeq (mSetA ["Run"] (mVar 0) "store" (mCall "basics.with_value" (mCons (mFld ["Run"] (mVar 0) "store") (mCons (mBin bIx (mVar 1) (mK (D.int 1))) (mCons (mCall "expressions.value_of" (mCons (mBin bIx (mVar 1) (mK (D.int 2))) (mCons (mFld ["Run"] (mVar 0) "store") mNil))) mNil))))) (mRet (mK (D.bl true)))) (mEmpty)) (mSeq (mIfS (mtOf (mBin (cEq false) (mBin bIx (mVar 1) (mK (D.int 0))) (mK (D.str "tell")))) (mSeq (mAugA ["Run"] (mVar 0) "told" bIAdd (mTup (mCons (mCall "expressions.value_of" (mCons (mBin bIx (mVar 1) (mK (D.int 1))) (mCons (mFld ["Run"] (mVar 0) "store") mNil))) mNil))) (mRet (mK (D.bl true)))) (mEmpty)) (mSeq (mIfS (mtOf (mBin (cEq false) (mBin bIx (mVar 1) (mK (D.int 0))) (mK (D.str "if")))) (mRet (mMth [("Run", "Run.do_block")] (mVar 0) "do_block" (mCons (mIf (mtOf (mBin (cEq true) (mCall "expressions.value_of" (mCons (mBin bIx (mVar 1) (mK (D.int 1))) (mCons (mFld ["Run"] (mVar 0) "store") mNil))) (mK (D.int 0)))) (mBin bIx (mVar 1) (mK (D.int 2))) (mBin bIx (mVar 1) (mK (D.int 3)))) mNil))) (mEmpty)) (mSeq (mWhile (mtOf (mBin (cLt fun i j => decide (j < i)) (mFld ["Run"] (mVar 0) "turns") (mK (D.int 0)))) (mSeq (mAugA ["Run"] (mVar 0) "turns" bSub (mK (D.int 1))) (mSeq (mIfS (mtOf (mBin (cEq false) (mCall "expressions.value_of" (mCons (mBin bIx (mVar 1) (mK (D.int 1))) (mCons (mFld ["Run"] (mVar 0) "store") mNil))) (mK (D.int 0)))) (mRet (mK (D.bl true))) (mEmpty)) (mIfS (mtNot (mtTru (mMth [("Run", "Run.do_block")] (mVar 0) "do_block" (mCons (mBin bIx (mVar 1) (mK (D.int 2))) mNil)))) (mRet (mK (D.bl false))) (mEmpty))))) (mRet (mK (D.bl false))))))⟩
noncomputable def f_trees_run : FnDef := ⟨3, 5, mSeq (mSet 3 (mMak "Run" "Run.__init__" (mCons (mVar 1) (mCons (mVar 2) mNil)))) (mSeq (mSet 4 (mMth [("Run", "Run.do_block")] (mVar 3) "do_block" (mCons (mVar 0) mNil))) (mRet (mIf (mtTru (mVar 4)) (mTup (mCons (mK (D.str "end")) (mCons (mFld ["Run"] (mVar 3) "store") (mCons (mFld ["Run"] (mVar 3) "told") mNil)))) (mTup (mCons (mK (D.str "going")) (mCons (mFld ["Run"] (mVar 3) "told") mNil))))))⟩
noncomputable def f_trees_turns_of : FnDef := ⟨3, 4, mSeq (mSet 3 (mMak "Run" "Run.__init__" (mCons (mVar 1) (mCons (mVar 2) mNil)))) (mRet (mIf (mtTru (mMth [("Run", "Run.do_block")] (mVar 3) "do_block" (mCons (mVar 0) mNil))) (mBin bSub (mVar 2) (mFld ["Run"] (mVar 3) "turns")) (mK D.non)))⟩
noncomputable def f_trees_deeds_in : FnDef := ⟨1, 3, mRet (mBi biSum (mCons (mComp (mIt (mVar 0)) [1] (gName' 1) mtYes (mBin bAdd (mK (D.int 1)) (mBi biSum (mCons (mComp (mIt (mSl (mVar 1) (mPart (mK (D.int 2))) mNoPart)) [2] (gName' 2) (mtOf (mBin (cIn false) (mBin bIx (mVar 1) (mK (D.int 0))) (mTup (mCons (mK (D.str "if")) (mCons (mK (D.str "while")) mNil))))) (mCall "trees.deeds_in" (mCons (mVar 2) mNil))) mNil)))) mNil))⟩
noncomputable def f__law_used : FnDef := ⟨3, 4, mSeq (mSetL 3 (mDicH [.inr "word", .inr "store", .inr "told", .inr "turns"] (mCons (mK (D.str "end")) (mCons (mVar 1) (mCons (mTup mNil) (mCons (mVar 2) mNil)))))) (mSeq (mDrop (mCall "_law_do" (mCons (mVar 0) (mCons (mVar 3) mNil)))) (mRet (mIf (mtOf (mBin (cEq false) (mBin bIx (mVar 3) (mK (D.str "word"))) (mK (D.str "end")))) (mBin bSub (mVar 2) (mBin bIx (mVar 3) (mK (D.str "turns")))) (mK D.non))))⟩
noncomputable def f__law_f_trees : FnDef := ⟨1, 1, mRet (mIf (mtTru (mCall "_law_is_block" (mCons (mVar 0) (mCons (mK (D.int 30)) mNil)))) (mK D.non) (mTup (mCons (mK (D.str "form")) (mCons (mK (D.int 0)) mNil))))⟩
noncomputable def f__law_count : FnDef := ⟨1, 4, mSeq (mSet 1 (mK (D.int 0))) (mSeq (mFor (mIt (mVar 0)) (gName' 2) (mSeq (mSet 1 (mBin bAdd (mVar 1) (mK (D.int 1)))) (mFor (mIt (mIf (mtOf (mBin (cIn false) (mBin bIx (mVar 2) (mK (D.int 0))) (mTup (mCons (mK (D.str "if")) (mCons (mK (D.str "while")) mNil))))) (mSl (mVar 2) (mPart (mK (D.int 2))) mNoPart) (mTup mNil))) (gName' 3) (mSet 1 (mBin bAdd (mVar 1) (mCall "_law_count" (mCons (mVar 3) mNil))))))) (mRet (mVar 1)))⟩
noncomputable def f_law6 : FnDef := ⟨1, 16, mSeq (mSetL 1 (mCall "_law_pool" (mCons (mVar 0) mNil))) (mSeq (mSet 2 (mTup mNil)) (mSeq (mFor (mRng1 (mBin bAdd (mK (D.int 27)) (mCall "_law_draw" (mCons (mVar 1) (mCons (mK (D.int 6)) mNil))))) (gName' 3) (mSet 2 (mTup (mCons (mTup (mCons (mK (D.str "while")) (mCons (mTup (mCons (mK (D.str "number")) (mCons (mK (D.int 0)) mNil))) (mCons (mVar 2) mNil)))) mNil)))) (mSeq (mFor (mRng1 (mK (D.int 4))) (gName' 4) (mSeq (mPar3 5 6 7 (mCons (mCall "_law_program" (mCons (mVar 1) mNil)) (mCons (mCall "_law_store" (mCons (mVar 1) mNil)) (mCons (mCall "_law_turns" (mCons (mVar 1) mNil)) mNil)))) (mSeq (mSet 8 (mBi biRepr (mCons (mVar 5) mNil))) (mSeq (mSet 9 (mCall "_law_run" (mCons (mVar 5) (mCons (mVar 6) (mCons (mVar 7) mNil))))) (mSeq (mIfS (mtOr (mtNot (mtTru (mCall "_law_same" (mCons (mCall "trees.run" (mCons (mVar 5) (mCons (mVar 6) (mCons (mVar 7) mNil)))) (mCons (mVar 9) mNil))))) (mtNot (mtTru (mCall "_law_same" (mCons (mCall "trees.turns_of" (mCons (mVar 5) (mCons (mVar 6) (mCons (mVar 7) mNil)))) (mCons (mCall "_law_used" (mCons (mVar 5) (mCons (mVar 6) (mCons (mVar 7) mNil)))) mNil)))))) (mRet (mK (D.bl false))) (mEmpty)) (mSeq (mSet 10 (mCall "_law_used" (mCons (mVar 5) (mCons (mVar 6) (mCons (mK (D.int 40)) mNil))))) (mSeq (mIfS (mtAnd (mtOf (mBin (cIs true) (mVar 10) (mK D.non))) (mtOr (mtOf (mBin (cEq true) (mBin bIx (mCall "trees.run" (mCons (mVar 5) (mCons (mVar 6) (mCons (mVar 10) mNil)))) (mK (D.int 0))) (mK (D.str "end")))) (mtAnd (mtOf (mBin (cLt fun i j => decide (j < i)) (mVar 10) (mK (D.int 0)))) (mtOf (mBin (cEq true) (mBin bIx (mCall "trees.run" (mCons (mVar 5) (mCons (mVar 6) (mCons (mBin bSub (mVar 10) (mK (D.int 1))) mNil)))) (mK (D.int 0))) (mK (D.str "going"))))))) (mRet (mK (D.bl false))) (mEmpty)) (mSeq (mSet 11 (mCall "_law_program" (mCons (mVar 1) mNil))) (mSeq (mIfS (mtOf (mBin (cIs true) (mVar 10) (mK D.non))) (mSeq (mSet 12 (mCall "trees.run" (mCons (mVar 5) (mCons (mVar 6) (mCons (mVar 10) mNil))))) (mSeq (mSet 13 (mCall "trees.run" (mCons (mVar 11) (mCons (mBin bIx (mVar 12) (mK (D.int 1))) (mCons (mVar 7) mNil))))) (mSeq (mSet 14 (mCall "trees.run" (mCons (mBin bAdd (mVar 5) (mVar 11)) (mCons (mVar 6) (mCons (mBin bAdd (mVar 10) (mVar 7)) mNil))))) (mIfS (mtNot (mtTru (mCall "_law_same" (mCons (mVar 14) (mCons (mBin bAdd (mSl (mVar 13) mNoPart (mPart (mNeg (mK (D.int 1))))) (mTup (mCons (mBin bAdd (mBin bIx (mVar 12) (mK (D.int 2))) (mBin bIx (mVar 13) (mNeg (mK (D.int 1))))) mNil))) mNil))))) (mRet (mK (D.bl false))) (mEmpty))))) (mEmpty)) (mSeq (mIfS (mtOr (mtNot (mtTru (mCall "_law_same" (mCons (mCall "trees.deeds_in" (mCons (mVar 5) mNil)) (mCons (mCall "_law_count" (mCons (mVar 5) mNil)) mNil))))) (mtOf (mBin (cEq true) (mBi biRepr (mCons (mVar 5) mNil)) (mVar 8)))) (mRet (mK (D.bl false))) (mEmpty)) (mFor (mIt (mBin bAdd (mBin bAdd (mLst (mCons (mVar 5) (mCons (mVar 2) mNil))) (mCall "_law_bends" (mCons (mVar 1) (mCons (mVar 5) mNil)))) (mCall "_law_odd_values" mNil))) (gName' 15) (mIfS (mtNot (mtTru (mCall "_law_same" (mCons (mCall "trees.fault" (mCons (mVar 15) mNil)) (mCons (mCall "_law_f_trees" (mCons (mVar 15) mNil)) mNil))))) (mRet (mK (D.bl false))) (mEmpty))))))))))))) (mRet (mK (D.bl true))))))⟩
end F
set_option Elab.async false
set_option linter.all false
set_option maxRecDepth 100000
set_option maxHeartbeats 4000000
namespace F
open PySem PySem.Spec L2 Ev

noncomputable def f_conditions_both : FnDef := ⟨2, 2, mRet (mTup (mCons (mK (D.str "not")) (mCons (mTup (mCons (mK (D.str "plus")) (mCons (mTup (mCons (mK (D.str "not")) (mCons (mVar 0) mNil))) (mCons (mTup (mCons (mK (D.str "not")) (mCons (mVar 1) mNil))) mNil)))) mNil)))⟩
noncomputable def f_conditions_either : FnDef := ⟨2, 2, mRet (mTup (mCons (mK (D.str "not")) (mCons (mTup (mCons (mK (D.str "times")) (mCons (mTup (mCons (mK (D.str "not")) (mCons (mVar 0) mNil))) (mCons (mTup (mCons (mK (D.str "not")) (mCons (mVar 1) mNil))) mNil)))) mNil)))⟩
noncomputable def f_conditions_before_deed : FnDef := ⟨2, 3, mSeq (mIfS (mtOf (mBin (cEq false) (mBin bIx (mVar 0) (mK (D.int 0))) (mK (D.str "tell")))) (mRet (mVar 1)) (mEmpty)) (mSeq (mIfS (mtOf (mBin (cEq false) (mBin bIx (mVar 0) (mK (D.int 0))) (mK (D.str "set")))) (mRet (mCall "expressions.put_for" (mCons (mVar 1) (mCons (mBin bIx (mVar 0) (mK (D.int 1))) (mCons (mBin bIx (mVar 0) (mK (D.int 2))) mNil))))) (mEmpty)) (mSeq (mIfS (mtOf (mBin (cEq false) (mBin bIx (mVar 0) (mK (D.int 0))) (mK (D.str "while")))) (mRaise "NotAllowed") (mEmpty)) (mSeq (mSetX 2 (mCallX "conditions.both" (mConsX (mKill (mBin bIx (mVar 0) (mK (D.int 1)))) (mConsX (mCallX "conditions.before" (mConsX (mKill (mBin bIx (mVar 0) (mK (D.int 2)))) (mConsX (mKill (mVar 1)) mNil))) mNil)))) (mRetX (mCallX "conditions.either" (mConsX (mKill (mVar 2)) (mConsX (mCallX "conditions.both" (mConsX (mKill (mTup (mCons (mK (D.str "not")) (mCons (mBin bIx (mVar 0) (mK (D.int 1))) mNil)))) (mConsX (mCallX "conditions.before" (mConsX (mKill (mBin bIx (mVar 0) (mK (D.int 3)))) (mConsX (mKill (mVar 1)) mNil))) mNil))) mNil)))))))⟩
noncomputable def f_conditions_before : FnDef := ⟨2, 3, mSeq (mFor (mIt (mRev (mVar 0))) (gName' 2) (mSetX 1 (mCallX "conditions.before_deed" (mConsX (mKill (mVar 2)) (mConsX (mKill (mVar 1)) mNil))))) (mRet (mVar 1))⟩
noncomputable def f_conditions_unrolled_deed : FnDef := ⟨2, 5, mSeq (mIfS (mtOf (mBin (cEq false) (mBin bIx (mVar 0) (mK (D.int 0))) (mK (D.str "if")))) (mRet (mTup (mCons (mK (D.str "if")) (mCons (mBin bIx (mVar 0) (mK (D.int 1))) (mCons (mCall "conditions.unrolled" (mCons (mBin bIx (mVar 0) (mK (D.int 2))) (mCons (mVar 1) mNil))) (mCons (mCall "conditions.unrolled" (mCons (mBin bIx (mVar 0) (mK (D.int 3))) (mCons (mVar 1) mNil))) mNil)))))) (mEmpty)) (mSeq (mIfS (mtOf (mBin (cEq true) (mBin bIx (mVar 0) (mK (D.int 0))) (mK (D.str "while")))) (mRet (mVar 0)) (mEmpty)) (mSeq (mSet 2 (mCall "conditions.unrolled" (mCons (mBin bIx (mVar 0) (mK (D.int 2))) (mCons (mVar 1) mNil)))) (mSeq (mSet 3 (mTup (mCons (mK (D.str "if")) (mCons (mBin bIx (mVar 0) (mK (D.int 1))) (mCons (mTup mNil) (mCons (mTup mNil) mNil)))))) (mSeq (mFor (mRng1 (mVar 1)) (gName' 4) (mSet 3 (mTup (mCons (mK (D.str "if")) (mCons (mBin bIx (mVar 0) (mK (D.int 1))) (mCons (mBin bAdd (mVar 2) (mTup (mCons (mVar 3) mNil))) (mCons (mTup mNil) mNil))))))) (mRet (mVar 3))))))⟩
noncomputable def f_conditions_unrolled : FnDef := ⟨2, 3, mRet (mBi biTuple (mCons (mComp (mIt (mVar 0)) [2] (gName' 2) mtYes (mCall "conditions.unrolled_deed" (mCons (mVar 2) (mCons (mVar 1) mNil)))) mNil))⟩
noncomputable def f_conditions_without_tests : FnDef := ⟨1, 3, mSeq (mSet 1 (mTup mNil)) (mSeq (mFor (mIt (mVar 0)) (gName' 2) (mSeq (mIfS (mtOf (mBin (cEq false) (mBin bIx (mVar 2) (mK (D.int 0))) (mK (D.str "if")))) (mSet 2 (mTup (mCons (mK (D.str "if")) (mCons (mBin bIx (mVar 2) (mK (D.int 1))) (mCons (mCall "conditions.without_tests" (mCons (mBin bIx (mVar 2) (mK (D.int 2))) mNil)) (mCons (mCall "conditions.without_tests" (mCons (mBin bIx (mVar 2) (mK (D.int 3))) mNil)) mNil)))))) (mEmpty)) (mSeq (mIfS (mtOf (mBin (cEq false) (mBin bIx (mVar 2) (mK (D.int 0))) (mK (D.str "while")))) (mSet 2 (mTup (mCons (mK (D.str "while")) (mCons (mBin bIx (mVar 2) (mK (D.int 1))) (mCons (mCall "conditions.without_tests" (mCons (mBin bIx (mVar 2) (mK (D.int 2))) mNil)) mNil))))) (mEmpty)) (mIfS (mtOr (mtOf (mBin (cEq true) (mBin bIx (mVar 2) (mK (D.int 0))) (mK (D.str "if")))) (mtOr (mtOf (mBin (cEq true) (mBin bIx (mVar 2) (mK (D.int 2))) (mTup mNil))) (mtOf (mBin (cEq true) (mBin bIx (mVar 2) (mK (D.int 3))) (mTup mNil))))) (mAug 1 bIAdd (mTup (mCons (mVar 2) mNil))) (mEmpty))))) (mRet (mVar 1)))⟩
noncomputable def f__law_cut : FnDef := ⟨2, 5, mSeq (mSet 2 (mTup mNil)) (mSeq (mSet 3 (mVar 1)) (mSeq (mFor (mIt (mVar 0)) (gName' 4) (mIfS (mtOf (mBin (cLt fun i j => decide (j < i)) (mVar 3) (mK (D.int 0)))) (mSeq (mSet 3 (mBin bSub (mVar 3) (mK (D.int 1)))) (mSeq (mIfS (mtOf (mBin (cEq false) (mBin bIx (mVar 4) (mK (D.int 0))) (mK (D.str "if")))) (mSeq (mSet 4 (mTup (mCons (mK (D.str "if")) (mCons (mBin bIx (mVar 4) (mK (D.int 1))) (mCons (mCall "_law_cut" (mCons (mBin bIx (mVar 4) (mK (D.int 2))) (mCons (mBin bDiv (mVar 3) (mK (D.int 2))) mNil))) (mCons (mCall "_law_cut" (mCons (mBin bIx (mVar 4) (mK (D.int 3))) (mCons (mBin bDiv (mVar 3) (mK (D.int 2))) mNil))) mNil)))))) (mSet 3 (mBin bDiv (mVar 3) (mK (D.int 2))))) (mEmpty)) (mSeq (mIfS (mtOf (mBin (cEq false) (mBin bIx (mVar 4) (mK (D.int 0))) (mK (D.str "while")))) (mSeq (mSet 4 (mTup (mCons (mK (D.str "while")) (mCons (mBin bIx (mVar 4) (mK (D.int 1))) (mCons (mCall "_law_cut" (mCons (mBin bIx (mVar 4) (mK (D.int 2))) (mCons (mBin bDiv (mVar 3) (mK (D.int 2))) mNil))) mNil))))) (mSet 3 (mBin bDiv (mVar 3) (mK (D.int 2))))) (mEmpty)) (mSet 2 (mBin bAdd (mVar 2) (mTup (mCons (mVar 4) mNil))))))) (mEmpty))) (mRet (mVar 2))))⟩
noncomputable def f__law_has_loop : FnDef := ⟨1, 2, mSeq (mFor (mIt (mVar 0)) (gName' 1) (mIfS (mtOr (mtOf (mBin (cEq false) (mBin bIx (mVar 1) (mK (D.int 0))) (mK (D.str "while")))) (mtAnd (mtOf (mBin (cEq false) (mBin bIx (mVar 1) (mK (D.int 0))) (mK (D.str "if")))) (mtOr (mtTru (mCall "_law_has_loop" (mCons (mBin bIx (mVar 1) (mK (D.int 2))) mNil))) (mtTru (mCall "_law_has_loop" (mCons (mBin bIx (mVar 1) (mK (D.int 3))) mNil)))))) (mRet (mK (D.bl true))) (mEmpty))) (mRet (mK (D.bl false)))⟩
noncomputable def f__law_told10 : FnDef := ⟨2, 2, mTry "NotAllowed" D.non (mRetX (mCallX "conditions.before" (mConsX (mKill (mVar 0)) (mConsX (mKill (mVar 1)) mNil))))⟩
noncomputable def f__law_straight : FnDef := ⟨1, 2, mRet (mBi biTuple (mCons (mComp (mIt (mVar 0)) [1] (gName' 1) (mtOf (mBin (cEq true) (mBin bIx (mVar 1) (mK (D.int 0))) (mK (D.str "while")))) (mIf (mtOf (mBin (cEq true) (mBin bIx (mVar 1) (mK (D.int 0))) (mK (D.str "if")))) (mVar 1) (mTup (mCons (mK (D.str "if")) (mCons (mBin bIx (mVar 1) (mK (D.int 1))) (mCons (mCall "_law_straight" (mCons (mBin bIx (mVar 1) (mK (D.int 2))) mNil)) (mCons (mCall "_law_straight" (mCons (mBin bIx (mVar 1) (mK (D.int 3))) mNil)) mNil))))))) mNil))⟩
noncomputable def f__law_idle10 : FnDef := ⟨1, 2, mSeq (mFor (mIt (mVar 0)) (gName' 1) (mSeq (mIfS (mtAnd (mtOf (mBin (cEq false) (mBin bIx (mVar 1) (mK (D.int 0))) (mK (D.str "if")))) (mtOr (mtAnd (mtOf (mBin (cEq false) (mBin bIx (mVar 1) (mK (D.int 2))) (mTup mNil))) (mtOf (mBin (cEq false) (mBin bIx (mVar 1) (mK (D.int 3))) (mTup mNil)))) (mtOr (mtTru (mCall "_law_idle" (mCons (mBin bIx (mVar 1) (mK (D.int 2))) mNil))) (mtTru (mCall "_law_idle" (mCons (mBin bIx (mVar 1) (mK (D.int 3))) mNil)))))) (mRet (mK (D.bl true))) (mEmpty)) (mIfS (mtAnd (mtOf (mBin (cEq false) (mBin bIx (mVar 1) (mK (D.int 0))) (mK (D.str "while")))) (mtTru (mCall "_law_idle" (mCons (mBin bIx (mVar 1) (mK (D.int 2))) mNil)))) (mRet (mK (D.bl true))) (mEmpty)))) (mRet (mK (D.bl false)))⟩
noncomputable def f_law10 : FnDef := ⟨1, 15, mSeq (mSetL 1 (mCall "_law_pool" (mCons (mVar 0) mNil))) (mSeq (mFor (mRng1 (mK (D.int 4))) (gName' 2) (mSeq (mPar2 3 4 (mCons (mCall "_law_cut" (mCons (mCall "_law_program" (mCons (mVar 1) mNil)) (mCons (mK (D.int 9)) mNil))) (mCons (mCall "_law_store" (mCons (mVar 1) mNil)) mNil))) (mSeq (mPar2 5 6 (mCons (mCall "_law_expression" (mCons (mVar 1) (mCons (mK (D.int 2)) mNil))) (mCons (mCall "_law_expression" (mCons (mVar 1) (mCons (mK (D.int 2)) mNil))) mNil))) (mSeq (mSet 7 (mCall "_law_cut" (mCons (mCall "_law_straight" (mCons (mVar 3) mNil)) (mCons (mK (D.int 5)) mNil)))) (mSeq (mSet 8 (mCall "_law_told" (mCons (mVar 7) (mCons (mVar 5) mNil)))) (mSeq (mSet 9 (mBin bIx (mCall "_law_run" (mCons (mVar 7) (mCons (mVar 4) (mCons (mK (D.int 0)) mNil)))) (mK (D.int 1)))) (mSeq (mIfS (mtOr (mtOf (mBin (cIs false) (mVar 8) (mK D.non))) (mtOf (mBin (cEq true) (mBin (cEq true) (mCall "_law_value" (mCons (mVar 8) (mCons (mVar 4) mNil))) (mK (D.int 0))) (mBin (cEq true) (mCall "_law_value" (mCons (mVar 5) (mCons (mVar 9) mNil))) (mK (D.int 0)))))) (mRet (mK (D.bl false))) (mEmpty)) (mSeq (mIfS (mtOf (mBin (cEq true) (mBin (cIs false) (mCall "_law_told" (mCons (mSl (mVar 3) mNoPart (mPart (mK (D.int 1)))) (mCons (mVar 5) mNil))) (mK D.non)) (mCall "_law_has_loop" (mCons (mSl (mVar 3) mNoPart (mPart (mK (D.int 1)))) mNil)))) (mRet (mK (D.bl false))) (mEmpty)) (mSeq (mPar2 10 11 (mCons (mBin (cEq true) (mCall "_law_value" (mCons (mVar 5) (mCons (mVar 4) mNil))) (mK (D.int 0))) (mCons (mBin (cEq true) (mCall "_law_value" (mCons (mVar 6) (mCons (mVar 4) mNil))) (mK (D.int 0))) mNil))) (mSeq (mIfS (mtOf (mBin (cEq true) (mLst (mCons (mCall "_law_value" (mCons (mCall "conditions.both" (mCons (mVar 5) (mCons (mVar 6) mNil))) (mCons (mVar 4) mNil))) (mCons (mCall "_law_value" (mCons (mCall "conditions.either" (mCons (mVar 5) (mCons (mVar 6) mNil))) (mCons (mVar 4) mNil))) mNil))) (mLst (mCons (mBi biInt (mCons (mAnd (mVar 10) (mVar 11)) mNil)) (mCons (mBi biInt (mCons (mOr (mVar 10) (mVar 11)) mNil)) mNil))))) (mRet (mK (D.bl false))) (mEmpty)) (mSeq (mSet 12 (mCall "_law_used" (mCons (mVar 3) (mCons (mVar 4) (mCons (mK (D.int 6)) mNil))))) (mSeq (mSet 13 (mCall "conditions.unrolled" (mCons (mVar 3) (mCons (mK (D.int 6)) mNil)))) (mSeq (mIfS (mtAnd (mtOf (mBin (cIs true) (mVar 12) (mK D.non))) (mtNot (mtTru (mCall "_law_same" (mCons (mSl (mCall "trees.run" (mCons (mVar 13) (mCons (mVar 4) (mCons (mK (D.int 0)) mNil)))) (mPart (mK (D.int 1))) mNoPart) (mCons (mSl (mCall "_law_run" (mCons (mVar 3) (mCons (mVar 4) (mCons (mK (D.int 6)) mNil)))) (mPart (mK (D.int 1))) mNoPart) mNil)))))) (mRet (mK (D.bl false))) (mEmpty)) (mSeq (mIfS (mtTru (mCall "_law_has_loop" (mCons (mVar 13) mNil))) (mRet (mK (D.bl false))) (mEmpty)) (mSeq (mSet 14 (mCall "conditions.without_tests" (mCons (mVar 3) mNil))) (mIfS (mtOr (mtOf (mBin (cIs true) (mCall "trees.fault" (mCons (mVar 14) mNil)) (mK D.non))) (mtOr (mtTru (mCall "_law_idle" (mCons (mVar 14) mNil))) (mtOr (mtOf (mBin (cLt fun i j => decide (j < i)) (mCall "trees.deeds_in" (mCons (mVar 14) mNil)) (mCall "trees.deeds_in" (mCons (mVar 3) mNil)))) (mtNot (mtTru (mCall "_law_same" (mCons (mCall "trees.run" (mCons (mVar 14) (mCons (mVar 4) (mCons (mK (D.int 9)) mNil)))) (mCons (mCall "_law_run" (mCons (mVar 3) (mCons (mVar 4) (mCons (mK (D.int 9)) mNil)))) mNil)))))))) (mRet (mK (D.bl false))) (mEmpty))))))))))))))))) (mRet (mK (D.bl true))))⟩
end F
set_option Elab.async false
set_option linter.all false
set_option maxRecDepth 100000
set_option maxHeartbeats 4000000
namespace F
open PySem PySem.Spec L2 Ev

noncomputable def f_chances_put_all : FnDef := ⟨2, 3, mSeq (mIfS (mtOf (mBin (cEq false) (mBin bIx (mVar 0) (mK (D.int 0))) (mK (D.str "number")))) (mRet (mVar 0)) (mEmpty)) (mSeq (mIfS (mtOf (mBin (cEq false) (mBin bIx (mVar 0) (mK (D.int 0))) (mK (D.str "name")))) (mRet (mBin bIx (mVar 1) (mBin bIx (mVar 0) (mK (D.int 1))))) (mEmpty)) (mRet (mBin bAdd (mSl (mVar 0) mNoPart (mPart (mK (D.int 1)))) (mBi biTuple (mCons (mComp (mIt (mSl (mVar 0) (mPart (mK (D.int 1))) mNoPart)) [2] (gName' 2) mtYes (mCall "chances.put_all" (mCons (mVar 2) (mCons (mVar 1) mNil)))) mNil)))))⟩
noncomputable def f_chances_chances : FnDef := ⟨2, 10, mSeq (mSet 2 (mBi biTuple (mCons (mComp (mRng1 (mK (D.int 4))) [9] (gName' 9) mtYes (mTup (mCons (mK (D.str "name")) (mCons (mVar 9) mNil)))) mNil))) (mSeq (mSetL 3 (mLst (mCons (mTup (mCons (mTup (mCons (mK (D.str "number")) (mCons (mK (D.int 1)) mNil))) (mCons (mVar 0) (mCons (mVar 2) (mCons (mTup mNil) (mCons (mVar 1) mNil)))))) mNil))) (mSeq (mSetL 4 (mLst mNil)) (mSeq (mWhile (mtOf (mBin (cLt fun i j => decide (j < i)) (mBi biLen (mCons (mVar 3) mNil)) (mK (D.int 0)))) (mSeq (mAsg (mPop (mVar 3) (mK (D.int 0))) (gTup' 5 (gCons' (gName' 5) (gCons' (gName' 6) (gCons' (gName' 2) (gCons' (gName' 7) (gCons' (gName' 8) gNil'))))))) (mIfS (mtOf (mBin (cEq false) (mBi biLen (mCons (mVar 6) mNil)) (mK (D.int 0)))) (mDrop (mApp (mVar 4) (mTup (mCons (mVar 5) (mCons (mK (D.str "end")) (mCons (mVar 2) (mCons (mVar 7) mNil))))))) (mIfS (mtAnd (mtOf (mBin (cEq false) (mBin bIx (mBin bIx (mVar 6) (mK (D.int 0))) (mK (D.int 0))) (mK (D.str "while")))) (mtOf (mBin (cEq false) (mVar 8) (mK (D.int 0))))) (mDrop (mApp (mVar 4) (mTup (mCons (mVar 5) (mCons (mK (D.str "going")) (mCons (mVar 2) (mCons (mVar 7) mNil))))))) (mSetL 3 (mBin bAdd (mCall "chances.ways_of" (mCons (mVar 5) (mCons (mVar 6) (mCons (mVar 2) (mCons (mVar 7) (mCons (mVar 8) mNil)))))) (mVar 3))))))) (mRet (mVar 4)))))⟩
noncomputable def f_chances_ways_of : FnDef := ⟨5, 14, mSeq (mPar2 5 6 (mCons (mBin bIx (mVar 1) (mK (D.int 0))) (mCons (mSl (mVar 1) (mPart (mK (D.int 1))) mNoPart) mNil))) (mSeq (mSet 7 (mCall "expressions.folded" (mCons (mCall "chances.put_all" (mCons (mIf (mtOf (mBin (cEq false) (mBin bIx (mVar 5) (mK (D.int 0))) (mK (D.str "set")))) (mBin bIx (mVar 5) (mK (D.int 2))) (mBin bIx (mVar 5) (mK (D.int 1)))) (mCons (mVar 2) mNil))) mNil))) (mSeq (mIfS (mtOf (mBin (cEq false) (mBin bIx (mVar 5) (mK (D.int 0))) (mK (D.str "set")))) (mRet (mLst (mCons (mTup (mCons (mVar 0) (mCons (mVar 6) (mCons (mBin bAdd (mBin bAdd (mSl (mVar 2) mNoPart (mPart (mBin bIx (mVar 5) (mK (D.int 1))))) (mTup (mCons (mVar 7) mNil))) (mSl (mVar 2) (mPart (mBin bAdd (mBin bIx (mVar 5) (mK (D.int 1))) (mK (D.int 1)))) mNoPart)) (mCons (mVar 3) (mCons (mVar 4) mNil)))))) mNil))) (mEmpty)) (mSeq (mIfS (mtOf (mBin (cEq false) (mBin bIx (mVar 5) (mK (D.int 0))) (mK (D.str "tell")))) (mRet (mLst (mCons (mTup (mCons (mVar 0) (mCons (mVar 6) (mCons (mVar 2) (mCons (mBin bAdd (mVar 3) (mTup (mCons (mVar 7) mNil))) (mCons (mVar 4) mNil)))))) mNil))) (mEmpty)) (mSeq (mAug 4 bSub (mBi biInt (mCons (mBin (cEq false) (mBin bIx (mVar 5) (mK (D.int 0))) (mK (D.str "while"))) mNil))) (mSeq (mSet 8 (mIf (mtOf (mBin (cEq false) (mBin bIx (mVar 5) (mK (D.int 0))) (mK (D.str "while")))) (mBin bAdd (mBin bIx (mVar 5) (mK (D.int 2))) (mVar 1)) (mBin bAdd (mBin bIx (mVar 5) (mK (D.int 2))) (mVar 6)))) (mSeq (mSet 9 (mIf (mtOf (mBin (cEq false) (mBin bIx (mVar 5) (mK (D.int 0))) (mK (D.str "while")))) (mVar 6) (mBin bAdd (mBin bIx (mVar 5) (mK (D.int 3))) (mVar 6)))) (mSeq (mSetL 10 (mLst mNil)) (mSeq (mFor (mIt (mTup (mCons (mTup (mCons (mVar 7) (mCons (mVar 8) mNil))) (mCons (mTup (mCons (mTup (mCons (mK (D.str "not")) (mCons (mVar 7) mNil))) (mCons (mVar 9) mNil))) mNil)))) (gTup' 2 (gCons' (gName' 11) (gCons' (gName' 12) gNil'))) (mSeq (mSet 13 (mCall "expressions.folded" (mCons (mCall "conditions.both" (mCons (mVar 0) (mCons (mVar 11) mNil))) mNil))) (mIfS (mtOf (mBin (cEq true) (mVar 13) (mTup (mCons (mK (D.str "number")) (mCons (mK (D.int 0)) mNil))))) (mDrop (mApp (mVar 10) (mTup (mCons (mVar 13) (mCons (mVar 12) (mCons (mVar 2) (mCons (mVar 3) (mCons (mVar 4) mNil)))))))) (mEmpty)))) (mRet (mVar 10))))))))))⟩
noncomputable def f_chances_way_for : FnDef := ⟨2, 3, mSeq (mFor (mRng1 (mBi biLen (mCons (mVar 0) mNil))) (gName' 2) (mIfS (mtOf (mBin (cEq true) (mCall "expressions.value_of" (mCons (mBin bIx (mBin bIx (mVar 0) (mVar 2)) (mK (D.int 0))) (mCons (mVar 1) mNil))) (mK (D.int 0)))) (mRet (mVar 2)) (mEmpty))) (mRet (mK D.non))⟩
noncomputable def f_chances_outcome : FnDef := ⟨2, 8, mSeq (mAsg (mVar 0) (gTup' 4 (gCons' (gName' 2) (gCons' (gName' 3) (gCons' (gName' 4) (gCons' (gName' 5) gNil')))))) (mSeq (mSet 6 (mBi biTuple (mCons (mComp (mIt (mVar 5)) [7] (gName' 7) mtYes (mCall "expressions.value_of" (mCons (mVar 7) (mCons (mVar 1) mNil)))) mNil))) (mRet (mIf (mtOf (mBin (cEq false) (mVar 3) (mK (D.str "end")))) (mTup (mCons (mK (D.str "end")) (mCons (mBi biTuple (mCons (mComp (mIt (mVar 4)) [7] (gName' 7) mtYes (mCall "expressions.value_of" (mCons (mVar 7) (mCons (mVar 1) mNil)))) mNil)) (mCons (mVar 6) mNil)))) (mTup (mCons (mK (D.str "going")) (mCons (mVar 6) mNil))))))⟩
noncomputable def f_law13 : FnDef := ⟨1, 11, mSeq (mSetL 1 (mCall "_law_pool" (mCons (mVar 0) mNil))) (mSeq (mFor (mRng1 (mK (D.int 3))) (gName' 2) (mSeq (mSet 3 (mCall "_law_program" (mCons (mVar 1) mNil))) (mSeq (mWhile (mtAnd (mtOf (mBin (cLt fun i j => decide (j < i)) (mCall "trees.deeds_in" (mCons (mVar 3) mNil)) (mK (D.int 8)))) (mtOf (mBin (cLt fun i j => decide (j < i)) (mBi biLen (mCons (mVar 3) mNil)) (mK (D.int 1))))) (mSet 3 (mSl (mVar 3) mNoPart (mPart (mNeg (mK (D.int 1))))))) (mSeq (mSet 3 (mIf (mtOf (mBin (cLt fun i j => decide (i ≤ j)) (mCall "trees.deeds_in" (mCons (mVar 3) mNil)) (mK (D.int 8)))) (mVar 3) (mTup (mCons (mTup (mCons (mK (D.str "tell")) (mCons (mTup (mCons (mK (D.str "name")) (mCons (mK (D.int 0)) mNil))) mNil))) mNil)))) (mSeq (mSet 4 (mCall "_law_draw" (mCons (mVar 1) (mCons (mK (D.int 4)) mNil)))) (mSeq (mSet 5 (mCall "chances.chances" (mCons (mVar 3) (mCons (mVar 4) mNil)))) (mSeq (mIfS (mtOf (mBin (cLt fun i j => decide (j < i)) (mBi biLen (mCons (mComp (mIt (mVar 5)) [9] (gName' 9) (mtOr (mtOf (mBin (cIn true) (mBin bIx (mVar 9) (mK (D.int 1))) (mTup (mCons (mK (D.str "end")) (mCons (mK (D.str "going")) mNil))))) (mtOr (mtOf (mBin (cEq false) (mCall "expressions.folded" (mCons (mBin bIx (mVar 9) (mK (D.int 0))) mNil)) (mTup (mCons (mK (D.str "number")) (mCons (mK (D.int 0)) mNil))))) (mtOf (mBin (cEq true) (mBi biLen (mCons (mBin bIx (mVar 9) (mK (D.int 2))) mNil)) (mK (D.int 4)))))) (mVar 9)) mNil)) (mK (D.int 0)))) (mRet (mK (D.bl false))) (mEmpty)) (mSeq (mFor (mRng1 (mK (D.int 6))) (gName' 6) (mSeq (mSet 7 (mCall "_law_store" (mCons (mVar 1) mNil))) (mSeq (mSet 8 (mComp (mRng1 (mBi biLen (mCons (mVar 5) mNil))) [10] (gName' 10) (mtOf (mBin (cEq true) (mCall "_law_value" (mCons (mBin bIx (mBin bIx (mVar 5) (mVar 10)) (mK (D.int 0))) (mCons (mVar 7) mNil))) (mK (D.int 0)))) (mVar 10))) (mSeq (mIfS (mtOr (mtOf (mBin (cEq true) (mBi biLen (mCons (mVar 8) mNil)) (mK (D.int 1)))) (mtNot (mtTru (mCall "_law_same" (mCons (mCall "chances.way_for" (mCons (mVar 5) (mCons (mVar 7) mNil))) (mCons (mBin bIx (mVar 8) (mK (D.int 0))) mNil)))))) (mRet (mK (D.bl false))) (mEmpty)) (mIfS (mtNot (mtTru (mCall "_law_same" (mCons (mCall "chances.outcome" (mCons (mBin bIx (mVar 5) (mBin bIx (mVar 8) (mK (D.int 0)))) (mCons (mVar 7) mNil))) (mCons (mCall "_law_run" (mCons (mVar 3) (mCons (mVar 7) (mCons (mVar 4) mNil)))) mNil))))) (mRet (mK (D.bl false))) (mEmpty)))))) (mIfS (mtOr (mtOf (mBin (cIs true) (mCall "chances.way_for" (mCons (mLst mNil) (mCons (mTup (mCons (mK (D.int 0)) (mCons (mK (D.int 0)) (mCons (mK (D.int 0)) (mCons (mK (D.int 0)) mNil))))) mNil))) (mK D.non))) (mtOf (mBin (cEq true) (mBi biLen (mCons (mCall "chances.chances" (mCons (mTup mNil) (mCons (mVar 4) mNil))) mNil)) (mK (D.int 1))))) (mRet (mK (D.bl false))) (mEmpty)))))))))) (mRet (mK (D.bl true))))⟩
end F
set_option Elab.async false
set_option linter.all false
set_option maxRecDepth 100000
set_option maxHeartbeats 4000000
namespace K27
open PySem PySem.Spec L2 Ev

def top (i : Nat) : Stmt := PySem.Challenge.pw_everymeaning_k27_whole_all_ways_told.main.body.getD i (.Pass ⟨0, 0, 0, 0⟩)
def tf0 : List (Str × String × Nat) := ("_law_block", "_law_block", 2) :: ("_law_deed", "_law_deed", 2) :: ("_law_do", "_law_do", 2) :: ("_law_draw", "_law_draw", 2) :: ("_law_expression", "_law_expression", 2) :: ("_law_loop", "_law_loop", 2) :: ("_law_pick", "_law_pick", 2) :: ("_law_pool", "_law_pool", 1) :: ("_law_program", "_law_program", 1) :: ("_law_run", "_law_run", 3) :: ("_law_same", "_law_same", 2) :: ("_law_spread", "_law_spread", 1) :: ("_law_store", "_law_store", 1) :: ("_law_value", "_law_value", 2) :: ("_law_worked", "_law_worked", 3) :: ("both", "conditions.both", 2) :: ("chances", "chances.chances", 2) :: ("deeds_in", "trees.deeds_in", 1) :: ("folded", "expressions.folded", 1) :: ("outcome", "chances.outcome", 2) :: ("put_all", "chances.put_all", 2) :: ("simpler", "expressions.simpler", 3) :: ("value_of", "expressions.value_of", 2) :: ("way_for", "chances.way_for", 2) :: ("ways_of", "chances.ways_of", 5) :: ("worked", "expressions.worked", 3) :: []
def T : Tabs := ⟨["all", "bool", "int", "isinstance", "len", "list", "range", "str", "sum", "tuple"], tf0, [("NAMES", (D.int 4)), ("SIZE", (D.int 1000))], [], false, [], []⟩
theorem d_expressions_worked : ssOf ((den 60).s ⟨T, ["word", "one", "two"], defScope (top 3), none, []⟩) (defBody (top 3)) = some F.f_expressions_worked.body := by rfl
theorem d_expressions_value_of : ssOf ((den 60).s ⟨T, ["expression", "store"], defScope (top 4), none, []⟩) (defBody (top 4)) = some F.f_expressions_value_of.body := by rfl
theorem d_expressions_folded : ssOf ((den 60).s ⟨T, ["expression", "parts", "part"], defScope (top 5), none, []⟩) (defBody (top 5)) = some F.f_expressions_folded.body := by rfl
theorem d_expressions_simpler : ssOf ((den 60).s ⟨T, ["word", "one", "two", "zero", "unit"], defScope (top 6), none, []⟩) (defBody (top 6)) = some F.f_expressions_simpler.body := by rfl
theorem d_conditions_both : ssOf ((den 60).s ⟨T, ["one", "two"], defScope (top 8), none, []⟩) (defBody (top 8)) = some F.f_conditions_both.body := by rfl
theorem d_chances_put_all : ssOf ((den 60).s ⟨T, ["expression", "parts", "part"], defScope (top 10), none, []⟩) (defBody (top 10)) = some F.f_chances_put_all.body := by rfl
theorem d_chances_chances : ssOf ((den 60).s ⟨T, ["program", "turns", "parts", "waiting", "found", "test", "block", "told", "left", "name"], defScope (top 11), none, ["waiting", "found"]⟩) (defBody (top 11)) = some F.f_chances_chances.body := by rfl
theorem d_chances_ways_of : ssOf ((den 60).s ⟨T, ["test", "block", "parts", "told", "left", "deed", "rest", "value", "good", "bad", "found", "here", "after", "condition"], defScope (top 12), none, ["found"]⟩) (defBody (top 12)) = some F.f_chances_ways_of.body := by rfl
theorem d_chances_way_for : ssOf ((den 60).s ⟨T, ["ways", "store", "k"], defScope (top 13), none, []⟩) (defBody (top 13)) = some F.f_chances_way_for.body := by rfl
theorem d_chances_outcome : ssOf ((den 60).s ⟨T, ["way", "store", "_", "word", "parts", "told", "said", "part"], defScope (top 14), none, []⟩) (defBody (top 14)) = some F.f_chances_outcome.body := by rfl
theorem d_trees_deeds_in : ssOf ((den 60).s ⟨T, ["block", "deed", "part"], defScope (top 16), none, []⟩) (defBody (top 16)) = some F.f_trees_deeds_in.body := by rfl
theorem d__law_same : ssOf ((den 60).s ⟨T, ["actual", "due", "k"], defScope (top 18), none, []⟩) (defBody (top 18)) = some F.f__law_same.body := by rfl
theorem d__law_pool : ssOf ((den 60).s ⟨T, ["script", "salt", "cell"], defScope (top 19), none, []⟩) (defBody (top 19)) = some F.f__law_pool.body := by rfl
theorem d__law_spread : ssOf ((den 60).s ⟨T, ["cell", "mixed", "total", "k"], defScope (top 20), none, []⟩) (defBody (top 20)) = some F.f__law_spread.body := by rfl
theorem d__law_draw : ssOf ((den 60).s ⟨T, ["pool", "many", "cell", "mixed", "value"], defScope (top 21), none, ["pool"]⟩) (defBody (top 21)) = some F.f__law_draw.body := by rfl
theorem d__law_pick : ssOf ((den 60).s ⟨T, ["pool", "items"], defScope (top 22), none, ["pool"]⟩) (defBody (top 22)) = some F.f__law_pick.body := by rfl
theorem d__law_worked : ssOf ((den 60).s ⟨T, ["word", "one", "two"], defScope (top 23), none, []⟩) (defBody (top 23)) = some F.f__law_worked.body := by rfl
theorem d__law_value : ssOf ((den 60).s ⟨T, ["expression", "store"], defScope (top 24), none, []⟩) (defBody (top 24)) = some F.f__law_value.body := by rfl
theorem d__law_expression : ssOf ((den 60).s ⟨T, ["pool", "deep", "word"], defScope (top 25), none, ["pool"]⟩) (defBody (top 25)) = some F.f__law_expression.body := by rfl
theorem d__law_store : ssOf ((den 60).s ⟨T, ["pool", "k"], defScope (top 26), none, ["pool"]⟩) (defBody (top 26)) = some F.f__law_store.body := by rfl
theorem d__law_block : ssOf ((den 60).s ⟨T, ["pool", "deep", "k"], defScope (top 27), none, ["pool"]⟩) (defBody (top 27)) = some F.f__law_block.body := by rfl
theorem d__law_deed : ssOf ((den 60).s ⟨T, ["pool", "deep", "turn", "name", "more"], defScope (top 28), none, ["pool"]⟩) (defBody (top 28)) = some F.f__law_deed.body := by rfl
theorem d__law_program : ssOf ((den 60).s ⟨T, ["pool", "found"], defScope (top 29), none, ["pool"]⟩) (defBody (top 29)) = some F.f__law_program.body := by rfl
theorem d__law_do : ssOf ((den 60).s ⟨T, ["block", "state", "deed", "store"], defScope (top 30), none, ["state"]⟩) (defBody (top 30)) = some F.f__law_do.body := by rfl
theorem d__law_loop : ssOf ((den 60).s ⟨T, ["deed", "state", "going"], defScope (top 31), none, ["state"]⟩) (defBody (top 31)) = some F.f__law_loop.body := by rfl
theorem d__law_run : ssOf ((den 60).s ⟨T, ["block", "store", "turns", "state"], defScope (top 32), none, ["state"]⟩) (defBody (top 32)) = some F.f__law_run.body := by rfl
theorem d_law : ssOf ((den 60).s ⟨{ T with rep := true }, ["script", "pool", "turn", "program", "turns", "ways", "k", "store", "good", "way", "j"], defScope (top 33), none, ["pool"]⟩) (defBody (top 33)) = some F.f_law13.body := by rfl
noncomputable def P : Prog := fun id => ([("expressions.worked", F.f_expressions_worked), ("expressions.value_of", F.f_expressions_value_of), ("expressions.folded", F.f_expressions_folded), ("expressions.simpler", F.f_expressions_simpler), ("conditions.both", F.f_conditions_both), ("chances.put_all", F.f_chances_put_all), ("chances.chances", F.f_chances_chances), ("chances.ways_of", F.f_chances_ways_of), ("chances.way_for", F.f_chances_way_for), ("chances.outcome", F.f_chances_outcome), ("trees.deeds_in", F.f_trees_deeds_in), ("_law_same", F.f__law_same), ("_law_pool", F.f__law_pool), ("_law_spread", F.f__law_spread), ("_law_draw", F.f__law_draw), ("_law_pick", F.f__law_pick), ("_law_worked", F.f__law_worked), ("_law_value", F.f__law_value), ("_law_expression", F.f__law_expression), ("_law_store", F.f__law_store), ("_law_block", F.f__law_block), ("_law_deed", F.f__law_deed), ("_law_program", F.f__law_program), ("_law_do", F.f__law_do), ("_law_loop", F.f__law_loop), ("_law_run", F.f__law_run), ("law", F.f_law13), ("_law_is_integer", F.f__law_is_integer), ("_law_turns", F.f__law_turns), ("expressions.names_in", F.f_expressions_names_in), ("expressions.size", F.f_expressions_size), ("_law_simple", F.f__law_simple), ("_law_twins", F.f__law_twins)] : List (String × FnDef)).lookup id
theorem p__law_is_integer : P "_law_is_integer" = some F.f__law_is_integer := by simp [P, List.lookup]
theorem p__law_turns : P "_law_turns" = some F.f__law_turns := by simp [P, List.lookup]
theorem p_expressions_names_in : P "expressions.names_in" = some F.f_expressions_names_in := by simp [P, List.lookup]
theorem p_expressions_size : P "expressions.size" = some F.f_expressions_size := by simp [P, List.lookup]
theorem p__law_simple : P "_law_simple" = some F.f__law_simple := by simp [P, List.lookup]
theorem p__law_twins : P "_law_twins" = some F.f__law_twins := by simp [P, List.lookup]
theorem p_expressions_worked : P "expressions.worked" = some F.f_expressions_worked := by simp [P, List.lookup]
theorem p_expressions_value_of : P "expressions.value_of" = some F.f_expressions_value_of := by simp [P, List.lookup]
theorem p_expressions_folded : P "expressions.folded" = some F.f_expressions_folded := by simp [P, List.lookup]
theorem p_expressions_simpler : P "expressions.simpler" = some F.f_expressions_simpler := by simp [P, List.lookup]
theorem p_conditions_both : P "conditions.both" = some F.f_conditions_both := by simp [P, List.lookup]
theorem p_chances_put_all : P "chances.put_all" = some F.f_chances_put_all := by simp [P, List.lookup]
theorem p_chances_chances : P "chances.chances" = some F.f_chances_chances := by simp [P, List.lookup]
theorem p_chances_ways_of : P "chances.ways_of" = some F.f_chances_ways_of := by simp [P, List.lookup]
theorem p_chances_way_for : P "chances.way_for" = some F.f_chances_way_for := by simp [P, List.lookup]
theorem p_chances_outcome : P "chances.outcome" = some F.f_chances_outcome := by simp [P, List.lookup]
theorem p_trees_deeds_in : P "trees.deeds_in" = some F.f_trees_deeds_in := by simp [P, List.lookup]
theorem p__law_same : P "_law_same" = some F.f__law_same := by simp [P, List.lookup]
theorem p__law_pool : P "_law_pool" = some F.f__law_pool := by simp [P, List.lookup]
theorem p__law_spread : P "_law_spread" = some F.f__law_spread := by simp [P, List.lookup]
theorem p__law_draw : P "_law_draw" = some F.f__law_draw := by simp [P, List.lookup]
theorem p__law_pick : P "_law_pick" = some F.f__law_pick := by simp [P, List.lookup]
theorem p__law_worked : P "_law_worked" = some F.f__law_worked := by simp [P, List.lookup]
theorem p__law_value : P "_law_value" = some F.f__law_value := by simp [P, List.lookup]
theorem p__law_expression : P "_law_expression" = some F.f__law_expression := by simp [P, List.lookup]
theorem p__law_store : P "_law_store" = some F.f__law_store := by simp [P, List.lookup]
theorem p__law_block : P "_law_block" = some F.f__law_block := by simp [P, List.lookup]
theorem p__law_deed : P "_law_deed" = some F.f__law_deed := by simp [P, List.lookup]
theorem p__law_program : P "_law_program" = some F.f__law_program := by simp [P, List.lookup]
theorem p__law_do : P "_law_do" = some F.f__law_do := by simp [P, List.lookup]
theorem p__law_loop : P "_law_loop" = some F.f__law_loop := by simp [P, List.lookup]
theorem p__law_run : P "_law_run" = some F.f__law_run := by simp [P, List.lookup]
theorem p_law : P "law" = some F.f_law13 := by simp [P, List.lookup]
theorem s_expressions_worked : FnScope ["word", "one", "two"] ["word", "one", "two"] (defScope (top 3)) := ⟨rfl, rfl, rfl, by decide +kernel, rfl, by decide +kernel, by decide +kernel⟩
theorem s_expressions_value_of : FnScope ["expression", "store"] ["expression", "store"] (defScope (top 4)) := ⟨rfl, rfl, rfl, by decide +kernel, rfl, by decide +kernel, by decide +kernel⟩
theorem s_expressions_folded : FnScope ["expression", "parts", "part"] ["expression"] (defScope (top 5)) := ⟨rfl, rfl, rfl, by decide +kernel, rfl, by decide +kernel, by decide +kernel⟩
theorem s_expressions_simpler : FnScope ["word", "one", "two", "zero", "unit"] ["word", "one", "two"] (defScope (top 6)) := ⟨rfl, rfl, rfl, by decide +kernel, rfl, by decide +kernel, by decide +kernel⟩
theorem s_conditions_both : FnScope ["one", "two"] ["one", "two"] (defScope (top 8)) := ⟨rfl, rfl, rfl, by decide +kernel, rfl, by decide +kernel, by decide +kernel⟩
theorem s_chances_put_all : FnScope ["expression", "parts", "part"] ["expression", "parts"] (defScope (top 10)) := ⟨rfl, rfl, rfl, by decide +kernel, rfl, by decide +kernel, by decide +kernel⟩
theorem s_chances_chances : FnScope ["program", "turns", "parts", "waiting", "found", "test", "block", "told", "left", "name"] ["program", "turns"] (defScope (top 11)) := ⟨rfl, rfl, rfl, by decide +kernel, rfl, by decide +kernel, by decide +kernel⟩
theorem s_chances_ways_of : FnScope ["test", "block", "parts", "told", "left", "deed", "rest", "value", "good", "bad", "found", "here", "after", "condition"] ["test", "block", "parts", "told", "left"] (defScope (top 12)) := ⟨rfl, rfl, rfl, by decide +kernel, rfl, by decide +kernel, by decide +kernel⟩
theorem s_chances_way_for : FnScope ["ways", "store", "k"] ["ways", "store"] (defScope (top 13)) := ⟨rfl, rfl, rfl, by decide +kernel, rfl, by decide +kernel, by decide +kernel⟩
theorem s_chances_outcome : FnScope ["way", "store", "_", "word", "parts", "told", "said", "part"] ["way", "store"] (defScope (top 14)) := ⟨rfl, rfl, rfl, by decide +kernel, rfl, by decide +kernel, by decide +kernel⟩
theorem s_trees_deeds_in : FnScope ["block", "deed", "part"] ["block"] (defScope (top 16)) := ⟨rfl, rfl, rfl, by decide +kernel, rfl, by decide +kernel, by decide +kernel⟩
theorem s__law_same : FnScope ["actual", "due", "k"] ["actual", "due"] (defScope (top 18)) := ⟨rfl, rfl, rfl, by decide +kernel, rfl, by decide +kernel, by decide +kernel⟩
theorem s__law_pool : FnScope ["script", "salt", "cell"] ["script"] (defScope (top 19)) := ⟨rfl, rfl, rfl, by decide +kernel, rfl, by decide +kernel, by decide +kernel⟩
theorem s__law_spread : FnScope ["cell", "mixed", "total", "k"] ["cell"] (defScope (top 20)) := ⟨rfl, rfl, rfl, by decide +kernel, rfl, by decide +kernel, by decide +kernel⟩
theorem s__law_draw : FnScope ["pool", "many", "cell", "mixed", "value"] ["pool", "many"] (defScope (top 21)) := ⟨rfl, rfl, rfl, by decide +kernel, rfl, by decide +kernel, by decide +kernel⟩
theorem s__law_pick : FnScope ["pool", "items"] ["pool", "items"] (defScope (top 22)) := ⟨rfl, rfl, rfl, by decide +kernel, rfl, by decide +kernel, by decide +kernel⟩
theorem s__law_worked : FnScope ["word", "one", "two"] ["word", "one", "two"] (defScope (top 23)) := ⟨rfl, rfl, rfl, by decide +kernel, rfl, by decide +kernel, by decide +kernel⟩
theorem s__law_value : FnScope ["expression", "store"] ["expression", "store"] (defScope (top 24)) := ⟨rfl, rfl, rfl, by decide +kernel, rfl, by decide +kernel, by decide +kernel⟩
theorem s__law_expression : FnScope ["pool", "deep", "word"] ["pool", "deep"] (defScope (top 25)) := ⟨rfl, rfl, rfl, by decide +kernel, rfl, by decide +kernel, by decide +kernel⟩
theorem s__law_store : FnScope ["pool", "k"] ["pool"] (defScope (top 26)) := ⟨rfl, rfl, rfl, by decide +kernel, rfl, by decide +kernel, by decide +kernel⟩
theorem s__law_block : FnScope ["pool", "deep", "k"] ["pool", "deep"] (defScope (top 27)) := ⟨rfl, rfl, rfl, by decide +kernel, rfl, by decide +kernel, by decide +kernel⟩
theorem s__law_deed : FnScope ["pool", "deep", "turn", "name", "more"] ["pool", "deep"] (defScope (top 28)) := ⟨rfl, rfl, rfl, by decide +kernel, rfl, by decide +kernel, by decide +kernel⟩
theorem s__law_program : FnScope ["pool", "found"] ["pool"] (defScope (top 29)) := ⟨rfl, rfl, rfl, by decide +kernel, rfl, by decide +kernel, by decide +kernel⟩
theorem s__law_do : FnScope ["block", "state", "deed", "store"] ["block", "state"] (defScope (top 30)) := ⟨rfl, rfl, rfl, by decide +kernel, rfl, by decide +kernel, by decide +kernel⟩
theorem s__law_loop : FnScope ["deed", "state", "going"] ["deed", "state"] (defScope (top 31)) := ⟨rfl, rfl, rfl, by decide +kernel, rfl, by decide +kernel, by decide +kernel⟩
theorem s__law_run : FnScope ["block", "store", "turns", "state"] ["block", "store", "turns"] (defScope (top 32)) := ⟨rfl, rfl, rfl, by decide +kernel, rfl, by decide +kernel, by decide +kernel⟩
theorem s_law : FnScope ["script", "pool", "turn", "program", "turns", "ways", "k", "store", "good", "way", "j"] ["script"] (defScope (top 33)) := ⟨rfl, rfl, rfl, by decide +kernel, rfl, by decide +kernel, by decide +kernel⟩
theorem all_mk {K : PySem.W.Frag} {h : Heap} {mg : Str → Option Value} {fa : Addr} (X : K.In h) (G : h.Ns mainGlobals mg) (hfa : mg "law" = some (.ref fa))
    {f0 : Addr} {od0 an0 : Option Addr} {sl0 : Array (Option Value)} {oc0 kV0 dc0 pm0 cd0 ct0 : Value} {f1 : Addr} {od1 an1 : Option Addr} {sl1 : Array (Option Value)} {oc1 kV1 dc1 pm1 cd1 ct1 : Value} {f2 : Addr} {od2 an2 : Option Addr} {sl2 : Array (Option Value)} {oc2 kV2 dc2 pm2 cd2 ct2 : Value} {f3 : Addr} {od3 an3 : Option Addr} {sl3 : Array (Option Value)} {oc3 kV3 dc3 pm3 cd3 ct3 : Value} {f4 : Addr} {od4 an4 : Option Addr} {sl4 : Array (Option Value)} {oc4 kV4 dc4 pm4 cd4 ct4 : Value} {f5 : Addr} {od5 an5 : Option Addr} {sl5 : Array (Option Value)} {oc5 kV5 dc5 pm5 cd5 ct5 : Value} {f6 : Addr} {od6 an6 : Option Addr} {sl6 : Array (Option Value)} {oc6 kV6 dc6 pm6 cd6 ct6 : Value} {f7 : Addr} {od7 an7 : Option Addr} {sl7 : Array (Option Value)} {oc7 kV7 dc7 pm7 cd7 ct7 : Value} {f8 : Addr} {od8 an8 : Option Addr} {sl8 : Array (Option Value)} {oc8 kV8 dc8 pm8 cd8 ct8 : Value} {f9 : Addr} {od9 an9 : Option Addr} {sl9 : Array (Option Value)} {oc9 kV9 dc9 pm9 cd9 ct9 : Value} {f10 : Addr} {od10 an10 : Option Addr} {sl10 : Array (Option Value)} {oc10 kV10 dc10 pm10 cd10 ct10 : Value} {f11 : Addr} {od11 an11 : Option Addr} {sl11 : Array (Option Value)} {oc11 kV11 dc11 pm11 cd11 ct11 : Value} {f12 : Addr} {od12 an12 : Option Addr} {sl12 : Array (Option Value)} {oc12 kV12 dc12 pm12 cd12 ct12 : Value} {f13 : Addr} {od13 an13 : Option Addr} {sl13 : Array (Option Value)} {oc13 kV13 dc13 pm13 cd13 ct13 : Value} {f14 : Addr} {od14 an14 : Option Addr} {sl14 : Array (Option Value)} {oc14 kV14 dc14 pm14 cd14 ct14 : Value} {f15 : Addr} {od15 an15 : Option Addr} {sl15 : Array (Option Value)} {oc15 kV15 dc15 pm15 cd15 ct15 : Value} {f16 : Addr} {od16 an16 : Option Addr} {sl16 : Array (Option Value)} {oc16 kV16 dc16 pm16 cd16 ct16 : Value} {f17 : Addr} {od17 an17 : Option Addr} {sl17 : Array (Option Value)} {oc17 kV17 dc17 pm17 cd17 ct17 : Value} {f18 : Addr} {od18 an18 : Option Addr} {sl18 : Array (Option Value)} {oc18 kV18 dc18 pm18 cd18 ct18 : Value} {f19 : Addr} {od19 an19 : Option Addr} {sl19 : Array (Option Value)} {oc19 kV19 dc19 pm19 cd19 ct19 : Value} {f20 : Addr} {od20 an20 : Option Addr} {sl20 : Array (Option Value)} {oc20 kV20 dc20 pm20 cd20 ct20 : Value} {f21 : Addr} {od21 an21 : Option Addr} {sl21 : Array (Option Value)} {oc21 kV21 dc21 pm21 cd21 ct21 : Value} {f22 : Addr} {od22 an22 : Option Addr} {sl22 : Array (Option Value)} {oc22 kV22 dc22 pm22 cd22 ct22 : Value} {f23 : Addr} {od23 an23 : Option Addr} {sl23 : Array (Option Value)} {oc23 kV23 dc23 pm23 cd23 ct23 : Value} {f24 : Addr} {od24 an24 : Option Addr} {sl24 : Array (Option Value)} {oc24 kV24 dc24 pm24 cd24 ct24 : Value} {f25 : Addr} {od25 an25 : Option Addr} {sl25 : Array (Option Value)} {oc25 kV25 dc25 pm25 cd25 ct25 : Value} {f26 : Addr} {od26 an26 : Option Addr} {sl26 : Array (Option Value)} {oc26 kV26 dc26 pm26 cd26 ct26 : Value} {tk1 : Tok} {tk2 : Tok}
    (a0 : PySem.W.nsIn K mainGlobals "worked" = some (some (.ref f0))) (l0 : K.lookup f0 = some ⟨oc0, od0, .func (PySem.W.fnOf "worked" "worked" (defArgs (top 3)) (defBody (top 3)) (defScope (top 3)) .none kV0 dc0 pm0 an0 cd0 ct0), sl0⟩) (c0 : PySem.W.codeIn K cd0 "worked" = true) (k0 : PySem.W.keepIn K (.ref f0) = true)
    (a1 : PySem.W.nsIn K mainGlobals "value_of" = some (some (.ref f1))) (l1 : K.lookup f1 = some ⟨oc1, od1, .func (PySem.W.fnOf "value_of" "value_of" (defArgs (top 4)) (defBody (top 4)) (defScope (top 4)) .none kV1 dc1 pm1 an1 cd1 ct1), sl1⟩) (c1 : PySem.W.codeIn K cd1 "value_of" = true) (k1 : PySem.W.keepIn K (.ref f1) = true)
    (a2 : PySem.W.nsIn K mainGlobals "folded" = some (some (.ref f2))) (l2 : K.lookup f2 = some ⟨oc2, od2, .func (PySem.W.fnOf "folded" "folded" (defArgs (top 5)) (defBody (top 5)) (defScope (top 5)) .none kV2 dc2 pm2 an2 cd2 ct2), sl2⟩) (c2 : PySem.W.codeIn K cd2 "folded" = true) (k2 : PySem.W.keepIn K (.ref f2) = true)
    (a3 : PySem.W.nsIn K mainGlobals "simpler" = some (some (.ref f3))) (l3 : K.lookup f3 = some ⟨oc3, od3, .func (PySem.W.fnOf "simpler" "simpler" (defArgs (top 6)) (defBody (top 6)) (defScope (top 6)) .none kV3 dc3 pm3 an3 cd3 ct3), sl3⟩) (c3 : PySem.W.codeIn K cd3 "simpler" = true) (k3 : PySem.W.keepIn K (.ref f3) = true)
    (a4 : PySem.W.nsIn K mainGlobals "both" = some (some (.ref f4))) (l4 : K.lookup f4 = some ⟨oc4, od4, .func (PySem.W.fnOf "both" "both" (defArgs (top 8)) (defBody (top 8)) (defScope (top 8)) .none kV4 dc4 pm4 an4 cd4 ct4), sl4⟩) (c4 : PySem.W.codeIn K cd4 "both" = true) (k4 : PySem.W.keepIn K (.ref f4) = true)
    (a5 : PySem.W.nsIn K mainGlobals "put_all" = some (some (.ref f5))) (l5 : K.lookup f5 = some ⟨oc5, od5, .func (PySem.W.fnOf "put_all" "put_all" (defArgs (top 10)) (defBody (top 10)) (defScope (top 10)) .none kV5 dc5 pm5 an5 cd5 ct5), sl5⟩) (c5 : PySem.W.codeIn K cd5 "put_all" = true) (k5 : PySem.W.keepIn K (.ref f5) = true)
    (a6 : PySem.W.nsIn K mainGlobals "chances" = some (some (.ref f6))) (l6 : K.lookup f6 = some ⟨oc6, od6, .func (PySem.W.fnOf "chances" "chances" (defArgs (top 11)) (defBody (top 11)) (defScope (top 11)) .none kV6 dc6 pm6 an6 cd6 ct6), sl6⟩) (c6 : PySem.W.codeIn K cd6 "chances" = true) (k6 : PySem.W.keepIn K (.ref f6) = true)
    (a7 : PySem.W.nsIn K mainGlobals "ways_of" = some (some (.ref f7))) (l7 : K.lookup f7 = some ⟨oc7, od7, .func (PySem.W.fnOf "ways_of" "ways_of" (defArgs (top 12)) (defBody (top 12)) (defScope (top 12)) .none kV7 dc7 pm7 an7 cd7 ct7), sl7⟩) (c7 : PySem.W.codeIn K cd7 "ways_of" = true) (k7 : PySem.W.keepIn K (.ref f7) = true)
    (a8 : PySem.W.nsIn K mainGlobals "way_for" = some (some (.ref f8))) (l8 : K.lookup f8 = some ⟨oc8, od8, .func (PySem.W.fnOf "way_for" "way_for" (defArgs (top 13)) (defBody (top 13)) (defScope (top 13)) .none kV8 dc8 pm8 an8 cd8 ct8), sl8⟩) (c8 : PySem.W.codeIn K cd8 "way_for" = true) (k8 : PySem.W.keepIn K (.ref f8) = true)
    (a9 : PySem.W.nsIn K mainGlobals "outcome" = some (some (.ref f9))) (l9 : K.lookup f9 = some ⟨oc9, od9, .func (PySem.W.fnOf "outcome" "outcome" (defArgs (top 14)) (defBody (top 14)) (defScope (top 14)) .none kV9 dc9 pm9 an9 cd9 ct9), sl9⟩) (c9 : PySem.W.codeIn K cd9 "outcome" = true) (k9 : PySem.W.keepIn K (.ref f9) = true)
    (a10 : PySem.W.nsIn K mainGlobals "deeds_in" = some (some (.ref f10))) (l10 : K.lookup f10 = some ⟨oc10, od10, .func (PySem.W.fnOf "deeds_in" "deeds_in" (defArgs (top 16)) (defBody (top 16)) (defScope (top 16)) .none kV10 dc10 pm10 an10 cd10 ct10), sl10⟩) (c10 : PySem.W.codeIn K cd10 "deeds_in" = true) (k10 : PySem.W.keepIn K (.ref f10) = true)
    (a11 : PySem.W.nsIn K mainGlobals "_law_same" = some (some (.ref f11))) (l11 : K.lookup f11 = some ⟨oc11, od11, .func (PySem.W.fnOf "_law_same" "_law_same" (defArgs (top 18)) (defBody (top 18)) (defScope (top 18)) .none kV11 dc11 pm11 an11 cd11 ct11), sl11⟩) (c11 : PySem.W.codeIn K cd11 "_law_same" = true) (k11 : PySem.W.keepIn K (.ref f11) = true)
    (a12 : PySem.W.nsIn K mainGlobals "_law_pool" = some (some (.ref f12))) (l12 : K.lookup f12 = some ⟨oc12, od12, .func (PySem.W.fnOf "_law_pool" "_law_pool" (defArgs (top 19)) (defBody (top 19)) (defScope (top 19)) .none kV12 dc12 pm12 an12 cd12 ct12), sl12⟩) (c12 : PySem.W.codeIn K cd12 "_law_pool" = true) (k12 : PySem.W.keepIn K (.ref f12) = true)
    (a13 : PySem.W.nsIn K mainGlobals "_law_spread" = some (some (.ref f13))) (l13 : K.lookup f13 = some ⟨oc13, od13, .func (PySem.W.fnOf "_law_spread" "_law_spread" (defArgs (top 20)) (defBody (top 20)) (defScope (top 20)) .none kV13 dc13 pm13 an13 cd13 ct13), sl13⟩) (c13 : PySem.W.codeIn K cd13 "_law_spread" = true) (k13 : PySem.W.keepIn K (.ref f13) = true)
    (a14 : PySem.W.nsIn K mainGlobals "_law_draw" = some (some (.ref f14))) (l14 : K.lookup f14 = some ⟨oc14, od14, .func (PySem.W.fnOf "_law_draw" "_law_draw" (defArgs (top 21)) (defBody (top 21)) (defScope (top 21)) .none kV14 dc14 pm14 an14 cd14 ct14), sl14⟩) (c14 : PySem.W.codeIn K cd14 "_law_draw" = true) (k14 : PySem.W.keepIn K (.ref f14) = true)
    (a15 : PySem.W.nsIn K mainGlobals "_law_pick" = some (some (.ref f15))) (l15 : K.lookup f15 = some ⟨oc15, od15, .func (PySem.W.fnOf "_law_pick" "_law_pick" (defArgs (top 22)) (defBody (top 22)) (defScope (top 22)) .none kV15 dc15 pm15 an15 cd15 ct15), sl15⟩) (c15 : PySem.W.codeIn K cd15 "_law_pick" = true) (k15 : PySem.W.keepIn K (.ref f15) = true)
    (a16 : PySem.W.nsIn K mainGlobals "_law_worked" = some (some (.ref f16))) (l16 : K.lookup f16 = some ⟨oc16, od16, .func (PySem.W.fnOf "_law_worked" "_law_worked" (defArgs (top 23)) (defBody (top 23)) (defScope (top 23)) .none kV16 dc16 pm16 an16 cd16 ct16), sl16⟩) (c16 : PySem.W.codeIn K cd16 "_law_worked" = true) (k16 : PySem.W.keepIn K (.ref f16) = true)
    (a17 : PySem.W.nsIn K mainGlobals "_law_value" = some (some (.ref f17))) (l17 : K.lookup f17 = some ⟨oc17, od17, .func (PySem.W.fnOf "_law_value" "_law_value" (defArgs (top 24)) (defBody (top 24)) (defScope (top 24)) .none kV17 dc17 pm17 an17 cd17 ct17), sl17⟩) (c17 : PySem.W.codeIn K cd17 "_law_value" = true) (k17 : PySem.W.keepIn K (.ref f17) = true)
    (a18 : PySem.W.nsIn K mainGlobals "_law_expression" = some (some (.ref f18))) (l18 : K.lookup f18 = some ⟨oc18, od18, .func (PySem.W.fnOf "_law_expression" "_law_expression" (defArgs (top 25)) (defBody (top 25)) (defScope (top 25)) .none kV18 dc18 pm18 an18 cd18 ct18), sl18⟩) (c18 : PySem.W.codeIn K cd18 "_law_expression" = true) (k18 : PySem.W.keepIn K (.ref f18) = true)
    (a19 : PySem.W.nsIn K mainGlobals "_law_store" = some (some (.ref f19))) (l19 : K.lookup f19 = some ⟨oc19, od19, .func (PySem.W.fnOf "_law_store" "_law_store" (defArgs (top 26)) (defBody (top 26)) (defScope (top 26)) .none kV19 dc19 pm19 an19 cd19 ct19), sl19⟩) (c19 : PySem.W.codeIn K cd19 "_law_store" = true) (k19 : PySem.W.keepIn K (.ref f19) = true)
    (a20 : PySem.W.nsIn K mainGlobals "_law_block" = some (some (.ref f20))) (l20 : K.lookup f20 = some ⟨oc20, od20, .func (PySem.W.fnOf "_law_block" "_law_block" (defArgs (top 27)) (defBody (top 27)) (defScope (top 27)) .none kV20 dc20 pm20 an20 cd20 ct20), sl20⟩) (c20 : PySem.W.codeIn K cd20 "_law_block" = true) (k20 : PySem.W.keepIn K (.ref f20) = true)
    (a21 : PySem.W.nsIn K mainGlobals "_law_deed" = some (some (.ref f21))) (l21 : K.lookup f21 = some ⟨oc21, od21, .func (PySem.W.fnOf "_law_deed" "_law_deed" (defArgs (top 28)) (defBody (top 28)) (defScope (top 28)) .none kV21 dc21 pm21 an21 cd21 ct21), sl21⟩) (c21 : PySem.W.codeIn K cd21 "_law_deed" = true) (k21 : PySem.W.keepIn K (.ref f21) = true)
    (a22 : PySem.W.nsIn K mainGlobals "_law_program" = some (some (.ref f22))) (l22 : K.lookup f22 = some ⟨oc22, od22, .func (PySem.W.fnOf "_law_program" "_law_program" (defArgs (top 29)) (defBody (top 29)) (defScope (top 29)) .none kV22 dc22 pm22 an22 cd22 ct22), sl22⟩) (c22 : PySem.W.codeIn K cd22 "_law_program" = true) (k22 : PySem.W.keepIn K (.ref f22) = true)
    (a23 : PySem.W.nsIn K mainGlobals "_law_do" = some (some (.ref f23))) (l23 : K.lookup f23 = some ⟨oc23, od23, .func (PySem.W.fnOf "_law_do" "_law_do" (defArgs (top 30)) (defBody (top 30)) (defScope (top 30)) .none kV23 dc23 pm23 an23 cd23 ct23), sl23⟩) (c23 : PySem.W.codeIn K cd23 "_law_do" = true) (k23 : PySem.W.keepIn K (.ref f23) = true)
    (a24 : PySem.W.nsIn K mainGlobals "_law_loop" = some (some (.ref f24))) (l24 : K.lookup f24 = some ⟨oc24, od24, .func (PySem.W.fnOf "_law_loop" "_law_loop" (defArgs (top 31)) (defBody (top 31)) (defScope (top 31)) .none kV24 dc24 pm24 an24 cd24 ct24), sl24⟩) (c24 : PySem.W.codeIn K cd24 "_law_loop" = true) (k24 : PySem.W.keepIn K (.ref f24) = true)
    (a25 : PySem.W.nsIn K mainGlobals "_law_run" = some (some (.ref f25))) (l25 : K.lookup f25 = some ⟨oc25, od25, .func (PySem.W.fnOf "_law_run" "_law_run" (defArgs (top 32)) (defBody (top 32)) (defScope (top 32)) .none kV25 dc25 pm25 an25 cd25 ct25), sl25⟩) (c25 : PySem.W.codeIn K cd25 "_law_run" = true) (k25 : PySem.W.keepIn K (.ref f25) = true)
    (a26 : PySem.W.nsIn K mainGlobals "law" = some (some (.ref f26))) (l26 : K.lookup f26 = some ⟨oc26, od26, .func (PySem.W.fnOf "law" "law" (defArgs (top 33)) (defBody (top 33)) (defScope (top 33)) .none kV26 dc26 pm26 an26 cd26 ct26), sl26⟩) (c26 : PySem.W.codeIn K cd26 "law" = true) (k26 : PySem.W.keepIn K (.ref f26) = true)
    (z0 : PySem.W.nsIn K mainGlobals "all" = some none)
    (z1 : PySem.W.nsIn K mainGlobals "bool" = some none)
    (z2 : PySem.W.nsIn K mainGlobals "int" = some none)
    (z3 : PySem.W.nsIn K mainGlobals "isinstance" = some none)
    (z4 : PySem.W.nsIn K mainGlobals "len" = some none)
    (z5 : PySem.W.nsIn K mainGlobals "list" = some none)
    (z6 : PySem.W.nsIn K mainGlobals "range" = some none)
    (z7 : PySem.W.nsIn K mainGlobals "str" = some none)
    (z8 : PySem.W.nsIn K mainGlobals "sum" = some none)
    (z9 : PySem.W.nsIn K mainGlobals "tuple" = some none)
    (v0 : PySem.W.nsIn K mainGlobals "NAMES" = some (some (.int 4 tk1)))
    (v1 : PySem.W.nsIn K mainGlobals "SIZE" = some (some (.int 1000 tk2))) :
    ∃ (CA : Str → Addr) (fd : FuncData), (∀ (s : Shared) (u : Value), BindsTo s fd ⟨[u], []⟩ [("script", u)]) ∧ TabOk K CA mg P T ∧ DefOk K P { T with rep := true } fa fd "law" 1 ["script"] := by
  cases hfa.symm.trans (PySem.W.mg_of X G a26)
  have F0 := fun_mk (st := (top 3)) l0 c0 k0
  have D0 : DefOk K P T f0 _ "expressions.worked" 3 ["word", "one", "two"] := ⟨⟨_, _, _, _, [], _, F0, s_expressions_worked, F0.binds (fun _ _ _ _ _ _ us hl => match us, hl with | [_, _, _], _ => rfl), rfl, p_expressions_worked, d_expressions_worked⟩⟩
  have F1 := fun_mk (st := (top 4)) l1 c1 k1
  have D1 : DefOk K P T f1 _ "expressions.value_of" 2 ["expression", "store"] := ⟨⟨_, _, _, _, [], _, F1, s_expressions_value_of, F1.binds (fun _ _ _ _ _ _ us hl => match us, hl with | [_, _], _ => rfl), rfl, p_expressions_value_of, d_expressions_value_of⟩⟩
  have F2 := fun_mk (st := (top 5)) l2 c2 k2
  have D2 : DefOk K P T f2 _ "expressions.folded" 1 ["expression"] := ⟨⟨_, _, _, _, [], _, F2, s_expressions_folded, F2.binds (fun _ _ _ _ _ _ us hl => match us, hl with | [_], _ => rfl), rfl, p_expressions_folded, d_expressions_folded⟩⟩
  have F3 := fun_mk (st := (top 6)) l3 c3 k3
  have D3 : DefOk K P T f3 _ "expressions.simpler" 3 ["word", "one", "two"] := ⟨⟨_, _, _, _, [], _, F3, s_expressions_simpler, F3.binds (fun _ _ _ _ _ _ us hl => match us, hl with | [_, _, _], _ => rfl), rfl, p_expressions_simpler, d_expressions_simpler⟩⟩
  have F4 := fun_mk (st := (top 8)) l4 c4 k4
  have D4 : DefOk K P T f4 _ "conditions.both" 2 ["one", "two"] := ⟨⟨_, _, _, _, [], _, F4, s_conditions_both, F4.binds (fun _ _ _ _ _ _ us hl => match us, hl with | [_, _], _ => rfl), rfl, p_conditions_both, d_conditions_both⟩⟩
  have F5 := fun_mk (st := (top 10)) l5 c5 k5
  have D5 : DefOk K P T f5 _ "chances.put_all" 2 ["expression", "parts"] := ⟨⟨_, _, _, _, [], _, F5, s_chances_put_all, F5.binds (fun _ _ _ _ _ _ us hl => match us, hl with | [_, _], _ => rfl), rfl, p_chances_put_all, d_chances_put_all⟩⟩
  have F6 := fun_mk (st := (top 11)) l6 c6 k6
  have D6 : DefOk K P T f6 _ "chances.chances" 2 ["program", "turns"] := ⟨⟨_, _, _, _, ["waiting", "found"], _, F6, s_chances_chances, F6.binds (fun _ _ _ _ _ _ us hl => match us, hl with | [_, _], _ => rfl), rfl, p_chances_chances, d_chances_chances⟩⟩
  have F7 := fun_mk (st := (top 12)) l7 c7 k7
  have D7 : DefOk K P T f7 _ "chances.ways_of" 5 ["test", "block", "parts", "told", "left"] := ⟨⟨_, _, _, _, ["found"], _, F7, s_chances_ways_of, F7.binds (fun _ _ _ _ _ _ us hl => match us, hl with | [_, _, _, _, _], _ => rfl), rfl, p_chances_ways_of, d_chances_ways_of⟩⟩
  have F8 := fun_mk (st := (top 13)) l8 c8 k8
  have D8 : DefOk K P T f8 _ "chances.way_for" 2 ["ways", "store"] := ⟨⟨_, _, _, _, [], _, F8, s_chances_way_for, F8.binds (fun _ _ _ _ _ _ us hl => match us, hl with | [_, _], _ => rfl), rfl, p_chances_way_for, d_chances_way_for⟩⟩
  have F9 := fun_mk (st := (top 14)) l9 c9 k9
  have D9 : DefOk K P T f9 _ "chances.outcome" 2 ["way", "store"] := ⟨⟨_, _, _, _, [], _, F9, s_chances_outcome, F9.binds (fun _ _ _ _ _ _ us hl => match us, hl with | [_, _], _ => rfl), rfl, p_chances_outcome, d_chances_outcome⟩⟩
  have F10 := fun_mk (st := (top 16)) l10 c10 k10
  have D10 : DefOk K P T f10 _ "trees.deeds_in" 1 ["block"] := ⟨⟨_, _, _, _, [], _, F10, s_trees_deeds_in, F10.binds (fun _ _ _ _ _ _ us hl => match us, hl with | [_], _ => rfl), rfl, p_trees_deeds_in, d_trees_deeds_in⟩⟩
  have F11 := fun_mk (st := (top 18)) l11 c11 k11
  have D11 : DefOk K P T f11 _ "_law_same" 2 ["actual", "due"] := ⟨⟨_, _, _, _, [], _, F11, s__law_same, F11.binds (fun _ _ _ _ _ _ us hl => match us, hl with | [_, _], _ => rfl), rfl, p__law_same, d__law_same⟩⟩
  have F12 := fun_mk (st := (top 19)) l12 c12 k12
  have D12 : DefOk K P T f12 _ "_law_pool" 1 ["script"] := ⟨⟨_, _, _, _, [], _, F12, s__law_pool, F12.binds (fun _ _ _ _ _ _ us hl => match us, hl with | [_], _ => rfl), rfl, p__law_pool, d__law_pool⟩⟩
  have F13 := fun_mk (st := (top 20)) l13 c13 k13
  have D13 : DefOk K P T f13 _ "_law_spread" 1 ["cell"] := ⟨⟨_, _, _, _, [], _, F13, s__law_spread, F13.binds (fun _ _ _ _ _ _ us hl => match us, hl with | [_], _ => rfl), rfl, p__law_spread, d__law_spread⟩⟩
  have F14 := fun_mk (st := (top 21)) l14 c14 k14
  have D14 : DefOk K P T f14 _ "_law_draw" 2 ["pool", "many"] := ⟨⟨_, _, _, _, ["pool"], _, F14, s__law_draw, F14.binds (fun _ _ _ _ _ _ us hl => match us, hl with | [_, _], _ => rfl), rfl, p__law_draw, d__law_draw⟩⟩
  have F15 := fun_mk (st := (top 22)) l15 c15 k15
  have D15 : DefOk K P T f15 _ "_law_pick" 2 ["pool", "items"] := ⟨⟨_, _, _, _, ["pool"], _, F15, s__law_pick, F15.binds (fun _ _ _ _ _ _ us hl => match us, hl with | [_, _], _ => rfl), rfl, p__law_pick, d__law_pick⟩⟩
  have F16 := fun_mk (st := (top 23)) l16 c16 k16
  have D16 : DefOk K P T f16 _ "_law_worked" 3 ["word", "one", "two"] := ⟨⟨_, _, _, _, [], _, F16, s__law_worked, F16.binds (fun _ _ _ _ _ _ us hl => match us, hl with | [_, _, _], _ => rfl), rfl, p__law_worked, d__law_worked⟩⟩
  have F17 := fun_mk (st := (top 24)) l17 c17 k17
  have D17 : DefOk K P T f17 _ "_law_value" 2 ["expression", "store"] := ⟨⟨_, _, _, _, [], _, F17, s__law_value, F17.binds (fun _ _ _ _ _ _ us hl => match us, hl with | [_, _], _ => rfl), rfl, p__law_value, d__law_value⟩⟩
  have F18 := fun_mk (st := (top 25)) l18 c18 k18
  have D18 : DefOk K P T f18 _ "_law_expression" 2 ["pool", "deep"] := ⟨⟨_, _, _, _, ["pool"], _, F18, s__law_expression, F18.binds (fun _ _ _ _ _ _ us hl => match us, hl with | [_, _], _ => rfl), rfl, p__law_expression, d__law_expression⟩⟩
  have F19 := fun_mk (st := (top 26)) l19 c19 k19
  have D19 : DefOk K P T f19 _ "_law_store" 1 ["pool"] := ⟨⟨_, _, _, _, ["pool"], _, F19, s__law_store, F19.binds (fun _ _ _ _ _ _ us hl => match us, hl with | [_], _ => rfl), rfl, p__law_store, d__law_store⟩⟩
  have F20 := fun_mk (st := (top 27)) l20 c20 k20
  have D20 : DefOk K P T f20 _ "_law_block" 2 ["pool", "deep"] := ⟨⟨_, _, _, _, ["pool"], _, F20, s__law_block, F20.binds (fun _ _ _ _ _ _ us hl => match us, hl with | [_, _], _ => rfl), rfl, p__law_block, d__law_block⟩⟩
  have F21 := fun_mk (st := (top 28)) l21 c21 k21
  have D21 : DefOk K P T f21 _ "_law_deed" 2 ["pool", "deep"] := ⟨⟨_, _, _, _, ["pool"], _, F21, s__law_deed, F21.binds (fun _ _ _ _ _ _ us hl => match us, hl with | [_, _], _ => rfl), rfl, p__law_deed, d__law_deed⟩⟩
  have F22 := fun_mk (st := (top 29)) l22 c22 k22
  have D22 : DefOk K P T f22 _ "_law_program" 1 ["pool"] := ⟨⟨_, _, _, _, ["pool"], _, F22, s__law_program, F22.binds (fun _ _ _ _ _ _ us hl => match us, hl with | [_], _ => rfl), rfl, p__law_program, d__law_program⟩⟩
  have F23 := fun_mk (st := (top 30)) l23 c23 k23
  have D23 : DefOk K P T f23 _ "_law_do" 2 ["block", "state"] := ⟨⟨_, _, _, _, ["state"], _, F23, s__law_do, F23.binds (fun _ _ _ _ _ _ us hl => match us, hl with | [_, _], _ => rfl), rfl, p__law_do, d__law_do⟩⟩
  have F24 := fun_mk (st := (top 31)) l24 c24 k24
  have D24 : DefOk K P T f24 _ "_law_loop" 2 ["deed", "state"] := ⟨⟨_, _, _, _, ["state"], _, F24, s__law_loop, F24.binds (fun _ _ _ _ _ _ us hl => match us, hl with | [_, _], _ => rfl), rfl, p__law_loop, d__law_loop⟩⟩
  have F25 := fun_mk (st := (top 32)) l25 c25 k25
  have D25 : DefOk K P T f25 _ "_law_run" 3 ["block", "store", "turns"] := ⟨⟨_, _, _, _, ["state"], _, F25, s__law_run, F25.binds (fun _ _ _ _ _ _ us hl => match us, hl with | [_, _, _], _ => rfl), rfl, p__law_run, d__law_run⟩⟩
  have F26 := fun_mk (st := (top 33)) l26 c26 k26
  have D26 : DefOk K P { T with rep := true } fa _ "law" 1 ["script"] := ⟨⟨_, _, _, _, ["pool"], _, F26, s_law, F26.binds (fun _ _ _ _ _ _ us hl => match us, hl with | [_], _ => rfl), rfl, p_law, d_law⟩⟩
  refine ⟨fun x => (0 : Addr), _, fun s v => .of_eq rfl, tab_mk ?_ ?_ ?_ ?_ ?_, D26⟩
  · exact fm_cons (PySem.W.mg_none_of X G z0) (fm_cons (PySem.W.mg_none_of X G z1) (fm_cons (PySem.W.mg_none_of X G z2) (fm_cons (PySem.W.mg_none_of X G z3) (fm_cons (PySem.W.mg_none_of X G z4) (fm_cons (PySem.W.mg_none_of X G z5) (fm_cons (PySem.W.mg_none_of X G z6) (fm_cons (PySem.W.mg_none_of X G z7) (fm_cons (PySem.W.mg_none_of X G z8) (fm_cons (PySem.W.mg_none_of X G z9) fm_nil)))))))))
  · exact (look_cons (Q := CstOk K mg) (cst_int (PySem.W.mg_of X G v0)) (look_cons (Q := CstOk K mg) (cst_int (PySem.W.mg_of X G v1)) look_nil))
  · exact (look_cons (Q := FnOk' K mg P T) ⟨_, _, _, PySem.W.mg_of X G a20, k20, D20⟩ (look_cons (Q := FnOk' K mg P T) ⟨_, _, _, PySem.W.mg_of X G a21, k21, D21⟩ (look_cons (Q := FnOk' K mg P T) ⟨_, _, _, PySem.W.mg_of X G a23, k23, D23⟩ (look_cons (Q := FnOk' K mg P T) ⟨_, _, _, PySem.W.mg_of X G a14, k14, D14⟩ (look_cons (Q := FnOk' K mg P T) ⟨_, _, _, PySem.W.mg_of X G a18, k18, D18⟩ (look_cons (Q := FnOk' K mg P T) ⟨_, _, _, PySem.W.mg_of X G a24, k24, D24⟩ (look_cons (Q := FnOk' K mg P T) ⟨_, _, _, PySem.W.mg_of X G a15, k15, D15⟩ (look_cons (Q := FnOk' K mg P T) ⟨_, _, _, PySem.W.mg_of X G a12, k12, D12⟩ (look_cons (Q := FnOk' K mg P T) ⟨_, _, _, PySem.W.mg_of X G a22, k22, D22⟩ (look_cons (Q := FnOk' K mg P T) ⟨_, _, _, PySem.W.mg_of X G a25, k25, D25⟩ (look_cons (Q := FnOk' K mg P T) ⟨_, _, _, PySem.W.mg_of X G a11, k11, D11⟩ (look_cons (Q := FnOk' K mg P T) ⟨_, _, _, PySem.W.mg_of X G a13, k13, D13⟩ (look_cons (Q := FnOk' K mg P T) ⟨_, _, _, PySem.W.mg_of X G a19, k19, D19⟩ (look_cons (Q := FnOk' K mg P T) ⟨_, _, _, PySem.W.mg_of X G a17, k17, D17⟩ (look_cons (Q := FnOk' K mg P T) ⟨_, _, _, PySem.W.mg_of X G a16, k16, D16⟩ (look_cons (Q := FnOk' K mg P T) ⟨_, _, _, PySem.W.mg_of X G a4, k4, D4⟩ (look_cons (Q := FnOk' K mg P T) ⟨_, _, _, PySem.W.mg_of X G a6, k6, D6⟩ (look_cons (Q := FnOk' K mg P T) ⟨_, _, _, PySem.W.mg_of X G a10, k10, D10⟩ (look_cons (Q := FnOk' K mg P T) ⟨_, _, _, PySem.W.mg_of X G a2, k2, D2⟩ (look_cons (Q := FnOk' K mg P T) ⟨_, _, _, PySem.W.mg_of X G a9, k9, D9⟩ (look_cons (Q := FnOk' K mg P T) ⟨_, _, _, PySem.W.mg_of X G a5, k5, D5⟩ (look_cons (Q := FnOk' K mg P T) ⟨_, _, _, PySem.W.mg_of X G a3, k3, D3⟩ (look_cons (Q := FnOk' K mg P T) ⟨_, _, _, PySem.W.mg_of X G a1, k1, D1⟩ (look_cons (Q := FnOk' K mg P T) ⟨_, _, _, PySem.W.mg_of X G a8, k8, D8⟩ (look_cons (Q := FnOk' K mg P T) ⟨_, _, _, PySem.W.mg_of X G a7, k7, D7⟩ (look_cons (Q := FnOk' K mg P T) ⟨_, _, _, PySem.W.mg_of X G a0, k0, D0⟩ look_nil))))))))))))))))))))))))))
  · exact fm_nil
  · exact fm_nil
end K27
set_option Elab.async false
set_option linter.all false
set_option maxRecDepth 100000
namespace Ev
open PySem PySem.Spec L2

/-! ## loops read by what they keep -/
theorem below_mono {n k : Nat} (h : n ≤ k) {m : MO} (q : m.below n = true) : m.below k = true := by
  cases m with
  | lst xs => rfl
  | dct xs => rfl
  | hl ns =>
    unfold MO.below at q ⊢
    rw [List.all_eq_true] at q ⊢
    intro x hx
    have := q x hx
    simp only [decide_eq_true_eq] at this ⊢
    omega
  | ins c fs =>
    unfold MO.below at q ⊢
    rw [List.all_eq_true] at q ⊢
    intro x hx
    have q := q x hx
    cases hv : x.2 with
    | d d => rfl
    | new xs => rw [hv] at q; exact q
    | h j =>
      rw [hv] at q
      simp only [Val.below, decide_eq_true_eq] at q ⊢
      omega
theorem Wf.snoc {L : List MO} {xs : List D} (h : Wf L) : Wf (L ++ [.lst xs]) := by
  unfold Wf at h ⊢
  rw [List.all_append, List.length_append]
  rw [List.all_eq_true] at h
  rw [Bool.and_eq_true]
  refine ⟨List.all_eq_true.mpr fun m hm => below_mono (Nat.le_add_right _ _) (h m hm), rfl⟩
section
variable {C : Calls} {ρ : Rho} {L : List MO}
theorem sat_forM {s : Src} {body : D → Rho → List MO → Out (Fl × Rho)} {Q : Fl × Rho → List MO → Prop} (I : List D → Rho → List MO → Prop) (hs : s.own = none)
    (step : ∀ x r ρ L, I (x :: r) ρ L → (body x ρ L).sat fun f L1 => match f with
      | (.next, ρ1) => I r ρ1 L1
      | (.cont, ρ1) => I r ρ1 L1
      | (.brk, ρ1) => Q (.next, ρ1) L1
      | (.ret v, ρ1) => Q (.ret v, ρ1) L1)
    (done : ∀ ρ L, I [] ρ L → Q (.next, ρ) L) : ∀ {xs : List D} {ρ : Rho} {L : List MO}, I xs ρ L → (forM s body xs ρ L).sat Q
  | [], ρ, L, h => by
    have ok : s.ok L := by unfold Src.ok; rw [hs]; trivial
    unfold forM
    rw [if_pos ok, sat_ok]
    exact done ρ L h
  | x :: xs, ρ, L, h => by
    have ok : s.ok L := by unfold Src.ok; rw [hs]; trivial
    unfold forM
    rw [if_pos ok, sat_bindX]
    refine Out.sat_mono (step x xs ρ L h) fun f L1 q => ?_
    obtain ⟨f, ρ1⟩ := f
    cases f with
    | next => exact sat_forM I hs step done q
    | cont => exact sat_forM I hs step done q
    | brk => show (Out.ok _ _).sat Q; rw [sat_ok]; exact q
    | ret v => show (Out.ok _ _).sat Q; rw [sat_ok]; exact q
theorem sat_mFor {it : MI} {g : MG} {mb : MS} {Q : Fl × Rho → List MO → Prop} (I : List D → Rho → List MO → Prop)
    (start : (it C ρ L).sat fun s L1 => s.own = none ∧ I s.xs ρ L1)
    (step : ∀ x r ρ L, I (x :: r) ρ L → (g C (.d x) ρ L).sat fun ρ1 L2 => (mb C ρ1 L2).sat fun f L1 => match f with
      | (.next, ρ1) => I r ρ1 L1
      | (.cont, ρ1) => I r ρ1 L1
      | (.brk, ρ1) => Q (.next, ρ1) L1
      | (.ret v, ρ1) => Q (.ret v, ρ1) L1)
    (done : ∀ ρ L, I [] ρ L → Q (.next, ρ) L) : (mFor it g mb C ρ L).sat Q := by
  rw [mFor, sat_bind]
  exact Out.sat_mono start fun s L1 ⟨h1, h2⟩ => sat_forM I h1 (fun x r ρ L h => by rw [sat_bind]; exact step x r ρ L h) done h2
theorem sat_compM {s : Src} {vs : List Nat} {g : MG} {t : MT} {m : M} {n : Nat} (I : List D → List D → List MO → Prop) (hs : s.own = none)
    (step : ∀ x r acc L, I (x :: r) acc L → L.length = n → (g C (.d x) (wipeR ρ vs) (L ++ [.lst acc])).sat fun ρ1 L1 => (t C ρ1 L1).sat fun b L2 => if b = true then (m C ρ1 L2).sat fun y L3 => ∃ d L4, fz y = .d d ∧ acc.length < sizeLine ∧ L3 = L4 ++ [.lst acc] ∧ L4.length = L.length ∧ I r (acc ++ [d]) L4
      else ∃ L4, L2 = L4 ++ [.lst acc] ∧ L4.length = L.length ∧ I r acc L4) :
    ∀ {xs : List D} {acc : List D} {L : List MO}, L.length = n → I xs acc L → (compM s vs g t m C n ρ xs (L ++ [.lst acc])).sat fun _ L1 => ∃ acc' L4, L1 = L4 ++ [.lst acc'] ∧ L4.length = n ∧ I [] acc' L4
  | [], acc, L, hn, h => by
    have ok : s.ok (L ++ [.lst acc]) := by unfold Src.ok; rw [hs]; trivial
    unfold compM
    rw [if_pos ok, sat_ok]
    exact ⟨acc, L, rfl, hn, h⟩
  | x :: xs, acc, L, hn, h => by
    have ok : s.ok (L ++ [.lst acc]) := by unfold Src.ok; rw [hs]; trivial
    unfold compM
    rw [if_pos ok, sat_bind]
    refine Out.sat_mono (step x xs acc L h hn) fun ρ1 L1 q => ?_
    rw [sat_bind]
    refine Out.sat_mono q fun b L2 q => ?_
    split at q
    · rename_i hb
      rw [if_pos hb, sat_bind]
      refine Out.sat_mono q fun y L3 ⟨d, L4, e1, ea, e2, e3, q⟩ => ?_
      have e4 : pushAcc n (fz y) L3 = some (L4 ++ [.lst (acc ++ [d])]) := by
        rw [e1, e2]
        have hn' : L4.length = n := e3.trans hn
        subst hn'
        unfold pushAcc
        rw [List.getElem?_append_right (Nat.le_refl _)]
        rw [sizeLine_val] at ea
        simp [ea]
      rw [e4]
      exact sat_compM I hs step (e3.trans hn) q
    · rename_i hb
      rw [if_neg hb]
      obtain ⟨L4, e2, e3, q⟩ := q
      rw [e2]
      exact sat_compM I hs step (e3.trans hn) q
theorem popAcc_end {acc : List D} (h : Wf L) : popAcc L.length (L ++ [.lst acc]) = .ok (.new acc) L := by
  unfold popAcc
  rw [List.getElem?_append_right (Nat.le_refl _)]
  simp
  exact fun a => by have := List.all_eq_true.mp h; exact this a
theorem sat_mComp {it : MI} {vs : List Nat} {g : MG} {t : MT} {m : M} {Q : Val → List MO → Prop} (I : List D → List D → List MO → Prop)
    (start : (it C ρ L).sat fun s L1 => s.own = none ∧ I s.xs [] L1)
    (step : ∀ x r acc L, I (x :: r) acc L → (g C (.d x) (wipeR ρ vs) (L ++ [.lst acc])).sat fun ρ1 L1 => (t C ρ1 L1).sat fun b L2 => if b = true then (m C ρ1 L2).sat fun y L3 => ∃ d L4, fz y = .d d ∧ acc.length < sizeLine ∧ L3 = L4 ++ [.lst acc] ∧ L4.length = L.length ∧ I r (acc ++ [d]) L4
      else ∃ L4, L2 = L4 ++ [.lst acc] ∧ L4.length = L.length ∧ I r acc L4)
    (done : ∀ acc L, I [] acc L → Wf L ∧ Q (.new acc) L) : (mComp it vs g t m C ρ L).sat Q := by
  rw [mComp, sat_bind]
  refine Out.sat_mono start fun s L1 ⟨h1, h2⟩ => ?_
  rw [sat_bind]
  refine Out.sat_mono (sat_compM I h1 (fun x r acc L h _ => step x r acc L h) rfl h2) fun _ L2 ⟨acc', L4, e1, e2, q⟩ => ?_
  obtain ⟨q1, q2⟩ := done acc' L4 q
  rw [e1, ← e2, popAcc_end q1, sat_ok]
  exact q2
/-- two clauses -/
theorem sat_compM2 {s : Src} {vs vs1 : List Nat} {g g1 : MG} {t t1 : MT} {it1 : MI} {m : M} {n : Nat} (I : List D → List D → List MO → Prop) (J : Rho → List D → List D → List D → List MO → Prop) (hs : s.own = none)
    (step : ∀ x r acc L, I (x :: r) acc L → (g C (.d x) (wipeR ρ vs) (L ++ [.lst acc])).sat fun ρ1 L1 => (t C ρ1 L1).sat fun b L2 => if b = true then (it1 C ρ1 L2).sat fun s1 L3 => ∃ L4, L3 = L4 ++ [.lst acc] ∧ L4.length = L.length ∧ s1.own = none ∧ J ρ1 r s1.xs acc L4
      else ∃ L4, L2 = L4 ++ [.lst acc] ∧ L4.length = L.length ∧ I r acc L4)
    (step1 : ∀ ρ1 r y r1 acc L, J ρ1 r (y :: r1) acc L → (g1 C (.d y) (wipeR ρ1 vs1) (L ++ [.lst acc])).sat fun ρ2 L1 => (t1 C ρ2 L1).sat fun b L2 => if b = true then (m C ρ2 L2).sat fun y L3 => ∃ d L4, fz y = .d d ∧ acc.length < sizeLine ∧ L3 = L4 ++ [.lst acc] ∧ L4.length = L.length ∧ J ρ1 r r1 (acc ++ [d]) L4
      else ∃ L4, L2 = L4 ++ [.lst acc] ∧ L4.length = L.length ∧ J ρ1 r r1 acc L4)
    (back : ∀ ρ1 r acc L, J ρ1 r [] acc L → I r acc L) :
    ∀ {xs : List D} {acc : List D} {L : List MO}, L.length = n → I xs acc L → (compM2 s vs g t it1 vs1 g1 t1 m C n ρ xs (L ++ [.lst acc])).sat fun _ L1 => ∃ acc' L4, L1 = L4 ++ [.lst acc'] ∧ L4.length = n ∧ I [] acc' L4
  | [], acc, L, hn, h => by
    have ok : s.ok (L ++ [.lst acc]) := by unfold Src.ok; rw [hs]; trivial
    unfold compM2
    rw [if_pos ok, sat_ok]
    exact ⟨acc, L, rfl, hn, h⟩
  | x :: xs, acc, L, hn, h => by
    have ok : s.ok (L ++ [.lst acc]) := by unfold Src.ok; rw [hs]; trivial
    unfold compM2
    rw [if_pos ok, sat_bind]
    refine Out.sat_mono (step x xs acc L h) fun ρ1 L1 q => ?_
    rw [sat_bind]
    refine Out.sat_mono q fun b L2 q => ?_
    split at q
    · rename_i hb
      rw [if_pos hb, sat_bind]
      refine Out.sat_mono q fun s1 L3 ⟨L4, e2, e3, e4, q⟩ => ?_
      rw [sat_bind, e2]
      refine Out.sat_mono (sat_compM (C := C) (ρ := ρ1) (J ρ1 xs) e4 (fun y r1 acc L h _ => step1 ρ1 xs y r1 acc L h) (e3.trans hn) q) fun _ L5 ⟨acc', L6, e5, e6, q⟩ => ?_
      rw [e5]
      exact sat_compM2 I J hs step step1 back e6 (back _ _ _ _ q)
    · rename_i hb
      rw [if_neg hb]
      obtain ⟨L4, e2, e3, q⟩ := q
      rw [e2]
      exact sat_compM2 I J hs step step1 back (e3.trans hn) q
theorem sat_mComp2 {it : MI} {vs vs1 : List Nat} {g g1 : MG} {t t1 : MT} {it1 : MI} {m : M} {Q : Val → List MO → Prop} (I : List D → List D → List MO → Prop) (J : Rho → List D → List D → List D → List MO → Prop)
    (start : (it C ρ L).sat fun s L1 => s.own = none ∧ I s.xs [] L1)
    (step : ∀ x r acc L, I (x :: r) acc L → (g C (.d x) (wipeR ρ vs) (L ++ [.lst acc])).sat fun ρ1 L1 => (t C ρ1 L1).sat fun b L2 => if b = true then (it1 C ρ1 L2).sat fun s1 L3 => ∃ L4, L3 = L4 ++ [.lst acc] ∧ L4.length = L.length ∧ s1.own = none ∧ J ρ1 r s1.xs acc L4
      else ∃ L4, L2 = L4 ++ [.lst acc] ∧ L4.length = L.length ∧ I r acc L4)
    (step1 : ∀ ρ1 r y r1 acc L, J ρ1 r (y :: r1) acc L → (g1 C (.d y) (wipeR ρ1 vs1) (L ++ [.lst acc])).sat fun ρ2 L1 => (t1 C ρ2 L1).sat fun b L2 => if b = true then (m C ρ2 L2).sat fun y L3 => ∃ d L4, fz y = .d d ∧ acc.length < sizeLine ∧ L3 = L4 ++ [.lst acc] ∧ L4.length = L.length ∧ J ρ1 r r1 (acc ++ [d]) L4
      else ∃ L4, L2 = L4 ++ [.lst acc] ∧ L4.length = L.length ∧ J ρ1 r r1 acc L4)
    (back : ∀ ρ1 r acc L, J ρ1 r [] acc L → I r acc L)
    (done : ∀ acc L, I [] acc L → Wf L ∧ Q (.new acc) L) : (mComp2 it vs g t it1 vs1 g1 t1 m C ρ L).sat Q := by
  rw [mComp2, sat_bind]
  refine Out.sat_mono start fun s L1 ⟨h1, h2⟩ => ?_
  rw [sat_bind]
  refine Out.sat_mono (sat_compM2 I J h1 step step1 back rfl h2) fun _ L2 ⟨acc', L4, e1, e2, q⟩ => ?_
  obtain ⟨q1, q2⟩ := done acc' L4 q
  rw [e1, ← e2, popAcc_end q1, sat_ok]
  exact q2
/-! ### what is gone through -/
def srcSat (x : Val) (L : List MO) (Q : Src → Prop) : Prop := match x with
  | .h n => match L[n]? with
    | some (.lst xs) => Q ⟨xs, some n⟩
    | _ => False
  | .d (.tup xs) => Q ⟨xs, none⟩
  | .d (.lst xs) => Q ⟨xs, none⟩
  | _ => False
@[simp] theorem srcSat_tup {xs : List D} {Q : Src → Prop} : srcSat (.d (.tup xs)) L Q = Q ⟨xs, none⟩ := rfl
@[simp] theorem srcSat_lst {xs : List D} {Q : Src → Prop} : srcSat (.d (.lst xs)) L Q = Q ⟨xs, none⟩ := rfl
@[simp] theorem sat_mIt {m : M} {Q : Src → List MO → Prop} : (mIt m C ρ L).sat Q = (m C ρ L).sat fun x L1 => srcSat (fz x) L1 fun s => Q s L1 := by
  rw [mIt, sat_bind]
  congr 1
  funext x L1
  generalize fz x = y
  cases y with
  | h n =>
    show (match L1[n]? with
      | some (.lst xs) => Out.ok (Src.mk xs (some n)) L1
      | _ => Out.no).sat Q = match L1[n]? with
      | some (.lst xs) => Q ⟨xs, some n⟩ L1
      | _ => False
    generalize L1[n]? = o
    cases o with
    | none => exact sat_no
    | some m =>
      cases m with
      | lst xs => exact sat_ok
      | _ => exact sat_no
  | d d =>
    cases d with
    | tup xs => exact sat_ok
    | lst xs => exact sat_ok
    | _ => exact sat_no
  | new xs => exact sat_no
@[simp] theorem sat_mRng1 {m : M} {Q : Src → List MO → Prop} : (mRng1 m C ρ L).sat Q = (m C ρ L).sat fun x L1 => intSat x fun j => (-(2 ^ 62) ≤ j ∧ j < 2 ^ 62) ∧ Q ⟨rangeD 0 j.toNat, none⟩ L1 := by
  rw [mRng1, sat_bind]
  congr 1
  funext x L1
  cases x with
  | d d =>
    cases d with
    | int i =>
      by_cases h : -(2 ^ 62) ≤ i ∧ i < 2 ^ 62
      · rw [intSat_int]
        show (if _ then _ else _ : Out Src).sat Q = _
        rw [if_pos h]
        simp only [h, true_and, and_self]
        exact sat_ok
      · rw [intSat_int]
        show (if _ then _ else _ : Out Src).sat Q = _
        rw [if_neg h]
        simp only [h, false_and]
        exact sat_no
    | _ => exact sat_no
  | _ => exact sat_no
def ints2 (x y : Val) (Q : Int → Int → Prop) : Prop := match x, y with
  | .d (.int i), .d (.int j) => Q i j
  | _, _ => False
@[simp] theorem ints2_int {i j : Int} {Q : Int → Int → Prop} : ints2 (.d (.int i)) (.d (.int j)) Q = Q i j := rfl
@[simp] theorem sat_mRng2 {m n : M} {Q : Src → List MO → Prop} : (mRng2 m n C ρ L).sat Q = (m C ρ L).sat fun x L1 => (n C ρ L1).sat fun y L2 => ints2 x y fun i j => (-(2 ^ 62) ≤ i ∧ i < 2 ^ 62 ∧ -(2 ^ 62) ≤ j ∧ j < 2 ^ 62) ∧ Q ⟨rangeD i (j - i).toNat, none⟩ L2 := by
  rw [mRng2, sat_bind]
  congr 1
  funext x L1
  rw [sat_bind]
  congr 1
  funext y L2
  cases x with
  | d d =>
    cases d with
    | int i =>
      cases y with
      | d e =>
        cases e with
        | int j =>
          by_cases h : -(2 ^ 62) ≤ i ∧ i < 2 ^ 62 ∧ -(2 ^ 62) ≤ j ∧ j < 2 ^ 62
          · rw [ints2_int]
            show (if _ then _ else _ : Out Src).sat Q = _
            rw [if_pos h]
            simp only [h, true_and, and_self]
            exact sat_ok
          · rw [ints2_int]
            show (if _ then _ else _ : Out Src).sat Q = _
            rw [if_neg h]
            simp only [h, false_and]
            exact sat_no
        | _ => exact sat_no
      | _ => exact sat_no
    | _ => exact sat_no
  | _ => exact sat_no
/-- while, by what it keeps and a measure -/
theorem sat_mWhile {t : MT} {mb : MS} {Q : Fl × Rho → List MO → Prop} (I : Nat → Rho → List MO → Prop)
    (step : ∀ m ρ L, I m ρ L → (t C ρ L).sat fun k L1 => if k = true then (mb C ρ L1).sat fun f L2 => match f with
      | (.next, ρ1) => ∃ m', m' < m ∧ I m' ρ1 L2
      | (.cont, ρ1) => ∃ m', m' < m ∧ I m' ρ1 L2
      | (.brk, ρ1) => Q (.next, ρ1) L2
      | (.ret v, ρ1) => Q (.ret v, ρ1) L2
      else Q (.next, ρ) L1) : ∀ {m : Nat} {ρ : Rho} {L : List MO}, I m ρ L → (mWhile t mb C ρ L).sat Q := by
  have key : ∀ (m : Nat) (ρ : Rho) (L : List MO), I m ρ L → ∃ n, (whileM t mb C n ρ L).sat Q := fun m => by
    induction m using Nat.strongRecOn with
    | _ m ih =>
    intro ρ L h
    obtain ⟨k, L1, e1, q⟩ := (step m ρ L h).ex
    cases k with
    | false =>
      refine ⟨1, ?_⟩
      rw [if_neg Bool.false_ne_true] at q
      unfold whileM
      rw [sat_bind, e1, sat_ok, if_neg Bool.false_ne_true, sat_ok]
      exact q
    | true =>
      rw [if_pos rfl] at q
      obtain ⟨⟨f, ρ1⟩, L2, e2, q⟩ := q.ex
      have un : ∀ n, whileM t mb C (n + 1) ρ L = (match (f, ρ1) with
        | (.next, ρ1) => whileM t mb C n ρ1 L2
        | (.cont, ρ1) => whileM t mb C n ρ1 L2
        | (.brk, ρ1) => .ok (.next, ρ1) L2
        | (.ret v, ρ1) => .ok (.ret v, ρ1) L2) := fun n => by
        rw [whileM, e1]
        show (if true = true then _ else _) = _
        rw [if_pos rfl, e2]
        all_goals rfl
      cases f with
      | next =>
        obtain ⟨m', lt, q⟩ := q
        obtain ⟨n, hn⟩ := ih m' lt _ _ q
        exact ⟨n + 1, by rw [un]; exact hn⟩
      | cont =>
        obtain ⟨m', lt, q⟩ := q
        obtain ⟨n, hn⟩ := ih m' lt _ _ q
        exact ⟨n + 1, by rw [un]; exact hn⟩
      | brk => exact ⟨1, by rw [un]; show (Out.ok _ _).sat Q; rw [sat_ok]; exact q⟩
      | ret v => exact ⟨1, by rw [un]; show (Out.ok _ _).sat Q; rw [sat_ok]; exact q⟩
  intro m ρ L h
  obtain ⟨n, hn⟩ := key m ρ L h
  obtain ⟨r, L', e, q⟩ := hn.ex
  exact ⟨r, L', mWhile_ok e, q⟩
/-- the first statement, then the rest -/
theorem seq_cut {m n : MS} {Q : Fl × Rho → List MO → Prop} (R : Rho → List MO → Prop) (h : (m C ρ L).sat fun r L1 => ∃ ρ1, r = (.next, ρ1) ∧ R ρ1 L1) (q : ∀ ρ1 L1, R ρ1 L1 → (n C ρ1 L1).sat Q) : (mSeq m n C ρ L).sat Q := by
  rw [sat_mSeq]
  refine Out.sat_mono h fun r L1 ⟨ρ1, e, hR⟩ => ?_
  rw [e, flSat_next]
  exact q ρ1 L1 hR
end
theorem bIx_lh {L : List MO} {n : Nat} {xs : List D} {i : Int} (h : L[n]? = some (.lst xs)) : bIx (.h n) (.d (.int i)) L = (atI xs i).map .d := by simp only [bIx, h]
theorem setIx_lh {L : List MO} {n : Nat} {xs : List D} {i : Int} {d : D} (h : L[n]? = some (.lst xs)) : setIx (.h n) (.d (.int i)) (.d d) L = (ixN xs.length i).map fun j => L.set n (.lst (xs.set j d)) := by simp only [setIx, h]
theorem bIx_dh {L : List MO} {n : Nat} {kvs : List (Key × D)} {x : Str} (h : L[n]? = some (.dct kvs)) : bIx (.h n) (.d (.str x)) L = (valD kvs (.inr x)).map .d := by simp only [bIx, h]
theorem setIx_dh {L : List MO} {n : Nat} {kvs : List (Key × D)} {x : Str} {d : D} (h : L[n]? = some (.dct kvs)) (hl : kvs.length < sizeLine) : setIx (.h n) (.d (.str x)) (.d d) L = some (L.set n (.dct (putD kvs (.inr x) d))) := by simp only [setIx, h, hl, if_true]
end Ev
set_option Elab.async false
set_option linter.all false
set_option maxRecDepth 100000
namespace S
open PySem PySem.Spec L2 Ev

/-! ## the pool -/
def PoolOk (p : List D) : Prop := ∃ (ns : List Int) (i v c s : Int), 0 ≤ i ∧ p = [.lst (ns.map .int), .int i, .int v, .int c, .int s]
def HasPool (h : Nat) (L : List MO) : Prop := Wf L ∧ ∃ p, L[h]? = some (.lst p) ∧ PoolOk p
def Stp (h : Nat) (L L' : List MO) : Prop := ∃ p, PoolOk p ∧ L' = L.set h (.lst p)
theorem HasPool.lt {h : Nat} {L : List MO} (q : HasPool h L) : h < L.length := by
  obtain ⟨_, p, e, _⟩ := q
  exact (List.getElem?_eq_some_iff.mp e).1
theorem below_set {n h : Nat} {xs : List D} : ∀ {L : List MO}, L.all (MO.below n) = true → (L.set h (.lst xs)).all (MO.below n) = true := fun {L} q => by
  rw [List.all_eq_true] at q ⊢
  intro m hm
  rcases List.mem_or_eq_of_mem_set hm with z | z
  · exact q m z
  · rw [z]; rfl
theorem HasPool.step {h : Nat} {L L' : List MO} (q : HasPool h L) (t : Stp h L L') : HasPool h L' := by
  obtain ⟨p, hp, rfl⟩ := t
  have hl := q.lt
  refine ⟨?_, p, by rw [List.getElem?_set_self hl], hp⟩
  unfold Wf
  rw [List.length_set]
  exact below_set q.1
theorem Stp.trans {h : Nat} {L L1 L2 : List MO} (a : Stp h L L1) (b : Stp h L1 L2) : Stp h L L2 := by
  obtain ⟨p, _, rfl⟩ := a
  obtain ⟨p2, h2, rfl⟩ := b
  exact ⟨p2, h2, by rw [List.set_set]⟩
theorem Stp.refl {h : Nat} {L : List MO} (q : HasPool h L) : Stp h L L := by
  obtain ⟨_, p, e, hp⟩ := q
  refine ⟨p, hp, ?_⟩
  obtain ⟨h1, h2⟩ := List.getElem?_eq_some_iff.mp e
  rw [← h2, List.set_getElem_self]
theorem Stp.len {h : Nat} {L L' : List MO} (a : Stp h L L') : L'.length = L.length := by
  obtain ⟨p, _, rfl⟩ := a
  simp
theorem bIx_set {h : Nat} {L : List MO} {xs : List D} {i : Int} (hl : h < L.length) : bIx (.h h) (.d (.int i)) (L.set h (.lst xs)) = (atI xs i).map .d := by
  exact bIx_lh (List.getElem?_set_self hl)
theorem setIx_set {h : Nat} {L : List MO} {xs : List D} {i : Int} {d : D} (hl : h < L.length) : setIx (.h h) (.d (.int i)) (.d d) (L.set h (.lst xs)) = (ixN xs.length i).map fun j => L.set h (.lst (xs.set j d)) := by
  rw [setIx_lh (List.getElem?_set_self hl)]
  simp
theorem ixN_nat {n : Nat} {i : Int} (h0 : 0 ≤ i) (h1 : i < n) : ixN n i = some i.toNat := by
  unfold ixN
  rw [if_pos h0, if_pos h1]
theorem atI_ints {ns : List Int} {i : Int} (h0 : 0 ≤ i) (h1 : i < ns.length) : ∃ k, atI (ns.map D.int) i = some (.int k) := by
  obtain ⟨x, h, m, _⟩ := atI_lt (xs := ns.map D.int) h0 (by simpa using h1)
  obtain ⟨k, _, rfl⟩ := List.mem_map.mp m
  exact ⟨k, h⟩
/-- the five places -/
theorem at5 {a b c d e : D} : atI [a, b, c, d, e] 0 = some a ∧ atI [a, b, c, d, e] 1 = some b ∧ atI [a, b, c, d, e] 2 = some c ∧ atI [a, b, c, d, e] 3 = some d ∧ atI [a, b, c, d, e] 4 = some e := ⟨rfl, rfl, rfl, rfl, rfl⟩
theorem ix5 : ixN 5 1 = some 1 ∧ ixN 5 2 = some 2 ∧ ixN 5 3 = some 3 := ⟨rfl, rfl, rfl⟩
section
variable {P : Prog} {n : Nat}
theorem mulOk_r {i j : Int} (h : -(2 ^ 64) < j ∧ j < 2 ^ 64) : mulOk i j = true := by
  unfold mulOk
  rw [Bool.or_eq_true]
  right
  simp only [Bool.and_eq_true, decide_eq_true_eq]
  exact h
theorem spread_ok (hP : P "_law_spread" = some F.f__law_spread) (hn : 1 ≤ n) {L : List MO} (hw : Wf L) (c : Int) : ∃ k : Int, run P n "_law_spread" [.d (.int c)] L = .ok (.d (.int k)) L := by
  obtain ⟨n, rfl⟩ : ∃ m, n = m + 1 := ⟨n - 1, by omega⟩
  have key : (run P (n + 1) "_law_spread" [.d (.int c)] L).sat fun v L' => (∃ k : Int, v = .d (.int k)) ∧ L' = L := by
    refine run_sat hP rfl ?_
    simp only [F.f__law_spread]
    simp
    refine sat_mFor (fun xs ρ L' => (∃ x m t, ρ = [some (.d (.int c)), some (.d (.int m)), some (.d (.int t)), x]) ∧ L' = L ∧ ∀ x ∈ xs, ∃ k : Int, x = .int k) ?_ ?_ ?_
    · simp [rangeD]
    · rintro x r ρ L1 ⟨⟨y, m, t, rfl⟩, rfl, hx⟩
      obtain ⟨k, rfl⟩ := hx x (by simp)
      have h1 : mulOk m 48271 = true := mulOk_r (by omega)
      have h2 : mulOk t 2147483647 = true := mulOk_r (by omega)
      simp [h1, h2]
      exact fun x hx2 => hx x (List.mem_cons_of_mem _ hx2)
    · rintro ρ L1 ⟨⟨y, m, t, rfl⟩, rfl, _⟩
      have : (L1.take L1.length).all (MO.below L1.length) = true := by rw [List.take_length]; exact hw
      simp [fin_d (L := L1) this]
  obtain ⟨_, ⟨k, rfl⟩, e⟩ := Out.sat_run key
  exact ⟨k, e⟩
theorem draw_ok (hP : P "_law_draw" = some F.f__law_draw) (hS : P "_law_spread" = some F.f__law_spread) (hn : 2 ≤ n) {h : Nat} {L : List MO} (hp : HasPool h L) {many : Int} (h0 : 0 < many) (h1 : many < 1073741824) :
    (run P n "_law_draw" [.h h, .d (.int many)] L).sat fun v L' => ∃ k : Int, v = .d (.int k) ∧ 0 ≤ k ∧ k < many ∧ Stp h L L' := by
  obtain ⟨n, rfl⟩ : ∃ m, n = m + 1 := ⟨n - 1, by omega⟩
  refine run_sat hP rfl ?_
  have hl := hp.lt
  have hpp := hp
  obtain ⟨hw, p, e, ns, i, v, c, s, hi, rfl⟩ := hp
  have eL : L = L.set h (.lst [.lst (ns.map .int), .int i, .int v, .int c, .int s]) := by
    obtain ⟨h1, h2⟩ := List.getElem?_eq_some_iff.mp e
    rw [← h2, List.set_getElem_self]
  simp only [F.f__law_draw]
  refine seq_cut (fun ρ1 L1 => ∃ (i v c s : Int) (x : Option Val), 0 ≤ i ∧ ρ1 = [some (.h h), some (.d (.int many)), x, none, none] ∧ L1 = L.set h (.lst [.lst (ns.map .int), .int i, .int v, .int c, .int s])) ?_ ?_
  · rw [eL]
    simp [bIx_set hl, setIx_set hl, at5, ix5]
    split
    · split
      · rename_i hlt
        obtain ⟨k, hk⟩ := atI_ints hi (by simpa using hlt)
        simp [hk, bIx_set hl, setIx_set hl, at5, ix5]
        split
        · have hw2 : Wf (L.set h (.lst [.lst (ns.map .int), .int (i + 1), .int k, .int c, .int s])) := by
            unfold Wf
            rw [List.length_set]
            exact below_set hw
          obtain ⟨k2, e2⟩ := spread_ok (n := n) hS (by omega) hw2 k
          simp [e2, setIx_set hl, ix5]
          exact ⟨i + 1, by omega, _, _, _, rfl⟩
        · exact ⟨i + 1, by omega, _, _, _, rfl⟩
      · exact ⟨i, hi, _, _, _, rfl⟩
    · exact ⟨i, hi, _, _, _, rfl⟩
  · rintro ρ1 L1 ⟨i, v, c, s, x, hi, rfl, rfl⟩
    have m1 : ∀ j : Int, mulOk j 48271 = true := fun j => mulOk_r (by omega)
    have m2 : ∀ j : Int, mulOk j 69621 = true := fun j => mulOk_r (by omega)
    have m3 : ∀ j : Int, mulOk j 16807 = true := fun j => mulOk_r (by omega)
    have fin_ok : ∀ (k : Int) (p : List D), 0 ≤ k → k < many → PoolOk p → (fin L.length (.d (.int k)) (L.set h (.lst p))).sat fun v L' => ∃ k : Int, v = .d (.int k) ∧ 0 ≤ k ∧ k < many ∧ Stp h L L' := fun k p g0 g1 hpo => by
      have et : (L.set h (.lst p)).take L.length = L.set h (.lst p) := List.take_of_length_le (by simp)
      rw [fin_d (L := L) (by rw [et]; exact below_set hw), et]
      exact ⟨k, rfl, g0, g1, p, hpo, rfl⟩
    simp [bIx_set hl, setIx_set hl, at5, ix5, m1, m2, m3]
    split
    · simp [h0]
      refine fin_ok _ _ (Int.emod_nonneg _ (by omega)) (Int.emod_lt_of_pos _ h0) ⟨ns, _, _, _, _, hi, rfl⟩
    · simp [h0, h1, bIx_set hl, setIx_set hl, at5, ix5]
      refine fin_ok _ _ (Int.emod_nonneg _ (by omega)) (Int.emod_lt_of_pos _ h0) ⟨ns, _, _, _, _, hi, rfl⟩
end
end S
set_option Elab.async false
set_option linter.all false
set_option maxRecDepth 100000
namespace S
open PySem PySem.Spec L2 Ev

/-- the helpers that stand in most laws -/
structure Com (P : Prog) : Prop where
  int : P "_law_is_integer" = some F.f__law_is_integer
  same : P "_law_same" = some F.f__law_same
  pool : P "_law_pool" = some F.f__law_pool
  spread : P "_law_spread" = some F.f__law_spread
  draw : P "_law_draw" = some F.f__law_draw
def isI : D → Bool
  | .int _ => true
  | _ => false
def inR (lo hi : Int) : D → Bool
  | .int i => decide (lo ≤ i) && decide (i ≤ hi)
  | _ => false
theorem take_len {L : List MO} : L.take L.length = L := List.take_length
section
variable {P : Prog} {n : Nat} {L : List MO}
theorem int_ok (c : Com P) (hn : 1 ≤ n) (hw : Wf L) (x : D) : run P n "_law_is_integer" [.d x] L = .ok (.d (.bl (isI x))) L := by
  obtain ⟨n, rfl⟩ : ∃ m, n = m + 1 := ⟨n - 1, by omega⟩
  refine run_pure c.int rfl hw (by simp) ?_
  simp only [F.f__law_is_integer]
  cases x <;> simp [isT, tyName, isI]
/-! ### data of bounded depth and breadth -/
inductive Dt (w : Nat) : Nat → D → Prop
  | non {n : Nat} : Dt w n .non
  | bl {n : Nat} {b : Bool} : Dt w n (.bl b)
  | int {n : Nat} {i : Int} : Dt w n (.int i)
  | str {n : Nat} {x : Str} : x.length ≤ w → Dt w n (.str x)
  | tup {n : Nat} {xs : List D} : xs.length ≤ w → (∀ x ∈ xs, Dt w n x) → Dt w (n + 1) (.tup xs)
  | lst {n : Nat} {xs : List D} : xs.length ≤ w → (∀ x ∈ xs, Dt w n x) → Dt w (n + 1) (.lst xs)
theorem Dt.mono {w w' : Nat} (hw : w ≤ w') {n m : Nat} {x : D} (h : Dt w n x) (hn : n ≤ m) : Dt w' m x := by
  induction h generalizing m with
  | non => exact .non
  | bl => exact .bl
  | int => exact .int
  | str h => exact .str (by omega)
  | tup h _ ih =>
    obtain ⟨m, rfl⟩ : ∃ k, m = k + 1 := ⟨m - 1, by omega⟩
    exact .tup (by omega) fun x hx => ih x hx (by omega)
  | lst h _ ih =>
    obtain ⟨m, rfl⟩ : ∃ k, m = k + 1 := ⟨m - 1, by omega⟩
    exact .lst (by omega) fun x hx => ih x hx (by omega)
/-! no place is broader than three millions -/
mutual
def smB : D → Bool
  | .tup xs => decide (xs.length ≤ 3000000) && smBs xs
  | .lst xs => decide (xs.length ≤ 3000000) && smBs xs
  | _ => true
def smBs : List D → Bool
  | [] => true
  | x :: xs => smB x && smBs xs
end
def Sm (x : D) : Prop := smB x = true
theorem smBs_iff : ∀ {xs : List D}, smBs xs = true ↔ ∀ x ∈ xs, Sm x
  | [] => by simp [smBs]
  | x :: xs => by
    rw [smBs, Bool.and_eq_true, smBs_iff (xs := xs)]
    simp [Sm]
theorem Sm.tup {xs : List D} (h1 : xs.length ≤ 3000000) (h2 : ∀ x ∈ xs, Sm x) : Sm (.tup xs) := by
  unfold Sm smB
  rw [Bool.and_eq_true]
  exact ⟨decide_eq_true h1, smBs_iff.mpr h2⟩
theorem Sm.lst {xs : List D} (h1 : xs.length ≤ 3000000) (h2 : ∀ x ∈ xs, Sm x) : Sm (.lst xs) := by
  unfold Sm smB
  rw [Bool.and_eq_true]
  exact ⟨decide_eq_true h1, smBs_iff.mpr h2⟩
theorem Sm.of_tup {xs : List D} (h : Sm (.tup xs)) : xs.length ≤ 3000000 ∧ ∀ x ∈ xs, Sm x := by
  unfold Sm smB at h
  rw [Bool.and_eq_true] at h
  exact ⟨of_decide_eq_true h.1, smBs_iff.mp h.2⟩
theorem Sm.of_lst {xs : List D} (h : Sm (.lst xs)) : xs.length ≤ 3000000 ∧ ∀ x ∈ xs, Sm x := by
  unfold Sm smB at h
  rw [Bool.and_eq_true] at h
  exact ⟨of_decide_eq_true h.1, smBs_iff.mp h.2⟩
theorem Sm.str {x : Str} : Sm (.str x) := rfl
theorem Dt.sm {w m : Nat} (hw : w ≤ 1000000) {x : D} (h : Dt w m x) : Sm x := by
  induction h with
  | non => rfl
  | bl => rfl
  | int => rfl
  | str h => rfl
  | tup h _ ih => exact .tup (by omega) ih
  | lst h _ ih => exact .lst (by omega) ih
theorem cutD_mem {xs : List D} {lo hi : Option Int} {x : D} (h : x ∈ cutD xs lo hi) : x ∈ xs := by
  unfold cutD at h
  exact List.mem_of_mem_drop (List.mem_of_mem_take h)
theorem smBs_append {xs ys : List D} (h1 : ∀ x ∈ xs, Sm x) (h2 : ∀ x ∈ ys, Sm x) : ∀ x ∈ xs ++ ys, Sm x := fun x hx => (List.mem_append.mp hx).elim (h1 x) (h2 x)
theorem wipe1 {ρ : Rho} {i : Nat} : wipeR ρ [i] = ρ.set i none := rfl
/-- one and the same -/
theorem same_seq (c : Com P) {m w : Nat} (hw : w ≤ 1000000) {xs : List D} (hl : xs.length ≤ w) (ih : ∀ x ∈ xs, ∀ (n : Nat) (L : List MO), m + 1 ≤ n → Wf L → run P n "_law_same" [.d x, .d x] L = .ok (.d (.bl true)) L) (hn : m + 1 ≤ n) (hL : Wf L) {x : D}
    (hx : x = .tup xs ∨ x = .lst xs) {Q : Val → List MO → Prop} (q : Q (.new []) L) :
    (mComp (mRng1 (mBi biLen (mCons (mVar 1) mNil))) [2] (gName' 2) (mtNot (mtTru (mCall "_law_same" (mCons (mBin bIx (mVar 0) (mVar 2)) (mCons (mBin bIx (mVar 1) (mVar 2)) mNil))))) (mVar 2) (run P n) [some (.d x), some (.d x), none] L).sat Q := by
  refine sat_mComp (fun r acc L' => acc = [] ∧ L' = L ∧ ∀ y ∈ r, ∃ k : Int, y = .int k ∧ 0 ≤ k ∧ k < xs.length) ?_ ?_ ?_
  · have big : (xs.length : Int) < 2 ^ 62 := by omega
    rcases hx with rfl | rfl
    all_goals
      simp
      refine ⟨by omega, fun y hy => ?_⟩
      unfold rangeD at hy
      obtain ⟨j, hj, rfl⟩ := List.mem_map.mp hy
      have := List.mem_range.mp hj
      exact ⟨_, rfl, by omega, by omega⟩
  · rintro y r acc L' ⟨rfl, rfl, hy⟩
    obtain ⟨k, rfl, k0, k1⟩ := hy y (by simp)
    obtain ⟨d, hd, hm, _⟩ := atI_lt (xs := xs) k0 k1
    have e := ih d hm n _ hn (Wf.snoc (xs := []) hL)
    rcases hx with rfl | rfl
    all_goals
      simp [wipe1, hd, e]
      exact fun y hy2 => hy y (List.mem_cons_of_mem _ hy2)
  · rintro acc L' ⟨rfl, rfl, _⟩
    exact ⟨hL, q⟩
theorem same_ok (c : Com P) {m w : Nat} (hw : w ≤ 1000000) {x : D} (h : Dt w m x) : ∀ (n : Nat) (L : List MO), m + 1 ≤ n → Wf L → run P n "_law_same" [.d x, .d x] L = .ok (.d (.bl true)) L := by
  induction h with
  | @tup m xs hl _ ih =>
    intro n L hn hL
    obtain ⟨n, rfl⟩ : ∃ m, n = m + 1 := ⟨n - 1, by omega⟩
    refine run_pure c.same rfl hL (by simp) ?_
    simp only [F.f__law_same]
    simp [isT, tyName]
    have hn' : m + 1 ≤ n := by omega
    have h0 := @same_seq P n L c m w hw xs hl ih hn' hL (.tup xs) (.inl rfl)
    have h1 := h0 (Q := fun v L' => v = .new [] ∧ L' = L) ⟨rfl, rfl⟩
    refine Out.sat_mono h1 ?_
    simp [take_len]
  | @lst m xs hl _ ih =>
    intro n L hn hL
    obtain ⟨n, rfl⟩ : ∃ m, n = m + 1 := ⟨n - 1, by omega⟩
    refine run_pure c.same rfl hL (by simp) ?_
    simp only [F.f__law_same]
    simp [isT, tyName]
    refine same_seq (x := .lst xs) c hw hl ih (Nat.le_of_succ_le_succ hn) hL (.inr rfl) ?_
    simp [take_len]
  | non | bl | int | str h =>
    intro n L hn hL
    obtain ⟨n, rfl⟩ : ∃ m, n = m + 1 := ⟨n - 1, by omega⟩
    refine run_pure c.same rfl hL (by simp) ?_
    simp only [F.f__law_same]
    simp [isT, tyName, cIs, take_len]
theorem same_bl (c : Com P) (hn : 1 ≤ n) (hL : Wf L) (b : Bool) : run P n "_law_same" [.d (.bl b), .d (.bl b)] L = .ok (.d (.bl true)) L := same_ok (m := 0) (w := 0) c (by omega) .bl n L hn hL
/-! ### the pool at the start -/
theorem pool_ok (c : Com P) (hn : 1 ≤ n) (hL : Wf L) (ns : List Int) : ∃ p, PoolOk p ∧ run P n "_law_pool" [.d (.lst (ns.map .int))] L = .ok (.new p) L := by
  obtain ⟨n, rfl⟩ : ∃ m, n = m + 1 := ⟨n - 1, by omega⟩
  have key : (run P (n + 1) "_law_pool" [.d (.lst (ns.map .int))] L).sat fun v L' => (∃ p, PoolOk p ∧ v = .new p) ∧ L' = L := by
    refine run_sat c.pool rfl ?_
    simp only [F.f__law_pool]
    refine seq_cut (fun ρ1 L1 => L1 = L ∧ ρ1 = [some (.d (.lst (ns.map .int))), some (.d (.int 7)), none]) (by simp) ?_
    rintro ρ1 L1 ⟨rfl, rfl⟩
    refine seq_cut (fun ρ1 L2 => L2 = L1 ∧ ∃ (s : Int) (x : Option Val), ρ1 = [some (.d (.lst (ns.map .int))), some (.d (.int s)), x]) ?_ ?_
    · refine sat_mFor (fun xs ρ L' => (∃ (s : Int) (x : Option Val), ρ = [some (.d (.lst (ns.map .int))), some (.d (.int s)), x]) ∧ L' = L1 ∧ ∀ x ∈ xs, ∃ k : Int, x = .int k) ?_ ?_ ?_
      · simp [cutD]
        intro x hx
        have h2 := List.mem_map.mp (List.mem_of_mem_drop (List.mem_of_mem_take hx))
        obtain ⟨k, _, rfl⟩ := h2
        exact ⟨k, rfl⟩
      · rintro x r ρ L2 ⟨⟨s, y, rfl⟩, rfl, hx⟩
        obtain ⟨k, rfl⟩ := hx x (by simp)
        have h1 : mulOk s 31 = true := mulOk_r (by omega)
        simp [h1]
        exact fun x hx2 => hx x (List.mem_cons_of_mem _ hx2)
      · rintro ρ L2 ⟨⟨s, y, rfl⟩, rfl, _⟩
        exact ⟨_, rfl, rfl, s, y, rfl⟩
    · rintro ρ1 L2 ⟨rfl, s, x, rfl⟩
      have : (L2.take L2.length).all (MO.below L2.length) = true := by rw [take_len]; exact hL
      simp [fin_new (L := L2) this]
      exact ⟨ns, 0, 0, 0, s, Int.le_refl 0, rfl⟩
  obtain ⟨_, ⟨p, hp, rfl⟩, e⟩ := Out.sat_run key
  exact ⟨p, hp, e⟩
end
end S
set_option Elab.async false
set_option linter.all false
set_option maxRecDepth 100000
set_option maxHeartbeats 4000000
namespace S
open PySem PySem.Spec L2 Ev

/-! ## expressions: what is one -/
structure Exp (P : Prog) : Prop where
  whole : P "basics.is_whole" = some F.f_basics_is_whole
  from_ : P "basics.is_from" = some F.f_basics_is_from
  shape : P "expressions.has_shape" = some F.f_expressions_has_shape
  isx : P "expressions.is_expression" = some F.f_expressions_is_expression
structure ExpL (P : Prog) : Prop where
  num : P "_law_is_number" = some F.f__law_is_number
  shape : P "_law_shape" = some F.f__law_shape
  isx : P "_law_is_expression" = some F.f__law_is_expression
def five : List Str := ["plus", "minus", "times", "less", "same"]
def shp (names : Int) : Nat → D → Bool
  | d + 1, .tup [.str w, x] => if w = "number" then inR 0 999 x else if w = "name" then inR 0 (names - 1) x else if w = "not" then shp names d x else false
  | d + 1, .tup [.str w, x, y] => !decide (w = "number") && !decide (w = "name") && !decide (w = "not") && decide (w ∈ five) && shp names d x && shp names d y
  | _, _ => false
section
variable {P : Prog} {n : Nat} {L : List MO}
theorem whole_ok (c : Exp P) (hn : 1 ≤ n) (hw : Wf L) (x : D) : run P n "basics.is_whole" [.d x] L = .ok (.d (.bl (isI x))) L := by
  obtain ⟨n, rfl⟩ : ∃ m, n = m + 1 := ⟨n - 1, by omega⟩
  refine run_pure c.whole rfl hw (by simp) ?_
  simp only [F.f_basics_is_whole]
  cases x <;> simp [isT, tyName, isI]
theorem from_ok (c : Exp P) (hn : 2 ≤ n) (hw : Wf L) (x : D) (lo hi : Int) : run P n "basics.is_from" [.d x, .d (.int lo), .d (.int hi)] L = .ok (.d (.bl (inR lo hi x))) L := by
  obtain ⟨n, rfl⟩ : ∃ m, n = m + 1 := ⟨n - 1, by omega⟩
  refine run_pure c.from_ rfl hw (by simp) ?_
  have e := whole_ok (n := n) c (by omega) hw x
  simp only [F.f_basics_is_from]
  cases x with
  | int i =>
    simp [e, isI, inR]
    by_cases h : lo ≤ i <;> simp [h]
  | _ => simp [e, isI, inR]
theorem num_ok (c : Com P) (c2 : ExpL P) (hn : 2 ≤ n) (hw : Wf L) (x : D) (lo hi : Int) : run P n "_law_is_number" [.d x, .d (.int lo), .d (.int hi)] L = .ok (.d (.bl (inR lo hi x))) L := by
  obtain ⟨n, rfl⟩ : ∃ m, n = m + 1 := ⟨n - 1, by omega⟩
  refine run_pure c2.num rfl hw (by simp) ?_
  have e := int_ok (n := n) c (by omega) hw x
  simp only [F.f__law_is_number]
  cases x with
  | int i =>
    simp [e, isI, inR]
    by_cases h : lo ≤ i <;> simp [h]
  | _ => simp [e, isI, inR]
theorem cIn_strs {w : Str} {ws : List Str} {neg : Bool} : cIn neg (.d (.str w)) (.d (.tup (ws.map .str))) L = some (.d (.bl (if neg then !decide (w ∈ ws) else decide (w ∈ ws)))) := by
  have h1 : (ws.map D.str).all flat = true := by simp [flat]
  have h2 : ((ws.map D.str).any fun y => eqFlat y (.str w)) = decide (w ∈ ws) := by
    rw [Bool.eq_iff_iff]
    simp [eqFlat]
  show (inD (.str w) (ws.map D.str)).map _ = _
  unfold inD
  rw [if_pos ⟨rfl, h1⟩, h2]
  rfl
theorem shape_ok (c : Exp P) (names : Int) : ∀ (d : Nat) (n : Nat) (L : List MO), d + 3 ≤ n → Wf L → ∀ v : D, run P n "expressions.has_shape" [.d v, .d (.int names), .d (.int d)] L = .ok (.d (.bl (shp names d v))) L := fun d => by
  have cin : ∀ (w : Str) (L : List MO), cIn true (.d (.str w)) (.d (.tup [.str "plus", .str "minus", .str "times", .str "less", .str "same"])) L = some (.d (.bl (!decide (w ∈ five)))) := fun w L => cIn_strs (ws := five) (neg := true)
  induction d with
  | zero =>
    intro n L hn hw v
    obtain ⟨n, rfl⟩ : ∃ m, n = m + 1 := ⟨n - 1, by omega⟩
    refine run_pure c.shape rfl hw (by simp) ?_
    simp only [F.f_expressions_has_shape]
    cases v with
    | tup xs =>
      cases xs with
      | nil => simp [isT, tyName, shp, take_len]
      | cons x r => cases x <;> simp [isT, tyName, shp, take_len]
    | _ => simp [isT, tyName, shp, take_len]
  | succ d ih =>
    intro n L hn hw v
    obtain ⟨n, rfl⟩ : ∃ m, n = m + 1 := ⟨n - 1, by omega⟩
    refine run_pure c.shape rfl hw (by simp) ?_
    have ih' := fun v => ih n L (by omega) hw v
    have fr := fun x lo hi => from_ok (n := n) c (by omega) hw x lo hi
    have ed : ((d : Int) + 1 == 0) = false := by simpa using (by omega : (d : Int) + 1 ≠ 0)
    have ed2 : (d : Int) + 1 - 1 = d := by omega
    simp only [F.f_expressions_has_shape]
    cases v with
    | tup xs =>
      cases xs with
      | nil => simp [isT, tyName, shp, take_len]
      | cons x r =>
        cases x with
        | str w =>
          have e0 : ((r.length : Int) + 1 == 0) = false := by simpa using (by omega : (r.length : Int) + 1 ≠ 0)
          have e1 : (d : Int) + 1 ≠ 0 := by omega
          match r with
          | [] =>
            by_cases h1 : w = "number"
            · simp [isT, tyName, shp, take_len, h1, e1]
            by_cases h2 : w = "name"
            · simp [isT, tyName, shp, take_len, h2, e1]
            by_cases h3 : w = "not"
            · simp [isT, tyName, shp, take_len, h3, e1]
            by_cases h4 : w ∈ five
            · simp [isT, tyName, shp, take_len, h1, h2, h3, h4, e1, cin]
            · simp [isT, tyName, shp, take_len, h1, h2, h3, h4, e1, cin]
          | [y] =>
            by_cases h1 : w = "number"
            · simp [isT, tyName, shp, take_len, h1, e1, fr]
            by_cases h2 : w = "name"
            · simp [isT, tyName, shp, take_len, h2, e1, fr]
            by_cases h3 : w = "not"
            · simp [isT, tyName, shp, take_len, h3, e1, ed2, ih']
            by_cases h4 : w ∈ five
            · simp [isT, tyName, shp, take_len, h1, h2, h3, h4, e1, cin]
            · simp [isT, tyName, shp, take_len, h1, h2, h3, h4, e1, cin]
          | [y, z] =>
            by_cases h1 : w = "number"
            · simp [isT, tyName, shp, take_len, h1, e1, fr]
            by_cases h2 : w = "name"
            · simp [isT, tyName, shp, take_len, h2, e1, fr]
            by_cases h3 : w = "not"
            · simp [isT, tyName, shp, take_len, h3, e1, ed2, ih']
            by_cases h4 : w ∈ five
            · cases hy : shp names d y <;> simp [isT, tyName, shp, take_len, h1, h2, h3, h4, e1, cin, ih', ed2, hy]
            · simp [isT, tyName, shp, take_len, h1, h2, h3, h4, e1, cin]
          | y :: z :: u :: r =>
            have l1 : ((r.length : Int) + 1 + 1 + 1 + 1 == 2) = false := by simpa using (by omega : (r.length : Int) + 1 + 1 + 1 + 1 ≠ 2)
            have l2 : (r.length : Int) + 1 + 1 + 1 + 1 ≠ 2 := by omega
            have l3 : (r.length : Int) + 1 + 1 + 1 + 1 ≠ 3 := by omega
            have l4 : (r.length : Int) + 1 + 1 + 1 + 1 ≠ 0 := by omega
            by_cases h1 : w = "number"
            · simp [isT, tyName, shp, take_len, h1, e1, l2, l4]
            by_cases h2 : w = "name"
            · simp [isT, tyName, shp, take_len, h2, e1, l2, l4]
            by_cases h3 : w = "not"
            · simp [isT, tyName, shp, take_len, h3, e1, l2, l4]
            by_cases h4 : w ∈ five
            · simp [isT, tyName, shp, take_len, h1, h2, h3, h4, e1, cin, l3, l4]
            · simp [isT, tyName, shp, take_len, h1, h2, h3, h4, e1, cin, l3, l4]
        | _ => simp [isT, tyName, shp, take_len]
    | _ => simp [isT, tyName, shp, take_len]
theorem shapeL_ok (c0 : Com P) (c : ExpL P) (names : Int) : ∀ (d : Nat) (n : Nat) (L : List MO), d + 3 ≤ n → Wf L → ∀ v : D, run P n "_law_shape" [.d v, .d (.int names), .d (.int d)] L = .ok (.d (.bl (shp names d v))) L := fun d => by
  have cin : ∀ (w : Str) (L : List MO), cIn false (.d (.str w)) (.d (.tup [.str "plus", .str "minus", .str "times", .str "less", .str "same"])) L = some (.d (.bl (decide (w ∈ five)))) := fun w L => cIn_strs (ws := five) (neg := false)
  induction d with
  | zero =>
    intro n L hn hw v
    obtain ⟨n, rfl⟩ : ∃ m, n = m + 1 := ⟨n - 1, by omega⟩
    refine run_pure c.shape rfl hw (by simp) ?_
    simp only [F.f__law_shape]
    cases v with
    | tup xs =>
      cases xs with
      | nil => simp [isT, tyName, shp, take_len]
      | cons x r => cases x <;> simp [isT, tyName, shp, take_len]
    | _ => simp [isT, tyName, shp, take_len]
  | succ d ih =>
    intro n L hn hw v
    obtain ⟨n, rfl⟩ : ∃ m, n = m + 1 := ⟨n - 1, by omega⟩
    refine run_pure c.shape rfl hw (by simp) ?_
    have ih' := fun v => ih n L (by omega) hw v
    have fr := fun x lo hi => num_ok (n := n) c0 c (by omega) hw x lo hi
    have ed : ((d : Int) + 1 == 0) = false := by simpa using (by omega : (d : Int) + 1 ≠ 0)
    have ed2 : (d : Int) + 1 - 1 = d := by omega
    simp only [F.f__law_shape]
    cases v with
    | tup xs =>
      cases xs with
      | nil => simp [isT, tyName, shp, take_len]
      | cons x r =>
        cases x with
        | str w =>
          have e0 : ((r.length : Int) + 1 == 0) = false := by simpa using (by omega : (r.length : Int) + 1 ≠ 0)
          have e1 : (d : Int) + 1 ≠ 0 := by omega
          match r with
          | [] =>
            by_cases h1 : w = "number"
            · simp [isT, tyName, shp, take_len, h1, e1]
            by_cases h2 : w = "name"
            · simp [isT, tyName, shp, take_len, h2, e1]
            by_cases h3 : w = "not"
            · simp [isT, tyName, shp, take_len, h3, e1]
            by_cases h4 : w ∈ five
            · simp [isT, tyName, shp, take_len, h1, h2, h3, h4, e1, cin]
            · simp [isT, tyName, shp, take_len, h1, h2, h3, h4, e1, cin]
          | [y] =>
            by_cases h1 : w = "number"
            · simp [isT, tyName, shp, take_len, h1, e1, fr]
            by_cases h2 : w = "name"
            · simp [isT, tyName, shp, take_len, h2, e1, fr]
            by_cases h3 : w = "not"
            · simp [isT, tyName, shp, take_len, h3, e1, ed2, ih']
            by_cases h4 : w ∈ five
            · simp [isT, tyName, shp, take_len, h1, h2, h3, h4, e1, cin]
            · simp [isT, tyName, shp, take_len, h1, h2, h3, h4, e1, cin]
          | [y, z] =>
            by_cases h1 : w = "number"
            · simp [isT, tyName, shp, take_len, h1, e1, fr]
            by_cases h2 : w = "name"
            · simp [isT, tyName, shp, take_len, h2, e1, fr]
            by_cases h3 : w = "not"
            · simp [isT, tyName, shp, take_len, h3, e1, ed2, ih']
            by_cases h4 : w ∈ five
            · cases hy : shp names d y <;> simp [isT, tyName, shp, take_len, h1, h2, h3, h4, e1, cin, ih', ed2, hy]
            · simp [isT, tyName, shp, take_len, h1, h2, h3, h4, e1, cin]
          | y :: z :: u :: r =>
            have l1 : ((r.length : Int) + 1 + 1 + 1 + 1 == 2) = false := by simpa using (by omega : (r.length : Int) + 1 + 1 + 1 + 1 ≠ 2)
            have l2 : (r.length : Int) + 1 + 1 + 1 + 1 ≠ 2 := by omega
            have l3 : (r.length : Int) + 1 + 1 + 1 + 1 ≠ 3 := by omega
            have l4 : (r.length : Int) + 1 + 1 + 1 + 1 ≠ 0 := by omega
            by_cases h1 : w = "number"
            · simp [isT, tyName, shp, take_len, h1, e1, l2, l4]
            by_cases h2 : w = "name"
            · simp [isT, tyName, shp, take_len, h2, e1, l2, l4]
            by_cases h3 : w = "not"
            · simp [isT, tyName, shp, take_len, h3, e1, l2, l4]
            by_cases h4 : w ∈ five
            · simp [isT, tyName, shp, take_len, h1, h2, h3, h4, e1, cin, l3, l4]
            · simp [isT, tyName, shp, take_len, h1, h2, h3, h4, e1, cin, l3, l4]
        | _ => simp [isT, tyName, shp, take_len]
    | _ => simp [isT, tyName, shp, take_len]
theorem isx_ok (c : Exp P) (hn : 70 ≤ n) (hw : Wf L) (v : D) : run P n "expressions.is_expression" [.d v] L = .ok (.d (.bl (shp 4 60 v))) L := by
  obtain ⟨n, rfl⟩ : ∃ m, n = m + 1 := ⟨n - 1, by omega⟩
  refine run_pure c.isx rfl hw (by simp) ?_
  have e := shape_ok (P := P) c 4 60 n L (by omega) hw v
  simp only [F.f_expressions_is_expression]
  have e' : run P n "expressions.has_shape" [.d v, .d (.int 4), .d (.int 60)] L = .ok (.d (.bl (shp 4 60 v))) L := e
  simp [e', take_len]
theorem isxL_ok (c0 : Com P) (c : ExpL P) (hn : 70 ≤ n) (hw : Wf L) (v : D) : run P n "_law_is_expression" [.d v] L = .ok (.d (.bl (shp 4 60 v))) L := by
  obtain ⟨n, rfl⟩ : ∃ m, n = m + 1 := ⟨n - 1, by omega⟩
  refine run_pure c.isx rfl hw (by simp) ?_
  have e := shapeL_ok (P := P) c0 c 4 60 n L (by omega) hw v
  simp only [F.f__law_is_expression]
  have e' : run P n "_law_shape" [.d v, .d (.int 4), .d (.int 60)] L = .ok (.d (.bl (shp 4 60 v))) L := e
  simp [e', take_len]
end
end S
set_option Elab.async false
set_option linter.all false
set_option maxRecDepth 100000
set_option maxHeartbeats 4000000
namespace S
open PySem PySem.Spec L2 Ev

/-! ## drawn data: only that it comes to something -/
structure Pik (P : Prog) : Prop where
  pick : P "_law_pick" = some F.f__law_pick
structure Dra (P : Prog) : Prop extends Pik P where
  bent : P "_law_bent" = some F.f__law_bent
  booled : P "_law_booled" = some F.f__law_booled
  listed : P "_law_listed" = some F.f__law_listed
  swapped : P "_law_swapped" = some F.f__law_swapped
  changed : P "_law_changed" = some F.f__law_changed
  odd : P "_law_odd_values" = some F.f__law_odd_values
theorem seq_cut2 {C : Calls} {ρ : Rho} {L : List MO} {m n : MS} {Q : Fl × Rho → List MO → Prop} (R : Rho → List MO → Prop) (h : (m C ρ L).sat fun r L1 => (∃ ρ1, r = (.next, ρ1) ∧ R ρ1 L1) ∨ ∃ v ρ1, r = (.ret v, ρ1) ∧ Q (.ret v, ρ1) L1) (q : ∀ ρ1 L1, R ρ1 L1 → (n C ρ1 L1).sat Q) : (mSeq m n C ρ L).sat Q := by
  rw [sat_mSeq]
  refine Out.sat_mono h fun r L1 h => ?_
  rcases h with ⟨ρ1, e, hR⟩ | ⟨v, ρ1, e, hR⟩
  · rw [e, flSat_next]
    exact q ρ1 L1 hR
  · rw [e, flSat_ret]
    exact hR
theorem optAt {xs : List D} {k : Int} {Q : Val → Prop} (h0 : 0 ≤ k) (h1 : k < xs.length) (q : ∀ x ∈ xs, Q (.d x)) : optSat ((atI xs k).map .d) Q := by
  obtain ⟨x, e, hm, _⟩ := atI_lt h0 h1
  rw [e]
  exact q x hm
theorem cutD_len {xs : List D} {lo hi : Option Int} : (cutD xs lo hi).length ≤ xs.length := by
  unfold cutD
  rw [List.length_take, List.length_drop]
  omega
theorem size_eq : sizeLine = 16777216 := by decide
/-- the store at the end: the pool went on, what was made here is gone -/
theorem fin_pool {h : Nat} {L L2 ex : List MO} {v : Val} {Q : Val → List MO → Prop} (hp : HasPool h L2) (hs : Stp h L L2) (hv : ∀ k, v ≠ .h k) (q : Q v L2) : (fin L.length v (L2 ++ ex)).sat Q := by
  have et : (L2 ++ ex).take L.length = L2 := by rw [← hs.len, List.take_append_of_le_length (Nat.le_refl _), List.take_length]
  have hb : ((L2 ++ ex).take L.length).all (MO.below L.length) = true := by rw [et, ← hs.len]; exact hp.1
  cases v with
  | d x => rw [fin_d (L := L) hb, et]; exact q
  | new xs => rw [fin_new (L := L) hb, et]; exact q
  | h k => exact (hv k rfl).elim
theorem fin_pool0 {h : Nat} {L L2 : List MO} {v : Val} {Q : Val → List MO → Prop} (hp : HasPool h L2) (hs : Stp h L L2) (hv : ∀ k, v ≠ .h k) (q : Q v L2) : (fin L.length v L2).sat Q := by
  have := fin_pool (ex := []) hp hs hv q
  rwa [List.append_nil] at this
/-- comes to data, the pool goes on -/
def Res (h : Nat) (L : List MO) (z : Val) (L' : List MO) : Prop := (∃ d, fz z = .d d ∧ Sm d) ∧ HasPool h L' ∧ Stp h L L'
theorem Res.fin {h : Nat} {L L2 : List MO} {v : Val} {d : D} (hp : HasPool h L2) (hs : Stp h L L2) (e : fz v = .d d) (sd : Sm d) : (fin L.length v L2).sat (Res h L) :=
  fin_pool0 hp hs (fun k z => by rw [z] at e; cases e) ⟨⟨d, e, sd⟩, hp, hs⟩
theorem Res.fin2 {h : Nat} {L L2 ex : List MO} {v : Val} {d : D} (hp : HasPool h L2) (hs : Stp h L L2) (e : fz v = .d d) (sd : Sm d) : (Ev.fin L.length v (L2 ++ ex)).sat (Res h L) :=
  fin_pool hp hs (fun k z => by rw [z] at e; cases e) ⟨⟨d, e, sd⟩, hp, hs⟩
theorem odd_sm {x : D} (h : x ∈ [D.str "x", .bl true, .tup [], .int 0, .int (-1), .non, .bl false, .lst [], .str "in", .int 1]) : Sm x := by
  have h1 : smBs [D.str "x", .bl true, .tup [], .int 0, .int (-1), .non, .bl false, .lst [], .str "in", .int 1] = true := by decide +kernel
  exact smBs_iff.mp h1 x h
theorem Sm.cut {xs : List D} (h : Sm (.tup xs)) {lo hi : Option Int} {x : D} (q : x ∈ cutD xs lo hi) : Sm x := h.of_tup.2 x (cutD_mem q)
section
variable {P : Prog} {n : Nat} {h : Nat} {L : List MO}
theorem draw_to (c : Com P) (hn : 2 ≤ n) (hp : HasPool h L) {many : Int} {Q : Val → List MO → Prop} (h0 : 0 < many) (h1 : many < 1073741824) (q : ∀ (k : Int) L', 0 ≤ k → k < many → HasPool h L' → Stp h L L' → Q (.d (.int k)) L') : (run P n "_law_draw" [.h h, .d (.int many)] L).sat Q :=
  Out.sat_mono (draw_ok c.draw c.spread hn hp h0 h1) fun v L' ⟨k, e, k0, k1, st⟩ => by rw [e]; exact q k L' k0 k1 (hp.step st) st
theorem pick_to (c : Com P) (a : Pik P) (hn : 3 ≤ n) (hp : HasPool h L) {xs : List D} (h0 : xs ≠ []) (h1 : xs.length < 1073741824) {x : D} (hx : x = .lst xs ∨ x = .tup xs) {Q : Val → List MO → Prop} (q : ∀ d ∈ xs, ∀ L', HasPool h L' → Stp h L L' → Q (.d d) L') : (run P n "_law_pick" [.h h, .d x] L).sat Q := by
  obtain ⟨n, rfl⟩ : ∃ m, n = m + 1 := ⟨n - 1, by omega⟩
  refine run_sat a.pick rfl ?_
  simp only [F.f__law_pick]
  have hl : 0 < xs.length := List.length_pos_iff.mpr h0
  rcases hx with rfl | rfl
  all_goals
    simp
    refine draw_to c (by omega) hp (by omega) (by omega) fun k L' k0 k1 hp' st => ?_
    simp
    refine optAt k0 k1 fun x hx => ?_
    exact fin_pool0 hp' st (by simp) (q x hx L' hp' st)
theorem bent_leaf (c : Com P) (a : Dra P) (hn : 3 ≤ n) (hp : HasPool h L) {v : D} (hv : ∀ xs, v ≠ .tup xs) (hs : ∀ x, v = .str x → x.length ≤ 1000000) (sv : Sm v) : (run P n "_law_bent" [.h h, .d v] L).sat (Res h L) := by
  obtain ⟨n, rfl⟩ : ∃ m, n = m + 1 := ⟨n - 1, by omega⟩
  refine run_sat a.bent rfl ?_
  simp only [F.f__law_bent]
  have sz := size_eq
  have tt : isT (tyName v) "tuple" = false := by cases v <;> first | rfl | exact (hv _ rfl).elim
  refine seq_cut2 (fun ρ1 L1 => ρ1 = [some (.h h), some (.d v), none, none, none, none] ∧ L1 = L) (by simp [tt]) ?_
  rintro ρ1 L1 ⟨rfl, rfl⟩
  refine seq_cut2 (fun ρ1 L2 => (∃ k : Int, ρ1 = [some (.h h), some (.d v), none, some (.d (.int k)), none, none]) ∧ HasPool h L2 ∧ Stp h L1 L2) ?_ ?_
  · simp
    exact draw_to c (by omega) hp (by omega) (by omega) fun k L' k0 k1 hp' st => ⟨⟨k, rfl⟩, hp', st⟩
  rintro ρ1 L2 ⟨⟨k, rfl⟩, hp2, st2⟩
  refine seq_cut2 (fun ρ1 L2 => (∃ k : Int, ρ1 = [some (.h h), some (.d v), none, some (.d (.int k)), none, none]) ∧ HasPool h L2 ∧ Stp h L1 L2) ?_ ?_
  · simp
    split
    · refine draw_to c (by omega) hp2 (by omega) (by omega) fun k L' k0 k1 hp' st => ?_
      refine optAt k0 (by simpa using k1) fun x hx => ?_
      exact Res.fin hp' (st2.trans st) rfl (odd_sm hx)
    · exact ⟨hp2, st2⟩
  rintro ρ1 L3 ⟨⟨k, rfl⟩, hp3, st3⟩
  refine seq_cut2 (fun ρ1 L4 => isI v = false ∧ ρ1 = [some (.h h), some (.d v), none, some (.d (.int k)), none, none] ∧ L4 = L3) ?_ ?_
  · have e := int_ok (n := n) c (by omega) hp3.1 v
    simp [e]
    cases v with
    | int i =>
      simp [isI]
      refine draw_to c (by omega) hp3 (by omega) (by omega) fun k L' k0 k1 hp' st => ?_
      refine optAt k0 (by simpa using k1) fun x hx => ?_
      have hi : ∃ j, x = .int j := by
        simp at hx
        rcases hx with rfl | rfl | rfl | rfl <;> exact ⟨_, rfl⟩
      obtain ⟨j, rfl⟩ := hi
      simp
      exact Res.fin hp' (st3.trans st) rfl rfl
    | _ => simp [isI]
  rintro ρ1 L4 ⟨hi, rfl, rfl⟩
  refine seq_cut2 (fun ρ1 L5 => ρ1 = [some (.h h), some (.d v), none, some (.d (.int k)), none, none] ∧ L5 = L4) ?_ ?_
  · cases v with
    | str x =>
      have hx := hs x rfl
      have l1 : ("a" : Str).length = 1 := rfl
      have l2 : ("A" : Str).length = 1 := rfl
      have l3 : (" " : Str).length = 1 := rfl
      have b1 : x.length + 1 ≤ 16777216 := by omega
      have b3 : x.length ≤ 16777215 := by omega
      have b2 : x.length ≤ 16777216 := by omega
      simp [isT, tyName, l1, l2, l3, b1, b2, b3]
      refine draw_to c (by omega) hp3 (by omega) (by omega) fun k L' k0 k1 hp' st => ?_
      refine optAt k0 (by simpa using k1) fun x hx => ?_
      exact Res.fin hp' (st3.trans st) rfl (by simp at hx; rcases hx with rfl | rfl | rfl | rfl | rfl <;> rfl)
    | _ => simp [isT, tyName]
  rintro ρ1 L5 ⟨rfl, rfl⟩
  refine seq_cut2 (fun ρ1 L5 => False) ?_ fun _ _ h => h.elim
  simp [tt]
  split
  · exact Res.fin hp3 st3 rfl (.tup (by simp) (by simp; exact ⟨sv, rfl⟩))
  · exact Res.fin hp3 st3 rfl rfl
theorem bent_tup (c : Com P) (a : Dra P) {m : Nat} {xs : List D} (sx : Sm (.tup xs)) (hl : xs.length ≤ 1000000) (ih : ∀ x ∈ xs, ∀ (n : Nat) (L : List MO), m + 3 ≤ n → HasPool h L → (run P n "_law_bent" [.h h, .d x] L).sat (Res h L)) (hn : m + 4 ≤ n) (hp : HasPool h L) :
    (run P n "_law_bent" [.h h, .d (.tup xs)] L).sat (Res h L) := by
  obtain ⟨n, rfl⟩ : ∃ m, n = m + 1 := ⟨n - 1, by omega⟩
  refine run_sat a.bent rfl ?_
  simp only [F.f__law_bent]
  have sz := size_eq
  have cl : ∀ lo hi, (cutD xs lo hi).length ≤ 1000000 := fun lo hi => Nat.le_trans cutD_len hl
  refine seq_cut2 (fun ρ1 L1 => ρ1 = [some (.h h), some (.d (.tup xs)), none, none, none, none] ∧ HasPool h L1 ∧ Stp h L L1) ?_ ?_
  · simp [isT, tyName]
    split
    · refine draw_to c (by omega) hp (by omega) (by omega) fun k L1 k0 k1 hp1 st1 => ?_
      simp
      split
      · refine draw_to c (by omega) hp1 (by omega) (by omega) fun k L2 k0 k1 hp2 st2 => ?_
        simp
        refine optAt k0 (by simpa using k1) fun x hx => ?_
        refine Out.sat_mono (ih x hx n L2 (by omega) hp2) fun z L3 ⟨⟨d, e, sd⟩, hp3, st3⟩ => ?_
        simp [e]
        have q1 := cl none (some k)
        have q2 := cl (some (k + 1)) none
        refine ⟨by omega, by omega, ?_⟩
        exact Res.fin hp3 ((st1.trans st2).trans st3) rfl (.tup (by simp; omega) (smBs_append (fun x q => sx.cut q) (smBs_append (fun x q => by rw [List.mem_singleton.mp q]; exact sd) fun x q => sx.cut q)))
      · exact ⟨hp1, st1⟩
    · exact ⟨hp, Stp.refl hp⟩
  rintro ρ1 L1 ⟨rfl, hp1, st1⟩
  refine seq_cut2 (fun ρ1 L2 => (∃ k : Int, ρ1 = [some (.h h), some (.d (.tup xs)), none, some (.d (.int k)), none, none]) ∧ HasPool h L2 ∧ Stp h L L2) ?_ ?_
  · simp
    exact draw_to c (by omega) hp1 (by omega) (by omega) fun k L' k0 k1 hp' st => ⟨⟨k, rfl⟩, hp', st1.trans st⟩
  rintro ρ1 L2 ⟨⟨k, rfl⟩, hp2, st2⟩
  refine seq_cut2 (fun ρ1 L2 => (∃ k : Int, ρ1 = [some (.h h), some (.d (.tup xs)), none, some (.d (.int k)), none, none]) ∧ HasPool h L2 ∧ Stp h L L2) ?_ ?_
  · simp
    split
    · refine draw_to c (by omega) hp2 (by omega) (by omega) fun k L' k0 k1 hp' st => ?_
      refine optAt k0 (by simpa using k1) fun x hx => ?_
      exact Res.fin hp' (st2.trans st) rfl (odd_sm hx)
    · exact ⟨hp2, st2⟩
  rintro ρ1 L3 ⟨⟨k, rfl⟩, hp3, st3⟩
  refine seq_cut2 (fun ρ1 L4 => ρ1 = [some (.h h), some (.d (.tup xs)), none, some (.d (.int k)), none, none] ∧ L4 = L3) ?_ ?_
  · have e := int_ok (n := n) c (by omega) hp3.1 (.tup xs)
    simp [e, isI]
  rintro ρ1 L4 ⟨rfl, rfl⟩
  refine seq_cut2 (fun ρ1 L5 => ρ1 = [some (.h h), some (.d (.tup xs)), none, some (.d (.int k)), none, none] ∧ L5 = L4) ?_ ?_
  · simp [isT, tyName]
  rintro ρ1 L5 ⟨rfl, rfl⟩
  refine seq_cut2 (fun ρ1 L6 => xs ≠ [] ∧ ρ1 = [some (.h h), some (.d (.tup xs)), none, some (.d (.int k)), none, none] ∧ L6 = L5) ?_ ?_
  · simp [isT, tyName]
    split
    · exact fun _ => Res.fin hp3 st3 rfl (.tup (by simp) (by simp; exact ⟨sx, rfl⟩))
    · exact fun _ => Res.fin hp3 st3 rfl rfl
  rintro ρ1 L6 ⟨hx, rfl, rfl⟩
  have hpos : 0 < xs.length := List.length_pos_iff.mpr hx
  refine seq_cut2 (fun ρ1 L2 => (∃ i : Int, 0 ≤ i ∧ i < xs.length ∧ ρ1 = [some (.h h), some (.d (.tup xs)), some (.d (.int i)), some (.d (.int k)), none, none]) ∧ HasPool h L2 ∧ Stp h L L2) ?_ ?_
  · simp
    exact draw_to c (by omega) hp3 (by omega) (by omega) fun i L' k0 k1 hp' st => ⟨⟨i, k0, k1, rfl⟩, hp', st3.trans st⟩
  rintro ρ1 L7 ⟨⟨i, i0, i1, rfl⟩, hp7, st7⟩
  refine seq_cut2 (fun ρ1 L8 => ρ1 = [some (.h h), some (.d (.tup xs)), some (.d (.int i)), some (.d (.int k)), none, none] ∧ L8 = L7) ?_ ?_
  · simp
    have q1 := cl none (some i)
    have q2 := cl (some (i + 1)) none
    exact fun _ => ⟨by omega, Res.fin hp7 st7 rfl (.tup (by simp; omega) (smBs_append (fun x q => sx.cut q) fun x q => sx.cut q))⟩
  rintro ρ1 L8 ⟨rfl, rfl⟩
  refine seq_cut2 (fun ρ1 L9 => ρ1 = [some (.h h), some (.d (.tup xs)), some (.d (.int i)), some (.d (.int k)), none, none] ∧ L9 = L8) ?_ ?_
  · simp
    intro _
    refine optAt i0 i1 fun x hx => ?_
    have q1 := cl none (some i)
    have q2 := cl (some i) none
    simp
    refine ⟨by omega, by omega, ?_⟩
    exact Res.fin hp7 st7 rfl (.tup (by simp; omega) (smBs_append (fun x q => sx.cut q) (smBs_append (fun y q => by rw [List.mem_singleton.mp q]; exact sx.of_tup.2 x hx) fun x q => sx.cut q)))
  rintro ρ1 L9 ⟨rfl, rfl⟩
  refine seq_cut2 (fun ρ1 L10 => ρ1 = [some (.h h), some (.d (.tup xs)), some (.d (.int i)), some (.d (.int k)), none, none] ∧ L10 = L9) ?_ ?_
  · simp
    exact fun _ => Res.fin hp7 st7 rfl (.lst (by omega) sx.of_tup.2)
  rintro ρ1 L10 ⟨rfl, rfl⟩
  simp
  refine draw_to c (by omega) hp7 (by omega) (by omega) fun j L11 j0 j1 hp11 st11 => ?_
  obtain ⟨x, ex, exx, _⟩ := atI_lt i0 i1
  obtain ⟨y, ey, eyy, _⟩ := atI_lt j0 j1
  have s1 : ∀ (zs : List D) (i : Int) (d : D), 0 ≤ i → i < zs.length → setIx (.h L11.length) (.d (.int i)) (.d d) (L11 ++ [.lst zs]) = some (L11 ++ [.lst (zs.set i.toNat d)]) := fun zs i d g0 g1 => by
    rw [setIx_lh (xs := zs) (by simp)]
    simp [ixN_nat g0 g1]
  have s2 : ∀ (zs : List D), biTuple [.h L11.length] (L11 ++ [.lst zs]) = some (.d (.tup zs)) := fun zs => by
    show (match (L11 ++ [MO.lst zs])[L11.length]? with
      | some (.lst xs) => some xs
      | _ => none).map _ = _
    rw [List.getElem?_append_right (Nat.le_refl _)]
    simp
  simp [ex, ey, s1 _ _ _ i0 i1]
  rw [s1 _ _ _ j0 (by simpa using j1)]
  simp [s2]
  exact Res.fin2 hp11 (st7.trans st11) rfl (.tup (by simp; omega) fun z hz => (List.mem_or_eq_of_mem_set hz).elim (fun hz => (List.mem_or_eq_of_mem_set hz).elim (sx.of_tup.2 z) fun e => by rw [e]; exact sx.of_tup.2 y eyy) fun e => by rw [e]; exact sx.of_tup.2 x exx)
theorem bent_ok (c : Com P) (a : Dra P) {w m : Nat} (hw : w ≤ 1000000) {v : D} (hv : Dt w m v) : ∀ (n : Nat) (L : List MO), m + 3 ≤ n → HasPool h L → (run P n "_law_bent" [.h h, .d v] L).sat (Res h L) := by
  induction hv with
  | tup hl hx ih => exact fun n L hn hp => bent_tup c a (Dt.sm hw (.tup hl hx)) (by omega) ih (by omega) hp
  | str hl => exact fun n L hn hp => bent_leaf c a (by omega) hp (by simp) (fun x e => by cases e; omega) rfl
  | lst hl hx => exact fun n L hn hp => bent_leaf c a (by omega) hp (by simp) (by simp) (Dt.sm hw (.lst hl hx))
  | _ => exact fun n L hn hp => bent_leaf c a (by omega) hp (by simp) (by simp) rfl
end
end S
set_option Elab.async false
set_option linter.all false
set_option maxRecDepth 100000
set_option maxHeartbeats 4000000
namespace S
open PySem PySem.Spec L2 Ev
section
variable {P : Prog} {n : Nat} {h : Nat} {L : List MO}
theorem set_end {L11 : List MO} {zs : List D} {i : Int} {d : D} (g0 : 0 ≤ i) (g1 : i < zs.length) : setIx (.h L11.length) (.d (.int i)) (.d d) (L11 ++ [.lst zs]) = some (L11 ++ [.lst (zs.set i.toNat d)]) := by
  rw [setIx_lh (xs := zs) (by simp)]
  simp [ixN_nat g0 g1]
theorem ix_end {L11 : List MO} {zs : List D} {i : Int} : bIx (.h L11.length) (.d (.int i)) (L11 ++ [.lst zs]) = (atI zs i).map .d := by
  exact bIx_lh (by simp)
theorem tup_end {L11 : List MO} {zs : List D} : biTuple [.h L11.length] (L11 ++ [.lst zs]) = some (.d (.tup zs)) := by
  show (match (L11 ++ [MO.lst zs])[L11.length]? with
    | some (.lst xs) => some xs
    | _ => none).map _ = _
  rw [List.getElem?_append_right (Nat.le_refl _)]
  simp
theorem swapped_no (c : Com P) (a : Dra P) (hn : 3 ≤ n) (hp : HasPool h L) {v : D} (hv : (∀ xs, v ≠ .tup xs) ∨ v = .tup []) (sv : Sm v) : (run P n "_law_swapped" [.h h, .d v] L).sat (Res h L) := by
  obtain ⟨n, rfl⟩ : ∃ m, n = m + 1 := ⟨n - 1, by omega⟩
  refine run_sat a.swapped rfl ?_
  simp only [F.f__law_swapped]
  refine seq_cut2 (fun ρ1 L1 => False) ?_ fun _ _ h => h.elim
  rcases hv with hv | rfl
  · have tt : isT (tyName v) "tuple" = false := by cases v <;> first | rfl | exact (hv _ rfl).elim
    simp [tt]
    exact Res.fin hp (Stp.refl hp) rfl sv
  · simp [isT, tyName]
    exact Res.fin hp (Stp.refl hp) rfl sv
theorem swapped_tup (c : Com P) (a : Dra P) {m : Nat} {xs : List D} (sx : Sm (.tup xs)) (hx : xs ≠ []) (hl : xs.length ≤ 1000000) (ih : ∀ x ∈ xs, ∀ (n : Nat) (L : List MO), m + 3 ≤ n → HasPool h L → (run P n "_law_swapped" [.h h, .d x] L).sat (Res h L)) (hn : m + 4 ≤ n) (hp : HasPool h L) :
    (run P n "_law_swapped" [.h h, .d (.tup xs)] L).sat (Res h L) := by
  obtain ⟨n, rfl⟩ : ∃ m, n = m + 1 := ⟨n - 1, by omega⟩
  refine run_sat a.swapped rfl ?_
  simp only [F.f__law_swapped]
  have cl : ∀ lo hi, (cutD xs lo hi).length ≤ 1000000 := fun lo hi => Nat.le_trans cutD_len hl
  have hpos : 0 < xs.length := List.length_pos_iff.mpr hx
  refine seq_cut2 (fun ρ1 L1 => ρ1 = [some (.h h), some (.d (.tup xs)), none, none, none] ∧ L1 = L) (by simp [isT, tyName, hx]) ?_
  rintro ρ1 L1 ⟨rfl, rfl⟩
  refine seq_cut2 (fun ρ1 L2 => (∃ i : Int, 0 ≤ i ∧ i < xs.length ∧ ρ1 = [some (.h h), some (.d (.tup xs)), some (.d (.int i)), none, none]) ∧ HasPool h L2 ∧ Stp h L1 L2) ?_ ?_
  · simp
    exact draw_to c (by omega) hp (by omega) (by omega) fun i L' k0 k1 hp' st => ⟨⟨i, k0, k1, rfl⟩, hp', st⟩
  rintro ρ1 L2 ⟨⟨i, i0, i1, rfl⟩, hp2, st2⟩
  obtain ⟨x, ex, hxm, _⟩ := atI_lt i0 i1
  refine seq_cut2 (fun ρ1 L3 => ρ1 = [some (.h h), some (.d (.tup xs)), some (.d (.int i)), none, none] ∧ HasPool h L3 ∧ Stp h L1 L3) ?_ ?_
  · simp [ex]
    split
    · refine draw_to c (by omega) hp2 (by omega) (by omega) fun k L' k0 k1 hp' st => ?_
      simp [ex]
      split
      · refine Out.sat_mono (ih x hxm n L' (by omega) hp') fun z L3 ⟨⟨d, e, sd⟩, hp3, st3⟩ => ?_
        simp [e]
        have q1 := cl none (some i)
        have q2 := cl (some (i + 1)) none
        refine ⟨by omega, by omega, ?_⟩
        exact Res.fin hp3 ((st2.trans st).trans st3) rfl (.tup (by simp; omega) (smBs_append (fun x q => sx.cut q) (smBs_append (fun x q => by rw [List.mem_singleton.mp q]; exact sd) fun x q => sx.cut q)))
      · exact ⟨hp', st2.trans st⟩
    · exact ⟨hp2, st2⟩
  rintro ρ1 L3 ⟨rfl, hp3, st3⟩
  simp
  refine draw_to c (by omega) hp3 (by omega) (by omega) fun j L4 j0 j1 hp4 st4 => ?_
  obtain ⟨y, ey, hym, _⟩ := atI_lt j0 j1
  simp [ex, ey, ix_end, set_end i0 i1]
  rw [set_end j0 (by simpa using j1)]
  simp [tup_end]
  exact Res.fin2 hp4 (st3.trans st4) rfl (.tup (by simp; omega) fun z hz => (List.mem_or_eq_of_mem_set hz).elim (fun hz => (List.mem_or_eq_of_mem_set hz).elim (sx.of_tup.2 z) fun e => by rw [e]; exact sx.of_tup.2 y hym) fun e => by rw [e]; exact sx.of_tup.2 x hxm)
theorem swapped_ok (c : Com P) (a : Dra P) {w m : Nat} (hw : w ≤ 1000000) {v : D} (hv : Dt w m v) : ∀ (n : Nat) (L : List MO), m + 3 ≤ n → HasPool h L → (run P n "_law_swapped" [.h h, .d v] L).sat (Res h L) := by
  induction hv with
  | @tup m xs hl hxx ih =>
    intro n L hn hp
    by_cases hx : xs = []
    · exact swapped_no c a (by omega) hp (.inr (by rw [hx])) (Dt.sm hw (.tup hl hxx))
    · exact swapped_tup c a (Dt.sm hw (.tup hl hxx)) hx (by omega) ih (by omega) hp
  | @lst m xs hl hxx ih => exact fun n L hn hp => swapped_no c a (by omega) hp (.inl (by simp)) (Dt.sm hw (.lst hl hxx))
  | _ => exact fun n L hn hp => swapped_no c a (by omega) hp (.inl (by simp)) rfl
theorem changed_ok (c : Com P) (a : Dra P) {things : List D} (ht : things ≠ []) (ht2 : things.length < 1000000) (hts : ∀ t ∈ things, Sm t) {w m : Nat} (hw : w ≤ 1000000) {v : D} (hv : Dt w m v) : ∀ (n : Nat) (L : List MO), m + 4 ≤ n → HasPool h L → (run P n "_law_changed" [.h h, .d v, .d (.lst things)] L).sat (Res h L) := by
  induction hv with
  | @tup m xs hl hxx ih =>
    intro n L hn hp
    have sx : Sm (.tup xs) := Dt.sm hw (.tup hl hxx)
    obtain ⟨n, rfl⟩ : ∃ m, n = m + 1 := ⟨n - 1, by omega⟩
    refine run_sat a.changed rfl ?_
    simp only [F.f__law_changed]
    have cl : ∀ lo hi, (cutD xs lo hi).length ≤ 1000000 := fun lo hi => Nat.le_trans cutD_len (by omega)
    refine seq_cut2 (fun ρ1 L1 => xs ≠ [] ∧ ρ1 = [some (.h h), some (.d (.tup xs)), some (.d (.lst things)), none] ∧ HasPool h L1 ∧ Stp h L L1) ?_ ?_
    · simp [isT, tyName]
      by_cases hx : xs = []
      · simp [hx]
        exact pick_to c a.toPik (by omega) hp ht (by omega) (.inl rfl) fun d hd L' hp' st => Res.fin hp' st rfl (hts d hd)
      · simp [hx]
        refine draw_to c (by omega) hp (by omega) (by omega) fun k L' k0 k1 hp' st => ?_
        simp
        split
        · exact pick_to c a.toPik (by omega) hp' ht (by omega) (.inl rfl) fun d hd L2 hp2 st2 => Res.fin hp2 (st.trans st2) rfl (hts d hd)
        · exact ⟨hp', st⟩
    rintro ρ1 L1 ⟨hx, rfl, hp1, st1⟩
    have hpos : 0 < xs.length := List.length_pos_iff.mpr hx
    simp
    refine draw_to c (by omega) hp1 (by omega) (by omega) fun i L2 i0 i1 hp2 st2 => ?_
    obtain ⟨x, ex, hxm, _⟩ := atI_lt i0 i1
    simp [ex]
    refine Out.sat_mono (ih x hxm n L2 (by omega) hp2) fun z L3 ⟨⟨d, e, sd⟩, hp3, st3⟩ => ?_
    simp [e]
    have q1 := cl none (some i)
    have q2 := cl (some (i + 1)) none
    refine ⟨by omega, by omega, ?_⟩
    exact Res.fin hp3 ((st1.trans st2).trans st3) rfl (.tup (by simp; omega) (smBs_append (fun x q => sx.cut q) (smBs_append (fun x q => by rw [List.mem_singleton.mp q]; exact sd) fun x q => sx.cut q)))
  | _ =>
    intro n L hn hp
    obtain ⟨n, rfl⟩ : ∃ m, n = m + 1 := ⟨n - 1, by omega⟩
    refine run_sat a.changed rfl ?_
    simp only [F.f__law_changed]
    refine seq_cut2 (fun ρ1 L1 => False) ?_ fun _ _ h => h.elim
    simp [isT, tyName]
    exact pick_to c a.toPik (by omega) hp ht (by omega) (.inl rfl) fun d hd L' hp' st => Res.fin hp' st rfl (hts d hd)
/-- comes to data, nothing is changed -/
def Pur (L : List MO) (z : Val) (L' : List MO) : Prop := (∃ d, fz z = .d d ∧ Sm d) ∧ L' = L
theorem fin_pur {v : Val} {d : D} {Q : Val → List MO → Prop} (hw : Wf L) (e : fz v = .d d) (q : Q v L) : (fin L.length v L).sat Q := by
  have hb : (L.take L.length).all (MO.below L.length) = true := by rw [take_len]; exact hw
  cases v with
  | d x => rw [fin_d (L := L) hb, take_len]; exact q
  | new xs => rw [fin_new (L := L) hb, take_len]; exact q
  | h k => cases e
theorem booled_ok (c : Com P) (a : Dra P) {w m : Nat} (hw : w ≤ 1000000) {v : D} (hv : Dt w m v) : ∀ (n : Nat) (L : List MO), m + 3 ≤ n → Wf L → (run P n "_law_booled" [.d v] L).sat (Pur L) := by
  induction hv with
  | @tup m xs hl _ ih =>
    intro n L hn hL
    obtain ⟨n, rfl⟩ : ∃ m, n = m + 1 := ⟨n - 1, by omega⟩
    refine run_sat a.booled rfl ?_
    simp only [F.f__law_booled]
    refine seq_cut2 (fun ρ1 L1 => False) ?_ fun _ _ h => h.elim
    simp [isT, tyName]
    refine sat_mComp (fun r acc L' => L' = L ∧ (∀ y ∈ acc, Sm y) ∧ (∀ y ∈ r, y ∈ xs) ∧ acc.length + r.length = xs.length) ?_ ?_ ?_
    · simp
    · rintro y r acc L' ⟨rfl, hsm, hy, hlen⟩
      simp at hlen
      simp [wipe1]
      refine Out.sat_mono (ih y (hy y (by simp)) n _ (by omega) (Wf.snoc hL)) fun z L3 ⟨⟨d, e, sd⟩, e3⟩ => ?_
      subst e3
      refine ⟨d, e, by omega, _, rfl, rfl, rfl, ?_, fun z hz => hy z (List.mem_cons_of_mem _ hz), by omega⟩
      intro y hy2
      rcases (by simpa using hy2 : y ∈ acc ∨ y = d) with hy2 | rfl
      · exact hsm y hy2
      · exact sd
    · rintro acc L' ⟨rfl, hsm, _, hlen⟩
      refine ⟨hL, ?_⟩
      simp
      exact fin_pur (d := .tup acc) hL rfl ⟨⟨_, rfl, .tup (by simp at hlen; omega) hsm⟩, rfl⟩
  | @int m i =>
    intro n L hn hL
    obtain ⟨n, rfl⟩ : ∃ m, n = m + 1 := ⟨n - 1, by omega⟩
    refine run_sat a.booled rfl ?_
    simp only [F.f__law_booled]
    have e := int_ok (n := n) c (by omega) hL (.int i)
    have ec : cIn false (.d (.int i)) (.d (.tup [.int 0, .int 1])) L = some (.d (.bl (decide (i = 0 ∨ i = 1)))) := by
      have e0 : cIn false (.d (.int i)) (.d (.tup [.int 0, .int 1])) L = (inD (.int i) [.int 0, .int 1]).map fun k => .d (.bl (if false = true then !k else k)) := rfl
      rw [e0]
      unfold inD
      rw [if_pos ⟨rfl, rfl⟩]
      simp [eqFlat]
      rw [Bool.eq_iff_iff]
      simp only [Bool.or_eq_true, beq_iff_eq, decide_eq_true_eq]
      omega
    simp [isT, tyName, e, isI, ec]
    split
    · exact fin_pur hL rfl ⟨⟨_, rfl, rfl⟩, rfl⟩
    · exact fin_pur hL rfl ⟨⟨_, rfl, rfl⟩, rfl⟩
  | @lst m xs hl hx =>
    intro n L hn hL
    have sx : Sm (.lst xs) := Dt.sm hw (.lst hl hx)
    obtain ⟨n, rfl⟩ : ∃ m, n = m + 1 := ⟨n - 1, by omega⟩
    refine run_sat a.booled rfl ?_
    simp only [F.f__law_booled]
    have e := fun v => int_ok (n := n) c (by omega) hL v
    simp [isT, tyName, e, isI]
    exact fin_pur hL rfl ⟨⟨_, rfl, sx⟩, rfl⟩
  | @non | @bl | @str =>
    intro n L hn hL
    obtain ⟨n, rfl⟩ : ∃ m, n = m + 1 := ⟨n - 1, by omega⟩
    refine run_sat a.booled rfl ?_
    simp only [F.f__law_booled]
    have e := fun v => int_ok (n := n) c (by omega) hL v
    simp [isT, tyName, e, isI]
    exact fin_pur hL rfl ⟨⟨_, rfl, rfl⟩, rfl⟩
theorem listed_ok (a : Dra P) {w m : Nat} (hw : w ≤ 1000000) {v : D} (hv : Dt w m v) : ∀ (k n : Nat) (L : List MO), m + 3 ≤ n → Wf L → (run P n "_law_listed" [.d v, .d (.int k)] L).sat (Pur L) := by
  induction hv with
  | @tup m xs hl hxx ih =>
    intro k n L hn hL
    have sx : Sm (.tup xs) := Dt.sm hw (.tup hl hxx)
    obtain ⟨n, rfl⟩ : ∃ m, n = m + 1 := ⟨n - 1, by omega⟩
    refine run_sat a.listed rfl ?_
    simp only [F.f__law_listed]
    refine seq_cut2 (fun ρ1 L1 => ρ1 = [some (.d (.tup xs)), some (.d (.int k)), none] ∧ L1 = L) (by simp [isT, tyName]) ?_
    rintro ρ1 L1 ⟨rfl, rfl⟩
    refine seq_cut2 (fun ρ1 L2 => k ≠ 0 ∧ ρ1 = [some (.d (.tup xs)), some (.d (.int k)), none] ∧ L2 = L1) ?_ ?_
    · simp
      exact fun _ => fin_pur hL rfl ⟨⟨_, rfl, .lst sx.of_tup.1 sx.of_tup.2⟩, rfl⟩
    rintro ρ1 L2 ⟨hk, rfl, rfl⟩
    obtain ⟨k, rfl⟩ : ∃ j, k = j + 1 := ⟨k - 1, by omega⟩
    simp
    refine sat_mComp (fun r acc L' => L' = L2 ∧ (∀ y ∈ acc, Sm y) ∧ (∀ y ∈ r, y ∈ xs) ∧ acc.length + r.length = xs.length) ?_ ?_ ?_
    · simp
    · rintro y r acc L' ⟨rfl, hsm, hy, hlen⟩
      simp at hlen
      simp [wipe1]
      refine Out.sat_mono (ih y (hy y (by simp)) k n _ (by omega) (Wf.snoc hL)) fun z L3 ⟨⟨d, e, sd⟩, e3⟩ => ?_
      subst e3
      refine ⟨d, e, by omega, _, rfl, rfl, rfl, ?_, fun z hz => hy z (List.mem_cons_of_mem _ hz), by omega⟩
      intro y hy2
      rcases (by simpa using hy2 : y ∈ acc ∨ y = d) with hy2 | rfl
      · exact hsm y hy2
      · exact sd
    · rintro acc L' ⟨rfl, hsm, _, hlen⟩
      refine ⟨hL, ?_⟩
      simp
      exact fin_pur (d := .tup acc) hL rfl ⟨⟨_, rfl, .tup (by simp at hlen; omega) hsm⟩, rfl⟩
  | @lst m xs hl hx =>
    intro k n L hn hL
    have sx : Sm (.lst xs) := Dt.sm hw (.lst hl hx)
    obtain ⟨n, rfl⟩ : ∃ m, n = m + 1 := ⟨n - 1, by omega⟩
    refine run_sat a.listed rfl ?_
    simp only [F.f__law_listed]
    refine seq_cut2 (fun ρ1 L1 => False) ?_ fun _ _ h => h.elim
    simp [isT, tyName]
    exact fin_pur hL rfl ⟨⟨_, rfl, sx⟩, rfl⟩
  | _ =>
    intro k n L hn hL
    obtain ⟨n, rfl⟩ : ∃ m, n = m + 1 := ⟨n - 1, by omega⟩
    refine run_sat a.listed rfl ?_
    simp only [F.f__law_listed]
    refine seq_cut2 (fun ρ1 L1 => False) ?_ fun _ _ h => h.elim
    simp [isT, tyName]
    exact fin_pur hL rfl ⟨⟨_, rfl, rfl⟩, rfl⟩
theorem odd_ok (a : Dra P) (hn : 1 ≤ n) (hL : Wf L) : ∃ xs, xs.length < 1000 ∧ (∀ x ∈ xs, Sm x) ∧ run P n "_law_odd_values" [] L = .ok (.new xs) L := by
  obtain ⟨n, rfl⟩ : ∃ m, n = m + 1 := ⟨n - 1, by omega⟩
  have key : (run P (n + 1) "_law_odd_values" [] L).sat fun v L' => (∃ xs : List D, xs.length < 1000 ∧ (∀ x ∈ xs, Sm x) ∧ v = .new xs) ∧ L' = L := by
    refine run_sat a.odd rfl ?_
    simp only [F.f__law_odd_values]
    refine seq_cut (fun ρ1 L1 => L1 = L ∧ ∃ x, Sm x ∧ ρ1 = [some (.d x), none]) (by simp; exact rfl) ?_
    rintro ρ1 L1 ⟨rfl, x, sx, rfl⟩
    refine seq_cut (fun ρ1 L2 => L2 = L1 ∧ ∃ x y, Sm x ∧ ρ1 = [some (.d x), y]) ?_ ?_
    · refine sat_mFor (fun xs ρ L' => (∃ x y, Sm x ∧ ρ = [some (.d x), y]) ∧ L' = L1) ?_ ?_ ?_
      · simp
        exact sx
      · rintro x r ρ L2 ⟨⟨s, y, ss, rfl⟩, rfl⟩
        simp
        exact .tup (by simp) (by simp; exact ss)
      · rintro ρ L2 ⟨⟨s, y, ss, rfl⟩, rfl⟩
        simp
        exact ss
    · rintro ρ1 L2 ⟨rfl, x, y, sx, rfl⟩
      simp
      exact fin_pur hL rfl ⟨⟨_, by simp, smBs_iff.mp (by simp [smBs, smB]; exact sx), rfl⟩, rfl⟩
  obtain ⟨_, ⟨p, hp, hsm, rfl⟩, e⟩ := Out.sat_run key
  exact ⟨p, hp, hsm, e⟩
end
end S
set_option Elab.async false
set_option linter.all false
set_option maxRecDepth 100000
set_option maxHeartbeats 4000000
namespace S
open PySem PySem.Spec L2 Ev

/-! ## expressions as trees -/
inductive Ex where
  | num (i : Int) | nam (i : Int) | neg (e : Ex) | two (w : Str) (a b : Ex)
def enc : Ex → D
  | .num i => .tup [.str "number", .int i]
  | .nam i => .tup [.str "name", .int i]
  | .neg e => .tup [.str "not", enc e]
  | .two w a b => .tup [.str w, enc a, enc b]
def EOk : Nat → Ex → Prop
  | _, .num i => 0 ≤ i ∧ i ≤ 999
  | _, .nam i => 0 ≤ i ∧ i < 4
  | d + 1, .neg e => EOk d e
  | d + 1, .two w a b => w ∈ five ∧ EOk d a ∧ EOk d b
  | 0, _ => False
theorem EOk.mono : ∀ {d d' : Nat} {e : Ex}, d ≤ d' → EOk d e → EOk d' e
  | _, _, .num _, _, h => by unfold EOk at h ⊢; exact h
  | _, _, .nam _, _, h => by unfold EOk at h ⊢; exact h
  | d, d', .neg e, hd, h => by
    cases d with
    | zero => exact h.elim
    | succ d =>
      obtain ⟨d', rfl⟩ : ∃ k, d' = k + 1 := ⟨d' - 1, by omega⟩
      exact EOk.mono (e := e) (by omega) h
  | d, d', .two w a b, hd, h => by
    cases d with
    | zero => exact h.elim
    | succ d =>
      obtain ⟨d', rfl⟩ : ∃ k, d' = k + 1 := ⟨d' - 1, by omega⟩
      exact ⟨h.1, EOk.mono (by omega) h.2.1, EOk.mono (by omega) h.2.2⟩
theorem five_len {w : Str} (h : w ∈ five) : w.length ≤ 10 := by
  simp only [five, List.mem_cons, List.not_mem_nil, or_false] at h
  rcases h with rfl | rfl | rfl | rfl | rfl <;> decide
theorem five_no {w : Str} (h : w ∈ five) : w ≠ "number" ∧ w ≠ "name" ∧ w ≠ "not" := by
  simp only [five, List.mem_cons, List.not_mem_nil, or_false] at h
  rcases h with rfl | rfl | rfl | rfl | rfl <;> simp
theorem enc_dt : ∀ {d : Nat} {e : Ex}, EOk d e → Dt 10 (d + 1) (enc e)
  | d, .num i, h => .tup (by simp) (by simp; exact ⟨.str (by decide), .int⟩)
  | d, .nam i, h => .tup (by simp) (by simp; exact ⟨.str (by decide), .int⟩)
  | 0, .neg e, h => h.elim
  | 0, .two w a b, h => h.elim
  | d + 1, .neg e, h => .tup (by simp) (by simp; exact ⟨.str (by decide), enc_dt h⟩)
  | d + 1, .two w a b, h => .tup (by simp) (by simp; exact ⟨.str (five_len h.1), enc_dt h.2.1, enc_dt h.2.2⟩)
/-! ### values -/
def wk (w : Str) (x y : Int) : Int := if w = "plus" then (x + y) % 1000 else if w = "minus" then (x - y) % 1000 else if w = "times" then x * y % 1000 else if w = "less" then if x < y then 1 else 0 else if x = y then 1 else 0
def vl (st : List Int) : Ex → Int
  | .num i => i
  | .nam i => (st[i.toNat]?).getD 0
  | .neg e => if vl st e = 0 then 1 else 0
  | .two w a b => wk w (vl st a) (vl st b)
def StOk (st : List Int) : Prop := st.length = 4 ∧ ∀ x ∈ st, 0 ≤ x ∧ x ≤ 999
theorem wk_in {w : Str} {x y : Int} : 0 ≤ wk w x y ∧ wk w x y ≤ 999 := by
  unfold wk
  split
  · omega
  split
  · omega
  split
  · generalize x * y = z; omega
  split
  · split <;> omega
  · split <;> omega
theorem vl_in {st : List Int} (hs : StOk st) : ∀ {d : Nat} {e : Ex}, EOk d e → 0 ≤ vl st e ∧ vl st e ≤ 999
  | d, .num i, h => by unfold EOk at h; exact h
  | d, .nam i, h => by
    unfold EOk at h
    have hl : i.toNat < st.length := by have := hs.1; omega
    unfold vl
    rw [List.getElem?_eq_getElem hl]
    exact hs.2 _ (List.getElem_mem hl)
  | 0, .neg e, h => h.elim
  | 0, .two w a b, h => h.elim
  | d + 1, .neg e, h => by unfold vl; split <;> omega
  | d + 1, .two w a b, h => wk_in
def put (n : Int) (o : Ex) : Ex → Ex
  | .num i => .num i
  | .nam i => if i = n then o else .nam i
  | .neg e => .neg (put n o e)
  | .two w a b => .two w (put n o a) (put n o b)
theorem put_ok {n : Int} {o : Ex} {d2 : Nat} (ho : EOk d2 o) : ∀ {d : Nat} {e : Ex}, EOk d e → EOk (d + d2) (put n o e)
  | d, .num i, h => by unfold put; unfold EOk at h ⊢; exact h
  | d, .nam i, h => by
    unfold put
    split
    · exact ho.mono (by omega)
    · unfold EOk at h ⊢; exact h
  | 0, .neg e, h => h.elim
  | 0, .two w a b, h => h.elim
  | d + 1, .neg e, h => by
    have := put_ok (n := n) ho (d := d) (e := e) h
    rw [show d + 1 + d2 = (d + d2) + 1 by omega]
    exact this
  | d + 1, .two w a b, h => by
    rw [show d + 1 + d2 = (d + d2) + 1 by omega]
    exact ⟨h.1, put_ok ho h.2.1, put_ok ho h.2.2⟩
theorem vl_put {st : List Int} {n : Int} {o : Ex} (h0 : 0 ≤ n) (h1 : n < st.length) : ∀ {d : Nat} {e : Ex}, EOk d e → vl st (put n o e) = vl (st.set n.toNat (vl st o)) e
  | d, .num i, h => rfl
  | d, .nam i, h => by
    unfold EOk at h
    unfold put
    have hl : n.toNat < st.length := by omega
    split
    · rename_i e
      subst e
      show _ = ((st.set i.toNat (vl st o))[i.toNat]?).getD 0
      rw [List.getElem?_set_self hl]
      rfl
    · rename_i e
      have : n.toNat ≠ i.toNat := by omega
      show (st[i.toNat]?).getD 0 = ((st.set n.toNat (vl st o))[i.toNat]?).getD 0
      rw [List.getElem?_set_ne this]
  | 0, .neg e, h => h.elim
  | 0, .two w a b, h => h.elim
  | d + 1, .neg e, h => by
    show (if vl st (put n o e) = 0 then 1 else 0) = if vl _ e = 0 then 1 else 0
    rw [vl_put h0 h1 (d := d) (e := e) h]
  | d + 1, .two w a b, h => by
    show wk w _ _ = wk w _ _
    rw [vl_put h0 h1 h.2.1, vl_put h0 h1 h.2.2]
def sz : Ex → Int
  | .num _ => 1
  | .nam _ => 1
  | .neg e => 1 + sz e
  | .two _ a b => 1 + (sz a + sz b)
def nms : Ex → List Int
  | .num _ => []
  | .nam i => [i]
  | .neg e => setI (nms e)
  | .two _ a b => setI (nms a ++ nms b)
theorem nms_mem : ∀ {d : Nat} {e : Ex}, EOk d e → ∀ k ∈ nms e, 0 ≤ k ∧ k < 4
  | d, .num i, h => by intro k hk; simp [nms] at hk
  | d, .nam i, h => by intro k hk; unfold EOk at h; simp [nms] at hk; subst hk; exact h
  | 0, .neg e, h => h.elim
  | 0, .two w a b, h => h.elim
  | d + 1, .neg e, h => by intro k hk; unfold nms at hk; rw [setI_mem] at hk; exact nms_mem (d := d) h k hk
  | d + 1, .two w a b, h => by
    intro k hk
    unfold nms at hk
    rw [setI_mem, List.mem_append] at hk
    rcases hk with hk | hk
    · exact nms_mem h.2.1 k hk
    · exact nms_mem h.2.2 k hk
theorem strict_len : ∀ {xs : List Int} {lo : Int} {n : Nat}, xs.Pairwise (· < ·) → (∀ k ∈ xs, lo ≤ k ∧ k < lo + n) → xs.length ≤ n
  | [], _, _, _, _ => Nat.zero_le _
  | x :: xs, lo, n, h, hb => by
    rw [List.pairwise_cons] at h
    have hx := hb x (by simp)
    obtain ⟨n, rfl⟩ : ∃ k, n = k + 1 := ⟨n - 1, by omega⟩
    have := strict_len (lo := x + 1) (n := (lo + (n + 1 : Nat) - (x + 1)).toNat) h.2 fun k hk => by
      have q1 := h.1 k hk
      have q2 := hb k (List.mem_cons_of_mem _ hk)
      omega
    rw [List.length_cons]
    omega
theorem nms_sorted (e : Ex) : (nms e).Pairwise (· < ·) := by
  cases e with
  | num i => exact List.Pairwise.nil
  | nam i => exact List.pairwise_singleton _ _
  | neg e => exact setI_sorted _
  | two w a b => exact setI_sorted _
theorem nms_len {d : Nat} {e : Ex} (h : EOk d e) : (nms e).length ≤ 4 := strict_len (lo := 0) (n := 4) (nms_sorted e) fun k hk => by have := nms_mem h k hk; omega
end S
set_option Elab.async false
set_option linter.all false
set_option maxRecDepth 100000
set_option maxHeartbeats 4000000
namespace S
open PySem PySem.Spec L2 Ev
structure Vfn (P : Prog) : Prop where
  worked : P "expressions.worked" = some F.f_expressions_worked
  value : P "expressions.value_of" = some F.f_expressions_value_of
  names : P "expressions.names_in" = some F.f_expressions_names_in
  size : P "expressions.size" = some F.f_expressions_size
structure Fns (P : Prog) : Prop extends Vfn P where
  put : P "expressions.put_for" = some F.f_expressions_put_for
structure VfnL (P : Prog) : Prop where
  worked : P "_law_worked" = some F.f__law_worked
  value : P "_law_value" = some F.f__law_value
structure FnsL (P : Prog) : Prop extends VfnL P where
  names : P "_law_names" = some F.f__law_names
  put : P "_law_put" = some F.f__law_put
  size : P "_law_size" = some F.f__law_size
section
variable {P : Prog} {n : Nat} {L : List MO}
theorem worked_ok (c : Vfn P) (hn : 1 ≤ n) (hL : Wf L) {w : Str} {x y : Int} (h : 0 ≤ y ∧ y ≤ 999) : run P n "expressions.worked" [.d (.str w), .d (.int x), .d (.int y)] L = .ok (.d (.int (wk w x y))) L := by
  obtain ⟨n, rfl⟩ : ∃ m, n = m + 1 := ⟨n - 1, by omega⟩
  refine run_pure c.worked rfl hL (by simp) ?_
  simp only [F.f_expressions_worked]
  have hm : mulOk x y = true := mulOk_r (by omega)
  unfold wk
  by_cases h1 : w = "plus"
  · simp [h1, take_len]
  by_cases h2 : w = "minus"
  · simp [h2, take_len]
  by_cases h3 : w = "times"
  · simp [h3, take_len, hm]
  by_cases h4 : w = "less"
  · simp [h4, take_len]
  · simp [h1, h2, h3, h4, take_len]
theorem workedL_ok (c : VfnL P) (hn : 1 ≤ n) (hL : Wf L) {w : Str} {x y : Int} (h : 0 ≤ y ∧ y ≤ 999) : run P n "_law_worked" [.d (.str w), .d (.int x), .d (.int y)] L = .ok (.d (.int (wk w x y))) L := by
  obtain ⟨n, rfl⟩ : ∃ m, n = m + 1 := ⟨n - 1, by omega⟩
  refine run_pure c.worked rfl hL (by simp) ?_
  simp only [F.f__law_worked]
  have hm : mulOk x y = true := mulOk_r (by omega)
  unfold wk
  by_cases h1 : w = "plus"
  · simp [h1, take_len]
  by_cases h2 : w = "minus"
  · simp [h2, take_len]
  by_cases h3 : w = "times"
  · simp [h3, take_len, hm]
  by_cases h4 : w = "less"
  · simp [h4, take_len]
  · simp [h1, h2, h3, h4, take_len]
theorem at_st {st : List Int} (hs : StOk st) {i : Int} (h : 0 ≤ i ∧ i < 4) : atI (st.map D.int) i = some (.int ((st[i.toNat]?).getD 0)) := by
  have hl : i.toNat < st.length := by have := hs.1; omega
  obtain ⟨x, e, _, e2⟩ := atI_lt (xs := st.map D.int) h.1 (by have := hs.1; simp; omega)
  rw [e, ← e2, List.getElem?_map, List.getElem?_eq_getElem hl]
  rfl
theorem value_ok (c : Vfn P) {st : List Int} (hs : StOk st) : ∀ {d : Nat} {e : Ex}, EOk d e → ∀ (n : Nat) (L : List MO), d + 2 ≤ n → Wf L → run P n "expressions.value_of" [.d (enc e), .d (.tup (st.map .int))] L = .ok (.d (.int (vl st e))) L
  | d, .num i, h, n, L, hn, hL => by
    obtain ⟨n, rfl⟩ : ∃ m, n = m + 1 := ⟨n - 1, by omega⟩
    refine run_pure c.value rfl hL (by simp) ?_
    simp only [F.f_expressions_value_of]
    simp [enc, vl, take_len]
  | d, .nam i, h, n, L, hn, hL => by
    obtain ⟨n, rfl⟩ : ∃ m, n = m + 1 := ⟨n - 1, by omega⟩
    refine run_pure c.value rfl hL (by simp) ?_
    simp only [F.f_expressions_value_of]
    unfold EOk at h
    simp [enc, vl, take_len, at_st hs h]
  | 0, .neg e, h, n, L, hn, hL => h.elim
  | 0, .two w a b, h, n, L, hn, hL => h.elim
  | d + 1, .neg e, h, n, L, hn, hL => by
    obtain ⟨n, rfl⟩ : ∃ m, n = m + 1 := ⟨n - 1, by omega⟩
    have ih := value_ok c hs (d := d) (e := e) h n L (by omega) hL
    refine run_pure c.value rfl hL (by simp) ?_
    simp only [F.f_expressions_value_of]
    simp [enc, vl, take_len, ih]
  | d + 1, .two w a b, h, n, L, hn, hL => by
    obtain ⟨n, rfl⟩ : ∃ m, n = m + 1 := ⟨n - 1, by omega⟩
    have ih1 := value_ok c hs h.2.1 n L (by omega) hL
    have ih2 := value_ok c hs h.2.2 n L (by omega) hL
    have hw := worked_ok (n := n) c (by omega) hL (w := w) (x := vl st a) (vl_in hs h.2.2)
    obtain ⟨n1, n2, n3⟩ := five_no h.1
    refine run_pure c.value rfl hL (by simp) ?_
    simp only [F.f_expressions_value_of]
    simp [enc, vl, take_len, ih1, ih2, hw, n1, n2, n3]
theorem valueL_ok (c : VfnL P) {st : List Int} (hs : StOk st) : ∀ {d : Nat} {e : Ex}, EOk d e → ∀ (n : Nat) (L : List MO), d + 2 ≤ n → Wf L → run P n "_law_value" [.d (enc e), .d (.tup (st.map .int))] L = .ok (.d (.int (vl st e))) L
  | d, .num i, h, n, L, hn, hL => by
    obtain ⟨n, rfl⟩ : ∃ m, n = m + 1 := ⟨n - 1, by omega⟩
    refine run_pure c.value rfl hL (by simp) ?_
    simp only [F.f__law_value]
    simp [enc, vl, take_len]
  | d, .nam i, h, n, L, hn, hL => by
    obtain ⟨n, rfl⟩ : ∃ m, n = m + 1 := ⟨n - 1, by omega⟩
    refine run_pure c.value rfl hL (by simp) ?_
    simp only [F.f__law_value]
    unfold EOk at h
    simp [enc, vl, take_len, at_st hs h]
  | 0, .neg e, h, n, L, hn, hL => h.elim
  | 0, .two w a b, h, n, L, hn, hL => h.elim
  | d + 1, .neg e, h, n, L, hn, hL => by
    obtain ⟨n, rfl⟩ : ∃ m, n = m + 1 := ⟨n - 1, by omega⟩
    have ih := valueL_ok c hs (d := d) (e := e) h n L (by omega) hL
    refine run_pure c.value rfl hL (by simp) ?_
    simp only [F.f__law_value]
    simp [enc, vl, take_len, ih]
  | d + 1, .two w a b, h, n, L, hn, hL => by
    obtain ⟨n, rfl⟩ : ∃ m, n = m + 1 := ⟨n - 1, by omega⟩
    have ih1 := valueL_ok c hs h.2.1 n L (by omega) hL
    have ih2 := valueL_ok c hs h.2.2 n L (by omega) hL
    have hw := workedL_ok (n := n) c (by omega) hL (w := w) (x := vl st a) (vl_in hs h.2.2)
    obtain ⟨n1, n2, n3⟩ := five_no h.1
    refine run_pure c.value rfl hL (by simp) ?_
    simp only [F.f__law_value]
    simp [enc, vl, take_len, ih1, ih2, hw, n1, n2, n3]
/-! ### the parts -/
def kids : Ex → List Ex
  | .num _ => []
  | .nam _ => []
  | .neg e => [e]
  | .two _ a b => [a, b]
def hd : Ex → Str
  | .num _ => "number"
  | .nam _ => "name"
  | .neg _ => "not"
  | .two w _ _ => w
theorem cut1 {x : D} {xs : List D} : cutD (x :: xs) (some 1) none = xs := by
  simp [cutD, HT.sIx]
theorem cut01 {x : D} {xs : List D} : cutD (x :: xs) none (some 1) = [x] := by
  simp [cutD, HT.sIx]
/-- a comprehension over the parts, each told by a def that changes nothing -/
theorem comp_kids {C : Calls} {ρ : Rho} {it : MI} {vs : List Nat} {g : MG} {t : MT} {m : M} {Q : Val → List MO → Prop} {α : Type} {ks : List α} {en : α → D} {f : α → D} (hL : Wf L) (hk : ks.length ≤ 3000000)
    (start : (it C ρ L).sat fun s L1 => L1 = L ∧ s = ⟨ks.map en, none⟩)
    (step : ∀ k ∈ ks, ∀ acc, (g C (.d (en k)) (wipeR ρ vs) (L ++ [.lst acc])).sat fun ρ1 L1 => (t C ρ1 L1).sat fun b L2 => b = true ∧ (m C ρ1 L2).sat fun y L3 => fz y = .d (f k) ∧ L3 = L ++ [.lst acc])
    (done : Q (.new (ks.map f)) L) : (mComp it vs g t m C ρ L).sat Q := by
  refine sat_mComp (fun r acc L' => L' = L ∧ ∃ a b, ks = a ++ b ∧ r = b.map en ∧ acc = a.map f) ?_ ?_ ?_
  · refine Out.sat_mono start fun s L1 ⟨h1, h2⟩ => ?_
    subst h1 h2
    exact ⟨rfl, rfl, [], ks, rfl, rfl, rfl⟩
  · rintro x r acc L' ⟨rfl, a, b, e1, e2, rfl⟩
    cases b with
    | nil => cases e2
    | cons k b =>
      simp only [List.map_cons, List.cons.injEq] at e2
      obtain ⟨rfl, rfl⟩ := e2
      have hkm : k ∈ ks := by rw [e1]; simp
      have hlen : a.length < ks.length := by rw [e1]; simp
      refine Out.sat_mono (step k hkm (a.map f)) fun ρ1 L1 q => ?_
      refine Out.sat_mono q fun b' L2 ⟨hb, q⟩ => ?_
      rw [if_pos hb]
      refine Out.sat_mono q fun y L3 ⟨e3, e4⟩ => ?_
      exact ⟨f k, L', e3, by rw [sizeLine_val, List.length_map]; omega, e4, rfl, rfl, a ++ [k], b, by rw [e1]; simp, rfl, by simp⟩
  · rintro acc L' ⟨rfl, a, b, e1, e2, rfl⟩
    cases b with
    | nil =>
      rw [List.append_nil] at e1
      subst e1
      exact ⟨hL, done⟩
    | cons k b => cases e2
theorem kid_case {d : Nat} {e : Ex} (h : EOk d e) (hk : kids e ≠ []) : ∃ d', d = d' + 1 ∧ enc e = .tup (.str (hd e) :: (kids e).map enc) ∧ (∀ k ∈ kids e, EOk d' k) ∧ (kids e).length ≤ 2 ∧ hd e ≠ "number" ∧ hd e ≠ "name" ∧ sz e = 1 + ((kids e).map sz).sum ∧
    nms e = setI ((kids e).map nms).flatten ∧ ∀ n o, enc (put n o e) = .tup (.str (hd e) :: (kids e).map fun k => enc (put n o k)) := by
  cases e with
  | num i => exact (hk rfl).elim
  | nam i => exact (hk rfl).elim
  | neg e =>
    cases d with
    | zero => exact h.elim
    | succ d =>
      have h' : EOk d e := h
      exact ⟨d, rfl, rfl, by simp [kids, h'], by simp [kids], by simp [hd], by simp [hd], by simp [sz, kids], by simp [nms, kids], fun n o => rfl⟩
  | two w a b =>
    cases d with
    | zero => exact h.elim
    | succ d =>
      obtain ⟨n1, n2, n3⟩ := five_no h.1
      exact ⟨d, rfl, rfl, by simp [kids, h.2.1, h.2.2], by simp [kids], n1, n2, by simp [sz, kids], by simp [nms, kids], fun n o => rfl⟩
theorem leaf_case {e : Ex} (hk : kids e = []) : (∃ i, e = .num i) ∨ ∃ i, e = .nam i := by
  cases e with
  | num i => exact .inl ⟨i, rfl⟩
  | nam i => exact .inr ⟨i, rfl⟩
  | neg e => cases hk
  | two w a b => cases hk
theorem cin2 {a b w : Str} {neg : Bool} {L : List MO} : cIn neg (.d (.str w)) (.d (.tup [.str a, .str b])) L = some (.d (.bl (if neg then !decide (w ∈ [a, b]) else decide (w ∈ [a, b])))) := cIn_strs (ws := [a, b])
theorem size_ok (c : Vfn P) : ∀ {d : Nat} {e : Ex}, EOk d e → ∀ (n : Nat) (L : List MO), d + 1 ≤ n → Wf L → run P n "expressions.size" [.d (enc e)] L = .ok (.d (.int (sz e))) L := fun {d} => by
  induction d using Nat.strongRecOn with
  | _ d ih =>
  intro e h n L hn hL
  obtain ⟨n, rfl⟩ : ∃ m, n = m + 1 := ⟨n - 1, by omega⟩
  refine run_pure c.size rfl hL (by simp) ?_
  simp only [F.f_expressions_size]
  by_cases hk : kids e = []
  · rcases leaf_case hk with ⟨i, rfl⟩ | ⟨i, rfl⟩
    · simp [enc, sz, take_len, cin2]
    · simp [enc, sz, take_len, cin2]
  · obtain ⟨d', rfl, e1, e2, e3, e4, e5, e6, _, _⟩ := kid_case h hk
    rw [e1, e6]
    refine seq_cut (fun ρ1 L1 => ρ1 = [some (.d (.tup (.str (hd e) :: (kids e).map enc))), none] ∧ L1 = L) (by simp [cin2, e4, e5]) ?_
    rintro ρ1 L1 ⟨rfl, rfl⟩
    simp
    refine comp_kids (ks := kids e) (en := enc) (f := fun k => .int (sz k)) hL (by omega) ?_ ?_ ?_
    · simp [cut1]
    · intro k hkm acc
      have e := ih d' (by omega) (e2 k hkm) n _ (by omega) (Wf.snoc (xs := acc) hL)
      simp [wipe1, e]
    · have : (kids e).map (fun k => D.int (sz k)) = ((kids e).map sz).map .int := by simp
      simp only [fz_new, this, biSum_ints]
      simp [take_len]
theorem sizeL_ok (c : FnsL P) : ∀ {d : Nat} {e : Ex}, EOk d e → ∀ (n : Nat) (L : List MO), d + 1 ≤ n → Wf L → run P n "_law_size" [.d (enc e)] L = .ok (.d (.int (sz e))) L := fun {d} => by
  induction d using Nat.strongRecOn with
  | _ d ih =>
  intro e h n L hn hL
  obtain ⟨n, rfl⟩ : ∃ m, n = m + 1 := ⟨n - 1, by omega⟩
  refine run_pure c.size rfl hL (by simp) ?_
  simp only [F.f__law_size]
  by_cases hk : kids e = []
  · have : ∃ (w : Str) (i : Int), enc e = .tup [.str w, .int i] ∧ sz e = 1 := by
      rcases leaf_case hk with ⟨i, rfl⟩ | ⟨i, rfl⟩
      · exact ⟨_, i, rfl, rfl⟩
      · exact ⟨_, i, rfl, rfl⟩
    obtain ⟨w, i, e1, e2⟩ := this
    rw [e1, e2]
    simp
    refine sat_mComp (fun r acc L' => L' = L ∧ acc = [] ∧ ∀ y ∈ r, y = .int i) ?_ ?_ ?_
    · simp [cut1]
    · rintro y r acc L' ⟨rfl, rfl, hy⟩
      rw [hy y (by simp)]
      simp [wipe1, isT, tyName]
      exact fun y hy2 => hy y (List.mem_cons_of_mem _ hy2)
    · rintro acc L' ⟨rfl, rfl, _⟩
      refine ⟨hL, ?_⟩
      have := biSum_ints (is := []) (L := L')
      simp at this
      simp [this, take_len]
  · obtain ⟨d', rfl, e1, e2, e3, e4, e5, e6, _, _⟩ := kid_case h hk
    rw [e1, e6]
    simp
    refine comp_kids (ks := kids e) (en := enc) (f := fun k => .int (sz k)) hL (by omega) ?_ ?_ ?_
    · simp [cut1]
    · intro k hkm acc
      have e := ih d' (by omega) (e2 k hkm) n _ (by omega) (Wf.snoc (xs := acc) hL)
      have tt : isT (tyName (enc k)) "tuple" = true := by cases k <;> rfl
      simp [wipe1, e, tt]
    · have : (kids e).map (fun k => D.int (sz k)) = ((kids e).map sz).map .int := by simp
      simp only [fz_new, this, biSum_ints]
      simp [take_len]
theorem put_for_ok (c : Fns P) {m : Int} {o : Ex} : ∀ {d : Nat} {e : Ex}, EOk d e → ∀ (n : Nat) (L : List MO), d + 1 ≤ n → Wf L → run P n "expressions.put_for" [.d (enc e), .d (.int m), .d (enc o)] L = .ok (.d (enc (put m o e))) L := fun {d} => by
  induction d using Nat.strongRecOn with
  | _ d ih =>
  intro e h n L hn hL
  obtain ⟨n, rfl⟩ : ∃ m, n = m + 1 := ⟨n - 1, by omega⟩
  refine run_pure c.put rfl hL (by simp) ?_
  simp only [F.f_expressions_put_for]
  by_cases hk : kids e = []
  · rcases leaf_case hk with ⟨i, rfl⟩ | ⟨i, rfl⟩
    · simp [enc, put, take_len]
    · by_cases hi : i = m
      · simp [enc, put, take_len, hi]
      · simp [enc, put, take_len, hi]
  · obtain ⟨d', rfl, e1, e2, e3, e4, e5, _, _, e6⟩ := kid_case h hk
    rw [e1, e6]
    refine seq_cut (fun ρ1 L1 => ρ1 = [some (.d (.tup (.str (hd e) :: (kids e).map enc))), some (.d (.int m)), some (.d (enc o)), none] ∧ L1 = L) (by simp [e4, e5]) ?_
    rintro ρ1 L1 ⟨rfl, rfl⟩
    refine seq_cut (fun ρ1 L2 => ρ1 = [some (.d (.tup (.str (hd e) :: (kids e).map enc))), some (.d (.int m)), some (.d (enc o)), none] ∧ L2 = L1) (by simp [e4, e5]) ?_
    rintro ρ1 L2 ⟨rfl, rfl⟩
    simp
    refine comp_kids (ks := kids e) (en := enc) (f := fun k => enc (put m o k)) hL (by omega) ?_ ?_ ?_
    · simp [cut1]
    · intro k hkm acc
      have e := ih d' (by omega) (e2 k hkm) n _ (by omega) (Wf.snoc (xs := acc) hL)
      simp [wipe1, e]
    · simp [take_len, cut01]
      omega
theorem toP_tup (xs : List D) : toP (.tup xs) = .tuple (toPs xs) := by unfold toP; rfl
theorem ok_strs : PyData.strOk "number" = true ∧ PyData.strOk "name" = true ∧ PyData.strOk "not" = true := ⟨by decide +kernel, by decide +kernel, by decide +kernel⟩
theorem five_ok {w : Str} (h : w ∈ five) : PyData.strOk w = true := by
  simp only [five, List.mem_cons, List.not_mem_nil, or_false] at h
  rcases h with rfl | rfl | rfl | rfl | rfl <;> decide +kernel
def isNam (m : Int) : Ex → Bool
  | .nam i => i == m
  | _ => false
theorem lay_enc : ∀ {d : Nat} {e : Ex}, EOk d e → (toP (enc e)).canLay0 = true := fun {d} => by
  induction d using Nat.strongRecOn with
  | _ d ih =>
  intro e h
  cases e with
  | num i => simp [enc, toP, toPs, PyData.canLay0, PyData.canLayAll0, ok_strs]
  | nam i => simp [enc, toP, toPs, PyData.canLay0, PyData.canLayAll0, ok_strs]
  | neg e =>
    cases d with
    | zero => exact h.elim
    | succ d =>
      have := ih d (by omega) (e := e) h
      simp [enc, toP, toPs, PyData.canLay0, PyData.canLayAll0, this, ok_strs]
  | two w a b =>
    cases d with
    | zero => exact h.elim
    | succ d =>
      have h1 := ih d (by omega) h.2.1
      have h2 := ih d (by omega) h.2.2
      have hw := five_ok h.1
      simp [enc, toP, toPs, PyData.canLay0, PyData.canLayAll0, h1, h2, hw]
theorem eq_name {d : Nat} {e : Ex} (h : EOk d e) (m : Int) : cEq false (.d (enc e)) (.d (.tup [.str "name", .int m])) L = some (.d (.bl (isNam m e))) := by
  have h1 := lay_enc h
  have h2 := lay_enc (d := 0) (e := .nam 0) (by unfold EOk; omega)
  have e1 : eqD (enc e) (.tup [.str "name", .int m]) = some (isNam m e) := by
    have q : ∀ xs, enc e = .tup xs → eqD (enc e) (.tup [.str "name", .int m]) = some (PyData.eqvAll (toPs xs) [.str "name", .int m]) := fun xs ex => by
      rw [ex] at h1 ⊢
      show (if _ then _ else _) = _
      rw [if_pos ⟨h1, by simp [toP, toPs, PyData.canLay0, PyData.canLayAll0, ok_strs], Nat.le_trans (Nat.min_le_right _ _) (by simp [toP, toPs, PyData.depth, PyData.depthAll])⟩]
      simp [toP, toPs, PyData.eqv]
    cases e with
    | num i => rw [q _ rfl]; simp [toP, toPs, PyData.eqv, PyData.eqvAll, isNam]
    | nam i => rw [q _ rfl]; simp [toP, toPs, PyData.eqv, PyData.eqvAll, isNam]
    | neg e => rw [q _ rfl]; simp [toP, toPs, PyData.eqv, PyData.eqvAll, isNam]
    | two w a b => rw [q _ rfl]; simp [toP, toPs, PyData.eqv, PyData.eqvAll, isNam]
  show (eqD (enc e) (.tup [.str "name", .int m])).map _ = _
  rw [e1]
  rfl
theorem putL_ok (c : FnsL P) {m : Int} {o : Ex} : ∀ {d : Nat} {e : Ex}, EOk d e → ∀ (n : Nat) (L : List MO), d + 1 ≤ n → Wf L → run P n "_law_put" [.d (enc e), .d (.int m), .d (enc o)] L = .ok (.d (enc (put m o e))) L := fun {d} => by
  induction d using Nat.strongRecOn with
  | _ d ih =>
  intro e h n L hn hL
  obtain ⟨n, rfl⟩ : ∃ m, n = m + 1 := ⟨n - 1, by omega⟩
  refine run_pure c.put rfl hL (by simp) ?_
  simp only [F.f__law_put]
  have eq := fun L => eq_name (L := L) h m
  by_cases hk : kids e = []
  · rcases leaf_case hk with ⟨i, rfl⟩ | ⟨i, rfl⟩
    · simp [eq, isNam]
      simp [enc, put, take_len, cin2]
    · by_cases hi : i = m
      · subst hi
        simp [eq, put, take_len, isNam]
      · simp [eq, hi, isNam]
        simp [enc, put, take_len, hi, cin2]
  · have eq' : ∀ L, cEq false (.d (enc e)) (.d (.tup [.str "name", .int m])) L = some (.d (.bl false)) := fun L => by
      rw [eq]
      cases e with
      | num i => rfl
      | nam i => exact (hk rfl).elim
      | neg e => rfl
      | two w a b => rfl
    obtain ⟨d', rfl, e1, e2, e3, e4, e5, _, _, e6⟩ := kid_case h hk
    rw [e1] at eq' ⊢
    rw [e6]
    refine seq_cut (fun ρ1 L1 => ρ1 = [some (.d (.tup (.str (hd e) :: (kids e).map enc))), some (.d (.int m)), some (.d (enc o)), none] ∧ L1 = L) (by simp [eq']) ?_
    rintro ρ1 L1 ⟨rfl, rfl⟩
    refine seq_cut (fun ρ1 L2 => ρ1 = [some (.d (.tup (.str (hd e) :: (kids e).map enc))), some (.d (.int m)), some (.d (enc o)), none] ∧ L2 = L1) (by simp [e4, e5, cin2]) ?_
    rintro ρ1 L2 ⟨rfl, rfl⟩
    simp
    refine comp_kids (ks := kids e) (en := enc) (f := fun k => enc (put m o k)) hL (by omega) ?_ ?_ ?_
    · simp [cut1]
    · intro k hkm acc
      have e := ih d' (by omega) (e2 k hkm) n _ (by omega) (Wf.snoc (xs := acc) hL)
      simp [wipe1, e]
    · simp [take_len, cut01]
      omega
end
end S
set_option Elab.async false
set_option linter.all false
set_option maxRecDepth 100000
set_option maxHeartbeats 4000000
namespace S
open PySem PySem.Spec L2 Ev
section
variable {P : Prog} {n : Nat} {h : Nat} {L : List MO}
theorem comp2_kids {C : Calls} {ρ : Rho} {it it1 : MI} {vs vs1 : List Nat} {g g1 : MG} {t t1 : MT} {m : M} {Q : Val → List MO → Prop} {α : Type} {ks : List α} {en : α → D} {f : α → List D} (R : α → Rho → Prop) (hL : Wf L) (hb : ((ks.map f).flatten).length ≤ 1000)
    (start : (it C ρ L).sat fun s L1 => L1 = L ∧ s = ⟨ks.map en, none⟩)
    (step : ∀ k ∈ ks, ∀ acc, (g C (.d (en k)) (wipeR ρ vs) (L ++ [.lst acc])).sat fun ρ1 L1 => (t C ρ1 L1).sat fun b L2 => b = true ∧ (it1 C ρ1 L2).sat fun s L3 => L3 = L ++ [.lst acc] ∧ s = ⟨f k, none⟩ ∧ R k ρ1)
    (step1 : ∀ k ∈ ks, ∀ ρ1, R k ρ1 → ∀ y ∈ f k, ∀ acc, (g1 C (.d y) (wipeR ρ1 vs1) (L ++ [.lst acc])).sat fun ρ2 L1 => (t1 C ρ2 L1).sat fun b L2 => b = true ∧ (m C ρ2 L2).sat fun z L3 => fz z = .d y ∧ L3 = L ++ [.lst acc])
    (done : Q (.new (ks.map f).flatten) L) : (mComp2 it vs g t it1 vs1 g1 t1 m C ρ L).sat Q := by
  refine sat_mComp2 (fun r acc L' => L' = L ∧ ∃ a b, ks = a ++ b ∧ r = b.map en ∧ acc = (a.map f).flatten)
    (fun ρ1 r r1 acc L' => L' = L ∧ ∃ a k b c1, ks = a ++ k :: b ∧ r = b.map en ∧ f k = c1 ++ r1 ∧ acc = (a.map f).flatten ++ c1 ∧ R k ρ1) ?_ ?_ ?_ ?_ ?_
  · refine Out.sat_mono start fun s L1 ⟨h1, h2⟩ => ?_
    subst h1 h2
    exact ⟨rfl, rfl, [], ks, rfl, rfl, rfl⟩
  · rintro x r acc L' ⟨rfl, a, b, e1, e2, rfl⟩
    cases b with
    | nil => cases e2
    | cons k b =>
      simp only [List.map_cons, List.cons.injEq] at e2
      obtain ⟨rfl, rfl⟩ := e2
      have hkm : k ∈ ks := by rw [e1]; simp
      refine Out.sat_mono (step k hkm _) fun ρ1 L1 q => ?_
      refine Out.sat_mono q fun b' L2 ⟨hb', q⟩ => ?_
      rw [if_pos hb']
      refine Out.sat_mono q fun s L3 ⟨e3, e4, hR⟩ => ?_
      subst e4
      exact ⟨L', e3, rfl, rfl, rfl, a, k, b, [], e1, rfl, rfl, by simp, hR⟩
  · rintro ρ1 r y r1 acc L' ⟨rfl, a, k, b, c1, e1, rfl, e3, rfl, hR⟩
    have hkm : k ∈ ks := by rw [e1]; simp
    have hlen : ((a.map f).flatten ++ c1).length < 1001 := by
      have : ((ks.map f).flatten).length = ((a.map f).flatten).length + (f k).length + ((b.map f).flatten).length := by
        rw [e1]; simp [Nat.add_assoc]
      rw [e3, List.length_append] at this
      rw [List.length_append]
      omega
    refine Out.sat_mono (step1 k hkm ρ1 hR y (by rw [e3]; simp) _) fun ρ2 L1 q => ?_
    refine Out.sat_mono q fun b' L2 ⟨hb', q⟩ => ?_
    rw [if_pos hb']
    refine Out.sat_mono q fun z L3 ⟨e5, e6⟩ => ?_
    exact ⟨y, L', e5, by rw [sizeLine_val]; omega, e6, rfl, rfl, a, k, b, c1 ++ [y], e1, rfl, by rw [e3]; simp, by simp, hR⟩
  · rintro ρ1 r acc L' ⟨rfl, a, k, b, c1, e1, rfl, e3, rfl, hR⟩
    refine ⟨rfl, a ++ [k], b, by rw [e1]; simp, rfl, ?_⟩
    rw [List.append_nil] at e3
    simp [e3]
  · rintro acc L' ⟨rfl, a, b, e1, e2, rfl⟩
    cases b with
    | nil =>
      rw [List.append_nil] at e1
      subst e1
      exact ⟨hL, done⟩
    | cons k b => cases e2
theorem flat_len {d : Nat} : ∀ {ks : List Ex}, (∀ k ∈ ks, EOk d k) → ((ks.map nms).flatten).length ≤ 4 * ks.length
  | [], _ => by simp
  | k :: ks, hk => by
    have h1 := nms_len (hk k (by simp))
    have h2 := flat_len (ks := ks) fun x hx => hk x (List.mem_cons_of_mem _ hx)
    simp only [List.map_cons, List.flatten_cons, List.length_append, List.length_cons]
    omega
theorem flat_ints (ks : List Ex) : (ks.map fun k => (nms k).map D.int).flatten = ((ks.map nms).flatten).map D.int := by
  induction ks with
  | nil => rfl
  | cons k ks ih => simp only [List.map_cons, List.flatten_cons, List.map_append, ih]
theorem names_ok (c : Vfn P) : ∀ {d : Nat} {e : Ex}, EOk d e → ∀ (n : Nat) (L : List MO), d + 1 ≤ n → Wf L → run P n "expressions.names_in" [.d (enc e)] L = .ok (.new ((nms e).map .int)) L := fun {d} => by
  induction d using Nat.strongRecOn with
  | _ d ih =>
  intro e h n L hn hL
  obtain ⟨n, rfl⟩ : ∃ m, n = m + 1 := ⟨n - 1, by omega⟩
  refine run_pure c.names rfl hL (by simp) ?_
  simp only [F.f_expressions_names_in]
  by_cases hk : kids e = []
  · rcases leaf_case hk with ⟨i, rfl⟩ | ⟨i, rfl⟩
    · simp [enc, nms, take_len]
    · simp [enc, nms, take_len]
  · obtain ⟨d', rfl, e1, e2, e3, e4, e5, _, e6, _⟩ := kid_case h hk
    rw [e1, e6]
    refine seq_cut (fun ρ1 L1 => ρ1 = [some (.d (.tup (.str (hd e) :: (kids e).map enc))), none, none] ∧ L1 = L) (by simp [e4, e5]) ?_
    rintro ρ1 L1 ⟨rfl, rfl⟩
    refine seq_cut (fun ρ1 L2 => ρ1 = [some (.d (.tup (.str (hd e) :: (kids e).map enc))), none, none] ∧ L2 = L1) (by simp [e4, e5]) ?_
    rintro ρ1 L2 ⟨rfl, rfl⟩
    rw [sat_mRet, sat_mSortSet]
    have fl := flat_len e2
    refine comp2_kids (ks := kids e) (en := enc) (f := fun k => (nms k).map .int) (fun k ρ1 => ∃ x y, ρ1 = [x, y, none]) hL (by rw [flat_ints, List.length_map]; omega) ?_ ?_ ?_ ?_
    · simp [cut1]
    · intro k hkm acc
      have e := ih d' (by omega) (e2 k hkm) n _ (by omega) (Wf.snoc (xs := acc) hL)
      simp [wipeR, e]
    · rintro k hkm ρ1 ⟨x, y, rfl⟩ z hz acc
      obtain ⟨j, _, rfl⟩ := List.mem_map.mp hz
      simp [wipeR]
    · rw [flat_ints]
      simp only [fz_new, setSat_lst, view_lst, Option.bind_some, asInts_map, intsSat_some]
      refine ⟨by omega, ?_⟩
      simp [take_len]
theorem namesL_ok (c : FnsL P) : ∀ {d : Nat} {e : Ex}, EOk d e → ∀ (n : Nat) (L : List MO), d + 1 ≤ n → Wf L → run P n "_law_names" [.d (enc e)] L = .ok (.new ((nms e).map .int)) L := fun {d} => by
  induction d using Nat.strongRecOn with
  | _ d ih =>
  intro e h n L hn hL
  obtain ⟨n, rfl⟩ : ∃ m, n = m + 1 := ⟨n - 1, by omega⟩
  refine run_pure c.names rfl hL (by simp) ?_
  simp only [F.f__law_names]
  by_cases hk : ∃ i, e = .nam i
  · obtain ⟨i, rfl⟩ := hk
    simp [enc, nms, take_len]
  · obtain ⟨e3, e4, e5, e6, len2⟩ : (∀ L, (mIt (mIf (mtOf (mBin (cEq true) (mBin bIx (mVar 0) (mK (.int 0))) (mK (.str "number")))) (mSl (mVar 0) (mPart (mK (.int 1))) mNoPart) (mTup mNil)) (run P n) [some (.d (enc e)), some (.d (.lst [])), none] L).sat fun s L1 => L1 = L ∧ s = ⟨(kids e).map enc, none⟩) ∧ (∀ k ∈ kids e, ∃ d', d' < d ∧ EOk d' k) ∧
        (∀ L, cEq false (.d (.str (hd e))) (.d (.str "name")) L = some (.d (.bl false))) ∧ nms e = setI (((kids e).map nms).flatten) ∧ (kids e).length ≤ 2 := by
      by_cases hk2 : kids e = []
      · rcases leaf_case hk2 with ⟨i, rfl⟩ | ⟨i, rfl⟩
        · exact ⟨fun L => by simp [enc, kids], by simp [kids], by simp [hd], by simp [nms, kids, setI, dedupI, sortI], by simp [kids]⟩
        · exact (hk ⟨i, rfl⟩).elim
      · obtain ⟨d', rfl, e1, e2, e3, e4, e5, _, e6, _⟩ := kid_case h hk2
        exact ⟨fun L => by rw [e1]; simp [e4, cut1], fun k hk => ⟨d', by omega, e2 k hk⟩, by simp [e5], e6, e3⟩
    have e0 : ∃ r, enc e = .tup (.str (hd e) :: r) := by cases e <;> exact ⟨_, rfl⟩
    obtain ⟨r0, e0⟩ := e0
    refine seq_cut (fun ρ1 L1 => ρ1 = [some (.d (enc e)), none, none] ∧ L1 = L) (by rw [e0]; simp [e5]) ?_
    rintro ρ1 L1 ⟨rfl, rfl⟩
    refine seq_cut (fun ρ1 L2 => ρ1 = [some (.d (enc e)), some (.d (.lst [])), none] ∧ L2 = L1) (by simp) ?_
    rintro ρ1 L2 ⟨rfl, rfl⟩
    have fl : (((kids e).map nms).flatten).length ≤ 8 := by
      have : ∀ ks : List Ex, (∀ k ∈ ks, ∃ d', d' < d ∧ EOk d' k) → ((ks.map nms).flatten).length ≤ 4 * ks.length := fun ks => by
        induction ks with
        | nil => simp
        | cons k ks ih =>
          intro hk
          obtain ⟨d', _, q⟩ := hk k (by simp)
          have h1 := nms_len q
          have h2 := ih fun x hx => hk x (List.mem_cons_of_mem _ hx)
          simp only [List.map_cons, List.flatten_cons, List.length_append, List.length_cons]
          omega
      have := this _ e4
      omega
    refine seq_cut (fun ρ1 L3 => L3 = L2 ∧ ∃ x, ρ1 = [some (.d (enc e)), some (.d (.lst ((((kids e).map nms).flatten).map .int))), x]) ?_ ?_
    · refine sat_mFor (fun xs ρ L' => L' = L2 ∧ ∃ a b x, kids e = a ++ b ∧ xs = b.map enc ∧ ρ = [some (.d (enc e)), some (.d (.lst (((a.map nms).flatten).map .int))), x]) ?_ ?_ ?_
      · refine Out.sat_mono (e3 L2) fun s L3 ⟨q1, q2⟩ => ?_
        subst q1 q2
        exact ⟨rfl, rfl, [], kids e, none, rfl, rfl, rfl⟩
      · rintro x r ρ L3 ⟨rfl, a, b, y, q1, q2, rfl⟩
        cases b with
        | nil => cases q2
        | cons k b =>
          simp only [List.map_cons, List.cons.injEq] at q2
          obtain ⟨rfl, rfl⟩ := q2
          have hkm : k ∈ kids e := by rw [q1]; simp
          obtain ⟨d', hd', hk'⟩ := e4 k hkm
          have e := ih d' hd' hk' n L3 (by omega) hL
          have hlen : ((a.map nms).flatten).length + (nms k).length ≤ 8 := by
            rw [q1] at fl
            simp only [List.map_append, List.flatten_append, List.map_cons, List.flatten_cons, List.length_append] at fl
            omega
          simp only [sat_gName, sat_mSet, sat_mBin, sat_mVar, sat_mCall, sat_mCons, sat_mNil, List.set_cons_succ, List.set_cons_zero, List.getElem?_cons_succ, List.getElem?_cons_zero, slotSat_some, fz_dd, e, sat_ok, fz_new, bAdd_lst, optSat_ite, optSat_some, optSat_none, optSat_if, List.length_map]
          rw [if_pos (by rw [sizeLine_val]; omega)]
          refine ⟨trivial, a ++ [k], b, some (.d (enc k)), by rw [q1]; simp, rfl, ?_⟩
          simp
      · rintro ρ L3 ⟨rfl, a, b, y, q1, q2, rfl⟩
        cases b with
        | nil =>
          rw [List.append_nil] at q1
          exact ⟨_, rfl, rfl, y, by rw [q1]⟩
        | cons k b => cases q2
    · rintro ρ1 L3 ⟨rfl, x, rfl⟩
      rw [sat_mRet, sat_mSortSet, sat_mVar]
      simp only [List.getElem?_cons_succ, List.getElem?_cons_zero, slotSat_some, fz_dd, setSat_lst, view_lst, Option.bind_some, asInts_map, intsSat_some]
      rw [← e6]
      refine ⟨by omega, ?_⟩
      simp [take_len]
/-! ### drawn expressions and stores -/
structure Drx (P : Prog) : Prop where
  exp : P "_law_expression" = some F.f__law_expression
  store : P "_law_store" = some F.f__law_store
theorem exp_ok (c : Com P) (a : Pik P) (x : Drx P) : ∀ (d n : Nat) (L : List MO), d + 4 ≤ n → HasPool h L → (run P n "_law_expression" [.h h, .d (.int d)] L).sat fun z L' => (∃ e, EOk d e ∧ z = .d (enc e)) ∧ HasPool h L' ∧ Stp h L L' := fun d => by
  induction d with
  | zero =>
    intro n L hn hp
    obtain ⟨n, rfl⟩ : ∃ m, n = m + 1 := ⟨n - 1, by omega⟩
    refine run_sat x.exp rfl ?_
    simp only [F.f__law_expression]
    refine seq_cut2 (fun ρ1 L1 => False) ?_ fun _ _ h => h.elim
    simp
    refine draw_to c (by omega) hp (by omega) (by omega) fun k L1 k0 k1 hp1 st1 => ?_
    simp
    split
    · refine draw_to c (by omega) hp1 (by omega) (by omega) fun k L2 k0 k1 hp2 st2 => ?_
      refine optAt k0 (by simpa using k1) fun y hy => ?_
      have hi : ∃ j, y = .int j ∧ 0 ≤ j ∧ j ≤ 999 := by
        simp at hy
        rcases hy with rfl | rfl | rfl | rfl | rfl | rfl | rfl | rfl <;> exact ⟨_, rfl, by omega, by omega⟩
      obtain ⟨j, rfl, j0, j1⟩ := hi
      simp
      exact fin_pool0 hp2 (st1.trans st2) (by simp) ⟨⟨.num j, ⟨j0, j1⟩, rfl⟩, hp2, st1.trans st2⟩
    · refine draw_to c (by omega) hp1 (by omega) (by omega) fun k L2 k0 k1 hp2 st2 => ?_
      simp
      exact fin_pool0 hp2 (st1.trans st2) (by simp) ⟨⟨.nam k, ⟨k0, k1⟩, rfl⟩, hp2, st1.trans st2⟩
  | succ d ih =>
    intro n L hn hp
    obtain ⟨n, rfl⟩ : ∃ m, n = m + 1 := ⟨n - 1, by omega⟩
    refine run_sat x.exp rfl ?_
    simp only [F.f__law_expression]
    have e1 : (d : Int) + 1 ≠ 0 := by omega
    refine seq_cut2 (fun ρ1 L1 => ρ1 = [some (.h h), some (.d (.int (d + 1 : Nat))), none] ∧ HasPool h L1 ∧ Stp h L L1) ?_ ?_
    · simp [e1]
      refine draw_to c (by omega) hp (by omega) (by omega) fun k L0 k0 k1 hp0 st0 => ?_
      simp
      split
      · refine draw_to c (by omega) hp0 (by omega) (by omega) fun k L1 k0 k1 hp1 st1 => ?_
        have st1 := st0.trans st1
        simp
        split
        · refine draw_to c (by omega) hp1 (by omega) (by omega) fun k L2 k0 k1 hp2 st2 => ?_
          refine optAt k0 (by simpa using k1) fun y hy => ?_
          have hi : ∃ j, y = .int j ∧ 0 ≤ j ∧ j ≤ 999 := by
            simp at hy
            rcases hy with rfl | rfl | rfl | rfl | rfl | rfl | rfl | rfl <;> exact ⟨_, rfl, by omega, by omega⟩
          obtain ⟨j, rfl, j0, j1⟩ := hi
          simp
          exact fin_pool0 hp2 (st1.trans st2) (by simp) ⟨⟨.num j, ⟨j0, j1⟩, rfl⟩, hp2, st1.trans st2⟩
        · refine draw_to c (by omega) hp1 (by omega) (by omega) fun k L2 k0 k1 hp2 st2 => ?_
          simp
          exact fin_pool0 hp2 (st1.trans st2) (by simp) ⟨⟨.nam k, ⟨k0, k1⟩, rfl⟩, hp2, st1.trans st2⟩
      · exact ⟨hp0, st0⟩
    rintro ρ1 L1 ⟨rfl, hp1, st1⟩
    refine seq_cut2 (fun ρ1 L2 => (∃ w : Str, (w = "not" ∨ w ∈ five) ∧ ρ1 = [some (.h h), some (.d (.int (d + 1 : Nat))), some (.d (.str w))]) ∧ HasPool h L2 ∧ Stp h L L2) ?_ ?_
    · simp
      refine pick_to c a (by omega) hp1 (by simp) (by simp) (.inl rfl) fun y hy L2 hp2 st2 => ?_
      have hw : ∃ w : Str, y = .str w ∧ (w = "not" ∨ w ∈ five) := by
        simp at hy
        rcases hy with rfl | rfl | rfl | rfl | rfl | rfl
        all_goals first | exact ⟨_, rfl, .inl rfl⟩ | exact ⟨_, rfl, .inr (by simp [five])⟩
      obtain ⟨w, rfl, hw⟩ := hw
      simp
      exact ⟨hw, hp2, st1.trans st2⟩
    rintro ρ1 L2 ⟨⟨w, hw, rfl⟩, hp2, st2⟩
    have ed : ((d + 1 : Nat) : Int) - 1 = d := by omega
    refine seq_cut2 (fun ρ1 L3 => w ∈ five ∧ ρ1 = [some (.h h), some (.d (.int (d + 1 : Nat))), some (.d (.str w))] ∧ L3 = L2) ?_ ?_
    · simp
      split
      · refine Out.sat_mono (ih n L2 (by omega) hp2) fun z L3 ⟨⟨e, he, ez⟩, hp3, st3⟩ => ?_
        subst ez
        simp
        exact fin_pool0 hp3 (st2.trans st3) (by simp) ⟨⟨.neg e, he, rfl⟩, hp3, st2.trans st3⟩
      · rename_i hne
        rcases hw with hw | hw
        · exact (hne hw).elim
        · exact hw
    rintro ρ1 L3 ⟨hw, rfl, rfl⟩
    simp
    refine Out.sat_mono (ih n L3 (by omega) hp2) fun z L4 ⟨⟨e, he, ez⟩, hp4, st4⟩ => ?_
    subst ez
    simp
    refine Out.sat_mono (ih n L4 (by omega) hp4) fun z L5 ⟨⟨e2, he2, ez⟩, hp5, st5⟩ => ?_
    subst ez
    simp
    have st := (st2.trans st4).trans st5
    exact fin_pool0 hp5 st (by simp) ⟨⟨.two w e e2, ⟨hw, he, he2⟩, rfl⟩, hp5, st⟩
end
end S
set_option Elab.async false
set_option linter.all false
set_option maxRecDepth 100000
set_option maxHeartbeats 4000000
namespace S
open PySem PySem.Spec L2 Ev
section
variable {P : Prog} {n : Nat} {h : Nat} {L : List MO}
theorem HasPool.snoc (hp : HasPool h L) (acc : List D) : HasPool h (L ++ [.lst acc]) := by
  have hl := hp.lt
  obtain ⟨hw, p, e, ok⟩ := hp
  exact ⟨hw.snoc, p, by rw [List.getElem?_append_left hl]; exact e, ok⟩
theorem Stp.unsnoc (hp : HasPool h L) {x : MO} {L2 : List MO} (st : Stp h (L ++ [x]) L2) : ∃ L3, L2 = L3 ++ [x] ∧ Stp h L L3 := by
  obtain ⟨p, ok, rfl⟩ := st
  exact ⟨L.set h (.lst p), List.set_append_left _ _ hp.lt, p, ok, rfl⟩
/-- a comprehension of draws -/
theorem comp_pool {C : Calls} {ρ : Rho} {it : MI} {vs : List Nat} {g : MG} {t : MT} {m : M} {Q : Val → List MO → Prop} {N : Nat} (R : D → Prop) (hp : HasPool h L) (hN : N ≤ 1000)
    (start : (it C ρ L).sat fun s L1 => L1 = L ∧ s.own = none ∧ s.xs.length = N)
    (step : ∀ L' acc y, HasPool h L' → (g C (.d y) (wipeR ρ vs) (L' ++ [.lst acc])).sat fun ρ1 L1 => (t C ρ1 L1).sat fun b L2 => b = true ∧ (m C ρ1 L2).sat fun z L3 => (∃ d, fz z = .d d ∧ R d) ∧ Stp h (L' ++ [.lst acc]) L3)
    (done : ∀ ds L', HasPool h L' → Stp h L L' → ds.length = N → (∀ d ∈ ds, R d) → Q (.new ds) L') : (mComp it vs g t m C ρ L).sat Q := by
  refine sat_mComp (fun r acc L' => HasPool h L' ∧ Stp h L L' ∧ acc.length + r.length = N ∧ ∀ d ∈ acc, R d) ?_ ?_ ?_
  · refine Out.sat_mono start fun s L1 ⟨h1, h2, h3⟩ => ?_
    subst h1
    exact ⟨h2, hp, Stp.refl hp, by simpa using h3, by simp⟩
  · rintro x r acc L' ⟨hp', st', hl, hr⟩
    rw [List.length_cons] at hl
    refine Out.sat_mono (step L' acc x hp') fun ρ1 L1 q => ?_
    refine Out.sat_mono q fun b' L2 ⟨hb', q⟩ => ?_
    rw [if_pos hb']
    refine Out.sat_mono q fun z L3 ⟨⟨d, e5, hd⟩, st⟩ => ?_
    obtain ⟨L4, e6, st4⟩ := st.unsnoc hp'
    refine ⟨d, L4, e5, by rw [sizeLine_val]; omega, e6, st4.len, hp'.step st4, st'.trans st4, by simp; omega, fun x hx => ?_⟩
    rcases List.mem_append.mp hx with hx | hx
    · exact hr x hx
    · rw [List.mem_singleton.mp hx]; exact hd
  · rintro acc L' ⟨hp', st', hl, hr⟩
    exact ⟨hp'.1, done acc L' hp' st' (by simpa using hl) hr⟩
theorem ints_of {ds : List D} (h : ∀ d ∈ ds, ∃ j : Int, d = .int j ∧ 0 ≤ j ∧ j ≤ 999) : ∃ st : List Int, ds = st.map .int ∧ ∀ x ∈ st, 0 ≤ x ∧ x ≤ 999 := by
  induction ds with
  | nil => exact ⟨[], rfl, by simp⟩
  | cons d ds ih =>
    obtain ⟨st, e, q⟩ := ih fun x hx => h x (List.mem_cons_of_mem _ hx)
    obtain ⟨j, rfl, j0, j1⟩ := h d (by simp)
    exact ⟨j :: st, by rw [e]; rfl, by simp; exact ⟨⟨j0, j1⟩, q⟩⟩
theorem rangeD_len {lo : Int} {k : Nat} : (rangeD lo k).length = k := by simp [rangeD]
theorem store_ok (c : Com P) (x : Drx P) (hn : 4 ≤ n) (hp : HasPool h L) : (run P n "_law_store" [.h h] L).sat fun z L' => (∃ st, StOk st ∧ z = .d (.tup (st.map .int))) ∧ HasPool h L' ∧ Stp h L L' := by
  obtain ⟨n, rfl⟩ : ∃ m, n = m + 1 := ⟨n - 1, by omega⟩
  refine run_sat x.store rfl ?_
  simp only [F.f__law_store]
  simp
  refine comp_pool (N := 4) (fun d => ∃ j : Int, d = .int j ∧ 0 ≤ j ∧ j ≤ 999) hp (by omega) ?_ ?_ ?_
  · simp [rangeD_len]
  · intro L' acc y hp'
    simp [wipe1]
    refine draw_to c (by omega) (hp'.snoc acc) (by omega) (by omega) fun k L2 k0 k1 hp2 st2 => ?_
    refine optAt k0 (by simpa using k1) fun y hy => ?_
    have hi : ∃ j, y = .int j ∧ 0 ≤ j ∧ j ≤ 999 := by
      simp at hy
      rcases hy with rfl | rfl | rfl | rfl | rfl <;> exact ⟨_, rfl, by omega, by omega⟩
    exact ⟨⟨y, rfl, hi⟩, st2⟩
  · intro ds L' hp' st' hl hr
    obtain ⟨st, rfl, q⟩ := ints_of hr
    simp
    exact fin_pool0 hp' st' (by simp) ⟨⟨st, ⟨by simpa using hl, q⟩, rfl⟩, hp', st'⟩
theorem sub_sm {xs ys : List D} (h : ∀ x ∈ xs, Sm x) (q : ∀ y ∈ ys, y ∈ xs) : ∀ y ∈ ys, Sm y := fun y hy => h y (q y hy)
/-- bent values: all of bounded breadth -/
theorem bends_ok (c : Com P) (a : Dra P) (hb : P "_law_bends" = some F.f__law_bends) {w m : Nat} (hw : w ≤ 1000000) {xs : List D} (hv : Dt w m (.tup xs)) (hn : m + 10 ≤ n) (hp : HasPool h L) :
    (run P n "_law_bends" [.h h, .d (.tup xs)] L).sat fun z L' => (∃ ds, z = .new ds ∧ ds.length ≤ 1000 ∧ ∀ x ∈ ds, Sm x) ∧ HasPool h L' ∧ Stp h L L' := by
  obtain ⟨n, rfl⟩ : ∃ m, n = m + 1 := ⟨n - 1, by omega⟩
  refine run_sat hb rfl ?_
  simp only [F.f__law_bends]
  have sx : Sm (.tup xs) := Dt.sm hw hv
  have hx : xs.length ≤ 1000000 := by cases hv; omega
  have cl : ∀ lo hi, (cutD xs lo hi).length ≤ 1000000 := fun lo hi => Nat.le_trans cutD_len hx
  refine seq_cut (fun ρ1 L1 => L1 = L ∧ ∃ t : List D, t.length = 17 ∧ smBs t = true ∧ ρ1 = [some (.h h), some (.d (.tup xs)), some (.d (.lst t)), none, none]) ?_ ?_
  · simp
    decide +kernel
  rintro ρ1 L1 ⟨rfl, t, ht, hts, rfl⟩
  refine seq_cut (fun ρ1 L2 => L2 = L1 ∧ ∃ t : List D, t.length = 23 ∧ smBs t = true ∧ ρ1 = [some (.h h), some (.d (.tup xs)), some (.d (.lst t)), none, none]) ?_ ?_
  · simp [ht]
    exact smBs_iff.mpr (smBs_append (smBs_iff.mp hts) (smBs_iff.mp (by decide +kernel)))
  rintro ρ1 L2 ⟨rfl, t, ht, hts, rfl⟩
  have tn : t ≠ [] := by intro e; rw [e] at ht; cases ht
  have hts := smBs_iff.mp hts
  refine seq_cut (fun ρ1 L3 => L3 = L2 ∧ ∃ f : List D, f.length = 9 ∧ smBs f = true ∧ ρ1 = [some (.h h), some (.d (.tup xs)), some (.d (.lst t)), some (.d (.lst f)), none]) ?_ ?_
  · have q1 := cl (some (-1)) none
    have l1 := listed_ok (P := P) a hw hv 1 n L2 (by omega) hp.1
    have l2 := listed_ok (P := P) a hw hv 2 n L2 (by omega) hp.1
    have l3 := booled_ok (P := P) c a hw hv n L2 (by omega) hp.1
    simp
    refine ⟨by omega, ?_⟩
    refine Out.sat_mono l1 fun z L3 ⟨⟨d, e, s1⟩, e2⟩ => ?_
    subst e2
    refine Out.sat_mono l2 fun z2 L4 ⟨⟨d2, e3, s2⟩, e4⟩ => ?_
    subst e4
    refine Out.sat_mono l3 fun z3 L5 ⟨⟨d3, e5, s3⟩, e6⟩ => ?_
    subst e6
    simp [e, e3, e5]
    have t1 : Sm (.tup (cutD xs (some 1) none)) := .tup (by have := cl (some 1) none; omega) fun x q => sx.cut q
    have t2 : Sm (.tup (cutD xs none (some (-1)))) := .tup (by have := cl none (some (-1)); omega) fun x q => sx.cut q
    have t3 : Sm (.tup (xs ++ cutD xs (some (-1)) none)) := .tup (by simp; omega) (smBs_append sx.of_tup.2 fun x q => sx.cut q)
    have t4 : Sm (.lst xs) := .lst sx.of_tup.1 sx.of_tup.2
    have t5 : Sm (.tup [.tup xs]) := .tup (by simp) (by simp; exact sx)
    simp only [smBs, Bool.and_eq_true]
    exact ⟨t4, t1, t2, t3, t5, s1, s2, s3, rfl, trivial⟩
  rintro ρ1 L3 ⟨rfl, f, hf, hfs, rfl⟩
  have hfs := smBs_iff.mp hfs
  refine seq_cut (fun ρ1 L4 => (∃ f : List D, f.length = 32 ∧ (∀ x ∈ f, Sm x) ∧ ρ1 = [some (.h h), some (.d (.tup xs)), some (.d (.lst t)), some (.d (.lst f)), none]) ∧ HasPool h L4 ∧ Stp h L3 L4) ?_ ?_
  · simp
    refine comp_pool (N := 14) Sm hp (by omega) (by simp [rangeD_len]) ?_ ?_
    · intro L' acc y hp'
      simp [wipe1]
      exact Out.sat_mono (changed_ok c a tn (by omega) hts hw hv n _ (by omega) (hp'.snoc acc)) fun z L5 ⟨e, _, st⟩ => ⟨e, st⟩
    intro ds L4 hp4 st4 hl4 hs4
    simp [hf, hl4]
    refine comp_pool (N := 9) Sm hp4 (by omega) (by simp [rangeD_len]) ?_ ?_
    · intro L' acc y hp'
      simp [wipe1]
      exact Out.sat_mono (swapped_ok c a hw hv n _ (by omega) (hp'.snoc acc)) fun z L5 ⟨e, _, st⟩ => ⟨e, st⟩
    intro ds2 L5 hp5 st5 hl5 hs5
    simp [hf, hl4, hl5]
    exact ⟨fun x hx => smBs_append hfs (smBs_append hs4 hs5) x (by simpa using hx), hp5, st4.trans st5⟩
  rintro ρ1 L4 ⟨⟨f, hf, hfs, rfl⟩, hp4, st4⟩
  simp
  refine comp_pool (N := 7) Sm hp4 (by omega) (by simp [rangeD_len]) ?_ ?_
  · intro L' acc y hp'
    simp [wipe1]
    exact Out.sat_mono (bent_ok c a hw hv n _ (by omega) (hp'.snoc acc)) fun z L5 ⟨e, _, st⟩ => ⟨e, st⟩
  intro ds L5 hp5 st5 hl5 hs5
  simp [hf, hl5]
  exact fin_pool0 hp5 (st4.trans st5) (by simp) ⟨⟨_, rfl, by simp [hf, hl5], smBs_append hfs hs5⟩, hp5, st4.trans st5⟩
theorem cut_to {xs : List D} {k : Int} (h0 : 0 ≤ k) (h1 : k < xs.length) : cutD xs none (some k) = xs.take k.toNat := by
  unfold cutD HT.sIx
  have a : ¬ k < 0 := by omega
  have b : min k.toNat xs.length = k.toNat := by omega
  simp [a, b]
theorem cut_from {xs : List D} {k : Int} (h0 : 0 ≤ k) (h1 : k < xs.length) : cutD xs (some (k + 1)) none = xs.drop (k.toNat + 1) := by
  unfold cutD HT.sIx
  have a : ¬ k + 1 < 0 := by omega
  have b : min (k + 1).toNat xs.length = k.toNat + 1 := by omega
  simp [a, b]
  exact List.take_of_length_le (by simp)
theorem cut_set {xs : List D} {k : Int} {d : D} (h0 : 0 ≤ k) (h1 : k < xs.length) : cutD xs none (some k) ++ ([d] ++ cutD xs (some (k + 1)) none) = xs.set k.toNat d := by
  rw [cut_to h0 h1, cut_from h0 h1, List.set_eq_take_append_cons_drop, if_pos (by omega)]
  rfl
end
end S
set_option Elab.async false
set_option linter.all false
set_option maxRecDepth 100000
namespace Ev
open PySem PySem.Spec L2
section
variable {C : Calls} {ρ : Rho} {L : List MO}
def dctSat (L1 : List MO) (n : Nat) (o : Option (List D)) (Q : List D → Prop) : Prop := match o with
  | some ds => L1[n]? = some (.dct []) ∧ Q ds
  | none => False
@[simp] theorem dctSat_some {L1 : List MO} {n : Nat} {ds : List D} {Q : List D → Prop} : dctSat L1 n (some ds) Q = (L1[n]? = some (.dct []) ∧ Q ds) := rfl
@[simp] theorem sat_mDicH {ks : List Key} {ms : MA} {Q : Val → List MO → Prop} : (mDicH ks ms C ρ L).sat Q = (ms C ρ (L ++ [.dct []])).sat fun xs L1 => dctSat L1 L.length (allD xs) fun ds => Q (.h L.length) (L1.set L.length (.dct (ks.zip ds))) := by
  rw [mDicH, sat_bind]
  congr 1
  funext xs L1
  unfold dctSat
  cases h2 : allD xs with
  | none =>
    cases h1 : L1[L.length]? with
    | none => simp
    | some m1 => cases m1 <;> simp
  | some ds =>
    cases h1 : L1[L.length]? with
    | none => simp
    | some m1 =>
      cases m1 with
      | dct kvs => cases kvs <;> simp
      | _ => simp
@[simp] theorem sat_mDicH0 {Q : Val → List MO → Prop} : (mDicH0 C ρ L).sat Q = Q (.h L.length) (L ++ [.dct []]) := sat_ok
def augSat (x : Option (Option Val)) (Q : Val → Prop) : Prop := match x with
  | some (some x) => Q x
  | _ => False
@[simp] theorem augSat_some {x : Val} {Q : Val → Prop} : augSat (some (some x)) Q = Q x := rfl
@[simp] theorem sat_mAug {i : Nat} {g : Val → Val → List MO → Option Val} {m : M} {Q : Fl × Rho → List MO → Prop} : (mAug i g m C ρ L).sat Q = augSat ρ[i]? fun x => (m C ρ L).sat fun y L1 => optSat (g x (fz y) L1) fun z => Q (.next, ρ.set i (some (fz z))) L1 := by
  unfold mAug
  cases h : ρ[i]? with
  | none => exact sat_no
  | some o =>
    cases o with
    | none => exact sat_no
    | some x =>
      rw [augSat_some]
      show ((m C ρ L).bind _).sat Q = _
      rw [sat_bind]
      congr 1
      funext y L1
      cases h2 : g x (fz y) L1 with
      | none => simp
      | some z => simp
def appSat (o y : Val) (L1 L2 : List MO) (Q : List MO → Prop) : Prop := match o, y with
  | .h n, .d d => ∃ zs xs, L1[n]? = some (.lst zs) ∧ L2[n]? = some (.lst xs) ∧ xs.length < sizeLine ∧ Q (L2.set n (.lst (xs ++ [d])))
  | _, _ => False
@[simp] theorem sat_mApp {mo me : M} {Q : Val → List MO → Prop} : (mApp mo me C ρ L).sat Q = (mo C ρ L).sat fun o L1 => (me C ρ L1).sat fun y L2 => appSat (fz o) (fz y) L1 L2 fun L3 => Q (.d .non) L3 := by
  rw [mApp, sat_bind]
  congr 1
  funext o L1
  rw [sat_bind]
  congr 1
  funext y L2
  generalize fz o = a
  generalize fz y = b
  cases a with
  | d x => exact sat_no
  | new xs => exact sat_no
  | h n =>
    cases b with
    | h k => exact sat_no
    | new xs => exact sat_no
    | d d =>
      simp only [appSat]
      cases h1 : L1[n]? with
      | none => simp
      | some m1 =>
        cases m1 with
        | lst zs =>
          cases h2 : L2[n]? with
          | none => simp
          | some m2 => cases m2 <;> simp
        | _ => simp
theorem fin_hlt {n k : Nat} {Q : Val → List MO → Prop} (hb : (L.take n).all (MO.below n) = true) (hk : k < n) : (fin n (.h k) L).sat Q = Q (.h k) (L.take n) := by
  unfold fin
  rw [if_pos hb]
  simp [hk]
theorem fin_lst {xs : List D} {Q : Val → List MO → Prop} (hw : Wf L) : (fin L.length (.h L.length) (L ++ [.lst xs])).sat Q = Q (.new xs) L := by
  have et : (L ++ [MO.lst xs]).take L.length = L := by simp
  unfold fin
  rw [if_pos (by rw [et]; exact hw)]
  simp
/-- what was made behind is gone -/
theorem fin_cut {ex : List MO} {v : Val} {Q : Val → List MO → Prop} (hw : Wf L) (hv : ∀ k, v ≠ .h k) (q : Q v L) : (fin L.length v (L ++ ex)).sat Q := by
  have et : (L ++ ex).take L.length = L := by simp
  have hb : ((L ++ ex).take L.length).all (MO.below L.length) = true := by rw [et]; exact hw
  cases v with
  | d x => rw [fin_d (L := L) hb, et]; exact q
  | new xs => rw [fin_new (L := L) hb, et]; exact q
  | h k => exact (hv k rfl).elim
theorem Wf.snoc' {m : MO} (hm : ∀ n, m.below n = true) (h : Wf L) : Wf (L ++ [m]) := by
  unfold Wf at h ⊢
  rw [List.all_append, Bool.and_eq_true]
  refine ⟨?_, by simp [hm]⟩
  rw [List.all_eq_true] at h ⊢
  intro x hx
  exact below_mono (by simp) (h x hx)
theorem Wf.dct {kvs : List (Key × D)} (h : Wf L) : Wf (L ++ [.dct kvs]) := h.snoc' fun _ => rfl
theorem Wf.set {n : Nat} {m : MO} (hm : ∀ n, m.below n = true) (h : Wf L) : Wf (L.set n m) := by
  unfold Wf at h ⊢
  rw [List.all_eq_true] at h ⊢
  intro x hx
  rw [List.length_set]
  rcases List.mem_or_eq_of_mem_set hx with hx | rfl
  · exact h x hx
  · exact hm _
@[simp] theorem atI_three {x y z w : D} {xs : List D} : atI (x :: y :: z :: w :: xs) 3 = some w := by
  simp [atI, ixN]
  rw [if_pos (by omega)]
  rfl
end
end Ev
set_option Elab.async false
set_option linter.all false
set_option maxRecDepth 100000
set_option maxHeartbeats 4000000
namespace S
open PySem PySem.Spec L2 Ev

/-! ## programs as trees -/
inductive Dd where
  | set (n : Int) (e : Ex) | tell (e : Ex) | ite (e : Ex) (a b : List Dd) | loop (e : Ex) (b : List Dd)
mutual
def encD : Dd → D
  | .set n e => .tup [.str "set", .int n, enc e]
  | .tell e => .tup [.str "tell", enc e]
  | .ite e a b => .tup [.str "if", enc e, .tup (encB a), .tup (encB b)]
  | .loop e b => .tup [.str "while", enc e, .tup (encB b)]
def encB : List Dd → List D
  | [] => []
  | d :: r => encD d :: encB r
end
theorem encB_map : ∀ r : List Dd, encB r = r.map encD
  | [] => by rw [encB]; rfl
  | d :: r => by rw [encB, encB_map r]; rfl
mutual
def szD : Dd → Nat
  | .set _ _ => 1
  | .tell _ => 1
  | .ite _ a b => 1 + szB a + szB b
  | .loop _ b => 1 + szB b
def szB : List Dd → Nat
  | [] => 0
  | d :: r => szD d + szB r
end
theorem szD_pos (d : Dd) : 1 ≤ szD d := by cases d <;> simp only [szD] <;> omega
/-- a deed with expressions of depth k, blocks of at most w deeds, nested d deep -/
def DOk (k w : Nat) : Nat → Dd → Prop
  | _, .set n e => 0 ≤ n ∧ n < 4 ∧ EOk k e
  | _, .tell e => EOk k e
  | d + 1, .ite e a b => EOk k e ∧ (a.length ≤ w ∧ ∀ x ∈ a, DOk k w d x) ∧ (b.length ≤ w ∧ ∀ x ∈ b, DOk k w d x)
  | d + 1, .loop e b => EOk k e ∧ b.length ≤ w ∧ ∀ x ∈ b, DOk k w d x
  | 0, _ => False
def BOk (k w d : Nat) (r : List Dd) : Prop := r.length ≤ w ∧ ∀ x ∈ r, DOk k w d x
theorem DOk.mono {k w k' w' : Nat} (hk : k ≤ k') (hw : w ≤ w') : ∀ {d d' : Nat} {x : Dd}, d ≤ d' → DOk k w d x → DOk k' w' d' x
  | _, _, .set n e, _, h => by unfold DOk at h ⊢; exact ⟨h.1, h.2.1, h.2.2.mono hk⟩
  | _, _, .tell e, _, h => by unfold DOk at h ⊢; exact EOk.mono hk h
  | 0, _, .ite e a b, _, h => h.elim
  | 0, _, .loop e b, _, h => h.elim
  | d + 1, d', .ite e a b, hd, h => by
    obtain ⟨d', rfl⟩ : ∃ j, d' = j + 1 := ⟨d' - 1, by omega⟩
    obtain ⟨h1, ⟨h2, h3⟩, h4, h5⟩ := h
    exact ⟨h1.mono hk, ⟨by omega, fun x hx => DOk.mono hk hw (by omega) (h3 x hx)⟩, by omega, fun x hx => DOk.mono hk hw (by omega) (h5 x hx)⟩
  | d + 1, d', .loop e b, hd, h => by
    obtain ⟨d', rfl⟩ : ∃ j, d' = j + 1 := ⟨d' - 1, by omega⟩
    obtain ⟨h1, h2, h3⟩ := h
    exact ⟨h1.mono hk, by omega, fun x hx => DOk.mono hk hw (by omega) (h3 x hx)⟩
theorem Dt.mono' {w w' n m : Nat} {x : D} (h : Dt w n x) (hw : w ≤ w') (hn : n ≤ m) : Dt w' m x := Dt.mono hw h hn
theorem encD_dt {k w : Nat} (hw : 10 ≤ w) : ∀ {d : Nat} {x : Dd}, DOk k w d x → Dt w (k + 2 * d + 2) (encD x)
  | _, .set n e, h => by
    unfold DOk at h
    exact .tup (by simp; omega) (by simp; exact ⟨.str (Nat.le_trans (by decide) hw), .int, (enc_dt h.2.2).mono' hw (by omega)⟩)
  | _, .tell e, h => by
    unfold DOk at h
    exact .tup (by simp; omega) (by simp; exact ⟨.str (Nat.le_trans (by decide) hw), (enc_dt h).mono' hw (by omega)⟩)
  | 0, .ite e a b, h => h.elim
  | 0, .loop e b, h => h.elim
  | d + 1, .ite e a b, h => by
    obtain ⟨h1, ⟨h2, h3⟩, h4, h5⟩ := h
    have q : ∀ (r : List Dd), r.length ≤ w → (∀ x ∈ r, DOk k w d x) → Dt w (k + 2 * (d + 1) + 1) (.tup (r.map encD)) := fun r l1 l2 =>
      (Dt.tup (n := k + 2 * d + 2) (by simpa using l1) (by
        intro x hx
        obtain ⟨y, hy, rfl⟩ := List.mem_map.mp hx
        exact encD_dt hw (l2 y hy))).mono' (Nat.le_refl _) (by omega)
    unfold encD
    rw [encB_map, encB_map]
    refine .tup (by simp; omega) (by simp; exact ⟨.str (Nat.le_trans (by decide) hw), (enc_dt h1).mono' hw (by omega), q a h2 h3, q b h4 h5⟩)
  | d + 1, .loop e b, h => by
    obtain ⟨h1, h4, h5⟩ := h
    have q : ∀ (r : List Dd), r.length ≤ w → (∀ x ∈ r, DOk k w d x) → Dt w (k + 2 * (d + 1) + 1) (.tup (r.map encD)) := fun r l1 l2 =>
      (Dt.tup (n := k + 2 * d + 2) (by simpa using l1) (by
        intro x hx
        obtain ⟨y, hy, rfl⟩ := List.mem_map.mp hx
        exact encD_dt hw (l2 y hy))).mono' (Nat.le_refl _) (by omega)
    unfold encD
    rw [encB_map]
    refine .tup (by simp; omega) (by simp; exact ⟨.str (Nat.le_trans (by decide) hw), (enc_dt h1).mono' hw (by omega), q b h4 h5⟩)
def bnd (w : Nat) : Nat → Nat
  | 0 => w
  | d + 1 => w * (1 + 2 * bnd w d)
theorem szB_sum {B : Nat} : ∀ {r : List Dd}, (∀ x ∈ r, szD x ≤ B) → szB r ≤ r.length * B
  | [], _ => by simp [szB]
  | x :: r, hx => by
    have q1 := hx x (by simp)
    have q2 := szB_sum fun y hy => hx y (List.mem_cons_of_mem _ hy)
    simp only [szB, List.length_cons, Nat.add_mul, Nat.one_mul]
    omega
theorem szB_le {k w : Nat} : ∀ {d : Nat} {r : List Dd}, r.length ≤ w → (∀ x ∈ r, DOk k w d x) → szB r ≤ bnd w d
  | 0, r, hl, h => by
    refine Nat.le_trans (szB_sum (B := 1) fun x hx => ?_) (by simpa [bnd] using hl)
    have hx := h x hx
    cases x with
    | set => simp only [szD]; omega
    | tell => simp only [szD]; omega
    | ite e a b => exact hx.elim
    | loop e b => exact hx.elim
  | d + 1, r, hl, h => by
    refine Nat.le_trans (szB_sum (B := 1 + 2 * bnd w d) fun x hx => ?_) (Nat.mul_le_mul_right _ hl)
    have hx := h x hx
    cases x with
    | set => simp only [szD]; omega
    | tell => simp only [szD]; omega
    | ite e a b =>
      obtain ⟨h1, ⟨h2, h3⟩, h4, h5⟩ := hx
      have q1 := szB_le h2 h3
      have q2 := szB_le h4 h5
      simp only [szD]
      omega
    | loop e b =>
      obtain ⟨h1, h4, h5⟩ := hx
      have q2 := szB_le h4 h5
      simp only [szD]
      omega

/-! ## what a run comes to -/
structure Sx where
  st : List Int
  told : List Int
  t : Nat
inductive Run : List Dd → Sx → Sx → Bool → Prop
  | nil {s : Sx} : Run [] s s true
  | set {n : Int} {e : Ex} {r : List Dd} {s s' : Sx} {k : Bool} : Run r ⟨s.st.set n.toNat (vl s.st e), s.told, s.t⟩ s' k → Run (.set n e :: r) s s' k
  | tell {e : Ex} {r : List Dd} {s s' : Sx} {k : Bool} : Run r ⟨s.st, s.told ++ [vl s.st e], s.t⟩ s' k → Run (.tell e :: r) s s' k
  | ite {e : Ex} {a b r : List Dd} {s s1 s' : Sx} {k : Bool} : Run (if vl s.st e ≠ 0 then a else b) s s1 true → Run r s1 s' k → Run (.ite e a b :: r) s s' k
  | iteCut {e : Ex} {a b r : List Dd} {s s' : Sx} : Run (if vl s.st e ≠ 0 then a else b) s s' false → Run (.ite e a b :: r) s s' false
  | off {e : Ex} {b r : List Dd} {st told : List Int} : Run (.loop e b :: r) ⟨st, told, 0⟩ ⟨st, told, 0⟩ false
  | stop {e : Ex} {b r : List Dd} {st told : List Int} {t : Nat} {s' : Sx} {k : Bool} : vl st e = 0 → Run r ⟨st, told, t⟩ s' k → Run (.loop e b :: r) ⟨st, told, t + 1⟩ s' k
  | more {e : Ex} {b r : List Dd} {st told : List Int} {t : Nat} {s1 s' : Sx} {k : Bool} : vl st e ≠ 0 → Run b ⟨st, told, t⟩ s1 true → Run (.loop e b :: r) s1 s' k → Run (.loop e b :: r) ⟨st, told, t + 1⟩ s' k
  | cut {e : Ex} {b r : List Dd} {st told : List Int} {t : Nat} {s' : Sx} : vl st e ≠ 0 → Run b ⟨st, told, t⟩ s' false → Run (.loop e b :: r) ⟨st, told, t + 1⟩ s' false
theorem Run.le {r : List Dd} {s s' : Sx} {k : Bool} (h : Run r s s' k) : s'.t ≤ s.t := by
  induction h with
  | nil => exact Nat.le_refl _
  | set _ ih => exact ih
  | tell _ ih => exact ih
  | ite _ _ i1 i2 => exact Nat.le_trans i2 i1
  | iteCut _ ih => exact ih
  | off => exact Nat.le_refl _
  | stop _ _ ih => exact Nat.le_trans ih (Nat.le_succ _)
  | more _ _ _ i1 i2 => exact Nat.le_trans i2 (Nat.le_trans i1 (Nat.le_succ _))
  | cut _ _ ih => exact Nat.le_trans ih (Nat.le_succ _)
theorem Run.total : ∀ (T N : Nat) (r : List Dd) (s : Sx), s.t ≤ T → szB r ≤ N → ∃ s' k, Run r s s' k := fun T => by
  induction T using Nat.strongRecOn with
  | _ T ihT =>
  intro N
  induction N with
  | zero =>
    intro r s _ hN
    cases r with
    | nil => exact ⟨_, _, .nil⟩
    | cons x r => have := szD_pos x; simp only [szB] at hN; omega
  | succ N ih =>
    intro r s hs hN
    cases r with
    | nil => exact ⟨_, _, .nil⟩
    | cons x r =>
      have hx := szD_pos x
      simp only [szB] at hN
      cases x with
      | set n e =>
        obtain ⟨s', k, h⟩ := ih r ⟨s.st.set n.toNat (vl s.st e), s.told, s.t⟩ hs (by omega)
        exact ⟨_, _, .set h⟩
      | tell e =>
        obtain ⟨s', k, h⟩ := ih r ⟨s.st, s.told ++ [vl s.st e], s.t⟩ hs (by omega)
        exact ⟨_, _, .tell h⟩
      | ite e a b =>
        simp only [szD] at hN
        obtain ⟨s1, k1, h1⟩ := ih (if vl s.st e ≠ 0 then a else b) s hs (by split <;> omega)
        cases k1 with
        | false => exact ⟨_, _, .iteCut h1⟩
        | true =>
          have := h1.le
          obtain ⟨s', k, h⟩ := ih r s1 (by omega) (by omega)
          exact ⟨_, _, .ite h1 h⟩
      | loop e b =>
        simp only [szD] at hN
        obtain ⟨st, told, t⟩ := s
        cases t with
        | zero => exact ⟨_, _, .off⟩
        | succ t =>
          have hs : t + 1 ≤ T := hs
          by_cases h0 : vl st e = 0
          · obtain ⟨s', k, h⟩ := ihT t (by omega) (szB r) r ⟨st, told, t⟩ (Nat.le_refl _) (Nat.le_refl _)
            exact ⟨_, _, .stop h0 h⟩
          · obtain ⟨s1, k1, h1⟩ := ihT t (by omega) (szB b) b ⟨st, told, t⟩ (Nat.le_refl _) (Nat.le_refl _)
            cases k1 with
            | false => exact ⟨_, _, .cut h0 h1⟩
            | true =>
              have hle : s1.t ≤ t := h1.le
              obtain ⟨s', k, h⟩ := ihT t (by omega) _ (.loop e b :: r) s1 hle (Nat.le_refl _)
              exact ⟨_, _, .more h0 h1 h⟩
def ToldOk (xs : List Int) : Prop := ∀ x ∈ xs, 0 ≤ x ∧ x ≤ 999
theorem stOk_set {st : List Int} (hs : StOk st) {n v : Int} (h : 0 ≤ v ∧ v ≤ 999) : StOk (st.set n.toNat v) := by
  refine ⟨by rw [List.length_set]; exact hs.1, fun x hx => ?_⟩
  rcases List.mem_or_eq_of_mem_set hx with hx | rfl
  · exact hs.2 x hx
  · exact h
def Gd (k w : Nat) (r : List Dd) : Prop := ∀ x ∈ r, ∃ d, DOk k w d x
theorem Gd.of {k w d : Nat} {r : List Dd} (h : ∀ x ∈ r, DOk k w d x) : Gd k w r := fun x hx => ⟨d, h x hx⟩
theorem Gd.hd {k w : Nat} {x : Dd} {r : List Dd} (h : Gd k w (x :: r)) : ∃ d, DOk k w d x := h x (by simp)
theorem Gd.tl {k w : Nat} {x : Dd} {r : List Dd} (h : Gd k w (x :: r)) : Gd k w r := fun y hy => h y (List.mem_cons_of_mem _ hy)
theorem Gd.set {k w : Nat} {n : Int} {e : Ex} {r : List Dd} (h : Gd k w (.set n e :: r)) : 0 ≤ n ∧ n < 4 ∧ EOk k e := by
  obtain ⟨d, q⟩ := h.hd
  unfold DOk at q
  exact q
theorem Gd.tell {k w : Nat} {e : Ex} {r : List Dd} (h : Gd k w (.tell e :: r)) : EOk k e := by
  obtain ⟨d, q⟩ := h.hd
  unfold DOk at q
  exact q
theorem Gd.ite {k w : Nat} {e : Ex} {a b r : List Dd} (h : Gd k w (.ite e a b :: r)) : EOk k e ∧ Gd k w a ∧ Gd k w b ∧ a.length ≤ w ∧ b.length ≤ w := by
  obtain ⟨d, q⟩ := h.hd
  cases d with
  | zero => exact q.elim
  | succ d => exact ⟨q.1, .of q.2.1.2, .of q.2.2.2, q.2.1.1, q.2.2.1⟩
theorem Gd.loop {k w : Nat} {e : Ex} {b r : List Dd} (h : Gd k w (.loop e b :: r)) : EOk k e ∧ Gd k w b ∧ b.length ≤ w := by
  obtain ⟨d, q⟩ := h.hd
  cases d with
  | zero => exact q.elim
  | succ d => exact ⟨q.1, .of q.2.2, q.2.1⟩
theorem Gd.pick {k w : Nat} {c : Prop} [Decidable c] {a b : List Dd} (ha : Gd k w a) (hb : Gd k w b) : Gd k w (if c then a else b) := by split <;> assumption
theorem Run.inv {k w : Nat} {r : List Dd} {s s' : Sx} {b : Bool} (h : Run r s s' b) (g : Gd k w r) (hs : StOk s.st) (ht : ToldOk s.told) : StOk s'.st ∧ ToldOk s'.told := by
  induction h with
  | nil => exact ⟨hs, ht⟩
  | set _ ih => exact ih g.tl (stOk_set hs (vl_in hs g.set.2.2)) ht
  | tell _ ih =>
    refine ih g.tl hs fun x hx => ?_
    rcases List.mem_append.mp hx with hx | hx
    · exact ht x hx
    · rw [List.mem_singleton.mp hx]; exact vl_in hs g.tell
  | ite _ _ i1 i2 =>
    obtain ⟨q1, q2⟩ := i1 (.pick g.ite.2.1 g.ite.2.2.1) hs ht
    exact i2 g.tl q1 q2
  | iteCut _ ih => exact ih (.pick g.ite.2.1 g.ite.2.2.1) hs ht
  | off => exact ⟨hs, ht⟩
  | stop _ _ ih => exact ih g.tl hs ht
  | more _ _ _ i1 i2 =>
    obtain ⟨q1, q2⟩ := i1 g.loop.2.1 hs ht
    exact i2 g q1 q2
  | cut _ _ ih => exact ih g.loop.2.1 hs ht
/-- no more is told than so many deeds for each turn -/
theorem Run.few {W : Nat} {r : List Dd} {s s' : Sx} {b : Bool} (h : Run r s s' b) (hW : szB r ≤ W) : s'.told.length + s'.t * W ≤ s.told.length + s.t * W + szB r := by
  induction h with
  | nil => simp [szB]
  | set _ ih =>
    simp only [szB, szD] at hW ⊢
    have := ih (by omega)
    simp only at this
    omega
  | tell _ ih =>
    simp only [szB, szD] at hW ⊢
    have := ih (by omega)
    simp only [List.length_append, List.length_singleton] at this
    omega
  | @ite e a b r s s1 s' k _ _ i1 i2 =>
    simp only [szB, szD] at hW ⊢
    have q1 := i1 (by split <;> omega)
    have q2 := i2 (by omega)
    have q3 : szB (if vl s.st e ≠ 0 then a else b) ≤ szB a + szB b := by split <;> omega
    omega
  | @iteCut e a b r s s' _ i1 =>
    simp only [szB, szD] at hW ⊢
    have q1 := i1 (by split <;> omega)
    have q3 : szB (if vl s.st e ≠ 0 then a else b) ≤ szB a + szB b := by split <;> omega
    omega
  | off => omega
  | stop _ _ ih =>
    simp only [szB, szD] at hW ⊢
    have := ih (by omega)
    simp only [Nat.add_mul, Nat.one_mul] at this ⊢
    omega
  | more _ _ _ i1 i2 =>
    have hW' := hW
    simp only [szB, szD] at hW
    have q1 := i1 (by omega)
    have q2 := i2 hW'
    simp only [Nat.add_mul, Nat.one_mul] at q1 q2 ⊢
    omega
  | cut _ _ ih =>
    simp only [szB, szD] at hW ⊢
    have := ih (by omega)
    simp only [Nat.add_mul, Nat.one_mul] at this ⊢
    omega
end S
set_option Elab.async false
set_option linter.all false
set_option maxRecDepth 100000
set_option maxHeartbeats 4000000
namespace S
open PySem PySem.Spec L2 Ev

/-! ## expressions made simpler: the plain law -/
def eqE : Ex → Ex → Bool
  | .num i, .num j => i == j
  | .nam i, .nam j => i == j
  | .neg a, .neg b => eqE a b
  | .two w a b, .two w' a' b' => decide (w = w') && eqE a a' && eqE b b'
  | _, _ => false
theorem eqE_iff : ∀ {a b : Ex}, eqE a b = true ↔ a = b
  | .num i, b => by cases b <;> simp [eqE]
  | .nam i, b => by cases b <;> simp [eqE]
  | .neg a, b => by cases b <;> simp [eqE, eqE_iff]
  | .two w a c, b => by cases b <;> simp [eqE, eqE_iff, and_assoc]
theorem eqE_refl (a : Ex) : eqE a a = true := eqE_iff.mpr rfl
def isNum : Ex → Bool
  | .num _ => true
  | _ => false
def simpler (w : Str) (a b : Ex) : Ex :=
  if w = "plus" then if eqE a (.num 0) then b else if eqE b (.num 0) then a else .two w a b
  else if w = "minus" then if eqE a b then .num 0 else if eqE b (.num 0) then a else .two w a b
  else if w = "times" then if eqE a (.num 0) || eqE b (.num 0) then .num 0 else if eqE a (.num 1) then b else if eqE b (.num 1) then a else .two w a b
  else if eqE a b then .num (if w = "same" then 1 else 0)
  else if w = "less" ∧ eqE b (.num 0) = true then .num 0 else .two w a b
def fold : Ex → Ex
  | .num i => .num i
  | .nam i => .nam i
  | .neg e => match fold e with
    | .num i => .num (if i = 0 then 1 else 0)
    | f => .neg f
  | .two w a b => match fold a, fold b with
    | .num x, .num y => .num (wk w x y)
    | f, g => simpler w f g
def smp : Ex → Bool
  | .num _ => true
  | .nam _ => true
  | .neg e => smp e && !isNum e
  | .two w a b => smp a && smp b && !(isNum a && isNum b) && !(eqE a b && (decide (w = "minus") || decide (w = "less") || decide (w = "same"))) && !(decide (w = "plus") && (eqE a (.num 0) || eqE b (.num 0))) &&
      !((decide (w = "minus") || decide (w = "less")) && eqE b (.num 0)) && !(decide (w = "times") && (eqE a (.num 0) || eqE b (.num 0) || eqE a (.num 1) || eqE b (.num 1)))
theorem fold_neg (e : Ex) : (∃ i, fold e = .num i ∧ fold (.neg e) = .num (if i = 0 then 1 else 0)) ∨ isNum (fold e) = false ∧ fold (.neg e) = .neg (fold e) := by
  cases h : fold e with
  | num i => exact .inl ⟨i, rfl, by simp [fold, h]⟩
  | _ => exact .inr ⟨rfl, by simp [fold, h]⟩
theorem fold_two (w : Str) (a b : Ex) : (∃ x y, fold a = .num x ∧ fold b = .num y ∧ fold (.two w a b) = .num (wk w x y)) ∨ (isNum (fold a) && isNum (fold b)) = false ∧ fold (.two w a b) = simpler w (fold a) (fold b) := by
  cases h : fold a with
  | num x =>
    cases h2 : fold b with
    | num y => exact .inl ⟨x, y, rfl, rfl, by simp [fold, h, h2]⟩
    | _ => exact .inr ⟨rfl, by simp [fold, h, h2]⟩
  | _ => exact .inr ⟨rfl, by simp [fold, h]⟩
/-- what simpler may give -/
theorem simpler_cases {w : Str} (hw : w ∈ five) (a b : Ex) : simpler w a b = a ∨ simpler w a b = b ∨ (∃ i : Int, (i = 0 ∨ i = 1) ∧ simpler w a b = .num i) ∨ simpler w a b = .two w a b := by
  unfold simpler
  repeat' split
  all_goals first | exact .inl rfl | exact .inr (.inl rfl) | exact .inr (.inr (.inr rfl)) | exact .inr (.inr (.inl ⟨_, .inl rfl, rfl⟩)) | exact .inr (.inr (.inl ⟨_, .inr rfl, rfl⟩))
theorem simpler_ok {w : Str} (hw : w ∈ five) {d : Nat} {a b : Ex} (ha : EOk d a) (hb : EOk d b) : EOk (d + 1) (simpler w a b) := by
  rcases simpler_cases hw a b with h | h | ⟨i, hi, h⟩ | h
  · rw [h]; exact ha.mono (by omega)
  · rw [h]; exact hb.mono (by omega)
  · rw [h]; unfold EOk; omega
  · rw [h]; exact ⟨hw, ha, hb⟩
theorem fold_ok : ∀ {d : Nat} {e : Ex}, EOk d e → EOk d (fold e)
  | d, .num i, h => h
  | d, .nam i, h => h
  | 0, .neg e, h => h.elim
  | 0, .two w a b, h => h.elim
  | d + 1, .neg e, h => by
    have ih := fold_ok (d := d) (e := e) h
    rcases fold_neg e with ⟨i, _, h2⟩ | ⟨_, h2⟩
    · rw [h2]; unfold EOk; split <;> omega
    · rw [h2]; exact ih
  | d + 1, .two w a b, h => by
    have i1 := fold_ok h.2.1
    have i2 := fold_ok h.2.2
    rcases fold_two w a b with ⟨x, y, _, _, h2⟩ | ⟨_, h2⟩
    · rw [h2]; exact wk_in
    · rw [h2]; exact simpler_ok h.1 i1 i2
theorem simpler_smp {w : Str} (hw : w ∈ five) {a b : Ex} (ha : smp a = true) (hb : smp b = true) (hn : (isNum a && isNum b) = false) : smp (simpler w a b) = true := by
  have n5 : w = "plus" ∨ w = "minus" ∨ w = "times" ∨ w = "less" ∨ w = "same" := by simpa [five] using hw
  unfold simpler
  rcases n5 with rfl | rfl | rfl | rfl | rfl
  all_goals
    simp
    repeat' split
    all_goals simp_all [smp]
    all_goals (cases h1 : isNum a <;> simp_all)
theorem fold_smp : ∀ {d : Nat} {e : Ex}, EOk d e → smp (fold e) = true
  | d, .num i, h => rfl
  | d, .nam i, h => rfl
  | 0, .neg e, h => h.elim
  | 0, .two w a b, h => h.elim
  | d + 1, .neg e, h => by
    have ih := fold_smp (d := d) (e := e) h
    rcases fold_neg e with ⟨i, _, h2⟩ | ⟨h1, h2⟩
    · rw [h2]; rfl
    · rw [h2]; simp [smp, ih, h1]
  | d + 1, .two w a b, h => by
    have i1 := fold_smp h.2.1
    have i2 := fold_smp h.2.2
    rcases fold_two w a b with ⟨x, y, _, _, h2⟩ | ⟨h1, h2⟩
    · rw [h2]; rfl
    · rw [h2]; exact simpler_smp h.1 i1 i2 h1
theorem smp_fold : ∀ {d : Nat} {e : Ex}, EOk d e → smp e = true → fold e = e
  | d, .num i, _, _ => rfl
  | d, .nam i, _, _ => rfl
  | 0, .neg e, h, _ => h.elim
  | 0, .two w a b, h, _ => h.elim
  | d + 1, .neg e, h, hs => by
    simp [smp] at hs
    have ih := smp_fold (d := d) (e := e) h hs.1
    rcases fold_neg e with ⟨i, h1, _⟩ | ⟨_, h2⟩
    · rw [ih] at h1; rw [h1] at hs; simp [isNum] at hs
    · rw [h2, ih]
  | d + 1, .two w a b, h, hs => by
    have n5 : w = "plus" ∨ w = "minus" ∨ w = "times" ∨ w = "less" ∨ w = "same" := by simpa [five] using h.1
    simp only [smp, Bool.and_eq_true] at hs
    obtain ⟨⟨⟨⟨⟨⟨s1, s2⟩, s3⟩, s4⟩, s5⟩, s6⟩, s7⟩ := hs
    have i1 := smp_fold h.2.1 s1
    have i2 := smp_fold h.2.2 s2
    rcases fold_two w a b with ⟨x, y, e1, e2, _⟩ | ⟨_, h2⟩
    · rw [i1] at e1; rw [i2] at e2; rw [e1, e2] at s3; simp [isNum] at s3
    · rw [h2, i1, i2]
      unfold simpler
      rcases n5 with rfl | rfl | rfl | rfl | rfl
      all_goals simp_all
theorem sz_pos : ∀ e : Ex, 1 ≤ sz e
  | .num _ => by simp [sz]
  | .nam _ => by simp [sz]
  | .neg e => by have := sz_pos e; simp [sz]; omega
  | .two _ a b => by have := sz_pos a; have := sz_pos b; simp [sz]; omega
theorem fold_sz : ∀ {d : Nat} {e : Ex}, EOk d e → sz (fold e) ≤ sz e
  | d, .num i, h => by simp [fold]
  | d, .nam i, h => by simp [fold]
  | 0, .neg e, h => h.elim
  | 0, .two w a b, h => h.elim
  | d + 1, .neg e, h => by
    have ih := fold_sz (d := d) (e := e) h
    have := sz_pos e
    rcases fold_neg e with ⟨i, _, h2⟩ | ⟨h1, h2⟩
    · rw [h2]; simp [sz]; omega
    · rw [h2]; simp [sz]; omega
  | d + 1, .two w a b, h => by
    have i1 := fold_sz h.2.1
    have i2 := fold_sz h.2.2
    have := sz_pos a
    have := sz_pos b
    rcases fold_two w a b with ⟨x, y, _, _, h2⟩ | ⟨h1, h2⟩
    · rw [h2]; simp [sz]; omega
    · rw [h2]
      rcases simpler_cases h.1 (fold a) (fold b) with h | h | ⟨i, hi, h⟩ | h
      all_goals (rw [h]; simp [sz]; omega)
theorem fold_nms : ∀ {d : Nat} {e : Ex}, EOk d e → ∀ k ∈ nms (fold e), k ∈ nms e
  | d, .num i, h => by simp [fold]
  | d, .nam i, h => by simp [fold]
  | 0, .neg e, h => h.elim
  | 0, .two w a b, h => h.elim
  | d + 1, .neg e, h => by
    have ih := fold_nms (d := d) (e := e) h
    rcases fold_neg e with ⟨i, _, h2⟩ | ⟨h1, h2⟩
    · rw [h2]; simp [nms]
    · rw [h2]
      intro k hk
      unfold nms at hk ⊢
      rw [setI_mem] at hk ⊢
      exact ih k hk
  | d + 1, .two w a b, h => by
    have i1 := fold_nms h.2.1
    have i2 := fold_nms h.2.2
    have up1 : ∀ k ∈ nms (fold a), k ∈ nms (.two w a b) := fun k hk => by unfold nms; rw [setI_mem, List.mem_append]; exact .inl (i1 k hk)
    have up2 : ∀ k ∈ nms (fold b), k ∈ nms (.two w a b) := fun k hk => by unfold nms; rw [setI_mem, List.mem_append]; exact .inr (i2 k hk)
    rcases fold_two w a b with ⟨x, y, _, _, h2⟩ | ⟨h1, h2⟩
    · rw [h2]; simp [nms]
    · rw [h2]
      rcases simpler_cases h.1 (fold a) (fold b) with h | h | ⟨i, hi, h⟩ | h
      · rw [h]; exact up1
      · rw [h]; exact up2
      · rw [h]; simp [nms]
      · rw [h]
        intro k hk
        rw [show nms (Ex.two w (fold a) (fold b)) = setI (nms (fold a) ++ nms (fold b)) from rfl, setI_mem, List.mem_append] at hk
        rcases hk with hk | hk
        · exact up1 k hk
        · exact up2 k hk
theorem fold_vl {st : List Int} (hs : StOk st) : ∀ {d : Nat} {e : Ex}, EOk d e → vl st (fold e) = vl st e
  | d, .num i, h => rfl
  | d, .nam i, h => rfl
  | 0, .neg e, h => h.elim
  | 0, .two w a b, h => h.elim
  | d + 1, .neg e, h => by
    have ih := fold_vl hs (d := d) (e := e) h
    rcases fold_neg e with ⟨i, h1, h2⟩ | ⟨h1, h2⟩
    · rw [h2]
      rw [h1] at ih
      show (if i = 0 then 1 else 0) = if vl st e = 0 then 1 else 0
      rw [← ih]
      rfl
    · rw [h2]
      show (if vl st (fold e) = 0 then 1 else 0) = if vl st e = 0 then 1 else 0
      rw [ih]
  | d + 1, .two w a b, h => by
    have i1 := fold_vl hs h.2.1
    have i2 := fold_vl hs h.2.2
    have b1 := vl_in hs (fold_ok h.2.1)
    have b2 := vl_in hs (fold_ok h.2.2)
    show _ = wk w (vl st a) (vl st b)
    rw [← i1, ← i2]
    rcases fold_two w a b with ⟨x, y, e1, e2, h2⟩ | ⟨h1, h2⟩
    · rw [h2, e1, e2]; rfl
    · rw [h2]
      generalize fold a = f at *
      generalize fold b = g at *
      have n5 : w = "plus" ∨ w = "minus" ∨ w = "times" ∨ w = "less" ∨ w = "same" := by simpa [five] using h.1
      have vn : ∀ i, vl st (.num i) = i := fun _ => rfl
      have vt : ∀ w a b, vl st (.two w a b) = wk w (vl st a) (vl st b) := fun _ _ _ => rfl
      unfold simpler
      rcases n5 with rfl | rfl | rfl | rfl | rfl
      all_goals
        simp
        repeat' split
        all_goals (try simp only [Bool.or_eq_true, eqE_iff] at *)
        all_goals (first | (rename_i q; rcases q with rfl | rfl) | skip)
        all_goals (try subst_vars)
        all_goals (try simp only [vn, vt] at *)
        all_goals (try simp [wk])
        all_goals (try omega)
end S
set_option Elab.async false
set_option linter.all false
set_option maxRecDepth 100000
set_option maxHeartbeats 4000000
namespace S
open PySem PySem.Spec L2 Ev

/-! ## == of expressions -/
theorem enc_tup {d : Nat} {e : Ex} (h : EOk d e) : ∃ xs, enc e = .tup xs ∧ Dt 10 (d + 1) (.tup xs) := by
  have := enc_dt h
  cases e <;> exact ⟨_, rfl, this⟩
theorem depth_enc : ∀ {d : Nat} {e : Ex}, EOk d e → (toP (enc e)).depth ≤ d + 3
  | d, .num i, h => by simp [enc, toP, toPs, PyData.depth, PyData.depthAll]
  | d, .nam i, h => by simp [enc, toP, toPs, PyData.depth, PyData.depthAll]
  | 0, .neg e, h => h.elim
  | 0, .two w a b, h => h.elim
  | d + 1, .neg e, h => by have := depth_enc (d := d) (e := e) h; simp [enc, toP, toPs, PyData.depth, PyData.depthAll]; omega
  | d + 1, .two w a b, h => by have := depth_enc h.2.1; have := depth_enc h.2.2; simp [enc, toP, toPs, PyData.depth, PyData.depthAll]; omega
theorem pn (i : Int) : toP (enc (.num i)) = .tuple [.str "number", .int i] := by simp [enc, toP, toPs]
theorem pm (i : Int) : toP (enc (.nam i)) = .tuple [.str "name", .int i] := by simp [enc, toP, toPs]
theorem pg (e : Ex) : toP (enc (.neg e)) = .tuple [.str "not", toP (enc e)] := by simp [enc, toP, toPs]
theorem pt (w : Str) (a b : Ex) : toP (enc (.two w a b)) = .tuple [.str w, toP (enc a), toP (enc b)] := by simp [enc, toP, toPs]
theorem q_t (xs ys : List PyData) : PyData.eqv (.tuple xs) (.tuple ys) = PyData.eqvAll xs ys := by rw [PyData.eqv]
theorem q_c (x y : PyData) (xs ys : List PyData) : PyData.eqvAll (x :: xs) (y :: ys) = (PyData.eqv x y && PyData.eqvAll xs ys) := by rw [PyData.eqvAll]
theorem q_n : PyData.eqvAll [] [] = true := by rw [PyData.eqvAll]
theorem q_nc (y : PyData) (ys : List PyData) : PyData.eqvAll [] (y :: ys) = false := by rw [PyData.eqvAll]
theorem q_cn (x : PyData) (xs : List PyData) : PyData.eqvAll (x :: xs) [] = false := by rw [PyData.eqvAll]
theorem q_s (x y : Str) : PyData.eqv (.str x) (.str y) = (x == y) := by rw [PyData.eqv]
theorem q_i (x y : Int) : PyData.eqv (.int x) (.int y) = (x == y) := by rw [PyData.eqv]
theorem lits : (("number" : Str) == ("name" : Str)) = false ∧ (("number" : Str) == ("not" : Str)) = false ∧ (("name" : Str) == ("number" : Str)) = false ∧ (("name" : Str) == ("not" : Str)) = false ∧ (("not" : Str) == ("number" : Str)) = false ∧ (("not" : Str) == ("name" : Str)) = false := by simp
theorem eqv_enc : ∀ {d d' : Nat} {a b : Ex}, EOk d a → EOk d' b → PyData.eqv (toP (enc a)) (toP (enc b)) = eqE a b := fun {d} => by
  induction d using Nat.strongRecOn with
  | _ d ih =>
  intro d' a b ha hb
  have nn : ∀ {d w a b}, EOk d (.two w a b) → (w == ("number" : Str)) = false ∧ (w == ("name" : Str)) = false ∧ (w == ("not" : Str)) = false ∧ (("number" : Str) == w) = false ∧ (("name" : Str) == w) = false ∧ (("not" : Str) == w) = false := fun {d w a b} h => by
    have : w ≠ "number" ∧ w ≠ "name" ∧ w ≠ "not" := by
      cases d with
      | zero => exact h.elim
      | succ d => exact five_no h.1
    simp [this, Ne.symm this.1, Ne.symm this.2.1, Ne.symm this.2.2]
  cases a with
  | num i =>
    cases b with
    | two w x y => simp only [pn, pm, pg, pt, q_t, q_c, q_n, q_nc, q_cn, q_s, q_i, nn hb, lits, Bool.false_and, eqE]
    | _ => simp only [pn, pm, pg, pt, q_t, q_c, q_n, q_nc, q_cn, q_s, q_i, lits, Bool.false_and, eqE, BEq.rfl, Bool.true_and, Bool.and_true]
  | nam i =>
    cases b with
    | two w x y => simp only [pn, pm, pg, pt, q_t, q_c, q_n, q_nc, q_cn, q_s, q_i, nn hb, lits, Bool.false_and, eqE]
    | _ => simp only [pn, pm, pg, pt, q_t, q_c, q_n, q_nc, q_cn, q_s, q_i, lits, Bool.false_and, eqE, BEq.rfl, Bool.true_and, Bool.and_true]
  | neg a =>
    cases d with
    | zero => exact ha.elim
    | succ d =>
      cases b with
      | neg b =>
        cases d' with
        | zero => exact hb.elim
        | succ d' =>
          have := ih d (by omega) (d' := d') (a := a) (b := b) ha hb
          simp only [pg, q_t, q_c, q_n, q_s, eqE, this, BEq.rfl, Bool.true_and, Bool.and_true]
      | two w x y => simp only [pn, pm, pg, pt, q_t, q_c, q_n, q_nc, q_cn, q_s, q_i, nn hb, lits, Bool.false_and, eqE]
      | _ => simp only [pn, pm, pg, pt, q_t, q_c, q_n, q_nc, q_cn, q_s, q_i, lits, Bool.false_and, eqE]
  | two w a c =>
    have n1 := nn ha
    cases d with
    | zero => exact ha.elim
    | succ d =>
      cases b with
      | two w' a' c' =>
        cases d' with
        | zero => exact hb.elim
        | succ d' =>
          have h1 := ih d (by omega) (d' := d') ha.2.1 hb.2.1
          have h2 := ih d (by omega) (d' := d') ha.2.2 hb.2.2
          simp only [pt, q_t, q_c, q_n, q_s, eqE, h1, h2, Bool.and_true, Bool.and_assoc]
          rfl
      | _ => simp only [pn, pm, pg, pt, q_t, q_c, q_n, q_nc, q_cn, q_s, q_i, n1, lits, Bool.false_and, eqE]
theorem eq_enc {d d' : Nat} {a b : Ex} (ha : EOk d a) (hb : EOk d' b) (h : d ≤ 100) (h' : d' ≤ 100) {neg : Bool} {L : List MO} : cEq neg (.d (enc a)) (.d (enc b)) L = some (.d (.bl (if neg then !eqE a b else eqE a b))) := by
  have e1 : eqD (enc a) (enc b) = some (eqE a b) := by
    have q : ∀ xs ys, enc a = .tup xs → enc b = .tup ys → eqD (enc a) (enc b) = some (PyData.eqv (toP (enc a)) (toP (enc b))) := fun xs ys ex ey => by
      have l1 := lay_enc ha
      have l2 := lay_enc hb
      have d1 := depth_enc ha
      rw [ex] at l1 d1 ⊢
      rw [ey] at l2 ⊢
      show (if _ then _ else _) = _
      rw [if_pos ⟨l1, l2, Nat.le_trans (Nat.min_le_left _ _) (by omega)⟩]
    obtain ⟨xs, ex, _⟩ := enc_tup ha
    obtain ⟨ys, ey, _⟩ := enc_tup hb
    rw [q xs ys ex ey, eqv_enc ha hb]
  show (match asD L (.d (enc a)), asD L (.d (enc b)) with
    | some a, some b => (eqD a b).map fun k => Val.d (.bl (if neg then !k else k))
    | _, _ => none) = _
  show (eqD (enc a) (enc b)).map _ = _
  rw [e1]
  rfl
theorem in_enc {d d' : Nat} {a : Ex} {es : List Ex} (ha : EOk d a) (hes : ∀ e ∈ es, EOk d' e) (h : d ≤ 100) {L : List MO} : cIn false (.d (enc a)) (.d (.tup (es.map enc))) L = some (.d (.bl (es.any fun e => eqE e a))) := by
  have e1 : inD (enc a) (es.map enc) = some (es.any fun e => eqE e a) := by
    have lay : PyData.canLayAll0 (toPs (es.map enc)) = true := by
      clear ha
      induction es with
      | nil => rfl
      | cons e es ih =>
        simp only [List.map_cons, toPs, PyData.canLayAll0, Bool.and_eq_true]
        exact ⟨lay_enc (hes e (by simp)), ih fun x hx => hes x (List.mem_cons_of_mem _ hx)⟩
    have any : ((toPs (es.map enc)).any fun y => PyData.eqv y (toP (enc a))) = es.any fun e => eqE e a := by
      clear lay
      induction es with
      | nil => rfl
      | cons e es ih =>
        simp only [List.map_cons, toPs, List.any_cons]
        rw [eqv_enc (hes e (by simp)) ha, ih fun x hx => hes x (List.mem_cons_of_mem _ hx)]
    have l1 := lay_enc ha
    have d1 := depth_enc ha
    have fl : flat (enc a) = false := by cases a <;> rfl
    unfold inD
    rw [if_neg (by simp [fl]), if_pos ⟨l1, lay, Nat.le_trans (Nat.min_le_right _ _) (by omega)⟩, any]
  show (inD (enc a) (es.map enc)).map _ = _
  rw [e1]
  rfl
end S
set_option Elab.async false
set_option linter.all false
set_option maxRecDepth 100000
set_option maxHeartbeats 4000000
namespace S
open PySem PySem.Spec L2 Ev

/-! ## drawn programs -/
structure Trx (P : Prog) : Prop extends Drx P where
  block : P "_law_block" = some F.f__law_block
  deed : P "_law_deed" = some F.f__law_deed
  program : P "_law_program" = some F.f__law_program
  turns : P "_law_turns" = some F.f__law_turns
theorem lay_strs : PyData.strOk "set" = true ∧ PyData.strOk "tell" = true ∧ PyData.strOk "if" = true ∧ PyData.strOk "while" = true := ⟨by decide +kernel, by decide +kernel, by decide +kernel, by decide +kernel⟩
mutual
theorem lay_encD {k w : Nat} : ∀ {d : Nat} {x : Dd}, DOk k w d x → (toP (encD x)).canLay0 = true
  | _, .set n e, h => by
    unfold DOk at h
    simp [encD, toP, toPs, PyData.canLay0, PyData.canLayAll0, lay_strs, lay_enc h.2.2]
  | _, .tell e, h => by
    unfold DOk at h
    simp [encD, toP, toPs, PyData.canLay0, PyData.canLayAll0, lay_strs, lay_enc h]
  | 0, .ite e a b, h => h.elim
  | 0, .loop e b, h => h.elim
  | d + 1, .ite e a b, h => by
    obtain ⟨h1, ⟨_, h3⟩, _, h5⟩ := h
    simp [encD, encB_map, toP, toPs, PyData.canLay0, PyData.canLayAll0, lay_strs, lay_enc h1, lay_encB h3, lay_encB h5]
  | d + 1, .loop e b, h => by
    obtain ⟨h1, _, h5⟩ := h
    simp [encD, encB_map, toP, toPs, PyData.canLay0, PyData.canLayAll0, lay_strs, lay_enc h1, lay_encB h5]
theorem lay_encB {k w : Nat} : ∀ {d : Nat} {r : List Dd}, (∀ x ∈ r, DOk k w d x) → PyData.canLayAll0 (toPs (r.map encD)) = true
  | d, [], _ => rfl
  | d, x :: r, h => by
    simp only [List.map_cons, toPs, PyData.canLayAll0, Bool.and_eq_true]
    exact ⟨lay_encD (h x (by simp)), lay_encB fun y hy => h y (List.mem_cons_of_mem _ hy)⟩
end
/-- == of anything with the empty tuple -/
theorem eq_nil {xs : List D} {neg : Bool} {L : List MO} (h : PyData.canLayAll0 (toPs xs) = true) : cEq neg (.d (.tup xs)) (.d (.tup [])) L = some (.d (.bl (if neg then !xs.isEmpty else xs.isEmpty))) := by
  have e1 : eqD (.tup xs) (.tup []) = some xs.isEmpty := by
    show (if _ then _ else _) = _
    rw [if_pos ⟨by rw [toP, PyData.canLay0]; exact h, rfl, Nat.le_trans (Nat.min_le_right _ _) (by rw [toP, toPs]; decide)⟩]
    rw [toP, toP, q_t]
    cases xs with
    | nil => rw [toPs, q_n]; rfl
    | cons x xs => rw [toPs, toPs, q_cn]; rfl
  show (eqD (.tup xs) (.tup [])).map _ = _
  rw [e1]
  rfl
section
variable {P : Prog} {n : Nat} {h : Nat} {L : List MO}
/-- a comprehension of draws, of a drawn length -/
theorem comp_pooln {C : Calls} {ρ : Rho} {it : MI} {vs : List Nat} {g : MG} {t : MT} {m : M} {Q : Val → List MO → Prop} {N : Nat} (R : D → Prop) (hN : N ≤ 1000)
    (start : (it C ρ L).sat fun s L1 => HasPool h L1 ∧ Stp h L L1 ∧ s.own = none ∧ s.xs.length ≤ N)
    (step : ∀ L' acc y, HasPool h L' → (g C (.d y) (wipeR ρ vs) (L' ++ [.lst acc])).sat fun ρ1 L1 => (t C ρ1 L1).sat fun b L2 => b = true ∧ (m C ρ1 L2).sat fun z L3 => (∃ d, fz z = .d d ∧ R d) ∧ Stp h (L' ++ [.lst acc]) L3)
    (done : ∀ ds L', HasPool h L' → Stp h L L' → ds.length ≤ N → (∀ d ∈ ds, R d) → Q (.new ds) L') : (mComp it vs g t m C ρ L).sat Q := by
  refine sat_mComp (fun r acc L' => HasPool h L' ∧ Stp h L L' ∧ acc.length + r.length ≤ N ∧ ∀ d ∈ acc, R d) ?_ ?_ ?_
  · exact Out.sat_mono start fun s L1 ⟨h0, h1, h2, h3⟩ => ⟨h2, h0, h1, by simpa using h3, by simp⟩
  · rintro x r acc L' ⟨hp', st', hl, hr⟩
    rw [List.length_cons] at hl
    refine Out.sat_mono (step L' acc x hp') fun ρ1 L1 q => ?_
    refine Out.sat_mono q fun b' L2 ⟨hb', q⟩ => ?_
    rw [if_pos hb']
    refine Out.sat_mono q fun z L3 ⟨⟨d, e5, hd⟩, st⟩ => ?_
    obtain ⟨L4, e6, st4⟩ := st.unsnoc hp'
    exact ⟨d, L4, e5, by rw [sizeLine_val]; omega, e6, st4.len, hp'.step st4, st'.trans st4, by simp; omega, smallR hr hd⟩
  · rintro acc L' ⟨hp', st', hl, hr⟩
    exact ⟨hp'.1, done acc L' hp' st' (by simpa using hl) hr⟩
where smallR {R : D → Prop} {acc : List D} {d : D} (hr : ∀ d ∈ acc, R d) (hd : R d) : ∀ x ∈ acc ++ [d], R x := fun x hx => (List.mem_append.mp hx).elim (hr x) fun hx => by rw [List.mem_singleton.mp hx]; exact hd
theorem dds_of {k w d : Nat} {ds : List D} (h : ∀ y ∈ ds, ∃ x, DOk k w d x ∧ y = encD x) : ∃ r : List Dd, ds = r.map encD ∧ ∀ x ∈ r, DOk k w d x := by
  induction ds with
  | nil => exact ⟨[], rfl, by simp⟩
  | cons y ds ih =>
    obtain ⟨r, e, q⟩ := ih fun z hz => h z (List.mem_cons_of_mem _ hz)
    obtain ⟨x, hx, rfl⟩ := h y (by simp)
    exact ⟨x :: r, by rw [e]; rfl, by simp; exact ⟨hx, q⟩⟩
def BlkTo (P : Prog) (h : Nat) (d : Nat) : Prop := ∀ (n : Nat) (L : List MO), 2 * d + 12 ≤ n → HasPool h L → (run P n "_law_block" [.h h, .d (.int d)] L).sat fun z L' => (∃ r : List Dd, r.length ≤ 3 ∧ (∀ x ∈ r, DOk 2 4 d x) ∧ z = .d (.tup (r.map encD))) ∧ HasPool h L' ∧ Stp h L L'
def DeedTo (P : Prog) (h : Nat) (d : Nat) : Prop := ∀ (n : Nat) (L : List MO), 2 * d + 11 ≤ n → HasPool h L → (run P n "_law_deed" [.h h, .d (.int d)] L).sat fun z L' => (∃ x, DOk 2 4 d x ∧ z = .d (encD x)) ∧ HasPool h L' ∧ Stp h L L'
theorem block_of (c : Com P) (a : Pik P) (x : Trx P) {d : Nat} (ih : DeedTo P h d) : BlkTo P h d := by
  intro n L hn hp
  obtain ⟨n, rfl⟩ : ∃ m, n = m + 1 := ⟨n - 1, by omega⟩
  refine run_sat x.block rfl ?_
  simp only [F.f__law_block]
  simp
  refine comp_pooln (h := h) (N := 3) (fun y => ∃ x, DOk 2 4 d x ∧ y = encD x) (by omega) ?_ ?_ ?_
  · simp
    refine draw_to c (by omega) hp (by omega) (by omega) fun k L1 k0 k1 hp1 st1 => ?_
    simp [rangeD_len]
    exact ⟨by omega, hp1, st1, by omega⟩
  · intro L' acc y hp'
    simp [wipe1]
    refine Out.sat_mono (ih n _ (by omega) (hp'.snoc acc)) fun z L3 ⟨⟨x, hx, e⟩, _, st⟩ => ?_
    subst e
    exact ⟨⟨_, rfl, x, hx, rfl⟩, st⟩
  · intro ds L' hp' st' hl hr
    obtain ⟨r, rfl, q⟩ := dds_of hr
    simp
    exact fin_pool0 hp' st' (by simp) ⟨⟨r, by simpa using hl, q, rfl⟩, hp', st'⟩
theorem deed_simple (c : Com P) (a : Pik P) (x : Trx P) {d : Nat} {n : Nat} {ρ : Rho} {k : Int} (hn : 8 ≤ n) {L0 : List MO} (hp : HasPool h L) (st : Stp h L0 L) (h0 : ρ[0]? = some (some (.h h))) (h2 : ρ[2]? = some (some (.d (.int k)))) {Q : Fl × Rho → List MO → Prop}
    (q : ∀ x L' ρ', DOk 2 4 d x → HasPool h L' → Stp h L0 L' → Q (.ret (.d (encD x)), ρ') L') :
    (mSeq (mIfS (mtOf (mBin (cEq false) (mBin bMod (mVar 2) (mK (D.int 4))) (mK (D.int 3)))) (mRet (mTup (mCons (mK (D.str "tell")) (mCons (mCall "_law_expression" (mCons (mVar 0) (mCons (mK (D.int 2)) mNil))) mNil)))) (mEmpty)) (mRet (mTup (mCons (mK (D.str "set")) (mCons (mCall "_law_draw" (mCons (mVar 0) (mCons (mK (D.int 4)) mNil))) (mCons (mCall "_law_expression" (mCons (mVar 0) (mCons (mK (D.int 2)) mNil))) mNil))))) (run P n) ρ L).sat Q := by
  simp [h0, h2]
  split
  · refine Out.sat_mono (exp_ok c a x.toDrx 2 n L (by omega) hp) fun z L1 ⟨⟨e, he, ez⟩, hp1, st1⟩ => ?_
    subst ez
    simp
    have hd : DOk 2 4 d (.tell e) := by unfold DOk; exact he
    have := q (.tell e) L1 ρ hd hp1 (st.trans st1)
    rwa [encD] at this
  · refine draw_to c (by omega) hp (by omega) (by omega) fun k L1 k0 k1 hp1 st1 => ?_
    simp
    refine Out.sat_mono (exp_ok c a x.toDrx 2 n L1 (by omega) hp1) fun z L2 ⟨⟨e, he, ez⟩, hp2, st2⟩ => ?_
    subst ez
    simp
    have hd : DOk 2 4 d (.set k e) := by unfold DOk; exact ⟨k0, k1, he⟩
    have := q (.set k e) L2 ρ hd hp2 (st.trans (st1.trans st2))
    rwa [encD] at this
theorem deed_zero (c : Com P) (a : Pik P) (x : Trx P) : DeedTo P h 0 := by
  intro n L hn hp
  obtain ⟨n, rfl⟩ : ∃ m, n = m + 1 := ⟨n - 1, by omega⟩
  refine run_sat x.deed rfl ?_
  simp only [F.f__law_deed]
  refine seq_cut2 (fun ρ1 L1 => (∃ k : Int, ρ1 = [some (.h h), some (.d (.int 0)), some (.d (.int k)), none, none]) ∧ HasPool h L1 ∧ Stp h L L1) ?_ ?_
  · simp
    exact draw_to c (by omega) hp (by omega) (by omega) fun k L' k0 k1 hp' st => ⟨⟨k, rfl⟩, hp', st⟩
  rintro ρ1 L1 ⟨⟨k, rfl⟩, hp1, st1⟩
  refine seq_cut2 (fun ρ1 L1 => False) ?_ fun _ _ h => h.elim
  rw [sat_mIfS, sat_mtOr]
  simp only [sat_mtOf, sat_mBin, sat_mVar, sat_mK, List.getElem?_cons_zero, List.getElem?_cons_succ, slotSat_some, fz_dd, fz_h, cEq_int, optSat_some, blSat_bl, Bool.false_eq_true, if_false, BEq.rfl, if_true]
  refine deed_simple c a x (d := 0) (by omega) hp1 st1 rfl rfl fun x L' ρ' hx hp' st' => .inr ⟨_, _, rfl, _, .inl rfl, ?_⟩
  exact fin_pool0 hp' st' (by simp) ⟨⟨x, hx, rfl⟩, hp', st'⟩
theorem deed_succ (c : Com P) (a : Pik P) (x : Trx P) {d : Nat} (ih : BlkTo P h d) : DeedTo P h (d + 1) := by
  intro n L hn hp
  obtain ⟨n, rfl⟩ : ∃ m, n = m + 1 := ⟨n - 1, by omega⟩
  refine run_sat x.deed rfl ?_
  simp only [F.f__law_deed]
  have e1 : (((d + 1 : Nat) : Int) == 0) = false := by simp; omega
  have ed : ((d + 1 : Nat) : Int) - 1 = d := by omega
  refine seq_cut2 (fun ρ1 L1 => (∃ k : Int, ρ1 = [some (.h h), some (.d (.int (d + 1 : Nat))), some (.d (.int k)), none, none]) ∧ HasPool h L1 ∧ Stp h L L1) ?_ ?_
  · simp
    exact draw_to c (by omega) hp (by omega) (by omega) fun k L' k0 k1 hp' st => ⟨⟨k, rfl⟩, hp', st⟩
  rintro ρ1 L1 ⟨⟨k, rfl⟩, hp1, st1⟩
  refine seq_cut2 (fun ρ1 L2 => ρ1 = [some (.h h), some (.d (.int (d + 1 : Nat))), some (.d (.int k)), none, none] ∧ L2 = L1) ?_ ?_
  · rw [sat_mIfS, sat_mtOr]
    simp only [sat_mtOf, sat_mBin, sat_mVar, sat_mK, List.getElem?_cons_zero, List.getElem?_cons_succ, slotSat_some, fz_dd, fz_h, cEq_int, optSat_some, blSat_bl, cLt_int, Bool.false_eq_true, if_false, e1, decide_eq_true_eq]
    split
    · refine deed_simple c a x (d := d + 1) (by omega) hp1 st1 rfl rfl fun x L' ρ' hx hp' st' => .inr ⟨_, _, rfl, _, .inl rfl, ?_⟩
      exact fin_pool0 hp' st' (by simp) ⟨⟨x, hx, rfl⟩, hp', st'⟩
    · simp
  rintro ρ1 L2 ⟨rfl, rfl⟩
  refine seq_cut2 (fun ρ1 L3 => ρ1 = [some (.h h), some (.d (.int (d + 1 : Nat))), some (.d (.int k)), none, none] ∧ L3 = L2) ?_ ?_
  · simp [ed]
    refine fun _ => Out.sat_mono (exp_ok c a x.toDrx 2 n L2 (by omega) hp1) fun z L3 ⟨⟨e, he, ez⟩, hp3, st3⟩ => ?_
    subst ez
    refine Out.sat_mono (ih n L3 (by omega) hp3) fun z L4 ⟨⟨r1, l1, q1, ez⟩, hp4, st4⟩ => ?_
    subst ez
    refine Out.sat_mono (ih n L4 (by omega) hp4) fun z L5 ⟨⟨r2, l2, q2, ez⟩, hp5, st5⟩ => ?_
    subst ez
    simp
    have st := st1.trans (st3.trans (st4.trans st5))
    exact fin_pool0 hp5 st (by simp) ⟨⟨.ite e r1 r2, ⟨he, ⟨by omega, q1⟩, by omega, q2⟩, by rw [encD, encB_map, encB_map]⟩, hp5, st⟩
  rintro ρ1 L3 ⟨rfl, rfl⟩
  refine seq_cut2 (fun ρ1 L4 => (∃ j : Int, 0 ≤ j ∧ j < 4 ∧ ρ1 = [some (.h h), some (.d (.int (d + 1 : Nat))), some (.d (.int k)), some (.d (.int j)), none]) ∧ HasPool h L4 ∧ Stp h L L4) ?_ ?_
  · simp
    exact draw_to c (by omega) hp1 (by omega) (by omega) fun k L' k0 k1 hp' st => ⟨⟨k, k0, k1, rfl⟩, hp', st1.trans st⟩
  rintro ρ1 L4 ⟨⟨j, j0, j1, rfl⟩, hp4, st4⟩
  refine seq_cut2 (fun ρ1 L5 => ρ1 = [some (.h h), some (.d (.int (d + 1 : Nat))), some (.d (.int k)), some (.d (.int j)), none] ∧ HasPool h L5 ∧ Stp h L L5) ?_ ?_
  · simp
    refine draw_to c (by omega) hp4 (by omega) (by omega) fun u L5 u0 u1 hp5 st5 => ?_
    simp
    split
    · refine draw_to c (by omega) hp5 (by omega) (by omega) fun v L6 v0 v1 hp6 st6 => ?_
      simp
      refine draw_to c (by omega) hp6 (by omega) (by omega) fun y L7 y0 y1 hp7 st7 => ?_
      simp [ed]
      refine Out.sat_mono (ih n L7 (by omega) hp7) fun z L8 ⟨⟨r1, l1, q1, ez⟩, hp8, st8⟩ => ?_
      subst ez
      simp
      refine ⟨by omega, ?_⟩
      have st := st4.trans (st5.trans (st6.trans (st7.trans st8)))
      refine fin_pool0 hp8 st (by simp) ⟨⟨.loop (.two "less" (.nam j) (.num y)) (r1 ++ [.set j (.two "plus" (.nam j) (.num (1 + v)))]), ⟨⟨by simp [five], ⟨j0, j1⟩, ⟨y0, by omega⟩⟩, by simp; omega, fun x hx => ?_⟩, ?_⟩, hp8, st⟩
      · rcases List.mem_append.mp hx with hx | hx
        · exact q1 x hx
        · rw [List.mem_singleton.mp hx]
          unfold DOk
          exact ⟨j0, j1, by simp [five], ⟨j0, j1⟩, ⟨by omega, by omega⟩⟩
      · rw [encD, encB_map]
        simp [enc, encD]
    · exact ⟨hp5, st4.trans st5⟩
  rintro ρ1 L5 ⟨rfl, hp5, st5⟩
  simp
  refine Out.sat_mono (exp_ok c a x.toDrx 2 n L5 (by omega) hp5) fun z L6 ⟨⟨e, he, ez⟩, hp6, st6⟩ => ?_
  subst ez
  simp [ed]
  refine Out.sat_mono (ih n L6 (by omega) hp6) fun z L7 ⟨⟨r1, l1, q1, ez⟩, hp7, st7⟩ => ?_
  subst ez
  simp
  have st := st5.trans (st6.trans st7)
  exact fin_pool0 hp7 st (by simp) ⟨⟨.loop e r1, ⟨he, by omega, q1⟩, by rw [encD, encB_map]⟩, hp7, st⟩
theorem deed_ok (c : Com P) (a : Pik P) (x : Trx P) : ∀ d, DeedTo P h d ∧ BlkTo P h d
  | 0 => ⟨deed_zero c a x, block_of c a x (deed_zero c a x)⟩
  | d + 1 => ⟨deed_succ c a x (deed_ok c a x d).2, block_of c a x (deed_succ c a x (deed_ok c a x d).2)⟩
theorem program_ok (c : Com P) (a : Pik P) (x : Trx P) (hn : 30 ≤ n) (hp : HasPool h L) : (run P n "_law_program" [.h h] L).sat fun z L' => (∃ r : List Dd, r ≠ [] ∧ r.length ≤ 3 ∧ (∀ x ∈ r, DOk 2 4 3 x) ∧ z = .d (.tup (r.map encD))) ∧ HasPool h L' ∧ Stp h L L' := by
  obtain ⟨n, rfl⟩ : ∃ m, n = m + 1 := ⟨n - 1, by omega⟩
  refine run_sat x.program rfl ?_
  simp only [F.f__law_program]
  refine seq_cut2 (fun ρ1 L1 => (∃ r : List Dd, r.length ≤ 3 ∧ (∀ x ∈ r, DOk 2 4 3 x) ∧ ρ1 = [some (.h h), some (.d (.tup (r.map encD)))]) ∧ HasPool h L1 ∧ Stp h L L1) ?_ ?_
  · simp
    refine Out.sat_mono ((deed_ok c a x 3).2 n L (by omega) hp) fun z L1 ⟨⟨r, l, q, ez⟩, hp1, st1⟩ => ?_
    subst ez
    exact ⟨⟨r, l, q, rfl⟩, hp1, st1⟩
  rintro ρ1 L1 ⟨⟨r, l, q, rfl⟩, hp1, st1⟩
  simp [eq_nil (lay_encB q)]
  by_cases hr : r = []
  · subst hr
    simp
    refine Out.sat_mono ((deed_ok c a x 2).1 n L1 (by omega) hp1) fun z L2 ⟨⟨y, hy, ez⟩, hp2, st2⟩ => ?_
    subst ez
    simp
    have hy' : DOk 2 4 3 y := hy.mono (Nat.le_refl _) (Nat.le_refl _) (by omega)
    exact fin_pool0 hp2 (st1.trans st2) (by simp) ⟨⟨[y], by simp, by simp, by simpa using hy', rfl⟩, hp2, st1.trans st2⟩
  · simp [hr]
    exact fin_pool0 hp1 st1 (by simp) ⟨⟨r, hr, l, q, rfl⟩, hp1, st1⟩
theorem turns_ok (c : Com P) (x : Trx P) (hn : 3 ≤ n) (hp : HasPool h L) : (run P n "_law_turns" [.h h] L).sat fun z L' => (∃ t : Nat, t ≤ 20 ∧ z = .d (.int t)) ∧ HasPool h L' ∧ Stp h L L' := by
  obtain ⟨n, rfl⟩ : ∃ m, n = m + 1 := ⟨n - 1, by omega⟩
  refine run_sat x.turns rfl ?_
  simp only [F.f__law_turns]
  simp
  refine draw_to c (by omega) hp (by omega) (by omega) fun k L1 k0 k1 hp1 st1 => ?_
  refine optAt k0 (by simpa using k1) fun y hy => ?_
  have hy : ∃ t : Nat, t ≤ 20 ∧ y = .int t := by
    simp at hy
    rcases hy with rfl | rfl | rfl | rfl | rfl
    · exact ⟨0, by omega, rfl⟩
    · exact ⟨1, by omega, rfl⟩
    · exact ⟨2, by omega, rfl⟩
    · exact ⟨5, by omega, rfl⟩
    · exact ⟨20, by omega, rfl⟩
  obtain ⟨t, ht, rfl⟩ := hy
  exact fin_pool0 hp1 st1 (by simp) ⟨⟨t, ht, rfl⟩, hp1, st1⟩
end
end S
set_option Elab.async false
set_option linter.all false
set_option maxRecDepth 100000
set_option maxHeartbeats 4000000
namespace S
open PySem PySem.Spec L2 Ev

/-! ## the law's run of a tree -/
theorem Run.split {q : List Dd} {s s' : Sx} {k : Bool} (h : Run q s s' k) : ∀ {p r : List Dd}, q = p ++ r → (∃ s1, Run p s s1 true ∧ Run r s1 s' k) ∨ (k = false ∧ Run p s s' false) := by
  have nl : ∀ {q : List Dd} {s s' : Sx} {k : Bool} (h : Run q s s' k) {r : List Dd}, q = [] ++ r → (∃ s1, Run [] s s1 true ∧ Run r s1 s' k) ∨ (k = false ∧ Run [] s s' false) := fun {q s s' k} h {r} e => by
    rw [List.nil_append] at e
    subst e
    exact .inl ⟨_, .nil, h⟩
  induction h with
  | nil =>
    intro p r e
    obtain ⟨rfl, rfl⟩ := List.append_eq_nil_iff.mp e.symm
    exact .inl ⟨_, .nil, .nil⟩
  | set h ih =>
    intro p r e
    cases p with
    | nil => exact nl (.set h) e
    | cons x p =>
      cases e
      rcases ih rfl with ⟨s1, a, b⟩ | ⟨a, b⟩
      · exact .inl ⟨s1, .set a, b⟩
      · exact .inr ⟨a, .set b⟩
  | tell h ih =>
    intro p r e
    cases p with
    | nil => exact nl (.tell h) e
    | cons x p =>
      cases e
      rcases ih rfl with ⟨s1, a, b⟩ | ⟨a, b⟩
      · exact .inl ⟨s1, .tell a, b⟩
      · exact .inr ⟨a, .tell b⟩
  | ite h1 h2 _ ih =>
    intro p r e
    cases p with
    | nil => exact nl (.ite h1 h2) e
    | cons x p =>
      cases e
      rcases ih rfl with ⟨s1, a, b⟩ | ⟨a, b⟩
      · exact .inl ⟨s1, .ite h1 a, b⟩
      · exact .inr ⟨a, .ite h1 b⟩
  | iteCut h1 _ =>
    intro p r e
    cases p with
    | nil => exact nl (.iteCut h1) e
    | cons x p =>
      cases e
      exact .inr ⟨rfl, .iteCut h1⟩
  | off =>
    intro p r e
    cases p with
    | nil => exact nl .off e
    | cons x p =>
      cases e
      exact .inr ⟨rfl, .off⟩
  | stop h0 h ih =>
    intro p r e
    cases p with
    | nil => exact nl (.stop h0 h) e
    | cons x p =>
      cases e
      rcases ih rfl with ⟨s1, a, b⟩ | ⟨a, b⟩
      · exact .inl ⟨s1, .stop h0 a, b⟩
      · exact .inr ⟨a, .stop h0 b⟩
  | more h0 h1 h2 _ ih =>
    intro p r e
    cases p with
    | nil => exact nl (.more h0 h1 h2) e
    | cons x p =>
      cases e
      rcases ih (p := .loop _ _ :: p) rfl with ⟨s1, a, b⟩ | ⟨a, b⟩
      · exact .inl ⟨s1, .more h0 h1 a, b⟩
      · exact .inr ⟨a, .more h0 h1 b⟩
  | cut h0 h1 _ =>
    intro p r e
    cases p with
    | nil => exact nl (.cut h0 h1) e
    | cons x p =>
      cases e
      exact .inr ⟨rfl, .cut h0 h1⟩
theorem Run.stOk {k w : Nat} {r : List Dd} {s s' : Sx} {b : Bool} (h : Run r s s' b) (g : Gd k w r) (hs : StOk s.st) : StOk s'.st := by
  induction h with
  | nil => exact hs
  | set _ ih => exact ih g.tl (stOk_set hs (vl_in hs g.set.2.2))
  | tell _ ih => exact ih g.tl hs
  | ite _ _ i1 i2 => exact i2 g.tl (i1 (.pick g.ite.2.1 g.ite.2.2.1) hs)
  | iteCut _ ih => exact ih (.pick g.ite.2.1 g.ite.2.2.1) hs
  | off => exact hs
  | stop _ _ ih => exact ih g.tl hs
  | more _ _ _ i1 i2 => exact i2 g (i1 g.loop.2.1 hs)
  | cut _ _ ih => exact ih g.loop.2.1 hs
theorem Run.head {x : Dd} {r : List Dd} {s s' : Sx} {k : Bool} (h : Run (x :: r) s s' k) : (∃ s1, Run [x] s s1 true ∧ Run r s1 s' k) ∨ (k = false ∧ Run [x] s s' false) := h.split (p := [x]) rfl
theorem szB_append : ∀ (a b : List Dd), szB (a ++ b) = szB a + szB b
  | [], b => by simp [szB]
  | x :: a, b => by rw [List.cons_append, szB, szB, szB_append a b]; omega
theorem szB_one (x : Dd) : szB [x] = szD x := by simp [szB]
/-- room for all that is told -/
def Fit (W : Nat) (r : List Dd) (s : Sx) : Prop := szB r ≤ W ∧ s.told.length + s.t * W + szB r ≤ 1000000
theorem Fit.head {W : Nat} {x : Dd} {r : List Dd} {s : Sx} (f : Fit W (x :: r) s) : Fit W [x] s := by
  unfold Fit at f ⊢
  rw [szB] at f
  rw [szB_one]
  omega
theorem Fit.next {W : Nat} {x : Dd} {r : List Dd} {s s1 : Sx} {k : Bool} (f : Fit W (x :: r) s) (h : Run [x] s s1 k) : Fit W r s1 := by
  unfold Fit at f ⊢
  rw [szB] at f
  have := h.few (W := W) (by rw [szB_one]; omega)
  rw [szB_one] at this
  omega
structure Rn (P : Prog) : Prop extends VfnL P where
  do_ : P "_law_do" = some F.f__law_do
  loop : P "_law_loop" = some F.f__law_loop
  run : P "_law_run" = some F.f__law_run
def dOf (s : Sx) (k : Bool) : List (Key × D) := [(.inr "word", .str (if k then "end" else "going")), (.inr "store", .tup (s.st.map .int)), (.inr "told", .tup (s.told.map .int)), (.inr "turns", .int s.t)]
section
variable {P : Prog} {n : Nat} {h : Nat} {L : List MO}
theorem get_word {s : Sx} {k : Bool} (hl : h < L.length) : bIx (.h h) (.d (.str "word")) (L.set h (.dct (dOf s k))) = some (.d (.str (if k then "end" else "going"))) := by
  rw [bIx_dh (List.getElem?_set_self hl)]; rfl
theorem get_store {s : Sx} {k : Bool} (hl : h < L.length) : bIx (.h h) (.d (.str "store")) (L.set h (.dct (dOf s k))) = some (.d (.tup (s.st.map .int))) := by
  rw [bIx_dh (List.getElem?_set_self hl)]; rfl
theorem get_told {s : Sx} {k : Bool} (hl : h < L.length) : bIx (.h h) (.d (.str "told")) (L.set h (.dct (dOf s k))) = some (.d (.tup (s.told.map .int))) := by
  rw [bIx_dh (List.getElem?_set_self hl)]; rfl
theorem get_turns {s : Sx} {k : Bool} (hl : h < L.length) : bIx (.h h) (.d (.str "turns")) (L.set h (.dct (dOf s k))) = some (.d (.int s.t)) := by
  rw [bIx_dh (List.getElem?_set_self hl)]; rfl
theorem dsize {s : Sx} {k : Bool} : (dOf s k).length < sizeLine := by rw [sizeLine_val]; show 4 < 16777216; omega
theorem put_word {s : Sx} {k : Bool} (hl : h < L.length) : setIx (.h h) (.d (.str "word")) (.d (.str "going")) (L.set h (.dct (dOf s k))) = some (L.set h (.dct (dOf s false))) := by
  rw [setIx_dh (List.getElem?_set_self hl) dsize, List.set_set]; rfl
theorem put_store {s : Sx} {k : Bool} {st : List Int} (hl : h < L.length) : setIx (.h h) (.d (.str "store")) (.d (.tup (st.map .int))) (L.set h (.dct (dOf s k))) = some (L.set h (.dct (dOf ⟨st, s.told, s.t⟩ k))) := by
  rw [setIx_dh (List.getElem?_set_self hl) dsize, List.set_set]; rfl
theorem put_told {s : Sx} {k : Bool} {td : List Int} (hl : h < L.length) : setIx (.h h) (.d (.str "told")) (.d (.tup (td.map .int))) (L.set h (.dct (dOf s k))) = some (L.set h (.dct (dOf ⟨s.st, td, s.t⟩ k))) := by
  rw [setIx_dh (List.getElem?_set_self hl) dsize, List.set_set]; rfl
theorem put_turns {s : Sx} {k : Bool} {t : Nat} (hl : h < L.length) : setIx (.h h) (.d (.str "turns")) (.d (.int t)) (L.set h (.dct (dOf s k))) = some (L.set h (.dct (dOf ⟨s.st, s.told, t⟩ k))) := by
  rw [setIx_dh (List.getElem?_set_self hl) dsize, List.set_set]; rfl
theorem cut_setI {st : List Int} {n v : Int} (h0 : 0 ≤ n) (h1 : n < st.length) : cutD (st.map .int) none (some n) ++ ([D.int v] ++ cutD (st.map .int) (some (n + 1)) none) = (st.set n.toNat v).map .int := by
  rw [cut_set h0 (by simpa using h1), List.map_set]
theorem word_t {L : List MO} : cEq true (.d (.str "end")) (.d (.str "end")) L = some (.d (.bl false)) := by simp
def DoTo (P : Prog) (k w W : Nat) (d : Nat) : Prop := ∀ (r : List Dd), (∀ x ∈ r, DOk k w d x) → ∀ (s s' : Sx) (b : Bool), Run r s s' b → StOk s.st → Fit W r s → ∀ (n : Nat) (L : List MO) (h : Nat), 3 * d + k + 5 ≤ n → Wf L → h < L.length →
  (run P n "_law_do" [.d (.tup (r.map encD)), .h h] (L.set h (.dct (dOf s true)))).sat fun z L' => z = .h h ∧ L' = L.set h (.dct (dOf s' b))
def LoopTo (P : Prog) (k w W : Nat) (d : Nat) : Prop := ∀ (e : Ex) (b : List Dd), DOk k w d (.loop e b) → ∀ (s s' : Sx) (c : Bool), Run [.loop e b] s s' c → StOk s.st → Fit W [.loop e b] s → ∀ (n : Nat) (L : List MO) (h : Nat), 3 * d + k + 4 ≤ n → Wf L → h < L.length →
  (run P n "_law_loop" [.d (encD (.loop e b)), .h h] (L.set h (.dct (dOf s true)))).sat fun z L' => z = .h h ∧ L' = L.set h (.dct (dOf s' c))
theorem wfd {kvs : List (Key × D)} (hL : Wf L) : Wf (L.set h (.dct kvs)) := hL.set fun _ => rfl
theorem loop_of (c : Rn P) {k w W d : Nat} (ih : DoTo P k w W d) : LoopTo P k w W (d + 1) := by
  intro e b hd s s' c' hr hs hf n L h hn hL hl
  obtain ⟨he, hb1, hb2⟩ := hd
  obtain ⟨n, rfl⟩ : ∃ m, n = m + 1 := ⟨n - 1, by omega⟩
  refine run_sat c.loop rfl ?_
  simp only [F.f__law_loop]
  refine seq_cut (fun ρ1 L1 => ρ1 = [some (.d (encD (.loop e b))), some (.h h), some (.d (.bl true))] ∧ L1 = L.set h (.dct (dOf s true))) (by simp) ?_
  rintro ρ1 L1 ⟨rfl, rfl⟩
  have eD : encD (.loop e b) = .tup [.str "while", enc e, .tup (b.map encD)] := by rw [encD, encB_map]
  have final : ∀ ρ1, (mRet (mVar 1) (Ev.run P n) [some (.d (encD (.loop e b))), some (.h h), ρ1] (L.set h (.dct (dOf s' c')))).sat fun r L1 => ∃ x, (r.1 = .ret x ∨ r.1 = .next ∧ x = .d .non) ∧ (fin (L.set h (.dct (dOf s true))).length x L1).sat fun z L' => z = .h h ∧ L' = L.set h (.dct (dOf s' c')) := fun ρ1 => by
    simp
    have hl2 : L.length = (L.set h (.dct (dOf s' c'))).length := by simp
    rw [hl2, fin_hlt (by rw [take_len]; exact wfd hL) (by simpa using hl), take_len]
    exact ⟨rfl, rfl⟩
  refine seq_cut2 (fun ρ1 L1 => ∃ z, ρ1 = [some (.d (encD (.loop e b))), some (.h h), z] ∧ L1 = L.set h (.dct (dOf s' c'))) ?_ ?_
  · refine sat_mWhile (fun m ρ L1 => (∃ s1, Run [.loop e b] s1 s' c' ∧ StOk s1.st ∧ Fit W [.loop e b] s1 ∧ L1 = L.set h (.dct (dOf s1 true)) ∧ ρ = [some (.d (encD (.loop e b))), some (.h h), some (.d (.bl true))] ∧ m = s1.t + 1) ∨
      (L1 = L.set h (.dct (dOf s' c')) ∧ ρ = [some (.d (encD (.loop e b))), some (.h h), some (.d (.bl false))] ∧ m = 0)) ?_ (m := s.t + 1) (.inl ⟨s, hr, hs, hf, rfl, rfl, rfl⟩)
    rintro m ρ L1 (⟨s1, hr1, hs1, hf1, rfl, rfl, rfl⟩ | ⟨rfl, rfl, rfl⟩)
    · simp only [sat_mtTru, sat_mVar, List.getElem?_cons_zero, List.getElem?_cons_succ, slotSat_some, fz_dd, truth_bl, truSat_some, if_true]
      cases hr1 with
      | @off e b r st told =>
        simp [get_turns hl, put_word hl]
        have hl2 : L.length = (L.set h (.dct (dOf ⟨st, told, 0⟩ false))).length := by simp
        rw [hl2, fin_hlt (by rw [take_len]; exact wfd hL) (by simpa using hl), take_len]
        exact ⟨rfl, rfl⟩
      | @stop e b r st told t s' k h0 h1 =>
        cases h1
        have ev := valueL_ok c.toVfnL hs1 he n (L.set h (.dct (dOf ⟨st, told, t⟩ true))) (by omega) (wfd hL)
        have et : ((t + 1 : Nat) : Int) - 1 = t := by omega
        have en : ((t : Int) + 1 = 0) = False := by apply eq_false; omega
        have et2 : ((t : Int) + 1 - 1) = t := by omega
        simp [get_turns hl, en, et2, put_turns hl, get_store hl, eD, ev, h0]
      | @more e b r st told t s1 s' k h0 h1 h2 =>
        have ev := valueL_ok c.toVfnL hs1 he n (L.set h (.dct (dOf ⟨st, told, t⟩ true))) (by omega) (wfd hL)
        have en : ((t : Int) + 1 = 0) = False := by apply eq_false; omega
        have et2 : ((t : Int) + 1 - 1) = t := by omega
        have fb : Fit W b ⟨st, told, t⟩ := by
          unfold Fit at hf1 ⊢
          rw [szB_one, szD, Nat.add_mul] at hf1
          simp only at hf1 ⊢
          omega
        have q := ih b hb2 _ _ _ h1 hs1 fb n L h (by omega) hL hl
        have f1 := h1.few (W := W) fb.1
        have h1l := h1.le
        have gi := h1.stOk (.of hb2) hs1
        have f2 : Fit W [.loop e b] s1 := by
          unfold Fit at hf1 ⊢
          simp only [szB_one, szD, Nat.add_mul] at hf1 f1 ⊢
          omega
        simp [get_turns hl, en, et2, put_turns hl, get_store hl, eD, ev, h0]
        refine Out.sat_mono q fun z L2 ⟨ez, eL⟩ => ?_
        subst ez eL
        simp [get_word hl]
        exact ⟨s1.t + 1, by have : s1.t ≤ t := h1l; omega, ⟨s1, h2, gi, f2, rfl, rfl⟩⟩
      | @cut e b r st told t s' h0 h1 =>
        have ev := valueL_ok c.toVfnL hs1 he n (L.set h (.dct (dOf ⟨st, told, t⟩ true))) (by omega) (wfd hL)
        have en : ((t : Int) + 1 = 0) = False := by apply eq_false; omega
        have et2 : ((t : Int) + 1 - 1) = t := by omega
        have fb : Fit W b ⟨st, told, t⟩ := by
          unfold Fit at hf1 ⊢
          rw [szB_one, szD, Nat.add_mul] at hf1
          simp only at hf1 ⊢
          omega
        have q := ih b hb2 _ _ _ h1 hs1 fb n L h (by omega) hL hl
        simp [get_turns hl, en, et2, put_turns hl, get_store hl, eD, ev, h0]
        refine Out.sat_mono q fun z L2 ⟨ez, eL⟩ => ?_
        subst ez eL
        simp [get_word hl]
    · simp
  · rintro ρ1 L1 ⟨z, rfl, rfl⟩
    exact final z
def DoInv (k w W d : Nat) (s' : Sx) (b : Bool) (h : Nat) (L : List MO) (xs : List D) (L1 : List MO) : Prop :=
  (∃ r1 s1, xs = r1.map encD ∧ Run r1 s1 s' b ∧ (∀ x ∈ r1, DOk k w d x) ∧ StOk s1.st ∧ Fit W r1 s1 ∧ L1 = L.set h (.dct (dOf s1 true))) ∨ (b = false ∧ L1 = L.set h (.dct (dOf s' false)))
theorem do_of (c : Rn P) {k w W d : Nat} (ihB : ∀ d', d' + 1 = d → DoTo P k w W d') (ihL : LoopTo P k w W d) : DoTo P k w W d := by
  intro r hr s s' b hrun hs hf n L h hn hL hl
  obtain ⟨n, rfl⟩ : ∃ m, n = m + 1 := ⟨n - 1, by omega⟩
  refine run_sat c.do_ rfl ?_
  simp only [F.f__law_do]
  have final : (fin L.length (.h h) (L.set h (.dct (dOf s' b)))).sat fun z L' => z = .h h ∧ L' = L.set h (.dct (dOf s' b)) := by
    have hl2 : L.length = (L.set h (.dct (dOf s' b))).length := by simp
    rw [hl2, fin_hlt (by rw [take_len]; exact wfd hL) (by simpa using hl), take_len]
    exact ⟨rfl, rfl⟩
  refine seq_cut2 (fun ρ1 L1 => ∃ x y, ρ1 = [some (.d (.tup (r.map encD))), some (.h h), x, y] ∧ L1 = L.set h (.dct (dOf s' b))) ?_ ?_
  · refine sat_mFor (fun xs ρ L1 => (∃ x y, ρ = [some (.d (.tup (r.map encD))), some (.h h), x, y]) ∧ DoInv k w W d s' b h L xs L1) ?_ ?_ ?_
    · simp
      exact .inl ⟨r, s, rfl, hrun, hr, hs, hf, rfl⟩
    · rintro x xs ρ L1 ⟨⟨x0, y0, rfl⟩, ⟨r1, s1, e1, hr1, hd1, hs1, hf1, rfl⟩ | ⟨rfl, rfl⟩⟩
      · cases r1 with
        | nil => cases e1
        | cons y r1 =>
          rw [List.map_cons, List.cons.injEq] at e1
          obtain ⟨rfl, rfl⟩ := e1
          have hy := hd1 y (by simp)
          have hf0 := hf1.head
          have hd2 : ∀ x ∈ r1, DOk k w d x := fun x hx => hd1 x (List.mem_cons_of_mem _ hx)
          -- behind the first deed
          have nxt : ∀ s2 c2, Run [y] s1 s2 c2 → ((c2 = true ∧ Run r1 s2 s' b) ∨ (c2 = false ∧ b = false ∧ s2 = s')) →
              DoInv k w W d s' b h L (r1.map encD) (L.set h (.dct (dOf s2 c2))) := fun s2 c2 q1 q2 => by
            rcases q2 with ⟨rfl, q2⟩ | ⟨rfl, q2, rfl⟩
            · exact .inl ⟨r1, s2, rfl, q2, hd2, q1.stOk (.of (d := d) (by simpa using hy)) hs1, hf1.next q1, rfl⟩
            · exact .inr ⟨q2, rfl⟩
          obtain ⟨s2, c2, q1, q2⟩ : ∃ s2 c2, Run [y] s1 s2 c2 ∧ ((c2 = true ∧ Run r1 s2 s' b) ∨ (c2 = false ∧ b = false ∧ s2 = s')) := by
            rcases hr1.head with ⟨s2, q1, q2⟩ | ⟨e, q1⟩
            · exact ⟨s2, true, q1, .inl ⟨rfl, q2⟩⟩
            · exact ⟨s', false, q1, .inr ⟨rfl, e, rfl⟩⟩
          have nx := nxt s2 c2 q1 q2
          cases y with
          | set m e =>
            unfold DOk at hy
            obtain ⟨m0, m1, he⟩ := hy
            cases q1 with
            | set q1 =>
            cases q1
            have ev := valueL_ok c.toVfnL hs1 he n (L.set h (.dct (dOf s1 true))) (by omega) (wfd hL)
            have hlen := hs1.1
            have cs := cut_setI (v := vl s1.st e) m0 (by omega : m < s1.st.length)
            have l1 : (cutD (s1.st.map D.int) none (some m)).length ≤ 4 := Nat.le_trans cutD_len (by simp [hlen])
            have l2 : (cutD (s1.st.map D.int) (some (m + 1)) none).length ≤ 4 := Nat.le_trans cutD_len (by simp [hlen])
            simp [encD, get_word hl, get_store hl, ev]
            refine ⟨by omega, by omega, ?_⟩
            rw [List.singleton_append] at cs
            rw [cs, put_store hl]
            simp
            exact nx
          | tell e =>
            unfold DOk at hy
            cases q1 with
            | tell q1 =>
            cases q1
            have ev := valueL_ok c.toVfnL hs1 hy n (L.set h (.dct (dOf s1 true))) (by omega) (wfd hL)
            have hf2 := hf1.2
            have e2 : s1.told.map D.int ++ [D.int (vl s1.st e)] = (s1.told ++ [vl s1.st e]).map .int := by simp
            simp [encD, get_word hl, get_store hl, get_told hl, ev]
            refine ⟨by omega, ?_⟩
            rw [e2, put_told hl]
            simp
            exact nx
          | ite e a b2 =>
            cases d with
            | zero => exact hy.elim
            | succ d =>
            obtain ⟨he, ⟨_, ha⟩, _, hb⟩ := hy
            have ev := valueL_ok c.toVfnL hs1 he n (L.set h (.dct (dOf s1 true))) (by omega) (wfd hL)
            have hsub : Run (if vl s1.st e ≠ 0 then a else b2) s1 s2 c2 := by
              cases q1 with
              | ite q1 q3 => cases q3; exact q1
              | iteCut q1 => exact q1
            have hdd : ∀ x ∈ (if vl s1.st e ≠ 0 then a else b2), DOk k w d x := by split <;> assumption
            have hff : Fit W (if vl s1.st e ≠ 0 then a else b2) s1 := by
              unfold Fit at hf0 ⊢
              rw [szB_one, szD] at hf0
              split <;> omega
            have q := ihB d rfl _ hdd _ _ _ hsub hs1 hff n L h (by omega) hL hl
            simp [encD, encB_map, get_word hl, get_store hl, ev]
            by_cases h0 : vl s1.st e = 0
            · rw [if_neg (by simpa using h0)] at q
              simp [h0]
              refine Out.sat_mono q fun z L2 ⟨ez, eL⟩ => ?_
              subst ez eL
              exact nx
            · rw [if_pos h0] at q
              simp [h0]
              refine Out.sat_mono q fun z L2 ⟨ez, eL⟩ => ?_
              subst ez eL
              exact nx
          | loop e b2 =>
            have q := ihL e b2 hy _ _ _ q1 hs1 hf0 n L h (by omega) hL hl
            have eD : encD (.loop e b2) = .tup [.str "while", enc e, .tup (b2.map encD)] := by rw [encD, encB_map]
            rw [eD] at q ⊢
            simp [get_word hl, get_store hl]
            refine Out.sat_mono q fun z L2 ⟨ez, eL⟩ => ?_
            subst ez eL
            exact nx
      · simp [get_word hl]
        exact final
    · rintro ρ L1 ⟨⟨x0, y0, rfl⟩, ⟨r1, s1, e1, hr1, _, _, _, rfl⟩ | ⟨rfl, rfl⟩⟩
      · cases r1 with
        | nil => cases hr1; exact .inl ⟨_, rfl, _, _, rfl, rfl⟩
        | cons y r1 => cases e1
      · exact .inl ⟨_, rfl, _, _, rfl, rfl⟩
  · rintro ρ1 L1 ⟨x, y, rfl, rfl⟩
    simp
    exact final
theorem do_ok (c : Rn P) {k w W : Nat} : ∀ d, DoTo P k w W d
  | 0 => do_of c (fun _ e => by omega) fun e b hd => hd.elim
  | d + 1 => do_of c (fun d' e => by cases e; exact do_ok c d) (loop_of c (do_ok c d))
/-- what the run comes to, as the law tells it -/
def encOt (s : Sx) (k : Bool) : D := if k then .tup [.str "end", .tup (s.st.map .int), .tup (s.told.map .int)] else .tup [.str "going", .tup (s.told.map .int)]
theorem runL_ok (c : Rn P) {k w W d : Nat} {r : List Dd} (hr : ∀ x ∈ r, DOk k w d x) {st : List Int} {t : Nat} {s' : Sx} {b : Bool} (h : Run r ⟨st, [], t⟩ s' b) (hs : StOk st) (hW : szB r ≤ W) (hf : t * W + szB r ≤ 1000000) (hn : 3 * d + k + 6 ≤ n) (hL : Wf L) :
    run P n "_law_run" [.d (.tup (r.map encD)), .d (.tup (st.map .int)), .d (.int t)] L = .ok (.d (encOt s' b)) L := by
  obtain ⟨n, rfl⟩ : ∃ m, n = m + 1 := ⟨n - 1, by omega⟩
  refine run_pure c.run rfl hL (by simp) ?_
  simp only [F.f__law_run]
  have hl : L.length < (L ++ [MO.dct []]).length := by simp
  have q := do_ok c d r hr _ _ _ h hs (W := W) ⟨hW, by simpa using hf⟩ n (L ++ [.dct []]) L.length (by omega) hL.dct hl
  refine seq_cut (fun ρ1 L1 => ρ1 = [some (.d (.tup (r.map encD))), some (.d (.tup (st.map .int))), some (.d (.int t)), some (.h L.length)] ∧ L1 = (L ++ [MO.dct []]).set L.length (.dct (dOf ⟨st, [], t⟩ true))) ?_ ?_
  · simp
    rfl
  rintro ρ1 L1 ⟨rfl, rfl⟩
  refine seq_cut (fun ρ1 L1 => ρ1 = [some (.d (.tup (r.map encD))), some (.d (.tup (st.map .int))), some (.d (.int t)), some (.h L.length)] ∧ L1 = (L ++ [MO.dct []]).set L.length (.dct (dOf s' b))) ?_ ?_
  · simp only [sat_mDrop, sat_mCall, sat_mCons, sat_mVar, sat_mNil, List.getElem?_cons_zero, List.getElem?_cons_succ, slotSat_some, fz_dd, fz_h]
    refine Out.sat_mono q fun z L2 ⟨ez, eL⟩ => ?_
    exact ⟨_, rfl, rfl, eL⟩
  rintro ρ1 L1 ⟨rfl, rfl⟩
  have tk : ((L ++ [MO.dct []]).set L.length (.dct (dOf s' b))).take L.length = L := by simp
  simp only [sat_mRet, sat_mIf, sat_mtOf, sat_mBin, sat_mVar, sat_mK, List.getElem?_cons_zero, List.getElem?_cons_succ, slotSat_some, fz_dd, fz_h, get_word hl, get_store hl, get_told hl, optSat_some, cEq_str, blSat_bl, sat_mTup, sat_mCons, sat_mNil, allD_cons, allD_nil, Option.map_some, allSat_some, sizeLine_val]
  cases b with
  | true => simp [tk, encOt]
  | false => simp [tk, encOt]
end
end S
set_option Elab.async false
set_option linter.all false
set_option maxRecDepth 100000
namespace Ev
open PySem PySem.Spec L2
section
variable {C : Calls} {ρ : Rho} {L : List MO}
theorem stoSat_none {Q : List MO → Prop} : stoSat none Q = False := rfl
@[simp] theorem sat_mFld {cs : List Str} {m : M} {f : Str} {Q : Val → List MO → Prop} : (mFld cs m f C ρ L).sat Q = (m C ρ L).sat fun x L1 => optSat (getA cs (fz x) f L1) fun v => Q v L1 := by
  rw [mFld, sat_bind]
  congr 1
  funext x L1
  cases h : getA cs (fz x) f L1 <;> simp
@[simp] theorem sat_mSetA {cs : List Str} {mo m : M} {f : Str} {Q : Fl × Rho → List MO → Prop} : (mSetA cs mo f m C ρ L).sat Q = (m C ρ L).sat fun y L1 => (mo C ρ L1).sat fun o L2 => stoSat (setA cs (fz o) f (fz y) L2) fun L3 => Q (.next, ρ) L3 := by
  rw [mSetA, sat_bind]
  congr 1
  funext y L1
  rw [sat_bind]
  congr 1
  funext o L2
  cases h : setA cs (fz o) f (fz y) L2 with
  | none => rw [stoSat_none]; exact sat_no
  | some L3 => rw [stoSat_some]; exact sat_ok
@[simp] theorem sat_mAugA {cs : List Str} {mo m : M} {f : Str} {g : Val → Val → List MO → Option Val} {Q : Fl × Rho → List MO → Prop} : (mAugA cs mo f g m C ρ L).sat Q = (mo C ρ L).sat fun o L1 => optSat (getA cs (fz o) f L1) fun x => (m C ρ L1).sat fun y L2 => optSat (g x (fz y) L2) fun z => clsAt (fz o) L1 = clsAt (fz o) L2 ∧ stoSat (setA cs (fz o) f (fz z) L2) fun L3 => Q (.next, ρ) L3 := by
  rw [mAugA, sat_bind]
  congr 1
  funext o L1
  cases h : getA cs (fz o) f L1 with
  | none => exact sat_no
  | some x =>
    rw [optSat_some]
    show ((m C ρ L1).bind _).sat Q = _
    rw [sat_bind]
    congr 1
    funext y L2
    cases h2 : g x (fz y) L2 with
    | none => exact sat_no
    | some z =>
      rw [optSat_some]
      show (if _ then _ else _ : Out (Fl × Rho)).sat Q = _
      by_cases hc : clsAt (fz o) L1 = clsAt (fz o) L2
      · rw [if_pos hc]
        simp only [hc, true_and]
        cases h3 : setA cs (fz o) f (fz z) L2 with
        | none => rw [stoSat_none]; exact sat_no
        | some L3 => rw [stoSat_some]; exact sat_ok
      · rw [if_neg hc]
        simp only [hc, false_and]
        exact sat_no
def mthAt (cs : List (Str × String)) (o : Val) (m : Str) (L : List MO) : Option (Nat × String) := match o with
  | .h n => match L[n]? with
    | some (.ins c fs) => match cs.lookup c, fs.lookup m with
      | some i, none => some (n, i)
      | _, _ => none
    | _ => none
  | _ => none
def mthSat (o : Option (Nat × String)) (Q : Nat → String → Prop) : Prop := match o with
  | some (n, i) => Q n i
  | none => False
@[simp] theorem mthSat_some {n : Nat} {i : String} {Q : Nat → String → Prop} : mthSat (some (n, i)) Q = Q n i := rfl
@[simp] theorem sat_mMth {cs : List (Str × String)} {mo : M} {m : Str} {ms : MA} {Q : Val → List MO → Prop} : (mMth cs mo m ms C ρ L).sat Q = (mo C ρ L).sat fun o L1 => mthSat (mthAt cs (fz o) m L1) fun n i => (ms C ρ L1).sat fun xs L2 => (C i (.h n :: xs) L2).sat Q := by
  rw [mMth, sat_bind]
  congr 1
  funext o L1
  generalize fz o = a
  cases a with
  | d x => exact sat_no
  | new xs => exact sat_no
  | h n =>
    simp only [mthAt]
    cases h1 : L1[n]? with
    | none => exact sat_no
    | some mo =>
      cases mo with
      | ins c fs =>
        cases h2 : cs.lookup c with
        | none => simp [h2, mthSat]
        | some i =>
          cases h3 : fs.lookup m with
          | none => simp [h2, h3]
          | some v => simp [h2, h3, mthSat]
      | _ => exact sat_no
def nonSat (v : Val) (Q : Prop) : Prop := match v with
  | .d .non => Q
  | _ => False
@[simp] theorem nonSat_non {Q : Prop} : nonSat (.d .non) Q = Q := rfl
@[simp] theorem sat_mMak {c : Str} {i : String} {ms : MA} {Q : Val → List MO → Prop} : (mMak c i ms C ρ L).sat Q = (ms C ρ L).sat fun xs L1 => (C i (.new [] :: .h L1.length :: xs) (L1 ++ [.ins c []])).sat fun v L2 => nonSat v (Q (.h L1.length) L2) := by
  rw [mMak, sat_bind]
  congr 1
  funext xs L1
  rw [sat_bind]
  congr 1
  funext v L2
  cases v with
  | d x => cases x <;> first | exact sat_no | exact sat_ok
  | _ => exact sat_no
end
end Ev
set_option Elab.async false
set_option linter.all false
set_option maxRecDepth 100000
set_option maxHeartbeats 4000000
namespace S
open PySem PySem.Spec L2 Ev

/-! ## the program's run of a tree: an object of the class Run -/
structure Trr (P : Prog) : Prop extends Vfn P where
  wv : P "basics.with_value" = some F.f_basics_with_value
  init : P "Run.__init__" = some F.f_Run___init__
  block : P "Run.do_block" = some F.f_Run_do_block
  do_ : P "Run.do" = some F.f_Run_do
  run : P "trees.run" = some F.f_trees_run
  turns : P "trees.turns_of" = some F.f_trees_turns_of
def rRec (s : Sx) : List (Str × Val) := [("store", .d (.tup (s.st.map .int))), ("told", .d (.tup (s.told.map .int))), ("turns", .d (.int s.t))]
section
variable {P : Prog} {n : Nat} {h : Nat} {L : List MO}
theorem with_st (hw : P "basics.with_value" = some F.f_basics_with_value) (hn : 1 ≤ n) (hL : Wf L) {st : List Int} (hs : StOk st) {m v : Int} (m0 : 0 ≤ m) (m1 : m < 4) : run P n "basics.with_value" [.d (.tup (st.map .int)), .d (.int m), .d (.int v)] L = .ok (.d (.tup ((st.set m.toNat v).map .int))) L := by
  obtain ⟨n, rfl⟩ : ∃ m, n = m + 1 := ⟨n - 1, by omega⟩
  refine run_pure hw rfl hL (by simp) ?_
  simp only [F.f_basics_with_value]
  have hlen := hs.1
  have cs := cut_setI (v := v) m0 (by omega : m < st.length)
  have l1 : (cutD (st.map D.int) none (some m)).length ≤ 4 := Nat.le_trans cutD_len (by simp [hlen])
  have l2 : (cutD (st.map D.int) (some (m + 1)) none).length ≤ 4 := Nat.le_trans cutD_len (by simp [hlen])
  rw [List.singleton_append] at cs
  simp [take_len]
  exact ⟨by omega, by omega, by rw [cs, List.map_set]⟩
abbrev At_ (L : List MO) (h : Nat) (s : Sx) : List MO := L.set h (.ins "Run" (rRec s))
theorem ga_store {s : Sx} (hl : h < L.length) : getA ["Run"] (.h h) "store" (At_ L h s) = some (.d (.tup (s.st.map .int))) := by simp [getA, List.getElem?_set_self hl, rRec]
theorem ga_told {s : Sx} (hl : h < L.length) : getA ["Run"] (.h h) "told" (At_ L h s) = some (.d (.tup (s.told.map .int))) := by simp [getA, List.getElem?_set_self hl, rRec]; rfl
theorem ga_turns {s : Sx} (hl : h < L.length) : getA ["Run"] (.h h) "turns" (At_ L h s) = some (.d (.int s.t)) := by simp [getA, List.getElem?_set_self hl, rRec]; rfl
theorem sa_store {s : Sx} {st : List Int} (hl : h < L.length) : setA ["Run"] (.h h) "store" (.d (.tup (st.map .int))) (At_ L h s) = some (At_ L h ⟨st, s.told, s.t⟩) := by simp [setA, List.getElem?_set_self hl, rRec]; rfl
theorem sa_told {s : Sx} {td : List Int} (hl : h < L.length) : setA ["Run"] (.h h) "told" (.d (.tup (td.map .int))) (At_ L h s) = some (At_ L h ⟨s.st, td, s.t⟩) := by simp [setA, List.getElem?_set_self hl, rRec]; rfl
theorem sa_turns {s : Sx} {t : Nat} (hl : h < L.length) : setA ["Run"] (.h h) "turns" (.d (.int t)) (At_ L h s) = some (At_ L h ⟨s.st, s.told, t⟩) := by simp [setA, List.getElem?_set_self hl, rRec]; rfl
theorem ca {s : Sx} (hl : h < L.length) : clsAt (.h h) (At_ L h s) = some "Run" := by simp [clsAt, List.getElem?_set_self hl]
theorem ma_do {s : Sx} (hl : h < L.length) : mthAt [("Run", "Run.do")] (.h h) "do" (At_ L h s) = some (h, "Run.do") := by simp [mthAt, List.getElem?_set_self hl, rRec]; rfl
theorem ma_block {s : Sx} (hl : h < L.length) : mthAt [("Run", "Run.do_block")] (.h h) "do_block" (At_ L h s) = some (h, "Run.do_block") := by simp [mthAt, List.getElem?_set_self hl, rRec]; rfl
theorem wfi {s : Sx} (hL : Wf L) : Wf (At_ L h s) := hL.set fun n => by simp [MO.below, rRec, Val.below]
theorem fin_b {s s' : Sx} {b : Bool} (hL : Wf L) : (fin L.length (.d (.bl b)) (At_ L h s')).sat fun z L' => z = .d (.bl b) ∧ L' = At_ L h s' := by
  have hl2 : L.length = (At_ L h s').length := by simp
  rw [hl2, fin_d (L := L) (by rw [take_len]; exact wfi (s := s') hL), take_len]
  exact ⟨rfl, rfl⟩
def BlkT (P : Prog) (k w W : Nat) (d : Nat) : Prop := ∀ (r : List Dd), (∀ x ∈ r, DOk k w d x) → ∀ (s s' : Sx) (b : Bool), Run r s s' b → StOk s.st → Fit W r s → ∀ (n : Nat) (L : List MO) (h : Nat), 2 * d + k + 6 ≤ n → Wf L → h < L.length →
  (run P n "Run.do_block" [.h h, .d (.tup (r.map encD))] (At_ L h s)).sat fun z L' => z = .d (.bl b) ∧ L' = At_ L h s'
def DdT (P : Prog) (k w W : Nat) (d : Nat) : Prop := ∀ (x : Dd), DOk k w d x → ∀ (s s' : Sx) (b : Bool), Run [x] s s' b → StOk s.st → Fit W [x] s → ∀ (n : Nat) (L : List MO) (h : Nat), 2 * d + k + 5 ≤ n → Wf L → h < L.length →
  (run P n "Run.do" [.h h, .d (encD x)] (At_ L h s)).sat fun z L' => z = .d (.bl b) ∧ L' = At_ L h s'
theorem blk_of (c : Trr P) {k w W d : Nat} (ih : DdT P k w W d) : BlkT P k w W d := by
  intro r hr s s' b hrun hs hf n L h hn hL hl
  obtain ⟨n, rfl⟩ : ∃ m, n = m + 1 := ⟨n - 1, by omega⟩
  refine run_sat c.block rfl ?_
  simp only [F.f_Run_do_block]
  have hlen : (At_ L h s).length = L.length := by simp
  rw [hlen]
  refine seq_cut2 (fun ρ1 L1 => b = true ∧ L1 = At_ L h s') ?_ ?_
  · refine sat_mFor (fun xs ρ L1 => (∃ z, ρ = [some (.h h), some (.d (.tup (r.map encD))), z]) ∧ ∃ r1 s1, xs = r1.map encD ∧ Run r1 s1 s' b ∧ (∀ x ∈ r1, DOk k w d x) ∧ StOk s1.st ∧ Fit W r1 s1 ∧ L1 = At_ L h s1) ?_ ?_ ?_
    · simp only [sat_mIt, sat_mVar, List.map_cons, List.map_nil, List.cons_append, List.nil_append, List.getElem?_cons_zero, List.getElem?_cons_succ, slotSat_some, fz_dd, srcSat_tup]
      exact ⟨trivial, ⟨_, rfl⟩, r, s, rfl, hrun, hr, hs, hf, rfl⟩
    · rintro x xs ρ L1 ⟨⟨z, rfl⟩, r1, s1, e1, hr1, hd1, hs1, hf1, rfl⟩
      cases r1 with
      | nil => cases e1
      | cons y r1 =>
        rw [List.map_cons, List.cons.injEq] at e1
        obtain ⟨rfl, rfl⟩ := e1
        have hy := hd1 y (by simp)
        have hd2 : ∀ x ∈ r1, DOk k w d x := fun x hx => hd1 x (List.mem_cons_of_mem _ hx)
        rcases hr1.head with ⟨s2, q1, q2⟩ | ⟨e, q1⟩
        · have q := ih y hy _ _ _ q1 hs1 hf1.head n L h (by omega) hL hl
          simp [ma_do hl]
          refine Out.sat_mono q fun z L2 ⟨ez, eL⟩ => ?_
          subst ez eL
          simp
          exact ⟨r1, rfl, s2, q2, hd2, q1.stOk (.of (d := d) (by simpa using hy)) hs1, hf1.next q1, rfl⟩
        · have q := ih y hy _ _ _ q1 hs1 hf1.head n L h (by omega) hL hl
          subst e
          simp [ma_do hl]
          refine Out.sat_mono q fun z L2 ⟨ez, eL⟩ => ?_
          subst ez eL
          simp
          exact fin_b (s := s) hL
    · rintro ρ L1 ⟨⟨z, rfl⟩, r1, s1, e1, hr1, _, _, _, rfl⟩
      cases r1 with
      | nil => cases hr1; exact .inl ⟨_, rfl, rfl, rfl⟩
      | cons y r1 => cases e1
  · rintro ρ1 L1 ⟨rfl, rfl⟩
    simp
    exact fin_b (s := s) hL
def LpInv (e : Ex) (b2 : List Dd) (W : Nat) (s' : Sx) (b : Bool) (L : List MO) (h : Nat) (m : Nat) (ρ : Rho) (L1 : List MO) : Prop :=
  ∃ s1, Run [.loop e b2] s1 s' b ∧ StOk s1.st ∧ Fit W [.loop e b2] s1 ∧ L1 = At_ L h s1 ∧ ρ = [some (.h h), some (.d (.tup [.str "while", enc e, .tup (b2.map encD)]))] ∧ m = s1.t + 1
theorem rd_of (c : Trr P) {k w W d : Nat} (ihB : ∀ d', d' + 1 = d → BlkT P k w W d') : DdT P k w W d := by
  intro x hx s s' b hrun hs hf n L h hn hL hl
  obtain ⟨n, rfl⟩ : ∃ m, n = m + 1 := ⟨n - 1, by omega⟩
  refine run_sat c.do_ rfl ?_
  simp only [F.f_Run_do]
  have hlen : (At_ L h s).length = L.length := by simp
  rw [hlen]
  cases x with
  | set m e =>
    unfold DOk at hx
    cases hrun with
    | set hrun =>
    cases hrun
    have ev := value_ok c.toVfn hs hx.2.2 n (At_ L h s) (by omega) (wfi hL)
    have hq := with_st (n := n) c.wv (by omega) (wfi (h := h) (s := s) hL) hs (v := vl s.st e) hx.1 hx.2.1
    refine seq_cut2 (fun _ _ => False) ?_ fun _ _ h => h.elim
    simp [encD, ga_store hl, ev, hq]
    rw [← List.map_set, sa_store hl]
    simp
    exact fin_b (s := s) hL
  | tell e =>
    unfold DOk at hx
    cases hrun with
    | tell hrun =>
    cases hrun
    have ev := value_ok c.toVfn hs hx n (At_ L h s) (by omega) (wfi hL)
    have hf2 := hf.2
    have e2 : s.told.map D.int ++ [D.int (vl s.st e)] = (s.told ++ [vl s.st e]).map .int := by simp
    refine seq_cut2 (fun ρ1 L1 => ρ1 = [some (.h h), some (.d (encD (.tell e)))] ∧ L1 = At_ L h s) (by simp [encD]) ?_
    rintro ρ1 L1 ⟨rfl, rfl⟩
    refine seq_cut2 (fun _ _ => False) ?_ fun _ _ h => h.elim
    have hz : s.told.length + 1 ≤ sizeLine := by rw [sizeLine_val]; omega
    simp [encD, ga_store hl, ga_told hl, ev, bIAdd, hz]
    rw [e2, sa_told hl]
    simp
    refine ⟨by omega, ?_⟩
    exact fin_b (s := s) hL
  | ite e a b2 =>
    cases d with
    | zero => exact hx.elim
    | succ d =>
    obtain ⟨he, ⟨_, ha⟩, _, hb⟩ := hx
    have ev := value_ok c.toVfn hs he n (At_ L h s) (by omega) (wfi hL)
    have hsub : Run (if vl s.st e ≠ 0 then a else b2) s s' b := by
      cases hrun with
      | ite q1 q3 => cases q3; exact q1
      | iteCut q1 => exact q1
    have hdd : ∀ x ∈ (if vl s.st e ≠ 0 then a else b2), DOk k w d x := by split <;> assumption
    have hff : Fit W (if vl s.st e ≠ 0 then a else b2) s := by
      unfold Fit at hf ⊢
      rw [szB_one, szD] at hf
      split <;> omega
    have q := ihB d rfl _ hdd _ _ _ hsub hs hff n L h (by omega) hL hl
    refine seq_cut2 (fun ρ1 L1 => ρ1 = [some (.h h), some (.d (encD (.ite e a b2)))] ∧ L1 = At_ L h s) (by simp [encD]) ?_
    rintro ρ1 L1 ⟨rfl, rfl⟩
    refine seq_cut2 (fun ρ1 L1 => ρ1 = [some (.h h), some (.d (encD (.ite e a b2)))] ∧ L1 = At_ L h s) (by simp [encD]) ?_
    rintro ρ1 L1 ⟨rfl, rfl⟩
    refine seq_cut2 (fun _ _ => False) ?_ fun _ _ h => h.elim
    simp [encD, encB_map, ga_store hl, ev, ma_block hl]
    by_cases h0 : vl s.st e = 0
    · rw [if_neg (by simpa using h0)] at q
      simp [h0, ma_block hl]
      refine Out.sat_mono q fun z L2 ⟨ez, eL⟩ => ?_
      subst ez eL
      exact fin_b (s := s) hL
    · rw [if_pos h0] at q
      simp [h0, ma_block hl]
      refine Out.sat_mono q fun z L2 ⟨ez, eL⟩ => ?_
      subst ez eL
      exact fin_b (s := s) hL
  | loop e b2 =>
    cases d with
    | zero => exact hx.elim
    | succ d =>
    obtain ⟨he, hb1, hb2⟩ := hx
    have eD : encD (.loop e b2) = .tup [.str "while", enc e, .tup (b2.map encD)] := by rw [encD, encB_map]
    rw [eD]
    refine seq_cut2 (fun ρ1 L1 => ρ1 = [some (.h h), some (.d (.tup [.str "while", enc e, .tup (b2.map encD)]))] ∧ L1 = At_ L h s) (by simp) ?_
    rintro ρ1 L1 ⟨rfl, rfl⟩
    refine seq_cut2 (fun ρ1 L1 => ρ1 = [some (.h h), some (.d (.tup [.str "while", enc e, .tup (b2.map encD)]))] ∧ L1 = At_ L h s) (by simp) ?_
    rintro ρ1 L1 ⟨rfl, rfl⟩
    refine seq_cut2 (fun ρ1 L1 => ρ1 = [some (.h h), some (.d (.tup [.str "while", enc e, .tup (b2.map encD)]))] ∧ L1 = At_ L h s) (by simp) ?_
    rintro ρ1 L1 ⟨rfl, rfl⟩
    refine seq_cut2 (fun ρ1 L1 => b = false ∧ L1 = At_ L h s') ?_ ?_
    · refine sat_mWhile (fun m ρ L1 => LpInv e b2 W s' b L h m ρ L1) ?_ (m := s.t + 1) ⟨s, hrun, hs, hf, rfl, rfl, rfl⟩
      rintro m ρ L1 ⟨s1, hr1, hs1, hf1, rfl, rfl, rfl⟩
      cases hr1 with
      | @off e b r st told =>
        simp [ga_turns hl]
      | @stop e b r st told t s' k h0 h1 =>
        cases h1
        have ev := value_ok c.toVfn hs1 he n (At_ L h ⟨st, told, t⟩) (by omega) (wfi hL)
        have en : ((0 : Int) < (t : Int) + 1) = True := by apply eq_true; omega
        have et2 : ((t : Int) + 1 - 1) = t := by omega
        simp [ga_turns hl, en, et2, bSub, sa_turns hl, ca hl, ga_store hl, ev, h0]
        exact fin_b (s := s) hL
      | @more e b r st told t s1 s' k h0 h1 h2 =>
        have ev := value_ok c.toVfn hs1 he n (At_ L h ⟨st, told, t⟩) (by omega) (wfi hL)
        have en : ((0 : Int) < (t : Int) + 1) = True := by apply eq_true; omega
        have et2 : ((t : Int) + 1 - 1) = t := by omega
        have fb : Fit W b2 ⟨st, told, t⟩ := by
          unfold Fit at hf1 ⊢
          rw [szB_one, szD, Nat.add_mul] at hf1
          simp only at hf1 ⊢
          omega
        have q := ihB d rfl b2 hb2 _ _ _ h1 hs1 fb n L h (by omega) hL hl
        have f1 := h1.few (W := W) fb.1
        have h1l := h1.le
        have gi := h1.stOk (.of hb2) hs1
        have f2 : Fit W [.loop e b2] s1 := by
          unfold Fit at hf1 ⊢
          simp only [szB_one, szD, Nat.add_mul] at hf1 f1 ⊢
          omega
        simp [ga_turns hl, en, et2, bSub, sa_turns hl, ca hl, ga_store hl, ev, h0, ma_block hl]
        refine Out.sat_mono q fun z L2 ⟨ez, eL⟩ => ?_
        subst ez eL
        simp
        exact ⟨s1.t + 1, by have : s1.t ≤ t := h1l; omega, ⟨s1, h2, gi, f2, rfl, rfl, rfl⟩⟩
      | @cut e b r st told t s' h0 h1 =>
        have ev := value_ok c.toVfn hs1 he n (At_ L h ⟨st, told, t⟩) (by omega) (wfi hL)
        have en : ((0 : Int) < (t : Int) + 1) = True := by apply eq_true; omega
        have et2 : ((t : Int) + 1 - 1) = t := by omega
        have fb : Fit W b2 ⟨st, told, t⟩ := by
          unfold Fit at hf1 ⊢
          rw [szB_one, szD, Nat.add_mul] at hf1
          simp only at hf1 ⊢
          omega
        have q := ihB d rfl b2 hb2 _ _ _ h1 hs1 fb n L h (by omega) hL hl
        simp [ga_turns hl, en, et2, bSub, sa_turns hl, ca hl, ga_store hl, ev, h0, ma_block hl]
        refine Out.sat_mono q fun z L2 ⟨ez, eL⟩ => ?_
        subst ez eL
        simp
        exact fin_b (s := s) hL
    · rintro ρ1 L1 ⟨rfl, rfl⟩
      simp
      exact fin_b (s := s) hL
theorem rd_ok (c : Trr P) {k w W : Nat} : ∀ d, DdT P k w W d
  | 0 => rd_of c fun _ e => by omega
  | d + 1 => rd_of c fun d' e => by cases e; exact blk_of c (rd_ok c d)
theorem wfI {L : List MO} (hL : Wf L) : Wf (L ++ [.ins "Run" []]) := hL.snoc' fun n => by simp [MO.below]
theorem initT_ok (c : Trr P) (hn : 2 ≤ n) {L : List MO} (hL : Wf L) {st : List Int} {t : Nat} : (run P n "Run.__init__" [.new [], .h L.length, .d (.tup (st.map .int)), .d (.int t)] (L ++ [.ins "Run" []])).sat fun z L' => z = .d .non ∧ L' = At_ (L ++ [.ins "Run" []]) L.length ⟨st, [], t⟩ := by
  obtain ⟨n, rfl⟩ : ∃ m, n = m + 2 := ⟨n - 2, by omega⟩
  show (run P (n + 1) "Run.__init__" [.h L.length, .d (.tup (st.map .int)), .d (.int t)] (L ++ [.ins "Run" []])).sat _
  refine run_sat c.init rfl ?_
  simp only [F.f_Run___init__]
  have h1 : ∀ fs v f, fs.length < 900 → setA ["Run"] (.h L.length) f v (L ++ [.ins "Run" fs]) = some (L ++ [.ins "Run" (putA f v fs)]) := fun fs v f hf => by
    simp [setA, hf]
  refine seq_cut2 (fun ρ1 L1 => ρ1 = [some (.h L.length), some (.d (.tup (st.map .int))), some (.d (.int t))] ∧ L1 = L ++ [.ins "Run" [("store", .d (.tup (st.map .int)))]]) ?_ ?_
  · simp [h1, putA]
  rintro ρ1 L1 ⟨rfl, rfl⟩
  refine seq_cut2 (fun ρ1 L1 => ρ1 = [some (.h L.length), some (.d (.tup (st.map .int))), some (.d (.int t))] ∧ L1 = L ++ [.ins "Run" [("store", .d (.tup (st.map .int))), ("told", .d (.tup []))]]) ?_ ?_
  · simp [h1, putA]
  rintro ρ1 L1 ⟨rfl, rfl⟩
  have e : At_ (L ++ [.ins "Run" []]) L.length ⟨st, [], t⟩ = L ++ [.ins "Run" [("store", .d (.tup (st.map .int))), ("told", .d (.tup [])), ("turns", .d (.int t))]] := by simp [rRec]
  rw [e]
  simp [h1, putA]
  have hl2 : L.length + 1 = (L ++ [MO.ins "Run" [("store", .d (.tup (st.map .int))), ("told", .d (.tup [])), ("turns", .d (.int t))]]).length := by simp
  rw [hl2, fin_d (L := L) (by rw [take_len]; exact hL.snoc' fun n => by simp [MO.below, Val.below]), take_len]
  exact ⟨rfl, rfl⟩
theorem at_take {s : Sx} : (At_ (L ++ [.ins "Run" []]) L.length s).take L.length = L := by simp
theorem new_lt : L.length < (L ++ [MO.ins "Run" []]).length := by simp
/-- the program's run -/
theorem runT_ok (c : Trr P) {k w W d : Nat} {r : List Dd} (hr : ∀ x ∈ r, DOk k w d x) {st : List Int} {t : Nat} {s' : Sx} {b : Bool} (h : Run r ⟨st, [], t⟩ s' b) (hs : StOk st) (hW : szB r ≤ W) (hf : t * W + szB r ≤ 1000000) (hn : 2 * d + k + 8 ≤ n) (hL : Wf L) :
    run P n "trees.run" [.d (.tup (r.map encD)), .d (.tup (st.map .int)), .d (.int t)] L = .ok (.d (encOt s' b)) L := by
  obtain ⟨n, rfl⟩ : ∃ m, n = m + 1 := ⟨n - 1, by omega⟩
  refine run_pure c.run rfl hL (by simp) ?_
  simp only [F.f_trees_run]
  have hl := new_lt (L := L)
  have q1 := initT_ok c (n := n) (by omega) hL (st := st) (t := t)
  have q := blk_of c (rd_ok c d) r hr _ _ _ h hs (W := W) ⟨hW, by simpa using hf⟩ n (L ++ [.ins "Run" []]) L.length (by omega) (wfI hL) hl
  refine seq_cut (fun ρ1 L1 => ρ1 = [some (.d (.tup (r.map encD))), some (.d (.tup (st.map .int))), some (.d (.int t)), some (.h L.length), none] ∧ L1 = At_ (L ++ [.ins "Run" []]) L.length ⟨st, [], t⟩) ?_ ?_
  · simp
    refine Out.sat_mono q1 fun z L2 ⟨ez, eL⟩ => ?_
    subst ez eL
    simp
  rintro ρ1 L1 ⟨rfl, rfl⟩
  have tk := fun s => at_take (L := L) (s := s)
  clear q1
  generalize L ++ [MO.ins "Run" []] = LL at hl q tk ⊢
  refine seq_cut (fun ρ1 L1 => ρ1 = [some (.d (.tup (r.map encD))), some (.d (.tup (st.map .int))), some (.d (.int t)), some (.h L.length), some (.d (.bl b))] ∧ L1 = At_ LL L.length s') ?_ ?_
  · simp [ma_block hl]
    refine Out.sat_mono q fun z L2 ⟨ez, eL⟩ => ?_
    subst ez eL
    simp
  rintro ρ1 L1 ⟨rfl, rfl⟩
  cases b with
  | true => simp [ga_store hl, ga_told hl, tk, encOt]
  | false => simp [ga_told hl, tk, encOt]
theorem turnsT_ok (c : Trr P) {k w W d : Nat} {r : List Dd} (hr : ∀ x ∈ r, DOk k w d x) {st : List Int} {t : Nat} {s' : Sx} {b : Bool} (h : Run r ⟨st, [], t⟩ s' b) (hs : StOk st) (hW : szB r ≤ W) (hf : t * W + szB r ≤ 1000000) (hn : 2 * d + k + 8 ≤ n) (hL : Wf L) :
    run P n "trees.turns_of" [.d (.tup (r.map encD)), .d (.tup (st.map .int)), .d (.int t)] L = .ok (.d (if b then .int (t - s'.t) else .non)) L := by
  obtain ⟨n, rfl⟩ : ∃ m, n = m + 1 := ⟨n - 1, by omega⟩
  refine run_pure c.turns rfl hL (by simp) ?_
  simp only [F.f_trees_turns_of]
  have hl := new_lt (L := L)
  have q1 := initT_ok c (n := n) (by omega) hL (st := st) (t := t)
  have q := blk_of c (rd_ok c d) r hr _ _ _ h hs (W := W) ⟨hW, by simpa using hf⟩ n (L ++ [.ins "Run" []]) L.length (by omega) (wfI hL) hl
  refine seq_cut (fun ρ1 L1 => ρ1 = [some (.d (.tup (r.map encD))), some (.d (.tup (st.map .int))), some (.d (.int t)), some (.h L.length)] ∧ L1 = At_ (L ++ [.ins "Run" []]) L.length ⟨st, [], t⟩) ?_ ?_
  · simp
    refine Out.sat_mono q1 fun z L2 ⟨ez, eL⟩ => ?_
    subst ez eL
    simp
  rintro ρ1 L1 ⟨rfl, rfl⟩
  have tk := fun s => at_take (L := L) (s := s)
  clear q1
  generalize L ++ [MO.ins "Run" []] = LL at hl q tk ⊢
  simp [ma_block hl]
  refine Out.sat_mono q fun z L2 ⟨ez, eL⟩ => ?_
  subst ez eL
  cases b with
  | true => simp [ga_turns hl, tk, bSub]
  | false => simp [tk]
end
end S
set_option Elab.async false
set_option linter.all false
set_option maxRecDepth 100000
set_option maxHeartbeats 4000000
namespace S
open PySem PySem.Spec L2 Ev

/-! ## more about runs -/
theorem Run.det {r : List Dd} {s s1 : Sx} {k1 : Bool} (h : Run r s s1 k1) : ∀ {s2 : Sx} {k2 : Bool}, Run r s s2 k2 → s1 = s2 ∧ k1 = k2 := by
  induction h with
  | nil => intro s2 k2 h2; cases h2; exact ⟨rfl, rfl⟩
  | set _ ih => intro s2 k2 h2; cases h2 with | set h2 => exact ih h2
  | tell _ ih => intro s2 k2 h2; cases h2 with | tell h2 => exact ih h2
  | ite _ _ i1 i2 =>
    intro s2 k2 h2
    cases h2 with
    | ite q1 q2 => obtain ⟨rfl, _⟩ := i1 q1; exact i2 q2
    | iteCut q1 => obtain ⟨_, e⟩ := i1 q1; cases e
  | iteCut _ i1 =>
    intro s2 k2 h2
    cases h2 with
    | ite q1 q2 => obtain ⟨_, e⟩ := i1 q1; cases e
    | iteCut q1 => exact i1 q1
  | off => intro s2 k2 h2; cases h2; exact ⟨rfl, rfl⟩
  | stop h0 _ ih =>
    intro s2 k2 h2
    cases h2 with
    | stop q0 q1 => exact ih q1
    | more q0 => exact absurd h0 q0
    | cut q0 => exact absurd h0 q0
  | more h0 _ _ i1 i2 =>
    intro s2 k2 h2
    cases h2 with
    | stop q0 q1 => exact absurd q0 h0
    | more q0 q1 q2 => obtain ⟨rfl, _⟩ := i1 q1; exact i2 q2
    | cut q0 q1 => obtain ⟨_, e⟩ := i1 q1; cases e
  | cut h0 _ i1 =>
    intro s2 k2 h2
    cases h2 with
    | stop q0 q1 => exact absurd q0 h0
    | more q0 q1 q2 => obtain ⟨_, e⟩ := i1 q1; cases e
    | cut q0 q1 => exact i1 q1
/-- a run that ends does so with just the turns that it needs, and any more -/
theorem Run.shift {r : List Dd} {s s' : Sx} {k : Bool} (h : Run r s s' k) : k = true → ∀ u v : Nat, v + s'.t = s.t + u → Run r ⟨s.st, s.told, v⟩ ⟨s'.st, s'.told, u⟩ true := by
  induction h with
  | nil => intro _ u v e; obtain rfl : v = u := by omega
           exact .nil
  | set _ ih => exact fun hk u v e => .set (ih hk u v e)
  | tell _ ih => exact fun hk u v e => .tell (ih hk u v e)
  | @ite e a b r s s1 s' k h1 h2 i1 i2 =>
    intro hk u v e
    have l1 := h1.le
    have l2 := h2.le
    exact .ite (i1 rfl (s1.t - s'.t + u) v (by omega)) (i2 hk u _ (by omega))
  | iteCut => intro hk; cases hk
  | off => intro hk; cases hk
  | @stop e b r st told t s' k h0 h1 ih =>
    intro hk u v e
    have l1 := h1.le
    simp only at e l1
    obtain ⟨v, rfl⟩ : ∃ w, v = w + 1 := ⟨v - 1, by omega⟩
    exact .stop h0 (ih hk u v (by simp only; omega))
  | @more e b r st told t s1 s' k h0 h1 h2 i1 i2 =>
    intro hk u v e
    have l1 := h1.le
    have l2 := h2.le
    simp only at e l1
    obtain ⟨v, rfl⟩ : ∃ w, v = w + 1 := ⟨v - 1, by omega⟩
    exact .more h0 (i1 rfl (s1.t - s'.t + u) v (by simp only; omega)) (i2 hk u _ (by omega))
  | cut => intro hk; cases hk
/-- what was told before stands ahead -/
theorem Run.pre {r : List Dd} {s s' : Sx} {k : Bool} (h : Run r s s' k) (p : List Int) : Run r ⟨s.st, p ++ s.told, s.t⟩ ⟨s'.st, p ++ s'.told, s'.t⟩ k := by
  induction h with
  | nil => exact .nil
  | set _ ih => exact .set ih
  | tell _ ih => exact .tell (by simpa using ih)
  | ite _ _ i1 i2 => exact .ite i1 i2
  | iteCut _ i1 => exact .iteCut i1
  | off => exact .off
  | stop h0 _ ih => exact .stop h0 ih
  | more h0 _ _ i1 i2 => exact .more h0 i1 i2
  | cut h0 _ i1 => exact .cut h0 i1
theorem Run.app {p r : List Dd} {s s1 s' : Sx} {k k' : Bool} (h : Run p s s1 k') : k' = true → Run r s1 s' k → Run (p ++ r) s s' k := by
  induction h with
  | nil => exact fun _ q => q
  | set _ ih => exact fun e q => .set (ih e q)
  | tell _ ih => exact fun e q => .tell (ih e q)
  | ite h1 _ _ i2 => exact fun e q => .ite h1 (i2 e q)
  | iteCut => intro e; cases e
  | off => intro e; cases e
  | stop h0 _ ih => exact fun e q => .stop h0 (ih e q)
  | more h0 h1 _ _ i2 => exact fun e q => .more h0 h1 (i2 e q)
  | cut => intro e; cases e
/-- with fewer turns it is broken off -/
theorem Run.fewer {r : List Dd} {s s' s2 : Sx} {k : Bool} (h : Run r s s' true) {v : Nat} (hv : v + s'.t < s.t) (h2 : Run r ⟨s.st, s.told, v⟩ s2 k) : k = false := by
  cases k with
  | false => rfl
  | true =>
    have l := h2.le
    simp only at l
    have q := h2.shift rfl (s2.t + (s.t - v)) s.t (by simp only; omega)
    have e := (h.det q).1
    rw [e] at hv
    simp only at hv
    omega
end S
set_option Elab.async false
set_option linter.all false
set_option maxRecDepth 100000
set_option maxHeartbeats 4000000
namespace S
open PySem PySem.Spec L2 Ev

/-! ## what a program is, of any value -/
structure Tst (P : Prog) : Prop extends Exp P where
  tagged : P "basics.is_tagged" = some F.f_basics_is_tagged
  deed : P "trees.is_deed" = some F.f_trees_is_deed
  block : P "trees.is_block" = some F.f_trees_is_block
structure TstL (P : Prog) : Prop extends ExpL P where
  tagged : P "_law_tagged" = some F.f__law_tagged
  deed : P "_law_is_deed" = some F.f__law_is_deed
  block : P "_law_is_block" = some F.f__law_is_block
def tagB (v : D) (w : Str) (k : Nat) : Bool := match v with
  | .tup (.str x :: xs) => decide (xs.length + 1 = k) && (x == w)
  | _ => false
def ddB (bk : D → Bool) (v : D) : Bool := match v with
  | .tup [.str x, a, b] => if x = "set" then inR 0 3 a && shp 4 60 b else decide (x = "while") && (shp 4 60 a && bk b)
  | .tup [.str x, a] => decide (x = "tell") && shp 4 60 a
  | .tup [.str x, a, b, c] => decide (x = "if") && (shp 4 60 a && (bk b && bk c))
  | _ => false
def bkB : Nat → D → Bool
  | 0 => fun _ => false
  | d + 1 => fun v => match v with
    | .tup xs => decide (xs.length ≤ 100000) && xs.all (ddB (bkB d))
    | _ => false
theorem tagB_2 {v : D} {w : Str} (h : tagB v w 2 = true) : ∃ a, v = .tup [.str w, a] := by
  unfold tagB at h
  split at h
  · rename_i x xs
    simp at h
    match xs, h with
    | [a], ⟨_, e⟩ => exact ⟨a, by rw [e]⟩
  · cases h
theorem tagB_3 {v : D} {w : Str} (h : tagB v w 3 = true) : ∃ a b, v = .tup [.str w, a, b] := by
  unfold tagB at h
  split at h
  · rename_i x xs
    simp at h
    match xs, h with
    | [a, b], ⟨_, e⟩ => exact ⟨a, b, by rw [e]⟩
  · cases h
theorem tagB_4 {v : D} {w : Str} (h : tagB v w 4 = true) : ∃ a b c, v = .tup [.str w, a, b, c] := by
  unfold tagB at h
  split at h
  · rename_i x xs
    simp at h
    match xs, h with
    | [a, b, c], ⟨_, e⟩ => exact ⟨a, b, c, by rw [e]⟩
  · cases h
theorem ddB_no {bk : D → Bool} {v : D} (h1 : tagB v "set" 3 = false) (h2 : tagB v "tell" 2 = false) (h3 : tagB v "if" 4 = false) (h4 : tagB v "while" 3 = false) : ddB bk v = false := by
  unfold ddB
  split
  · simp [tagB] at h1 h4; simp [h1, h4]
  · simp [tagB] at h2; simp [h2]
  · simp [tagB] at h3; simp [h3]
  · rfl
/-- a comprehension that keeps some -/
theorem comp_keep {C : Calls} {ρ : Rho} {L : List MO} {it : MI} {vs : List Nat} {g : MG} {t : MT} {m : M} {Q : Val → List MO → Prop} {ks : List D} {p : D → Bool} (hL : Wf L) (hk : ks.length ≤ 3000000)
    (start : (it C ρ L).sat fun s L1 => L1 = L ∧ s = ⟨ks, none⟩)
    (step : ∀ k ∈ ks, ∀ acc, (g C (.d k) (wipeR ρ vs) (L ++ [.lst acc])).sat fun ρ1 L1 => (t C ρ1 L1).sat fun b L2 => b = p k ∧ L2 = L ++ [.lst acc] ∧ (m C ρ1 L2).sat fun y L3 => fz y = .d k ∧ L3 = L ++ [.lst acc])
    (done : Q (.new (ks.filter p)) L) : (mComp it vs g t m C ρ L).sat Q := by
  refine sat_mComp (fun r acc L' => L' = L ∧ ∃ a, ks = a ++ r ∧ acc = a.filter p) ?_ ?_ ?_
  · refine Out.sat_mono start fun s L1 ⟨h1, h2⟩ => ?_
    subst h1 h2
    exact ⟨rfl, rfl, [], rfl, rfl⟩
  · rintro x r acc L' ⟨rfl, a, e1, rfl⟩
    have hm : x ∈ ks := by rw [e1]; simp
    have hlen : a.length < ks.length := by rw [e1]; simp
    have hle : (a.filter p).length ≤ a.length := List.length_filter_le _ _
    refine Out.sat_mono (step x hm (a.filter p)) fun ρ1 L1 q => ?_
    refine Out.sat_mono q fun b' L2 ⟨hb, q1, q2⟩ => ?_
    cases e : p x with
    | true =>
      rw [if_pos (by rw [hb, e])]
      refine Out.sat_mono q2 fun y L3 ⟨e3, e4⟩ => ?_
      exact ⟨x, L', e3, by rw [sizeLine_val]; omega, e4, rfl, rfl, a ++ [x], by rw [e1]; simp, by simp [e]⟩
    | false =>
      rw [if_neg (by rw [hb, e]; exact Bool.false_ne_true)]
      exact ⟨L', q1, rfl, rfl, a ++ [x], by rw [e1]; simp, by simp [e]⟩
  · rintro acc L' ⟨rfl, a, e1, rfl⟩
    rw [List.append_nil] at e1
    subst e1
    exact ⟨hL, done⟩
theorem alls_ok {bs : List Bool} {L : List MO} : biAll [.d (.lst (bs.map .bl))] L = some (.d (.bl (bs.all id))) := by
  unfold biAll
  simp [asBls_map]
theorem none_kept {p : D → Bool} {xs : List D} : (((xs.filter fun x => !p x).length : Int) == 0) = xs.all p := by
  rw [Bool.eq_iff_iff, List.all_eq_true]
  simp
section
variable {P : Prog} {n : Nat} {L : List MO}
theorem tag_ok (c : Tst P) (hn : 1 ≤ n) (hL : Wf L) (v : D) (w : Str) {k : Nat} (hk : 0 < k) : run P n "basics.is_tagged" [.d v, .d (.str w), .d (.int k)] L = .ok (.d (.bl (tagB v w k))) L := by
  obtain ⟨n, rfl⟩ : ∃ m, n = m + 1 := ⟨n - 1, by omega⟩
  refine run_pure c.tagged rfl hL (by simp) ?_
  simp only [F.f_basics_is_tagged]
  cases v with
  | tup xs =>
    cases xs with
    | nil =>
      have e : ((0 : Int) == (k : Int)) = false := by simp; omega
      simp [isT, tyName, tagB, e, take_len]
    | cons y ys =>
      by_cases hl : ys.length + 1 = k
      · have e : ((ys.length : Int) + 1 = (k : Int)) = True := by apply eq_true; omega
        cases y <;> simp [isT, tyName, tagB, e, hl, take_len]
      · have e : ((ys.length : Int) + 1 = (k : Int)) = False := by apply eq_false; omega
        cases y <;> simp [isT, tyName, tagB, e, hl, take_len]
  | _ => simp [isT, tyName, tagB, take_len]
theorem tagL_ok (c : TstL P) (hn : 1 ≤ n) (hL : Wf L) (v : D) (w : Str) {k : Nat} (hk : 0 < k) : run P n "_law_tagged" [.d v, .d (.str w), .d (.int k)] L = .ok (.d (.bl (tagB v w k))) L := by
  obtain ⟨n, rfl⟩ : ∃ m, n = m + 1 := ⟨n - 1, by omega⟩
  refine run_pure c.tagged rfl hL (by simp) ?_
  simp only [F.f__law_tagged]
  cases v with
  | tup xs =>
    cases xs with
    | nil =>
      have e : ((0 : Int) == (k : Int)) = false := by simp; omega
      simp [isT, tyName, tagB, e, take_len]
    | cons y ys =>
      by_cases hl : ys.length + 1 = k
      · have e : ((ys.length : Int) + 1 = (k : Int)) = True := by apply eq_true; omega
        cases y <;> simp [isT, tyName, tagB, e, hl, take_len]
      · have e : ((ys.length : Int) + 1 = (k : Int)) = False := by apply eq_false; omega
        cases y <;> simp [isT, tyName, tagB, e, hl, take_len]
  | _ => simp [isT, tyName, tagB, take_len]
def BkTo (P : Prog) (f : String) (d : Nat) : Prop := ∀ (n : Nat) (L : List MO) (v : D), 2 * d + 72 ≤ n → Wf L → run P n f [.d v, .d (.int ((d : Int) - 1))] L = .ok (.d (.bl (bkB d v))) L
def DdTo (P : Prog) (f : String) (d : Nat) : Prop := ∀ (n : Nat) (L : List MO) (v : D), 2 * d + 73 ≤ n → Wf L → run P n f [.d v, .d (.int d)] L = .ok (.d (.bl (ddB (bkB d) v))) L
theorem dd_of (c : Tst P) {d : Nat} (ih : BkTo P "trees.is_block" d) : DdTo P "trees.is_deed" d := by
  intro n L v hn hL
  obtain ⟨n, rfl⟩ : ∃ m, n = m + 1 := ⟨n - 1, by omega⟩
  refine run_pure c.deed rfl hL (by simp) ?_
  simp only [F.f_trees_is_deed]
  have t1 := tag_ok (n := n) c (by omega) hL v "set" (k := 3) (by omega)
  have t2 := tag_ok (n := n) c (by omega) hL v "tell" (k := 2) (by omega)
  have t3 := tag_ok (n := n) c (by omega) hL v "if" (k := 4) (by omega)
  have t4 := tag_ok (n := n) c (by omega) hL v "while" (k := 3) (by omega)
  have x := fun v => isx_ok (n := n) c.toExp (by omega) hL v
  have f := fun v => from_ok (n := n) c.toExp (by omega) hL v 0 3
  have b := fun v => ih n L v (by omega) hL
  simp at t1 t2 t3 t4
  cases h1 : tagB v "set" 3 with
  | true =>
    obtain ⟨a, e, rfl⟩ := tagB_3 h1
    rw [h1] at t1
    cases h : inR 0 3 a <;> simp [t1, f, x, ddB, take_len, h]
  | false =>
  rw [h1] at t1
  cases h2 : tagB v "tell" 2 with
  | true =>
    obtain ⟨a, rfl⟩ := tagB_2 h2
    rw [h2] at t2
    simp [t1, t2, x, ddB, take_len]
  | false =>
  rw [h2] at t2
  cases h3 : tagB v "if" 4 with
  | true =>
    obtain ⟨a, e, g, rfl⟩ := tagB_4 h3
    rw [h3] at t3
    cases h : shp 4 60 a <;> cases h' : bkB d e <;> simp [t1, t2, t3, x, b, ddB, take_len, h, h']
  | false =>
  rw [h3] at t3
  cases h4 : tagB v "while" 3 with
  | true =>
    obtain ⟨a, e, rfl⟩ := tagB_3 h4
    rw [h4] at t4
    cases h : shp 4 60 a <;> simp [t1, t2, t3, t4, x, b, ddB, take_len, h]
  | false =>
  rw [h4] at t4
  simp [t1, t2, t3, t4, ddB_no h1 h2 h3 h4, take_len]
theorem bk_zero (c : Tst P) : BkTo P "trees.is_block" 0 := by
  intro n L v hn hL
  obtain ⟨n, rfl⟩ : ∃ m, n = m + 1 := ⟨n - 1, by omega⟩
  refine run_pure c.block rfl hL (by simp) ?_
  simp only [F.f_trees_is_block]
  refine seq_cut2 (fun ρ1 L1 => False) ?_ fun _ _ h => h.elim
  cases v with
  | tup xs => by_cases hl : (xs.length : Int) > 100000 <;> simp [isT, tyName, bkB, take_len, hl]
  | _ => simp [isT, tyName, bkB, take_len]
theorem bk_succ (c : Tst P) {d : Nat} (ih : DdTo P "trees.is_deed" d) : BkTo P "trees.is_block" (d + 1) := by
  intro n L v hn hL
  obtain ⟨n, rfl⟩ : ∃ m, n = m + 1 := ⟨n - 1, by omega⟩
  refine run_pure c.block rfl hL (by simp) ?_
  simp only [F.f_trees_is_block]
  have ed : ((d + 1 : Nat) : Int) - 1 = d := by omega
  rw [ed]
  cases v with
  | tup xs =>
    by_cases hl : xs.length ≤ 100000
    · have hl2 : ¬ (100000 : Int) < xs.length := by omega
      have hd : ¬ (d : Int) < 0 := by omega
      refine seq_cut2 (fun ρ1 L1 => ρ1 = [some (.d (.tup xs)), some (.d (.int d)), none] ∧ L1 = L) (by simp [isT, tyName, hl2, hd]) ?_
      rintro ρ1 L1 ⟨rfl, rfl⟩
      simp
      refine comp_kids (ks := xs) (en := id) (f := fun x => .bl (ddB (bkB d) x)) hL (by omega) (by simp) ?_ ?_
      · intro k hk acc
        simp [wipe1, ih n _ k (by omega) (Wf.snoc hL)]
      · have e := alls_ok (bs := xs.map (ddB (bkB d))) (L := L1)
        rw [List.map_map] at e
        have e2 : (xs.map fun x => D.bl (ddB (bkB d) x)) = xs.map (D.bl ∘ ddB (bkB d)) := rfl
        rw [e2, fz_new, e]
        simp [bkB, hl, take_len, Function.comp_def]
    · refine seq_cut2 (fun ρ1 L1 => False) ?_ fun _ _ h => h.elim
      have hl2 : (100000 : Int) < xs.length := by omega
      simp [isT, tyName, bkB, take_len, hl, hl2]
  | _ =>
    refine seq_cut2 (fun ρ1 L1 => False) ?_ fun _ _ h => h.elim
    simp [isT, tyName, bkB, take_len]
theorem block_is (c : Tst P) : ∀ d, BkTo P "trees.is_block" d ∧ DdTo P "trees.is_deed" d
  | 0 => ⟨bk_zero c, dd_of c (bk_zero c)⟩
  | d + 1 => ⟨bk_succ c (block_is c d).2, dd_of c (bk_succ c (block_is c d).2)⟩
theorem ddL_of (c0 : Com P) (c : TstL P) {d : Nat} (ih : BkTo P "_law_is_block" d) : DdTo P "_law_is_deed" d := by
  intro n L v hn hL
  obtain ⟨n, rfl⟩ : ∃ m, n = m + 1 := ⟨n - 1, by omega⟩
  refine run_pure c.deed rfl hL (by simp) ?_
  simp only [F.f__law_is_deed]
  have t1 := tagL_ok (n := n) c (by omega) hL v "set" (k := 3) (by omega)
  have t2 := tagL_ok (n := n) c (by omega) hL v "tell" (k := 2) (by omega)
  have t3 := tagL_ok (n := n) c (by omega) hL v "if" (k := 4) (by omega)
  have t4 := tagL_ok (n := n) c (by omega) hL v "while" (k := 3) (by omega)
  have x := fun v => isxL_ok (n := n) c0 c.toExpL (by omega) hL v
  have f := fun v => num_ok (n := n) c0 c.toExpL (by omega) hL v 0 3
  have b := fun v => ih n L v (by omega) hL
  simp at t1 t2 t3 t4
  cases h1 : tagB v "set" 3 with
  | true =>
    obtain ⟨a, e, rfl⟩ := tagB_3 h1
    rw [h1] at t1
    cases h : inR 0 3 a <;> simp [t1, f, x, ddB, take_len, h]
  | false =>
  rw [h1] at t1
  cases h2 : tagB v "tell" 2 with
  | true =>
    obtain ⟨a, rfl⟩ := tagB_2 h2
    rw [h2] at t2
    simp [t1, t2, x, ddB, take_len]
  | false =>
  rw [h2] at t2
  cases h3 : tagB v "if" 4 with
  | true =>
    obtain ⟨a, e, g, rfl⟩ := tagB_4 h3
    rw [h3] at t3
    cases h : shp 4 60 a <;> cases h' : bkB d e <;> simp [t1, t2, t3, x, b, ddB, take_len, h, h']
  | false =>
  rw [h3] at t3
  cases h4 : tagB v "while" 3 with
  | true =>
    obtain ⟨a, e, rfl⟩ := tagB_3 h4
    rw [h4] at t4
    cases h : shp 4 60 a <;> simp [t1, t2, t3, t4, x, b, ddB, take_len, h]
  | false =>
  rw [h4] at t4
  simp [t1, t2, t3, t4, ddB_no h1 h2 h3 h4, take_len]
theorem bkL_zero (c : TstL P) : BkTo P "_law_is_block" 0 := by
  intro n L v hn hL
  obtain ⟨n, rfl⟩ : ∃ m, n = m + 1 := ⟨n - 1, by omega⟩
  refine run_pure c.block rfl hL (by simp) ?_
  simp only [F.f__law_is_block]
  refine seq_cut2 (fun ρ1 L1 => False) ?_ fun _ _ h => h.elim
  cases v with
  | tup xs => by_cases hl : (xs.length : Int) > 100000 <;> simp [isT, tyName, bkB, take_len, hl]
  | _ => simp [isT, tyName, bkB, take_len]
theorem bkL_succ (c : TstL P) {d : Nat} (ih : DdTo P "_law_is_deed" d) : BkTo P "_law_is_block" (d + 1) := by
  intro n L v hn hL
  obtain ⟨n, rfl⟩ : ∃ m, n = m + 1 := ⟨n - 1, by omega⟩
  refine run_pure c.block rfl hL (by simp) ?_
  simp only [F.f__law_is_block]
  have ed : ((d + 1 : Nat) : Int) - 1 = d := by omega
  rw [ed]
  cases v with
  | tup xs =>
    by_cases hl : xs.length ≤ 100000
    · have hl2 : ¬ (100000 : Int) < xs.length := by omega
      have hd : ¬ (d : Int) < 0 := by omega
      refine seq_cut2 (fun ρ1 L1 => ρ1 = [some (.d (.tup xs)), some (.d (.int d)), none] ∧ L1 = L) (by simp [isT, tyName, hl2, hd]) ?_
      rintro ρ1 L1 ⟨rfl, rfl⟩
      simp
      refine comp_keep (ks := xs) (p := fun x => !ddB (bkB d) x) hL (by omega) (by simp) ?_ ?_
      · intro k hk acc
        simp [wipe1, ih n _ k (by omega) (Wf.snoc hL)]
      · have e := none_kept (p := ddB (bkB d)) (xs := xs)
        simp [bkB, hl, take_len]
        exact e
    · refine seq_cut2 (fun ρ1 L1 => False) ?_ fun _ _ h => h.elim
      have hl2 : (100000 : Int) < xs.length := by omega
      simp [isT, tyName, bkB, take_len, hl, hl2]
  | _ =>
    refine seq_cut2 (fun ρ1 L1 => False) ?_ fun _ _ h => h.elim
    simp [isT, tyName, bkB, take_len]
theorem blockL_is (c0 : Com P) (c : TstL P) : ∀ d, BkTo P "_law_is_block" d ∧ DdTo P "_law_is_deed" d
  | 0 => ⟨bkL_zero c, ddL_of c0 c (bkL_zero c)⟩
  | d + 1 => ⟨bkL_succ c (blockL_is c0 c d).2, ddL_of c0 c (bkL_succ c (blockL_is c0 c d).2)⟩
end
end S
set_option Elab.async false
set_option linter.all false
set_option maxRecDepth 100000
set_option maxHeartbeats 4000000
namespace S
open PySem PySem.Spec L2 Ev

/-! ## how many turns, how many deeds -/
structure Use (P : Prog) : Prop where
  used : P "_law_used" = some F.f__law_used
structure Cnt (P : Prog) : Prop where
  deeds : P "trees.deeds_in" = some F.f_trees_deeds_in
structure CntL (P : Prog) : Prop where
  count : P "_law_count" = some F.f__law_count
section
variable {P : Prog} {n : Nat} {h : Nat} {L : List MO}
theorem used_ok (u : Use P) (c : Rn P) {k w W d : Nat} {r : List Dd} (hr : ∀ x ∈ r, DOk k w d x) {st : List Int} {t : Nat} {s' : Sx} {b : Bool} (h : Run r ⟨st, [], t⟩ s' b) (hs : StOk st) (hW : szB r ≤ W) (hf : t * W + szB r ≤ 1000000) (hn : 3 * d + k + 6 ≤ n) (hL : Wf L) :
    run P n "_law_used" [.d (.tup (r.map encD)), .d (.tup (st.map .int)), .d (.int t)] L = .ok (.d (if b then .int (t - s'.t) else .non)) L := by
  obtain ⟨n, rfl⟩ : ∃ m, n = m + 1 := ⟨n - 1, by omega⟩
  refine run_pure u.used rfl hL (by simp) ?_
  simp only [F.f__law_used]
  have hl : L.length < (L ++ [MO.dct []]).length := by simp
  have q := do_ok c d r hr _ _ _ h hs (W := W) ⟨hW, by simpa using hf⟩ n (L ++ [.dct []]) L.length (by omega) hL.dct hl
  refine seq_cut (fun ρ1 L1 => ρ1 = [some (.d (.tup (r.map encD))), some (.d (.tup (st.map .int))), some (.d (.int t)), some (.h L.length)] ∧ L1 = (L ++ [MO.dct []]).set L.length (.dct (dOf ⟨st, [], t⟩ true))) ?_ ?_
  · simp
    rfl
  rintro ρ1 L1 ⟨rfl, rfl⟩
  refine seq_cut (fun ρ1 L1 => ρ1 = [some (.d (.tup (r.map encD))), some (.d (.tup (st.map .int))), some (.d (.int t)), some (.h L.length)] ∧ L1 = (L ++ [MO.dct []]).set L.length (.dct (dOf s' b))) ?_ ?_
  · simp only [sat_mDrop, sat_mCall, sat_mCons, sat_mVar, sat_mNil, List.getElem?_cons_zero, List.getElem?_cons_succ, slotSat_some, fz_dd, fz_h]
    refine Out.sat_mono q fun z L2 ⟨ez, eL⟩ => ?_
    exact ⟨_, rfl, rfl, eL⟩
  rintro ρ1 L1 ⟨rfl, rfl⟩
  have tk : ((L ++ [MO.dct []]).set L.length (.dct (dOf s' b))).take L.length = L := by simp
  simp only [sat_mRet, sat_mIf, sat_mtOf, sat_mBin, sat_mVar, sat_mK, List.getElem?_cons_zero, List.getElem?_cons_succ, slotSat_some, fz_dd, fz_h, get_word hl, get_turns hl, optSat_some, cEq_str, blSat_bl]
  cases b with
  | true => simp [tk, get_turns hl, bSub]
  | false => simp [tk]
theorem cut2 {a b : D} {r : List D} : cutD (a :: b :: r) (some 2) none = r := by
  unfold cutD HT.sIx
  simp
theorem cut2' {a b : D} : cutD [a, b] (some 2) none = [] := cut2
theorem comp_never {C : Calls} {ρ : Rho} {L : List MO} {it : MI} {vs : List Nat} {g : MG} {t : MT} {m : M} {Q : Val → List MO → Prop} {ks : List D} (hL : Wf L)
    (start : (it C ρ L).sat fun s L1 => L1 = L ∧ s = ⟨ks, none⟩)
    (step : ∀ k ∈ ks, (g C (.d k) (wipeR ρ vs) (L ++ [.lst []])).sat fun ρ1 L1 => (t C ρ1 L1).sat fun b L2 => b = false ∧ L2 = L ++ [.lst []])
    (done : Q (.new []) L) : (mComp it vs g t m C ρ L).sat Q := by
  refine sat_mComp (fun r acc L' => L' = L ∧ acc = [] ∧ ∀ x ∈ r, x ∈ ks) ?_ ?_ ?_
  · refine Out.sat_mono start fun s L1 ⟨h1, h2⟩ => ?_
    subst h1 h2
    exact ⟨rfl, rfl, rfl, fun x hx => hx⟩
  · rintro x r acc L' ⟨rfl, rfl, hx⟩
    refine Out.sat_mono (step x (hx x (by simp))) fun ρ1 L1 q => ?_
    refine Out.sat_mono q fun b L2 ⟨hb, e⟩ => ?_
    subst hb e
    rw [if_neg (by simp)]
    exact ⟨L', rfl, rfl, rfl, rfl, fun y hy => hx y (List.mem_cons_of_mem _ hy)⟩
  · rintro acc L' ⟨rfl, rfl, _⟩
    exact ⟨hL, done⟩
def DeTo (P : Prog) (k w d : Nat) : Prop := ∀ (r : List Dd), r.length ≤ 1000 → (∀ x ∈ r, DOk k w d x) → ∀ (n : Nat) (L : List MO), d + 1 ≤ n → Wf L → run P n "trees.deeds_in" [.d (.tup (r.map encD))] L = .ok (.d (.int (szB r))) L
theorem sum_szB : ∀ r : List Dd, (r.map fun x => (szD x : Int)).sum = szB r
  | [] => by simp [szB]
  | x :: r => by rw [List.map_cons, List.sum_cons, sum_szB r, szB]; omega
theorem deeds_of (c : Cnt P) {k w d : Nat} (hw : w ≤ 1000) (ih : ∀ d', d' + 1 = d → DeTo P k w d') : DeTo P k w d := by
  intro r hl hr n L hn hL
  obtain ⟨n, rfl⟩ : ∃ m, n = m + 1 := ⟨n - 1, by omega⟩
  refine run_pure c.deeds rfl hL (by simp) ?_
  simp only [F.f_trees_deeds_in]
  simp only [sat_mRet, sat_mBi, sat_mCons, sat_mNil]
  refine comp_kids (ks := r) (en := encD) (f := fun x => .int (szD x)) hL (by omega) (by simp) ?_ ?_
  · intro x hx acc
    have hy := hr x hx
    have hL2 : Wf (L ++ [MO.lst acc]) := hL.snoc
    cases x with
    | set m e =>
      simp [encD]
      refine comp_never (ks := [enc e]) hL2 (by simp [wipe1, cut2]) ?_ ?_
      · intro y hy
        simp [wipe1, cin2]
      · have := biSum_ints (is := []) (L := L ++ [MO.lst acc])
        simp only [List.map_nil] at this
        simp [this, szD]
    | tell e =>
      simp [encD]
      refine comp_never (ks := []) hL2 (by simp [wipe1, cut2']) ?_ ?_
      · intro y hy
        simp [wipe1, cin2]
      · have := biSum_ints (is := []) (L := L ++ [MO.lst acc])
        simp only [List.map_nil] at this
        simp [this, szD]
    | ite e a b =>
      cases d with
      | zero => exact hy.elim
      | succ d =>
      obtain ⟨_, ⟨la, ha⟩, lb, hb⟩ := hy
      have q : ∀ x ∈ [a, b], ∀ L, Wf L → run P n "trees.deeds_in" [.d (.tup (x.map encD))] L = .ok (.d (.int (szB x))) L := fun x hx L hL => by
        simp at hx
        rcases hx with rfl | rfl
        · exact ih d rfl _ (by omega) ha n L (by omega) hL
        · exact ih d rfl _ (by omega) hb n L (by omega) hL
      simp [encD, encB_map]
      refine comp_kids (ks := [a, b]) (en := fun x => .tup (x.map encD)) (f := fun x => .int (szB x)) hL2 (by simp) (by simp [wipe1, cut2]) ?_ ?_
      · intro y hy acc2
        have q' := q y hy (L ++ [MO.lst acc] ++ [MO.lst acc2]) hL2.snoc
        simp at q'
        simp [wipe1, cin2, q']
      · have := biSum_ints (is := [(szB a : Int), (szB b : Int)]) (L := L ++ [MO.lst acc])
        simp only [List.map_cons, List.map_nil] at this
        simp [this, szD]
        omega
    | loop e b =>
      cases d with
      | zero => exact hy.elim
      | succ d =>
      obtain ⟨_, lb, hb⟩ := hy
      simp [encD, encB_map]
      refine comp_kids (ks := [b]) (en := fun x => .tup (x.map encD)) (f := fun x => .int (szB x)) hL2 (by simp) (by simp [wipe1, cut2]) ?_ ?_
      · intro y hy acc2
        simp at hy
        subst hy
        have q' := ih d rfl _ (by omega) hb n (L ++ [MO.lst acc] ++ [MO.lst acc2]) (by omega) hL2.snoc
        simp at q'
        simp [wipe1, cin2, q']
      · have := biSum_ints (is := [(szB b : Int)]) (L := L ++ [MO.lst acc])
        simp only [List.map_cons, List.map_nil] at this
        simp [this, szD]
  · have := biSum_ints (is := r.map fun x => (szD x : Int)) (L := L)
    rw [List.map_map] at this
    have e : (fun x => D.int (szD x)) = D.int ∘ fun x => (szD x : Int) := rfl
    simp only [fz_new, e, this, optSat_some]
    simp [sum_szB]
theorem deeds_ok (c : Cnt P) {k w : Nat} (hw : w ≤ 1000) : ∀ d, DeTo P k w d
  | 0 => deeds_of c hw fun _ e => by omega
  | d + 1 => deeds_of c hw fun d' e => by cases e; exact deeds_ok c hw d
def CoTo (P : Prog) (k w d : Nat) : Prop := ∀ (r : List Dd), r.length ≤ 1000 → (∀ x ∈ r, DOk k w d x) → ∀ (n : Nat) (L : List MO), d + 1 ≤ n → Wf L → run P n "_law_count" [.d (.tup (r.map encD))] L = .ok (.d (.int (szB r))) L
/-- the parts of a deed that are blocks -/
def kidsD : Dd → List (List Dd)
  | .set _ _ => []
  | .tell _ => []
  | .ite _ a b => [a, b]
  | .loop _ b => [b]
def szK (ks : List (List Dd)) : Nat := (ks.map szB).sum
theorem szD_kids (x : Dd) : szD x = 1 + szK (kidsD x) := by cases x <;> simp [szD, kidsD, szK]; omega
theorem count_of (c : CntL P) {k w d : Nat} (hw : w ≤ 1000) (ih : ∀ d', d' + 1 = d → CoTo P k w d') : CoTo P k w d := by
  intro r hl hr n L hn hL
  obtain ⟨n, rfl⟩ : ∃ m, n = m + 1 := ⟨n - 1, by omega⟩
  refine run_pure c.count rfl hL (by simp) ?_
  simp only [F.f__law_count]
  refine seq_cut (fun ρ1 L1 => L1 = L ∧ ρ1 = [some (.d (.tup (r.map encD))), some (.d (.int 0)), none, none]) (by simp) ?_
  rintro ρ1 L1 ⟨rfl, rfl⟩
  refine seq_cut (fun ρ1 L2 => L2 = L1 ∧ ∃ y z, ρ1 = [some (.d (.tup (r.map encD))), some (.d (.int (szB r))), y, z]) ?_ ?_
  · refine sat_mFor (fun xs ρ L2 => L2 = L1 ∧ ∃ (a b : List Dd) (y z : Option Val), r = a ++ b ∧ xs = b.map encD ∧ ρ = [some (.d (.tup (r.map encD))), some (.d (.int (szB a))), y, z]) ?_ ?_ ?_
    · simp
      exact ⟨[], r, by simp, rfl, by simp [szB]⟩
    · rintro x xs ρ L1 ⟨rfl, a, b, y, z, e1, e2, rfl⟩
      cases b with
      | nil => cases e2
      | cons x0 b =>
      rw [List.map_cons, List.cons.injEq] at e2
      obtain ⟨rfl, rfl⟩ := e2
      have hy := hr x0 (by rw [e1]; simp)
      rw [sat_gName]
      simp only [List.set_cons_succ, List.set_cons_zero]
      refine seq_cut2 (fun ρ1 L2 => L2 = L1 ∧ ρ1 = [some (.d (.tup (r.map encD))), some (.d (.int (szB a + 1))), some (.d (encD x0)), z]) (by simp) ?_
      rintro ρ1 L2 ⟨rfl, rfl⟩
      have hk : ∀ v ∈ kidsD x0, run P n "_law_count" [.d (.tup (v.map encD))] L2 = .ok (.d (.int (szB v))) L2 := fun v hv => by
        cases x0 with
        | set m e => simp [kidsD] at hv
        | tell e => simp [kidsD] at hv
        | ite e p q =>
          cases d with
          | zero => exact hy.elim
          | succ d =>
          obtain ⟨_, ⟨la, ha⟩, lb, hb⟩ := hy
          simp [kidsD] at hv
          rcases hv with rfl | rfl
          · exact ih d rfl _ (by omega) ha n L2 (by omega) hL
          · exact ih d rfl _ (by omega) hb n L2 (by omega) hL
        | loop e p =>
          cases d with
          | zero => exact hy.elim
          | succ d =>
          obtain ⟨_, lb, hb⟩ := hy
          simp [kidsD] at hv
          subst hv
          exact ih d rfl _ (by omega) hb n L2 (by omega) hL
      refine sat_mFor (fun xs ρ L3 => L3 = L2 ∧ ∃ (u v : List (List Dd)) (z : Option Val), kidsD x0 = u ++ v ∧ xs = v.map (fun x => .tup (x.map encD)) ∧ ρ = [some (.d (.tup (r.map encD))), some (.d (.int ((szB a : Int) + 1 + szK u))), some (.d (encD x0)), z]) ?_ ?_ ?_
      · have h0 : ∃ xs0, (mIt (mIf (mtOf (mBin (cIn false) (mBin bIx (mVar 2) (mK (D.int 0))) (mTup (mCons (mK (D.str "if")) (mCons (mK (D.str "while")) mNil))))) (mSl (mVar 2) (mPart (mK (D.int 2))) mNoPart) (mTup mNil))) (Ev.run P n) [some (.d (.tup (r.map encD))), some (.d (.int (szB a + 1))), some (.d (encD x0)), z] L2 = .ok ⟨xs0, none⟩ L2 ∧ xs0 = (kidsD x0).map (fun x => .tup (x.map encD)) := by
          cases x0 with
          | set m e => exact ⟨_, rfl, rfl⟩
          | tell e => exact ⟨_, rfl, rfl⟩
          | ite e p q =>
            simp only [encD, encB_map]
            exact ⟨_, rfl, rfl⟩
          | loop e p =>
            simp only [encD, encB_map]
            exact ⟨_, rfl, rfl⟩
        obtain ⟨xs0, h0, rfl⟩ := h0
        rw [h0, sat_ok]
        exact ⟨rfl, rfl, [], _, z, rfl, rfl, by simp [szK]⟩
      · rintro y ys ρ L3 ⟨rfl, u, v, z, e3, e4, rfl⟩
        cases v with
        | nil => cases e4
        | cons v0 v =>
        rw [List.map_cons, List.cons.injEq] at e4
        obtain ⟨rfl, rfl⟩ := e4
        have q := hk v0 (by rw [e3]; simp)
        simp [q]
        exact ⟨u ++ [v0], v, by simp [e3], rfl, by simp [szK]; omega⟩
      · rintro ρ L3 ⟨rfl, u, v, z, e3, e4, rfl⟩
        have hv : v = [] := by
          cases v with
          | nil => rfl
          | cons => cases e4
        subst hv
        refine ⟨rfl, a ++ [x0], b, some (.d (encD x0)), z, by simp [e1], rfl, ?_⟩
        have e5 : ((szB (a ++ [x0]) : Nat) : Int) = (szB a : Int) + 1 + szK u := by
          rw [szB_append, szB_one, szD_kids, e3, List.append_nil]; omega
        rw [e5]
    · rintro ρ L1 ⟨rfl, a, b, y, z, e1, e2, rfl⟩
      have hb : b = [] := by
        cases b with
        | nil => rfl
        | cons => cases e2
      subst hb
      rw [List.append_nil] at e1
      subst e1
      exact ⟨_, rfl, rfl, _, _, rfl⟩
  rintro ρ1 L1 ⟨rfl, y, z, rfl⟩
  simp
theorem count_ok (c : CntL P) {k w : Nat} (hw : w ≤ 1000) : ∀ d, CoTo P k w d
  | 0 => count_of c hw fun _ e => by omega
  | d + 1 => count_of c hw fun d' e => by cases e; exact count_ok c hw d
end
end S
set_option Elab.async false
set_option linter.all false
set_option maxRecDepth 100000
set_option maxHeartbeats 4000000
namespace S
open PySem PySem.Spec L2 Ev

/-! ## conditions led backwards, plainly -/
def bothE (a b : Ex) : Ex := .neg (.two "plus" (.neg a) (.neg b))
def eithE (a b : Ex) : Ex := .neg (.two "times" (.neg a) (.neg b))
theorem vl_both {st : List Int} {a b : Ex} : vl st (bothE a b) = if vl st a ≠ 0 ∧ vl st b ≠ 0 then 1 else 0 := by
  simp only [bothE, vl, wk]
  by_cases h1 : vl st a = 0 <;> by_cases h2 : vl st b = 0 <;> simp [h1, h2]
theorem vl_eith {st : List Int} {a b : Ex} : vl st (eithE a b) = if vl st a ≠ 0 ∨ vl st b ≠ 0 then 1 else 0 := by
  simp only [eithE, vl, wk]
  by_cases h1 : vl st a = 0 <;> by_cases h2 : vl st b = 0 <;> simp [h1, h2]
theorem both_deep {d : Nat} {a b : Ex} (ha : EOk d a) (hb : EOk d b) : EOk (d + 3) (bothE a b) := ⟨by decide, ha, hb⟩
theorem eith_deep {d : Nat} {a b : Ex} (ha : EOk d a) (hb : EOk d b) : EOk (d + 3) (eithE a b) := ⟨by decide, ha, hb⟩
mutual
def hlD : Dd → Bool
  | .set _ _ => false
  | .tell _ => false
  | .ite _ a b => hlB a || hlB b
  | .loop _ _ => true
def hlB : List Dd → Bool
  | [] => false
  | x :: r => hlD x || hlB r
end
mutual
def bfD : Dd → Ex → Option Ex
  | .set m e, c => some (put m e c)
  | .tell _, c => some c
  | .loop _ _, _ => none
  | .ite e a b, c => (bfB a c).bind fun c1 => (bfB b c).map fun c2 => eithE (bothE e c1) (bothE (.neg e) c2)
def bfB : List Dd → Ex → Option Ex
  | [], c => some c
  | x :: r, c => (bfB r c).bind fun c' => bfD x c'
end
mutual
theorem bfD_none : ∀ (x : Dd) (c : Ex), (bfD x c).isNone = hlD x
  | .set m e, c => by rw [bfD, hlD]; rfl
  | .tell e, c => by rw [bfD, hlD]; rfl
  | .loop e b, c => by rw [bfD, hlD]; rfl
  | .ite e a b, c => by
    have h1 := bfB_none a c
    have h2 := bfB_none b c
    rw [bfD, hlD, ← h1, ← h2]
    cases bfB a c <;> cases bfB b c <;> rfl
theorem bfB_none : ∀ (r : List Dd) (c : Ex), (bfB r c).isNone = hlB r
  | [], c => by rw [bfB, hlB]; rfl
  | x :: r, c => by
    have h1 := bfB_none r c
    rw [bfB, hlB, ← h1]
    cases h : bfB r c with
    | none => simp
    | some c' =>
      have h2 := bfD_none x c'
      simp [h2]
end
section
variable {w : Nat}
mutual
theorem bfD_deep : ∀ (x : Dd) {n : Nat}, DOk 2 w n x → ∀ {d : Nat} {c c' : Ex}, 3 ≤ d → EOk d c → bfD x c = some c' → EOk (d + 6 * szD x) c'
  | .set m e, n, h, d, c, c', hd, hc, q => by
    rw [bfD] at q
    cases q
    unfold DOk at h
    rw [szD]
    exact (put_ok h.2.2 hc).mono (by omega)
  | .tell e, n, h, d, c, c', hd, hc, q => by
    rw [bfD] at q
    cases q
    exact hc.mono (by omega)
  | .loop e b, n, h, d, c, c', hd, hc, q => by rw [bfD] at q; cases q
  | .ite e a b, n, h, d, c, c', hd, hc, q => by
    cases n with
    | zero => exact h.elim
    | succ n =>
      obtain ⟨h1, ⟨_, h2⟩, _, h3⟩ := h
      rw [bfD] at q
      cases qa : bfB a c with
      | none => rw [qa] at q; cases q
      | some c1 =>
        cases qb : bfB b c with
        | none => rw [qa, qb] at q; cases q
        | some c2 =>
          rw [qa, qb] at q
          cases q
          have k1 := bfB_deep a h2 hd hc qa
          have k2 := bfB_deep b h3 hd hc qb
          have e1 : EOk (d + 6 * (szB a + szB b)) e := h1.mono (by omega)
          have e2 : EOk (d + 6 * (szB a + szB b)) (.neg e) := by
            have : EOk (2 + 1) (.neg e) := h1
            exact this.mono (by omega)
          have f1 := both_deep e1 (k1.mono (by omega))
          have f2 := both_deep e2 (k2.mono (by omega))
          have f3 := eith_deep f1 f2
          rw [szD]
          exact f3.mono (by omega)
theorem bfB_deep : ∀ (r : List Dd) {n : Nat}, (∀ x ∈ r, DOk 2 w n x) → ∀ {d : Nat} {c c' : Ex}, 3 ≤ d → EOk d c → bfB r c = some c' → EOk (d + 6 * szB r) c'
  | [], n, h, d, c, c', hd, hc, q => by
    rw [bfB] at q
    cases q
    exact hc.mono (by omega)
  | x :: r, n, h, d, c, c', hd, hc, q => by
    rw [bfB] at q
    cases qr : bfB r c with
    | none => rw [qr] at q; cases q
    | some c1 =>
      rw [qr] at q
      have k1 := bfB_deep r (fun y hy => h y (List.mem_cons_of_mem _ hy)) hd hc qr
      have k2 := bfD_deep x (h x (by simp)) (by omega) k1 q
      rw [szB]
      exact k2.mono (by omega)
end
theorem st_set {st : List Int} (hs : StOk st) {m v : Int} (hv : 0 ≤ v ∧ v ≤ 999) : StOk (st.set m.toNat v) := by
  refine ⟨by simp [hs.1], fun x hx => ?_⟩
  rcases List.mem_or_eq_of_mem_set hx with h | rfl
  · exact hs.2 x h
  · exact hv
theorem run_ends {r : List Dd} {s s' : Sx} {z : Bool} (h : Run r s s' z) : hlB r = false → z = true := by
  induction h with
  | nil => intro _; rfl
  | set _ ih => intro q; rw [hlB, Bool.or_eq_false_iff] at q; exact ih q.2
  | tell _ ih => intro q; rw [hlB, Bool.or_eq_false_iff] at q; exact ih q.2
  | ite _ _ _ i2 => intro q; rw [hlB, Bool.or_eq_false_iff] at q; exact i2 q.2
  | iteCut _ i1 =>
    intro q
    rw [hlB, hlD, Bool.or_eq_false_iff, Bool.or_eq_false_iff] at q
    refine i1 ?_
    split
    · exact q.1.1
    · exact q.1.2
  | off => intro q; rw [hlB, hlD, Bool.or_eq_false_iff] at q; cases q.1
  | stop _ _ _ => intro q; rw [hlB, hlD, Bool.or_eq_false_iff] at q; cases q.1
  | more _ _ _ _ _ => intro q; rw [hlB, hlD, Bool.or_eq_false_iff] at q; cases q.1
  | cut _ _ _ => intro q; rw [hlB, hlD, Bool.or_eq_false_iff] at q; cases q.1
theorem bf_vl {r : List Dd} {s s' : Sx} {z : Bool} (h : Run r s s' z) : z = true → hlB r = false → ∀ {n : Nat}, (∀ x ∈ r, DOk 2 w n x) → StOk s.st → ∀ {d : Nat} {c c' : Ex}, 3 ≤ d → EOk d c → bfB r c = some c' → (vl s.st c' ≠ 0 ↔ vl s'.st c ≠ 0) := by
  induction h with
  | nil =>
    intro _ _ n g hs d c c' hd hc q
    rw [bfB] at q
    cases q
    exact Iff.rfl
  | @set m e r s s' z h ih =>
    intro hz hq n g hs d c c' hd hc q
    have hx := g _ (List.mem_cons_self)
    have hr : ∀ y ∈ r, DOk 2 w n y := fun y hy => g y (List.mem_cons_of_mem _ hy)
    have hx : 0 ≤ m ∧ m < 4 ∧ EOk 2 e := by unfold DOk at hx; exact hx
    rw [hlB, Bool.or_eq_false_iff] at hq
    rw [bfB] at q
    cases qr : bfB r c with
    | none => rw [qr] at q; cases q
    | some c1 =>
      rw [qr] at q
      have q : bfD (.set m e) c1 = some c' := q
      rw [bfD] at q
      cases q
      have k1 := bfB_deep r hr hd hc qr
      rw [vl_put hx.1 (by have := hs.1; omega) k1]
      exact ih hz hq.2 hr (st_set hs (vl_in hs hx.2.2)) hd hc qr
  | @tell e r s s' z h ih =>
    intro hz hq n g hs d c c' hd hc q
    have hr : ∀ y ∈ r, DOk 2 w n y := fun y hy => g y (List.mem_cons_of_mem _ hy)
    rw [hlB, Bool.or_eq_false_iff] at hq
    rw [bfB] at q
    cases qr : bfB r c with
    | none => rw [qr] at q; cases q
    | some c1 =>
      rw [qr] at q
      have q : bfD (.tell e) c1 = some c' := q
      rw [bfD] at q
      cases q
      exact ih hz hq.2 hr hs hd hc qr
  | @ite e a b r s s1 s' z h1 h2 i1 i2 =>
    intro hz hq n g hs d c c' hd hc q
    have hx := g _ (List.mem_cons_self)
    have hr : ∀ y ∈ r, DOk 2 w n y := fun y hy => g y (List.mem_cons_of_mem _ hy)
    rw [hlB, hlD, Bool.or_eq_false_iff, Bool.or_eq_false_iff] at hq
    cases n with
    | zero => exact hx.elim
    | succ n =>
      obtain ⟨he, ⟨_, ha⟩, _, hb⟩ := hx
      rw [bfB] at q
      cases qr : bfB r c with
      | none => rw [qr] at q; cases q
      | some c0 =>
        rw [qr] at q
        have q : bfD (.ite e a b) c0 = some c' := q
        rw [bfD] at q
        have k0 := bfB_deep r hr hd hc qr
        cases qa : bfB a c0 with
        | none => rw [qa] at q; cases q
        | some c1 =>
          cases qb : bfB b c0 with
          | none => rw [qa, qb] at q; cases q
          | some c2 =>
            rw [qa, qb] at q
            cases q
            have hab : ∀ y ∈ (if vl s.st e ≠ 0 then a else b), DOk 2 w n y := by split <;> assumption
            have hs1 := h1.stOk (Gd.of hab) hs
            have j2 := i2 hz hq.2 hr hs1 hd hc qr
            have hlab : hlB (if vl s.st e ≠ 0 then a else b) = false := by
              split
              · exact hq.1.1
              · exact hq.1.2
            rw [vl_eith, vl_both, vl_both]
            by_cases h0 : vl s.st e = 0
            · have j1 := i1 rfl hlab hab hs (d := d + 6 * szB r) (c := c0) (c' := c2) (by omega) k0 (by rw [if_neg (by simpa using h0)]; exact qb)
              simp only [vl, h0]
              rw [← j2, ← j1]
              simp
            · have j1 := i1 rfl hlab hab hs (d := d + 6 * szB r) (c := c0) (c' := c1) (by omega) k0 (by rw [if_pos h0]; exact qa)
              simp only [vl, h0]
              rw [← j2, ← j1]
              simp
              exact fun _ => h0
  | iteCut _ _ => intro hz; cases hz
  | off => intro hz; cases hz
  | cut _ _ _ => intro hz; cases hz
  | stop _ _ _ => intro _ hq; rw [hlB, hlD, Bool.or_eq_false_iff] at hq; cases hq.1
  | more _ _ _ _ _ => intro _ hq; rw [hlB, hlD, Bool.or_eq_false_iff] at hq; cases hq.1
end
/-! ### loops written out -/
def fndE (e : Ex) (b : List Dd) : Nat → Dd
  | 0 => .ite e [] []
  | k + 1 => .ite e (b ++ [fndE e b k]) []
mutual
def unD : Dd → Dd
  | .set m e => .set m e
  | .tell e => .tell e
  | .ite e a b => .ite e (unB a) (unB b)
  | .loop e b => fndE e (unB b) 6
def unB : List Dd → List Dd
  | [] => []
  | x :: r => unD x :: unB r
end
theorem unB_map : ∀ r : List Dd, unB r = r.map unD
  | [] => by rw [unB]; rfl
  | x :: r => by rw [unB, unB_map r]; rfl
def Flat (s : Sx) : Sx := ⟨s.st, s.told, 0⟩
theorem un_run {r : List Dd} {s s' : Sx} {z : Bool} (h : Run r s s' z) : z = true → s.t ≤ 7 → Run (unB r) (Flat s) (Flat s') true ∧ ∀ e b r0, r = .loop e b :: r0 → ∀ j, s.t ≤ j + 1 → Run (fndE e (unB b) j :: unB r0) (Flat s) (Flat s') true := by
  induction h with
  | nil => intro _ _; exact ⟨by rw [unB]; exact .nil, fun e b r0 q => by cases q⟩
  | set _ ih => intro hz ht; exact ⟨by rw [unB, unD]; exact .set (ih hz ht).1, fun e b r0 q => by cases q⟩
  | tell _ ih => intro hz ht; exact ⟨by rw [unB, unD]; exact .tell (ih hz ht).1, fun e b r0 q => by cases q⟩
  | @ite e a b r s s1 s' z h1 h2 i1 i2 =>
    intro hz ht
    have le1 := h1.le
    refine ⟨?_, fun e b r0 q => by cases q⟩
    rw [unB, unD]
    refine .ite (s1 := Flat s1) ?_ (hz ▸ (i2 hz (by omega)).1)
    have := (i1 rfl ht).1
    show Run (if vl s.st e ≠ 0 then unB a else unB b) (Flat s) (Flat s1) true
    by_cases h0 : vl s.st e ≠ 0
    · rw [if_pos h0] at this ⊢; exact this
    · rw [if_neg h0] at this ⊢; exact this
  | iteCut _ _ => intro hz; cases hz
  | off => intro hz; cases hz
  | cut _ _ _ => intro hz; cases hz
  | @stop e b r st told t s' z h0 h ih =>
    intro hz ht
    simp only at ht
    have key : ∀ j, Run (fndE e (unB b) j :: unB r) (Flat ⟨st, told, t + 1⟩) (Flat s') true := fun j => by
      have q := (ih hz (by simp only; omega)).1
      cases j with
      | zero => exact .ite (s1 := Flat ⟨st, told, t⟩) (by rw [if_neg (by simpa [Flat] using h0)]; exact .nil) q
      | succ j => exact .ite (s1 := Flat ⟨st, told, t⟩) (by rw [if_neg (by simpa [Flat] using h0)]; exact .nil) q
    exact ⟨by rw [unB, unD]; exact key 6, fun e' b' r0 q j _ => by cases q; exact key j⟩
  | @more e b r st told t s1 s' z h0 h1 h2 i1 i2 =>
    intro hz ht
    have le1 := h1.le
    have hpos : 1 ≤ s1.t := by
      cases h2 with
      | off => cases hz
      | stop _ _ => simp
      | more _ _ _ => simp
      | cut _ _ => simp
    simp only at ht le1
    have key : ∀ j, t + 1 ≤ j + 1 → Run (fndE e (unB b) j :: unB r) (Flat ⟨st, told, t + 1⟩) (Flat s') true := fun j hj => by
      cases j with
      | zero => omega
      | succ j =>
        have q1 := (i1 rfl (by simp only; omega)).1
        have q2 := (i2 hz (by omega)).2 e b r rfl j (by omega)
        rcases q2.head with ⟨s2, p1, p2⟩ | ⟨q, _⟩
        · exact .ite (s1 := s2) (by rw [if_pos (by simpa [Flat] using h0)]; exact q1.app rfl p1) p2
        · cases q
    exact ⟨by rw [unB, unD]; exact key 6 (by omega), fun e' b' r0 q j hj => by cases q; exact key j hj⟩
theorem hlB_app : ∀ a b : List Dd, hlB (a ++ b) = (hlB a || hlB b)
  | [], b => by rw [hlB]; rfl
  | x :: a, b => by rw [List.cons_append, hlB, hlB, hlB_app a b, Bool.or_assoc]
theorem fnd_hl {e : Ex} {b : List Dd} (hb : hlB b = false) : ∀ j, hlD (fndE e b j) = false
  | 0 => by rw [fndE, hlD, hlB]; rfl
  | j + 1 => by rw [fndE, hlD, hlB_app, hb, hlB, hlB, fnd_hl hb j]; rfl
mutual
theorem unD_hl : ∀ x : Dd, hlD (unD x) = false
  | .set m e => by rw [unD, hlD]
  | .tell e => by rw [unD, hlD]
  | .ite e a b => by rw [unD, hlD, unB_hl a, unB_hl b]; rfl
  | .loop e b => by rw [unD]; exact fnd_hl (unB_hl b) 6
theorem unB_hl : ∀ r : List Dd, hlB (unB r) = false
  | [] => by rw [unB, hlB]
  | x :: r => by rw [unB, hlB, unD_hl x, unB_hl r]; rfl
end
theorem szB_app : ∀ a b : List Dd, szB (a ++ b) = szB a + szB b
  | [], b => by simp [szB]
  | x :: a, b => by rw [List.cons_append, szB, szB, szB_app a b]; omega
theorem fnd_sz {e : Ex} {b : List Dd} : ∀ j, szD (fndE e b j) = (j + 1) + j * szB b
  | 0 => by simp [fndE, szD, szB]
  | j + 1 => by
    rw [fndE, szD, szB_app, szB, szB, szB, fnd_sz j, Nat.succ_mul]
    omega
section
variable {k w : Nat}
mutual
theorem unD_sz : ∀ (x : Dd) {d : Nat}, DOk k w d x → szD (unD x) ≤ 7 ^ d * szD x
  | .set m e, d, h => by rw [unD, szD]; have := Nat.one_le_pow d 7 (by omega); omega
  | .tell e, d, h => by rw [unD, szD]; have := Nat.one_le_pow d 7 (by omega); omega
  | .ite e a b, d, h => by
    cases d with
    | zero => exact h.elim
    | succ d =>
      obtain ⟨_, ⟨_, h2⟩, _, h3⟩ := h
      have h1 := unB_sz a h2
      have h4 := unB_sz b h3
      have := Nat.one_le_pow d 7 (by omega)
      rw [unD, szD, szD, Nat.pow_succ, Nat.mul_assoc]
      have e1 : 7 ^ d * (7 * (1 + szB a + szB b)) = 7 ^ d * 7 + (7 ^ d * szB a) * 7 + (7 ^ d * szB b) * 7 := by
        rw [Nat.mul_add, Nat.mul_add, Nat.mul_add, Nat.mul_add, Nat.mul_one, Nat.mul_comm 7 (szB a), Nat.mul_comm 7 (szB b), ← Nat.mul_assoc, ← Nat.mul_assoc]
      rw [e1]
      omega
  | .loop e b, d, h => by
    cases d with
    | zero => exact h.elim
    | succ d =>
      obtain ⟨_, _, h2⟩ := h
      have h1 := unB_sz b h2
      have := Nat.one_le_pow d 7 (by omega)
      rw [unD, fnd_sz, szD, Nat.pow_succ, Nat.mul_assoc]
      have e1 : 7 ^ d * (7 * (1 + szB b)) = 7 ^ d * 7 + (7 ^ d * szB b) * 7 := by
        rw [Nat.mul_add, Nat.mul_add, Nat.mul_one, Nat.mul_comm 7 (szB b), ← Nat.mul_assoc]
      rw [e1]
      omega
theorem unB_sz : ∀ (r : List Dd) {d : Nat}, (∀ x ∈ r, DOk k w d x) → szB (unB r) ≤ 7 ^ d * szB r
  | [], d, h => by rw [unB, szB]; omega
  | x :: r, d, h => by
    have h1 := unD_sz x (h x (by simp))
    have h2 := unB_sz r fun y hy => h y (List.mem_cons_of_mem _ hy)
    rw [unB, szB, szB, Nat.mul_add]
    omega
end
theorem fnd_ok {e : Ex} {b : List Dd} {D : Nat} (he : EOk k e) (hl : b.length ≤ w) (hb : ∀ x ∈ b, DOk k (w + 1) D x) : ∀ j, DOk k (w + 1) (D + 1 + j) (fndE e b j)
  | 0 => ⟨he, ⟨by simp, by simp⟩, by simp, by simp⟩
  | j + 1 => by
    have ih := fnd_ok he hl hb j
    rw [show D + 1 + (j + 1) = (D + 1 + j) + 1 by omega]
    refine ⟨he, ⟨by simp; omega, fun x hx => ?_⟩, by simp, by simp⟩
    rcases List.mem_append.mp hx with hx | hx
    · exact (hb x hx).mono (Nat.le_refl _) (Nat.le_refl _) (by omega)
    · rw [List.mem_singleton.mp hx]; exact ih
theorem unB_len (r : List Dd) : (unB r).length = r.length := by rw [unB_map, List.length_map]
mutual
theorem unD_ok : ∀ (x : Dd) {d : Nat}, DOk k w d x → DOk k (w + 1) (7 * d) (unD x)
  | .set m e, d, h => by
    rw [unD]
    unfold DOk at h
    unfold DOk
    exact h
  | .tell e, d, h => by
    rw [unD]
    unfold DOk at h
    unfold DOk
    exact h
  | .ite e a b, d, h => by
    cases d with
    | zero => exact h.elim
    | succ d =>
      obtain ⟨h1, ⟨l2, h2⟩, l3, h3⟩ := h
      rw [unD, show 7 * (d + 1) = (7 * d + 6) + 1 by omega]
      exact ⟨h1, ⟨by rw [unB_len]; omega, fun x hx => (unB_ok a h2 x hx).mono (Nat.le_refl _) (Nat.le_refl _) (by omega)⟩, by rw [unB_len]; omega, fun x hx => (unB_ok b h3 x hx).mono (Nat.le_refl _) (Nat.le_refl _) (by omega)⟩
  | .loop e b, d, h => by
    cases d with
    | zero => exact h.elim
    | succ d =>
      obtain ⟨h1, l2, h2⟩ := h
      rw [unD, show 7 * (d + 1) = 7 * d + 1 + 6 by omega]
      exact fnd_ok h1 (by rw [unB_len]; exact l2) (unB_ok b h2) 6
theorem unB_ok : ∀ (r : List Dd) {d : Nat}, (∀ x ∈ r, DOk k w d x) → ∀ x ∈ unB r, DOk k (w + 1) (7 * d) x
  | [], d, h => by rw [unB]; simp
  | y :: r, d, h => by
    rw [unB]
    intro x hx
    rcases List.mem_cons.mp hx with rfl | hx
    · exact unD_ok y (h y (by simp))
    · exact unB_ok r (fun y hy => h y (List.mem_cons_of_mem _ hy)) x hx
end
end
/-! ### choices that do nothing left out -/
def keepD : Dd → List Dd
  | .ite _ [] [] => []
  | x => [x]
mutual
def wtD : Dd → Dd
  | .set m e => .set m e
  | .tell e => .tell e
  | .ite e a b => .ite e (wtB a) (wtB b)
  | .loop e b => .loop e (wtB b)
def wtB : List Dd → List Dd
  | [] => []
  | x :: r => keepD (wtD x) ++ wtB r
end
theorem keepD_ite {e : Ex} {a b : List Dd} : keepD (.ite e a b) = if (a.isEmpty && b.isEmpty) = true then [] else [.ite e a b] := by
  cases a <;> cases b <;> rfl
theorem wt_run {r : List Dd} {s s' : Sx} {z : Bool} (h : Run r s s' z) : Run (wtB r) s s' z := by
  induction h with
  | nil => rw [wtB]; exact .nil
  | set _ ih => rw [wtB, wtD]; exact .set ih
  | tell _ ih => rw [wtB, wtD]; exact .tell ih
  | @ite e a b r s s1 s' z h1 h2 i1 i2 =>
    rw [wtB, wtD, keepD_ite]
    have e0 : wtB (if vl s.st e ≠ 0 then a else b) = if vl s.st e ≠ 0 then wtB a else wtB b := by split <;> rfl
    rw [e0] at i1
    split
    · rename_i hd
      rw [Bool.and_eq_true, List.isEmpty_iff, List.isEmpty_iff] at hd
      rw [hd.1, hd.2] at i1
      have i1 : Run [] s s1 true := by split at i1 <;> exact i1
      cases i1
      exact i2
    · exact .ite i1 i2
  | @iteCut e a b r s s' h1 i1 =>
    rw [wtB, wtD, keepD_ite]
    have e0 : wtB (if vl s.st e ≠ 0 then a else b) = if vl s.st e ≠ 0 then wtB a else wtB b := by split <;> rfl
    rw [e0] at i1
    split
    · rename_i hd
      rw [Bool.and_eq_true, List.isEmpty_iff, List.isEmpty_iff] at hd
      rw [hd.1, hd.2] at i1
      have i1 : Run [] s s' false := by split at i1 <;> exact i1
      cases i1
    · exact .iteCut i1
  | off => rw [wtB, wtD]; exact .off
  | stop h0 _ ih => rw [wtB, wtD]; exact .stop h0 ih
  | more h0 _ _ i1 i2 =>
    rw [wtB, wtD] at i2 ⊢
    exact .more h0 i1 i2
  | cut h0 _ i1 => rw [wtB, wtD]; exact .cut h0 i1
mutual
def edD : Dd → Bool
  | .set _ _ => false
  | .tell _ => false
  | .ite _ a b => (a.isEmpty && b.isEmpty) || (edB a || edB b)
  | .loop _ b => edB b
def edB : List Dd → Bool
  | [] => false
  | x :: r => edD x || edB r
end
theorem edB_app : ∀ a b : List Dd, edB (a ++ b) = (edB a || edB b)
  | [], b => by rw [edB]; rfl
  | x :: a, b => by rw [List.cons_append, edB, edB, edB_app a b, Bool.or_assoc]
mutual
theorem wtD_ed : ∀ x : Dd, edB (keepD (wtD x)) = false
  | .set m e => by rw [wtD]; simp [keepD, edB, edD]
  | .tell e => by rw [wtD]; simp [keepD, edB, edD]
  | .ite e a b => by
    rw [wtD, keepD_ite]
    split
    · rw [edB]
    · rename_i hd
      have hd : ((wtB a).isEmpty && (wtB b).isEmpty) = false := by simpa using hd
      rw [edB, edB, edD, wtB_ed a, wtB_ed b, hd]
      rfl
  | .loop e b => by rw [wtD]; simp [keepD, edB, edD, wtB_ed b]
theorem wtB_ed : ∀ r : List Dd, edB (wtB r) = false
  | [] => by rw [wtB, edB]
  | x :: r => by rw [wtB, edB_app, wtD_ed x, wtB_ed r]; rfl
end
theorem keepD_len (x : Dd) : (keepD x).length ≤ 1 := by
  unfold keepD
  split <;> simp
theorem wtB_len : ∀ r : List Dd, (wtB r).length ≤ r.length
  | [] => by rw [wtB]; exact Nat.le_refl _
  | x :: r => by
    have h1 := keepD_len (wtD x)
    have h2 := wtB_len r
    rw [wtB, List.length_append, List.length_cons]
    omega
theorem keepD_mem {x y : Dd} (h : y ∈ keepD x) : y = x := by
  unfold keepD at h
  split at h
  · cases h
  · simpa using h
theorem keepD_sz (x : Dd) : szB (keepD x) ≤ szD x := by
  unfold keepD
  split
  · simp [szB]
  · simp [szB]
mutual
theorem wtD_sz : ∀ x : Dd, szD (wtD x) ≤ szD x
  | .set m e => by rw [wtD]; exact Nat.le_refl _
  | .tell e => by rw [wtD]; exact Nat.le_refl _
  | .ite e a b => by
    have h1 := wtB_sz a
    have h2 := wtB_sz b
    rw [wtD, szD, szD]
    omega
  | .loop e b => by
    have h1 := wtB_sz b
    rw [wtD, szD, szD]
    omega
theorem wtB_sz : ∀ r : List Dd, szB (wtB r) ≤ szB r
  | [] => by rw [wtB]; exact Nat.le_refl _
  | x :: r => by
    have h1 := wtD_sz x
    have h2 := wtB_sz r
    have h3 := keepD_sz (wtD x)
    rw [wtB, szB_app, szB]
    omega
end
section
variable {k w : Nat}
mutual
theorem wtD_ok : ∀ (x : Dd) {d : Nat}, DOk k w d x → DOk k w d (wtD x)
  | .set m e, d, h => by rw [wtD]; exact h
  | .tell e, d, h => by rw [wtD]; exact h
  | .ite e a b, d, h => by
    cases d with
    | zero => exact h.elim
    | succ d =>
      obtain ⟨h1, ⟨l2, h2⟩, l3, h3⟩ := h
      rw [wtD]
      exact ⟨h1, ⟨Nat.le_trans (wtB_len a) l2, wtB_ok a h2⟩, Nat.le_trans (wtB_len b) l3, wtB_ok b h3⟩
  | .loop e b, d, h => by
    cases d with
    | zero => exact h.elim
    | succ d =>
      obtain ⟨h1, l2, h2⟩ := h
      rw [wtD]
      exact ⟨h1, Nat.le_trans (wtB_len b) l2, wtB_ok b h2⟩
theorem wtB_ok : ∀ (r : List Dd) {d : Nat}, (∀ x ∈ r, DOk k w d x) → ∀ x ∈ wtB r, DOk k w d x
  | [], d, h => by rw [wtB]; simp
  | y :: r, d, h => by
    rw [wtB]
    intro x hx
    rcases List.mem_append.mp hx with hx | hx
    · rw [keepD_mem hx]; exact wtD_ok y (h y (by simp))
    · exact wtB_ok r (fun y hy => h y (List.mem_cons_of_mem _ hy)) x hx
end
end
/-! ### without loops -/
def isLp : Dd → Bool
  | .loop _ _ => true
  | _ => false
mutual
def srD : Dd → Dd
  | .set m e => .set m e
  | .tell e => .tell e
  | .ite e a b => .ite e (srB a) (srB b)
  | .loop e b => .loop e b
def srB : List Dd → List Dd
  | [] => []
  | x :: r => if isLp x = true then srB r else srD x :: srB r
end
theorem srB_map : ∀ r : List Dd, srB r = (r.filter fun x => !isLp x).map srD
  | [] => by rw [srB]; rfl
  | x :: r => by
    rw [srB, srB_map r, List.filter_cons]
    cases h : isLp x <;> simp
mutual
theorem srD_hl : ∀ x : Dd, isLp x = false → hlD (srD x) = false
  | .set m e, _ => by rw [srD, hlD]
  | .tell e, _ => by rw [srD, hlD]
  | .ite e a b, _ => by rw [srD, hlD, srB_hl a, srB_hl b]; rfl
  | .loop e b, h => by cases h
theorem srB_hl : ∀ r : List Dd, hlB (srB r) = false
  | [] => by rw [srB, hlB]
  | x :: r => by
    rw [srB]
    split
    · exact srB_hl r
    · rename_i h
      rw [hlB, srD_hl x (by simpa using h), srB_hl r]
      rfl
end
theorem srB_len : ∀ r : List Dd, (srB r).length ≤ r.length
  | [] => by rw [srB]; exact Nat.le_refl _
  | x :: r => by
    have := srB_len r
    rw [srB]
    split
    · rw [List.length_cons]; omega
    · rw [List.length_cons, List.length_cons]; omega
section
variable {k w : Nat}
mutual
theorem srD_ok : ∀ (x : Dd) {d : Nat}, DOk k w d x → DOk k w d (srD x)
  | .set m e, d, h => by rw [srD]; exact h
  | .tell e, d, h => by rw [srD]; exact h
  | .ite e a b, d, h => by
    cases d with
    | zero => exact h.elim
    | succ d =>
      obtain ⟨h1, ⟨l2, h2⟩, l3, h3⟩ := h
      rw [srD]
      exact ⟨h1, ⟨Nat.le_trans (srB_len a) l2, srB_ok a h2⟩, Nat.le_trans (srB_len b) l3, srB_ok b h3⟩
  | .loop e b, d, h => by rw [srD]; exact h
theorem srB_ok : ∀ (r : List Dd) {d : Nat}, (∀ x ∈ r, DOk k w d x) → ∀ x ∈ srB r, DOk k w d x
  | [], d, h => by rw [srB]; simp
  | y :: r, d, h => by
    have ih := srB_ok r (fun y hy => h y (List.mem_cons_of_mem _ hy))
    rw [srB]
    split
    · exact ih
    · intro x hx
      rcases List.mem_cons.mp hx with rfl | hx
      · exact srD_ok y (h y (by simp))
      · exact ih x hx
end
end
end S
set_option Elab.async false
set_option linter.all false
set_option maxRecDepth 100000
set_option maxHeartbeats 4000000
namespace S
open PySem PySem.Spec L2 Ev
structure Fld (P : Prog) : Prop where
  folded : P "expressions.folded" = some F.f_expressions_folded
  simpler : P "expressions.simpler" = some F.f_expressions_simpler
  simple : P "_law_simple" = some F.f__law_simple
  twins : P "_law_twins" = some F.f__law_twins
section
variable {P : Prog} {n : Nat} {h : Nat} {L : List MO}
theorem eq_num {d : Nat} {a : Ex} (ha : EOk d a) (hd : d ≤ 100) {i : Int} (hi : 0 ≤ i ∧ i ≤ 999) {neg : Bool} {L : List MO} : cEq neg (.d (enc a)) (.d (.tup [.str "number", .int i])) L = some (.d (.bl (if neg then !eqE a (.num i) else eqE a (.num i)))) :=
  eq_enc (d' := 0) (b := .num i) ha hi hd (by omega)
theorem in_num {d : Nat} {a b : Ex} (ha : EOk d a) (hb : EOk d b) {i : Int} (hi : 0 ≤ i ∧ i ≤ 999) {L : List MO} : cIn false (.d (.tup [.str "number", .int i])) (.d (.tup [enc a, enc b])) L = some (.d (.bl (eqE a (.num i) || eqE b (.num i)))) := by
  have := in_enc (L := L) (d := 0) (d' := d) (a := .num i) (es := [a, b]) hi (by simp [ha, hb]) (by omega)
  have e : enc (.num i) = .tup [.str "number", .int i] := rfl
  rw [e] at this
  simpa using this
theorem fives {w : Str} (h : w ∈ five) : w = "plus" ∨ w = "minus" ∨ w = "times" ∨ w = "less" ∨ w = "same" := by simpa [five] using h
theorem simpler_run (c : Fld P) (hn : 1 ≤ n) (hL : Wf L) {w : Str} (hw : w ∈ five) {d : Nat} {a b : Ex} (ha : EOk d a) (hb : EOk d b) (hd : d ≤ 90) : run P n "expressions.simpler" [.d (.str w), .d (enc a), .d (enc b)] L = .ok (.d (enc (simpler w a b))) L := by
  obtain ⟨n, rfl⟩ : ∃ m, n = m + 1 := ⟨n - 1, by omega⟩
  refine run_pure c.simpler rfl hL (by simp) ?_
  simp only [F.f_expressions_simpler]
  have z : ∀ i, enc (.num i) = .tup [.str "number", .int i] := fun _ => rfl
  have e0 := fun L neg => eq_num (L := L) (neg := neg) ha (by omega) (i := 0) (by omega)
  have e1 := fun L neg => eq_num (L := L) (neg := neg) ha (by omega) (i := 1) (by omega)
  have f0 := fun L neg => eq_num (L := L) (neg := neg) hb (by omega) (i := 0) (by omega)
  have f1 := fun L neg => eq_num (L := L) (neg := neg) hb (by omega) (i := 1) (by omega)
  have g := fun L neg => eq_enc (L := L) (neg := neg) ha hb (by omega) (by omega)
  have i0 := fun L => in_num (L := L) ha hb (i := 0) (by omega)
  unfold simpler
  rcases fives hw with rfl | rfl | rfl | rfl | rfl
  · simp [e0, f0, take_len]
    cases eqE a (.num 0) <;> cases eqE b (.num 0) <;> simp [take_len, enc]
  · simp [e0, f0, g, take_len]
    cases eqE a b <;> cases eqE b (.num 0) <;> simp [take_len, enc]
  · simp [e0, f0, e1, f1, i0, take_len]
    cases eqE a (.num 0) <;> cases eqE b (.num 0) <;> cases eqE a (.num 1) <;> cases eqE b (.num 1) <;> simp [take_len, enc]
  · simp [e0, f0, g, take_len]
    cases eqE a b <;> cases eqE b (.num 0) <;> simp [take_len, enc]
  · simp [e0, f0, g, take_len]
    cases eqE a b <;> simp [take_len, enc]
theorem value_neg (c : Vfn P) (hn : 2 ≤ n) (hL : Wf L) (x : Int) (s : D) : run P n "expressions.value_of" [.d (.tup [.str "not", .tup [.str "number", .int x]]), .d s] L = .ok (.d (.int (if x = 0 then 1 else 0))) L := by
  obtain ⟨n, rfl⟩ : ∃ m, n = m + 2 := ⟨n - 2, by omega⟩
  have e : run P (n + 1) "expressions.value_of" [.d (.tup [.str "number", .int x]), .d s] L = .ok (.d (.int x)) L := by
    refine run_pure c.value rfl hL (by simp) ?_
    simp only [F.f_expressions_value_of]
    simp [take_len]
  refine run_pure c.value rfl hL (by simp) ?_
  simp only [F.f_expressions_value_of]
  simp [take_len, e]
theorem value_two (c : Vfn P) (hn : 2 ≤ n) (hL : Wf L) {w : Str} (hw : w ∈ five) (x : Int) {y : Int} (hy : 0 ≤ y ∧ y ≤ 999) (s : D) : run P n "expressions.value_of" [.d (.tup [.str w, .tup [.str "number", .int x], .tup [.str "number", .int y]]), .d s] L = .ok (.d (.int (wk w x y))) L := by
  obtain ⟨n, rfl⟩ : ∃ m, n = m + 2 := ⟨n - 2, by omega⟩
  have e : ∀ x, run P (n + 1) "expressions.value_of" [.d (.tup [.str "number", .int x]), .d s] L = .ok (.d (.int x)) L := fun x => by
    refine run_pure c.value rfl hL (by simp) ?_
    simp only [F.f_expressions_value_of]
    simp [take_len]
  obtain ⟨n1, n2, n3⟩ := five_no hw
  have hk := worked_ok (n := n + 1) c (by omega) hL (w := w) (x := x) hy
  refine run_pure c.value rfl hL (by simp) ?_
  simp only [F.f_expressions_value_of]
  simp [take_len, e, n1, n2, n3, hk]
theorem all_bls {bs : List Bool} : biAll [.d (.lst (bs.map .bl))] L = some (.d (.bl (bs.all id))) := by
  have : asBls (bs.map D.bl) = some bs := by
    induction bs with
    | nil => rfl
    | cons b bs ih => rw [List.map_cons, asBls, ih]; rfl
  show ((view L (.d (.lst (bs.map .bl)))).bind asBls).map _ = _
  rw [view_lst]
  simp [this]
theorem hd_num (e : Ex) : ∃ r, enc e = .tup (.str (hd e) :: r) := by cases e <;> exact ⟨_, rfl⟩
theorem is_num {d : Nat} {e : Ex} (h : EOk d e) : (hd e = "number") ↔ isNum e = true := by
  cases e with
  | num i => simp [hd, isNum]
  | nam i => simp [hd, isNum]
  | neg e => simp [hd, isNum]
  | two w a b =>
    cases d with
    | zero => exact h.elim
    | succ d => simp [hd, isNum, five_no h.1]
theorem folded_ok (c : Vfn P) (f : Fld P) : ∀ {d : Nat} {e : Ex}, EOk d e → d ≤ 80 → ∀ (n : Nat) (L : List MO), d + 3 ≤ n → Wf L → run P n "expressions.folded" [.d (enc e)] L = .ok (.d (enc (fold e))) L := fun {d} => by
  induction d using Nat.strongRecOn with
  | _ d ih =>
  intro e h hd80 n L hn hL
  obtain ⟨n, rfl⟩ : ∃ m, n = m + 1 := ⟨n - 1, by omega⟩
  refine run_pure f.folded rfl hL (by simp) ?_
  simp only [F.f_expressions_folded]
  by_cases hk : kids e = []
  · rcases leaf_case hk with ⟨i, rfl⟩ | ⟨i, rfl⟩
    · simp [enc, fold, take_len, cin2]
    · simp [enc, fold, take_len, cin2]
  · obtain ⟨d', rfl, e1, e2, e3, e4, e5, _, _, _⟩ := kid_case h hk
    rw [e1]
    refine seq_cut (fun ρ1 L1 => ρ1 = [some (.d (.tup (.str (hd e) :: (kids e).map enc))), none, none] ∧ L1 = L) (by simp [cin2, e4, e5]) ?_
    rintro ρ1 L1 ⟨rfl, rfl⟩
    refine seq_cut (fun ρ1 L2 => ρ1 = [some (.d (.tup (.str (hd e) :: (kids e).map enc))), some (.d (.lst ((kids e).map fun k => enc (fold k)))), none] ∧ L2 = L1) ?_ ?_
    · rw [sat_mSet]
      refine comp_kids (ks := kids e) (en := enc) (f := fun k => enc (fold k)) hL (by omega) ?_ ?_ ?_
      · simp [cut1]
      · intro k hkm acc
        have e := ih d' (by omega) (e2 k hkm) (by omega) n _ (by omega) (Wf.snoc (xs := acc) hL)
        simp [wipe1, e]
      · simp
    rintro ρ1 L2 ⟨rfl, rfl⟩
    have fok : ∀ k ∈ kids e, EOk d' (fold k) := fun k hk => fold_ok (e2 k hk)
    refine seq_cut2 (fun ρ1 L3 => ((kids e).all fun k => isNum (fold k)) = false ∧ ρ1 = [some (.d (.tup (.str (hd e) :: (kids e).map enc))), some (.d (.lst ((kids e).map fun k => enc (fold k)))), none] ∧ L3 = L2) ?_ ?_
    · rw [sat_mIfS, sat_mtTru, sat_mBi, sat_mCons]
      refine comp_kids (ks := kids e) (en := fun k => enc (fold k)) (f := fun k => .bl (isNum (fold k))) hL (by omega) ?_ ?_ ?_
      · simp
      · intro k hkm acc
        obtain ⟨r, er⟩ := hd_num (fold k)
        have q := is_num (fok k hkm)
        have q2 : (hd (fold k) == ("number" : Str)) = isNum (fold k) := by
          rw [Bool.eq_iff_iff, beq_iff_eq]; exact q
        rw [er]
        simp [wipe1, q2]
      · have : (kids e).map (fun k => D.bl (isNum (fold k))) = ((kids e).map fun k => isNum (fold k)).map .bl := by simp
        simp only [sat_mNil, fz_new, this, all_bls, optSat_some, fz_dd, truth_bl, truSat_some]
        cases e with
        | num i => exact (hk rfl).elim
        | nam i => exact (hk rfl).elim
        | neg e =>
          simp only [kids, List.map_cons, List.map_nil, List.all_cons, List.all_nil, id, Bool.and_true] at *
          cases hf : fold e with
          | num i =>
            have v := value_neg (n := n) c (by omega) hL i (.tup [])
            simp [isNum, enc, v, hd]
            simp [fold, hf, enc, take_len]
          | _ => simp [isNum]
        | two w a b =>
          simp only [kids, List.map_cons, List.map_nil, List.all_cons, List.all_nil, id, Bool.and_true] at *
          cases hf : fold a with
          | num i =>
            cases hg : fold b with
            | num j =>
              have hj : 0 ≤ j ∧ j ≤ 999 := by have := fok b (by simp); rw [hg] at this; unfold EOk at this; exact this
              have v := value_two (n := n) c (by omega) hL (w := w) h.1 i hj (.tup [])
              simp [isNum, enc, v, hd]
              simp [fold, hf, hg, enc, take_len]
            | _ => simp [isNum]
          | _ => simp [isNum]
    rintro ρ1 L3 ⟨hall, rfl, rfl⟩
    cases e with
    | num i => exact (hk rfl).elim
    | nam i => exact (hk rfl).elim
    | neg e =>
      rcases fold_neg e with ⟨i, h1, _⟩ | ⟨_, h2⟩
      · simp [kids, h1, isNum] at hall
      · rw [h2]
        refine seq_cut2 (fun ρ1 L4 => False) ?_ fun _ _ h => h.elim
        simp [kids, hd, enc, take_len]
    | two w a b =>
      have h5 := five_no h.1
      rcases fold_two w a b with ⟨x, y, h1, h2, _⟩ | ⟨_, h2⟩
      · simp [kids, h1, h2, isNum] at hall
      · rw [h2]
        have s := simpler_run (n := n) f (by omega) hL h.1 (fold_ok h.2.1) (fold_ok h.2.2) (by omega)
        refine seq_cut (fun ρ1 L1 => ρ1 = [some (.d (.tup (.str (hd (Ex.two w a b)) :: (kids (Ex.two w a b)).map enc))), some (.d (.lst ((kids (Ex.two w a b)).map fun k => enc (fold k)))), none] ∧ L1 = L3) (by simp [hd, h5]) ?_
        rintro ρ1 L4 ⟨rfl, rfl⟩
        simp [kids, hd, s, take_len]
end
end S
set_option Elab.async false
set_option linter.all false
set_option maxRecDepth 100000
set_option maxHeartbeats 4000000
namespace S
open PySem PySem.Spec L2 Ev
section
variable {P : Prog} {n : Nat} {h : Nat} {L : List MO}
/-- a comprehension with a test -/
theorem comp_filter {C : Calls} {ρ : Rho} {it : MI} {vs : List Nat} {g : MG} {t : MT} {m : M} {Q : Val → List MO → Prop} {α : Type} {ks : List α} {en f : α → D} {p : α → Bool} (hL : Wf L) (hk : ks.length ≤ 1000)
    (start : (it C ρ L).sat fun s L1 => L1 = L ∧ s = ⟨ks.map en, none⟩)
    (step : ∀ k ∈ ks, ∀ acc, (g C (.d (en k)) (wipeR ρ vs) (L ++ [.lst acc])).sat fun ρ1 L1 => (t C ρ1 L1).sat fun b L2 => b = p k ∧ L2 = L ++ [.lst acc] ∧ (m C ρ1 L2).sat fun y L3 => fz y = .d (f k) ∧ L3 = L ++ [.lst acc])
    (done : Q (.new ((ks.filter p).map f)) L) : (mComp it vs g t m C ρ L).sat Q := by
  refine sat_mComp (fun r acc L' => L' = L ∧ ∃ a b, ks = a ++ b ∧ r = b.map en ∧ acc = (a.filter p).map f) ?_ ?_ ?_
  · refine Out.sat_mono start fun s L1 ⟨h1, h2⟩ => ?_
    subst h1 h2
    exact ⟨rfl, rfl, [], ks, rfl, rfl, rfl⟩
  · rintro x r acc L' ⟨rfl, a, b, e1, e2, rfl⟩
    cases b with
    | nil => cases e2
    | cons k b =>
      simp only [List.map_cons, List.cons.injEq] at e2
      obtain ⟨rfl, rfl⟩ := e2
      have hkm : k ∈ ks := by rw [e1]; simp
      have hlen : a.length < ks.length := by rw [e1]; simp
      have hlen2 := List.length_filter_le p a
      refine Out.sat_mono (step k hkm _) fun ρ1 L1 q => ?_
      refine Out.sat_mono q fun b' L2 ⟨hb, e3, q⟩ => ?_
      subst hb
      split
      · rename_i hp
        refine Out.sat_mono q fun y L3 ⟨e4, e5⟩ => ?_
        exact ⟨f k, L', e4, by rw [sizeLine_val, List.length_map]; omega, e5, rfl, rfl, a ++ [k], b, by rw [e1]; simp, rfl, by simp [hp]⟩
      · rename_i hp
        exact ⟨L', e3, rfl, rfl, a ++ [k], b, by rw [e1]; simp, rfl, by simp [hp]⟩
  · rintro acc L' ⟨rfl, a, b, e1, e2, rfl⟩
    cases b with
    | nil =>
      rw [List.append_nil] at e1
      subst e1
      exact ⟨hL, done⟩
    | cons k b => cases e2
theorem in_num2 {d : Nat} {es : List Ex} (h : ∀ e ∈ es, EOk d e) {i : Int} (hi : 0 ≤ i ∧ i ≤ 999) {L : List MO} : cIn false (.d (.tup [.str "number", .int i])) (.d (.tup (es.map enc))) L = some (.d (.bl (es.any fun e => eqE e (.num i)))) :=
  in_enc (L := L) (d := 0) (d' := d) (a := .num i) hi h (by omega)
theorem simple_ok (f : Fld P) : ∀ {d : Nat} {e : Ex}, EOk d e → d ≤ 80 → ∀ (n : Nat) (L : List MO), d + 1 ≤ n → Wf L → run P n "_law_simple" [.d (enc e)] L = .ok (.d (.bl (smp e))) L := fun {d} => by
  induction d using Nat.strongRecOn with
  | _ d ih =>
  intro e h hd80 n L hn hL
  obtain ⟨n, rfl⟩ : ∃ m, n = m + 1 := ⟨n - 1, by omega⟩
  refine run_pure f.simple rfl hL (by simp) ?_
  simp only [F.f__law_simple]
  by_cases hk : kids e = []
  · rcases leaf_case hk with ⟨i, rfl⟩ | ⟨i, rfl⟩
    · simp [enc, smp, take_len, cin2]
    · simp [enc, smp, take_len, cin2]
  · obtain ⟨d', rfl, e1, e2, e3, e4, e5, _, _, _⟩ := kid_case h hk
    rw [e1]
    refine seq_cut (fun ρ1 L1 => ρ1 = [some (.d (.tup (.str (hd e) :: (kids e).map enc))), none, none, none, none, none, none, none] ∧ L1 = L) (by simp [cin2, e4, e5]) ?_
    rintro ρ1 L1 ⟨rfl, rfl⟩
    refine seq_cut (fun ρ1 L2 => ρ1 = [some (.d (.tup (.str (hd e) :: (kids e).map enc))), some (.d (.tup ((kids e).map enc))), none, none, none, none, none, none] ∧ L2 = L1) (by simp [cut1]) ?_
    rintro ρ1 L2 ⟨rfl, rfl⟩
    refine seq_cut2 (fun ρ1 L3 => ((kids e).all fun k => smp k) = true ∧ ((kids e).all fun k => isNum k) = false ∧ ρ1 = [some (.d (.tup (.str (hd e) :: (kids e).map enc))), some (.d (.tup ((kids e).map enc))), none, none, none, none, none, none] ∧ L3 = L2) ?_ ?_
    · rw [sat_mIfS, sat_mtOr, sat_mtOf, sat_mBin, sat_mBi, sat_mCons]
      have no : ((kids e).all fun k => smp k) = false ∨ ((kids e).all fun k => isNum k) = true → smp e = false := fun h => by
        cases e with
        | num i => exact (hk rfl).elim
        | nam i => exact (hk rfl).elim
        | neg e => simp [kids] at h; simp [smp]; rcases h with h | h <;> simp [h]
        | two w a b =>
          simp [kids] at h
          simp only [smp]
          cases h1 : smp a <;> cases h2 : smp b <;> cases h3 : isNum a <;> cases h4 : isNum b <;> simp_all
      have len1 : ∀ p : Ex → Bool, (decide ((0 : Int) < (((kids e).filter p).length : Int))) = !((kids e).all fun k => !p k) := fun p => by
        rw [Bool.eq_iff_iff]
        simp only [decide_eq_true_eq, Bool.not_eq_true', List.all_eq_false, Bool.not_eq_false, Bool.not_eq_true]
        have : (0 : Int) < (((kids e).filter p).length : Int) ↔ (kids e).filter p ≠ [] := by
          rw [← List.length_pos_iff]; omega
        rw [this]
        simp
      refine comp_filter (ks := kids e) (en := enc) (f := enc) (p := fun k => !smp k) hL (by omega) ?_ ?_ ?_
      · simp
      · intro k hkm acc
        have e := ih d' (by omega) (e2 k hkm) (by omega) n _ (by omega) (Wf.snoc (xs := acc) hL)
        simp [wipe1, e]
      · simp only [sat_mNil, fz_new, biLen_lst, optSat_some, sat_mK, fz_dd, cLt_int, blSat_bl, List.length_map]
        rw [len1]
        simp only [Bool.not_not]
        cases hs : (kids e).all fun k => smp k with
        | false =>
          simp [no (.inl hs), take_len]
        | true =>
          simp only [Bool.not_true, Bool.false_eq_true, if_false, sat_mtOf, sat_mBin, sat_mBi, sat_mCons]
          refine comp_filter (ks := kids e) (en := enc) (f := enc) (p := fun k => !isNum k) hL (by omega) ?_ ?_ ?_
          · simp
          · intro k hkm acc
            obtain ⟨r, er⟩ := hd_num k
            have q := is_num (e2 k hkm)
            have q2 : (hd k == ("number" : Str)) = isNum k := by
              rw [Bool.eq_iff_iff, beq_iff_eq]; exact q
            rw [er]
            simp [wipe1, q2]
          · simp only [sat_mNil, fz_new, biLen_lst, optSat_some, sat_mK, fz_dd, cEq_int, blSat_bl, List.length_map]
            have len2 : ((((kids e).filter fun k => !isNum k).length : Int) == 0) = (kids e).all fun k => isNum k := by
              rw [Bool.eq_iff_iff, beq_iff_eq]
              have : ((((kids e).filter fun k => !isNum k).length : Int) = 0) ↔ (kids e).filter (fun k => !isNum k) = [] := by
                rw [← List.length_eq_zero_iff]; omega
              rw [this]
              simp
            simp only [Bool.false_eq_true, if_false, len2]
            cases hn2 : (kids e).all fun k => isNum k with
            | true =>
              simp [no (.inr hn2), take_len]
            | false => simp [hs, hn2]
    rintro ρ1 L3 ⟨hs, hn2, rfl, rfl⟩
    cases e with
    | num i => exact (hk rfl).elim
    | nam i => exact (hk rfl).elim
    | neg e =>
      simp [kids] at hs hn2
      refine seq_cut2 (fun ρ1 L4 => False) ?_ fun _ _ h => h.elim
      simp [hd, smp, hs, hn2, take_len]
    | two w a b =>
      have h5 := five_no h.1
      simp [kids] at hs hn2
      have ha := h.2.1
      have hb := h.2.2
      have i0 := fun L => in_num (L := L) ha hb (i := 0) (by omega)
      have i1 := fun L => in_num (L := L) ha hb (i := 1) (by omega)
      have f0 := fun L neg => eq_num (L := L) (neg := neg) hb (by omega) (i := 0) (by omega)
      have g := fun L neg => eq_enc (L := L) (neg := neg) ha hb (by omega) (by omega)
      have c3 : ∀ (w : Str) (L : List MO), cIn false (.d (.str w)) (.d (.tup [.str "minus", .str "less", .str "same"])) L = some (.d (.bl (decide (w ∈ (["minus", "less", "same"] : List Str))))) := fun w L => cIn_strs (ws := ["minus", "less", "same"]) (neg := false)
      refine seq_cut (fun ρ1 L4 => ρ1 = [some (.d (.tup (.str w :: [enc a, enc b]))), some (.d (.tup [enc a, enc b])), none, none, none, none, none, none] ∧ L4 = L3) (by simp [hd, h5, kids]) ?_
      rintro ρ1 L4 ⟨rfl, rfl⟩
      refine seq_cut (fun ρ1 L5 => ρ1 = [some (.d (.tup (.str w :: [enc a, enc b]))), some (.d (.tup [enc a, enc b])), some (.d (.str w)), some (.d (enc a)), some (.d (enc b)), none, none, none] ∧ L5 = L4) (by simp) ?_
      rintro ρ1 L5 ⟨rfl, rfl⟩
      refine seq_cut (fun ρ1 L6 => ρ1 = [some (.d (.tup (.str w :: [enc a, enc b]))), some (.d (.tup [enc a, enc b])), some (.d (.str w)), some (.d (enc a)), some (.d (enc b)), some (.d (.tup [.str "number", .int 0])), some (.d (.tup [.str "number", .int 1])), none] ∧ L6 = L5) (by simp) ?_
      rintro ρ1 L6 ⟨rfl, rfl⟩
      have hna : (isNum a && isNum b) = false := by cases h1 : isNum a <;> simp_all
      simp only [smp, hs.1, hs.2, hna]
      rcases fives h.1 with rfl | rfl | rfl | rfl | rfl
      all_goals
        simp [g, c3, cin2, i0, i1, f0]
        cases eqE a b <;> cases eqE a (.num 0) <;> cases eqE b (.num 0) <;> cases eqE a (.num 1) <;> cases eqE b (.num 1) <;> simp [take_len]
end
end S
set_option Elab.async false
set_option linter.all false
set_option maxRecDepth 100000
set_option maxHeartbeats 4000000
namespace S
open PySem PySem.Spec L2 Ev

/-! ## all ways, plainly -/
def paE (ps : List Ex) : Ex → Ex
  | .num i => .num i
  | .nam i => (ps[i.toNat]?).getD (.num 0)
  | .neg e => .neg (paE ps e)
  | .two w a b => .two w (paE ps a) (paE ps b)
structure Nd where
  test : Ex
  blk : List Dd
  ps : List Ex
  told : List Ex
  left : Nat
structure Wy where
  test : Ex
  fin : Bool
  ps : List Ex
  told : List Ex
def kid (t h : Ex) (r : List Dd) (ps told : List Ex) (l : Nat) : List Nd :=
  if eqE (fold (bothE t h)) (.num 0) = true then [] else [⟨fold (bothE t h), r, ps, told, l⟩]
def vOf (nd : Nd) (e : Ex) : Ex := fold (paE nd.ps e)
def ways (nd : Nd) : List Nd := match nd.blk with
  | [] => []
  | .set m e :: r => [⟨nd.test, r, nd.ps.set m.toNat (vOf nd e), nd.told, nd.left⟩]
  | .tell e :: r => [⟨nd.test, r, nd.ps, nd.told ++ [vOf nd e], nd.left⟩]
  | .ite e a b :: r => kid nd.test (vOf nd e) (a ++ r) nd.ps nd.told nd.left ++ kid nd.test (.neg (vOf nd e)) (b ++ r) nd.ps nd.told nd.left
  | .loop e b :: r => kid nd.test (vOf nd e) (b ++ .loop e b :: r) nd.ps nd.told (nd.left - 1) ++ kid nd.test (.neg (vOf nd e)) r nd.ps nd.told (nd.left - 1)
def leaf (nd : Nd) : Option Wy := match nd.blk with
  | [] => some ⟨nd.test, true, nd.ps, nd.told⟩
  | .loop _ _ :: _ => if nd.left = 0 then some ⟨nd.test, false, nd.ps, nd.told⟩ else none
  | _ => none
def chF : Nat → Nd → List Wy
  | 0, _ => []
  | m + 1, nd => match leaf nd with
    | some w => [w]
    | none => (ways nd).flatMap (chF m)
/-! ### measures -/
mutual
def cD : Dd → Nat
  | .set _ _ => 1
  | .tell _ => 1
  | .ite _ a b => 1 + cB a + cB b
  | .loop _ _ => 1
def cB : List Dd → Nat
  | [] => 0
  | x :: r => cD x + cB r
end
mutual
def LpD (V : Nat) : Dd → Prop
  | .set _ _ => True
  | .tell _ => True
  | .ite _ a b => LpB V a ∧ LpB V b
  | .loop _ b => cB b + 1 ≤ V ∧ LpB V b
def LpB (V : Nat) : List Dd → Prop
  | [] => True
  | x :: r => LpD V x ∧ LpB V r
end
theorem cD_pos (x : Dd) : 1 ≤ cD x := by cases x <;> rw [cD] <;> omega
theorem cB_app : ∀ (a b : List Dd), cB (a ++ b) = cB a + cB b
  | [], b => by simp [cB]
  | x :: a, b => by rw [List.cons_append, cB, cB, cB_app a b]; omega
theorem cB_len : ∀ r : List Dd, r.length ≤ cB r
  | [] => by simp [cB]
  | x :: r => by
    have := cB_len r
    have := cD_pos x
    rw [cB, List.length_cons]
    omega
theorem LpB_app {V : Nat} : ∀ {a b : List Dd}, LpB V a → LpB V b → LpB V (a ++ b)
  | [], b, _, h => h
  | x :: a, b, h1, h2 => by
    rw [LpB] at h1
    rw [List.cons_append, LpB]
    exact ⟨h1.1, LpB_app h1.2 h2⟩
mutual
theorem LpD_mono {V V' : Nat} (h : V ≤ V') : ∀ (x : Dd), LpD V x → LpD V' x
  | .set _ _, _ => by rw [LpD]; trivial
  | .tell _, _ => by rw [LpD]; trivial
  | .ite _ a b, q => by rw [LpD] at q ⊢; exact ⟨LpB_mono h a q.1, LpB_mono h b q.2⟩
  | .loop _ b, q => by rw [LpD] at q ⊢; exact ⟨by omega, LpB_mono h b q.2⟩
theorem LpB_mono {V V' : Nat} (h : V ≤ V') : ∀ (r : List Dd), LpB V r → LpB V' r
  | [], _ => by rw [LpB]; trivial
  | x :: r, q => by rw [LpB] at q ⊢; exact ⟨LpD_mono h x q.1, LpB_mono h r q.2⟩
end
mutual
theorem cD_sz : ∀ x : Dd, cD x ≤ szD x
  | .set _ _ => by rw [cD, szD]; exact Nat.le_refl _
  | .tell _ => by rw [cD, szD]; exact Nat.le_refl _
  | .ite _ a b => by
    have := cB_sz a
    have := cB_sz b
    rw [cD, szD]; omega
  | .loop _ b => by rw [cD, szD]; omega
theorem cB_sz : ∀ r : List Dd, cB r ≤ szB r
  | [] => by rw [cB, szB]; exact Nat.le_refl _
  | x :: r => by
    have := cD_sz x
    have := cB_sz r
    rw [cB, szB]; omega
end
mutual
theorem lp_exD : ∀ x : Dd, ∃ V, 1 ≤ V ∧ LpD V x ∧ cD x + V ≤ szD x + 1
  | .set _ _ => ⟨1, by omega, by rw [LpD]; trivial, by rw [cD, szD]; omega⟩
  | .tell _ => ⟨1, by omega, by rw [LpD]; trivial, by rw [cD, szD]; omega⟩
  | .ite _ a b => by
    obtain ⟨V1, h1, h2, h3⟩ := lp_ex a
    obtain ⟨V2, k1, k2, k3⟩ := lp_ex b
    have := cB_sz a
    have := cB_sz b
    refine ⟨max V1 V2, by omega, ?_, ?_⟩
    · rw [LpD]
      exact ⟨LpB_mono (by omega) _ h2, LpB_mono (by omega) _ k2⟩
    · rw [cD, szD]
      omega
  | .loop _ b => by
    obtain ⟨V1, h1, h2, h3⟩ := lp_ex b
    have := cB_sz b
    refine ⟨max V1 (cB b + 1), by omega, ?_, ?_⟩
    · rw [LpD]
      exact ⟨by omega, LpB_mono (by omega) _ h2⟩
    · rw [cD, szD]
      omega
theorem lp_ex : ∀ r : List Dd, ∃ V, 1 ≤ V ∧ LpB V r ∧ cB r + V ≤ szB r + 1
  | [] => ⟨1, by omega, by rw [LpB]; trivial, by rw [cB, szB]; omega⟩
  | x :: r => by
    obtain ⟨V1, h1, h2, h3⟩ := lp_exD x
    obtain ⟨V2, k1, k2, k3⟩ := lp_ex r
    have := cB_sz r
    have := cD_sz x
    refine ⟨max V1 V2, by omega, ?_, ?_⟩
    · rw [LpB]
      exact ⟨LpD_mono (by omega) _ h2, LpB_mono (by omega) _ k2⟩
    · rw [cB, szB]
      omega
end
def lam (V : Nat) (nd : Nd) : Nat := cB nd.blk + nd.left * V
def ell (V : Nat) (nd : Nd) : Nat := 2 ^ cB nd.blk * (1 + 2 ^ (V - 1)) ^ nd.left
theorem ell_pos {V : Nat} {nd : Nd} : 1 ≤ ell V nd := Nat.mul_pos (Nat.pow_pos (by omega)) (Nat.pow_pos (Nat.add_pos_left (by omega) _))
def sm (f : Nd → Nat) (ns : List Nd) : Nat := (ns.map f).sum
theorem sm_app {f : Nd → Nat} {a b : List Nd} : sm f (a ++ b) = sm f a + sm f b := by simp [sm]
theorem sm_kid {f : Nd → Nat} {t h : Ex} {r : List Dd} {ps told : List Ex} {l : Nat} : sm f (kid t h r ps told l) ≤ f ⟨fold (bothE t h), r, ps, told, l⟩ := by
  unfold kid
  split
  · simp [sm]
  · simp [sm]
/-! ### what is right of a state -/
structure NOk (V S : Nat) (nd : Nd) : Prop where
  lp : LpB V nd.blk
  gd : Gd 2 4 nd.blk
  len : nd.ps.length = 4
  lm : lam V nd ≤ S
  pok : ∀ e ∈ nd.ps, EOk (2 * (S - lam V nd)) e
  dok : ∀ e ∈ nd.told, EOk (2 * (S - lam V nd)) e
  dln : nd.told.length ≤ S - lam V nd
  tok : EOk (3 * (S - lam V nd) + 3) nd.test
  tsm : fold nd.test = nd.test ∧ nd.test ≠ .num 0
theorem Gd.appG {k w : Nat} {a b : List Dd} (ha : Gd k w a) (hb : Gd k w b) : Gd k w (a ++ b) := fun x hx => (List.mem_append.mp hx).elim (ha x) (hb x)
theorem paE_ok {ps : List Ex} {q : Nat} (hl : ps.length = 4) (hp : ∀ e ∈ ps, EOk q e) : ∀ {d : Nat} {e : Ex}, EOk d e → EOk (d + q) (paE ps e)
  | d, .num i, h => by unfold EOk at h; unfold paE EOk; exact h
  | d, .nam i, h => by
    unfold EOk at h
    have hi : i.toNat < ps.length := by omega
    unfold paE
    rw [List.getElem?_eq_getElem hi, Option.getD_some]
    exact (hp _ (List.getElem_mem hi)).mono (by omega)
  | 0, .neg e, h => h.elim
  | 0, .two w a b, h => h.elim
  | d + 1, .neg e, h => by
    have := paE_ok hl hp (d := d) (e := e) h
    rw [show d + 1 + q = (d + q) + 1 by omega]
    exact this
  | d + 1, .two w a b, h => by
    have h1 := paE_ok hl hp (d := d) (e := a) h.2.1
    have h2 := paE_ok hl hp (d := d) (e := b) h.2.2
    rw [show d + 1 + q = (d + q) + 1 by omega]
    exact ⟨h.1, h1, h2⟩
theorem paE_vl {ps : List Ex} {st : List Int} (hl : ps.length = 4) : ∀ {d : Nat} {e : Ex}, EOk d e → vl st (paE ps e) = vl (ps.map (vl st)) e
  | d, .num i, h => rfl
  | d, .nam i, h => by
    unfold EOk at h
    have hi : i.toNat < ps.length := by omega
    show vl st ((ps[i.toNat]?).getD (.num 0)) = ((ps.map (vl st))[i.toNat]?).getD 0
    rw [List.getElem?_map, List.getElem?_eq_getElem hi]
    rfl
  | 0, .neg e, h => h.elim
  | 0, .two w a b, h => h.elim
  | d + 1, .neg e, h => by
    have := paE_vl (st := st) hl (d := d) (e := e) h
    simp only [paE, vl, this]
  | d + 1, .two w a b, h => by
    have h1 := paE_vl (st := st) hl (d := d) (e := a) h.2.1
    have h2 := paE_vl (st := st) hl (d := d) (e := b) h.2.2
    simp only [paE, vl, h1, h2]
theorem vOf_ok {V S : Nat} {nd : Nd} (h : NOk V S nd) {e : Ex} (he : EOk 2 e) : EOk (2 * (S - lam V nd) + 2) (vOf nd e) := by
  have := paE_ok h.len h.pok he
  rw [show 2 * (S - lam V nd) + 2 = 2 + 2 * (S - lam V nd) by omega]
  exact fold_ok this
theorem ff {d : Nat} {e : Ex} (h : EOk d e) : fold (fold e) = fold e := smp_fold (fold_ok h) (fold_smp h)
/-- a state behind one with a choice -/
theorem kid_ok {V S : Nat} {nd : Nd} (h : NOk V S nd) {v : Ex} (hv : EOk (2 * (S - lam V nd) + 3) v) {r : List Dd} {l : Nat} (hr : LpB V r) (hg : Gd 2 4 r) (hlt : cB r + l * V + 1 ≤ lam V nd) : EOk (3 * (S - lam V nd) + 6) (bothE nd.test v) ∧ ∀ c ∈ kid nd.test v r nd.ps nd.told l, NOk V S c ∧ lam V c + 1 ≤ lam V nd := by
  have hb := both_deep (h.tok.mono (d' := 3 * (S - lam V nd) + 3) (by omega)) (hv.mono (d' := 3 * (S - lam V nd) + 3) (by omega))
  refine ⟨hb, fun c hc => ?_⟩
  unfold kid at hc
  split at hc
  · cases hc
  · rename_i hne
    rw [List.mem_singleton.mp hc]
    have hlm : lam V ⟨fold (bothE nd.test v), r, nd.ps, nd.told, l⟩ = cB r + l * V := rfl
    have h2 := h.lm
    refine ⟨⟨hr, hg, h.len, by rw [hlm]; omega, fun e he => (h.pok e he).mono (by rw [hlm]; omega), fun e he => (h.dok e he).mono (by rw [hlm]; omega), by have := h.dln; rw [hlm]; simp only; omega, (fold_ok hb).mono (by rw [hlm]; omega), ff hb, fun e => hne (eqE_iff.mpr e)⟩, by rw [hlm]; omega⟩
theorem lpo {V : Nat} {x : Dd} {r : List Dd} (h : LpB V (x :: r)) : LpD V x ∧ LpB V r := by rw [LpB] at h; exact h
theorem ways_ok {V S : Nat} {nd : Nd} (h : NOk V S nd) (hl : leaf nd = none) : ∀ c ∈ ways nd, NOk V S c ∧ lam V c + 1 ≤ lam V nd := by
  obtain ⟨test, blk, ps, told, left⟩ := nd
  have hlm := h.lm
  unfold ways
  unfold leaf at hl
  match blk with
  | [] => intro c hc; cases hc
  | .set m e :: r =>
    have g := h.gd.set
    have hv := vOf_ok h g.2.2
    have e1 : lam V ⟨test, .set m e :: r, ps, told, left⟩ = 1 + cB r + left * V := by unfold lam; rw [cB, cD]
    intro c hc
    simp only [List.mem_singleton] at hc
    subst hc
    have e2 : ∀ ps', lam V ⟨test, r, ps', told, left⟩ = cB r + left * V := fun _ => rfl
    rw [e1] at hv hlm
    refine ⟨⟨(lpo h.lp).2, h.gd.tl, by simp [h.len], by rw [e2]; omega, fun x hx => ?_, fun x hx => (h.dok x hx).mono (by rw [e1, e2]; omega), by have := h.dln; rw [e1] at this; rw [e2]; simp only at this ⊢; omega, h.tok.mono (by rw [e1, e2]; omega), h.tsm⟩, by rw [e1, e2]; omega⟩
    rw [e2]
    rcases List.mem_or_eq_of_mem_set hx with hx | rfl
    · exact (h.pok x hx).mono (by rw [e1]; omega)
    · exact hv.mono (by omega)
  | .tell e :: r =>
    have g := h.gd.tell
    have hv := vOf_ok h g
    have e1 : lam V ⟨test, .tell e :: r, ps, told, left⟩ = 1 + cB r + left * V := by unfold lam; rw [cB, cD]
    intro c hc
    simp only [List.mem_singleton] at hc
    subst hc
    have e2 : ∀ td, lam V ⟨test, r, ps, td, left⟩ = cB r + left * V := fun _ => rfl
    rw [e1] at hv hlm
    refine ⟨⟨(lpo h.lp).2, h.gd.tl, h.len, by rw [e2]; omega, fun x hx => (h.pok x hx).mono (by rw [e1, e2]; omega), fun x hx => ?_, by have := h.dln; rw [e1] at this; rw [e2]; simp only [List.length_append, List.length_singleton] at this ⊢; omega, h.tok.mono (by rw [e1, e2]; omega), h.tsm⟩, by rw [e1, e2]; omega⟩
    rw [e2]
    rcases List.mem_append.mp hx with hx | hx
    · exact (h.dok x hx).mono (by rw [e1]; omega)
    · rw [List.mem_singleton.mp hx]
      exact hv.mono (by omega)
  | .ite e a b :: r =>
    obtain ⟨ge, ga, gb, _, _⟩ := h.gd.ite
    have hv := vOf_ok h ge
    obtain ⟨l1, l2⟩ := lpo h.lp
    rw [LpD] at l1
    have e1 : lam V ⟨test, .ite e a b :: r, ps, told, left⟩ = 1 + cB a + cB b + cB r + left * V := by unfold lam; rw [cB, cD]
    intro c hc
    rcases List.mem_append.mp hc with hc | hc
    · exact (kid_ok h (hv.mono (by omega)) (LpB_app l1.1 l2) (ga.appG h.gd.tl) (l := left) (by rw [e1, cB_app]; omega)).2 c hc
    · exact (kid_ok h (v := .neg (vOf _ e)) hv (LpB_app l1.2 l2) (gb.appG h.gd.tl) (l := left) (by rw [e1, cB_app]; omega)).2 c hc
  | .loop e b :: r =>
    obtain ⟨ge, gb, _⟩ := h.gd.loop
    have hv := vOf_ok h ge
    obtain ⟨l1, l2⟩ := lpo h.lp
    have l1' := l1
    rw [LpD] at l1
    simp only at hl
    cases left with
    | zero => cases hl
    | succ left =>
    have e1 : lam V ⟨test, .loop e b :: r, ps, told, left + 1⟩ = 1 + cB r + left * V + V := by unfold lam; rw [cB, cD, Nat.succ_mul]; omega
    intro c hc
    simp only [Nat.add_sub_cancel] at hc
    rcases List.mem_append.mp hc with hc | hc
    · exact (kid_ok h (hv.mono (by omega)) (LpB_app l1.2 h.lp) (gb.appG h.gd) (l := left) (by rw [e1, cB_app, cB, cD]; omega)).2 c hc
    · exact (kid_ok h (v := .neg (vOf _ e)) hv l2 h.gd.tl (l := left) (by rw [e1]; omega)).2 c hc
/-! ### the sums -/
theorem ways_ell {V : Nat} (hV : 1 ≤ V) {nd : Nd} (h : LpB V nd.blk) (hl : leaf nd = none) : sm (ell V) (ways nd) ≤ ell V nd := by
  obtain ⟨test, blk, ps, told, left⟩ := nd
  unfold ways
  unfold leaf at hl
  match blk with
  | [] => cases hl
  | .set m e :: r =>
    simp only [sm, List.map_cons, List.map_nil, List.sum_cons, List.sum_nil, ell, Nat.add_zero]
    rw [cB, cD, Nat.pow_add]
    exact Nat.mul_le_mul_right _ (by omega)
  | .tell e :: r =>
    simp only [sm, List.map_cons, List.map_nil, List.sum_cons, List.sum_nil, ell, Nat.add_zero]
    rw [cB, cD, Nat.pow_add]
    exact Nat.mul_le_mul_right _ (by omega)
  | .ite e a b :: r =>
    rw [sm_app]
    refine Nat.le_trans (Nat.add_le_add sm_kid sm_kid) ?_
    unfold ell
    simp only
    rw [cB_app, cB_app, cB, cD, ← Nat.add_mul]
    refine Nat.mul_le_mul_right _ ?_
    have h1 : 2 ^ (cB a + cB r) ≤ 2 ^ (cB a + cB b + cB r) := Nat.pow_le_pow_right (by omega) (by omega)
    have h2 : 2 ^ (cB b + cB r) ≤ 2 ^ (cB a + cB b + cB r) := Nat.pow_le_pow_right (by omega) (by omega)
    rw [show 1 + cB a + cB b + cB r = (cB a + cB b + cB r) + 1 by omega, Nat.pow_succ]
    omega
  | .loop e b :: r =>
    simp only at hl
    cases left with
    | zero => cases hl
    | succ left =>
    have l1 := (lpo h).1
    rw [LpD] at l1
    rw [sm_app]
    refine Nat.le_trans (Nat.add_le_add sm_kid sm_kid) ?_
    unfold ell
    simp only [Nat.add_sub_cancel]
    rw [cB_app, cB, cD, Nat.pow_succ]
    generalize (1 + 2 ^ (V - 1)) ^ left = X
    have h1 : 2 ^ (cB b + (1 + cB r)) ≤ 2 ^ (V - 1) * 2 ^ (1 + cB r) := by
      rw [← Nat.pow_add]
      exact Nat.pow_le_pow_right (by omega) (by omega)
    have h2 : 2 ^ cB r ≤ 2 ^ (1 + cB r) := Nat.pow_le_pow_right (by omega) (by omega)
    have h3 := Nat.mul_le_mul_right X h1
    have h4 := Nat.mul_le_mul_right X h2
    have e1 : 2 ^ (1 + cB r) * (X * (1 + 2 ^ (V - 1))) = 2 ^ (1 + cB r) * X + 2 ^ (V - 1) * 2 ^ (1 + cB r) * X := by
      rw [Nat.mul_add, Nat.mul_add, Nat.mul_one]
      congr 1
      rw [Nat.mul_comm (2 ^ (V - 1)) (2 ^ (1 + cB r)), Nat.mul_assoc, Nat.mul_comm X]
    rw [e1]
    omega
theorem kid_len {t h : Ex} {r : List Dd} {ps told : List Ex} {l : Nat} : (kid t h r ps told l).length ≤ 1 := by
  unfold kid
  split <;> simp
theorem ways_len {nd : Nd} : (ways nd).length ≤ 2 := by
  unfold ways
  split
  · simp
  · simp
  · simp
  · rw [List.length_append]
    exact Nat.add_le_add kid_len kid_len
  · rw [List.length_append]
    exact Nat.add_le_add kid_len kid_len
theorem sm_le {f : Nd → Nat} {B : Nat} : ∀ {ns : List Nd}, (∀ c ∈ ns, f c ≤ B) → sm f ns ≤ ns.length * B
  | [], _ => by simp [sm]
  | x :: ns, h => by
    have h1 := h x (by simp)
    have h2 := sm_le fun c hc => h c (List.mem_cons_of_mem _ hc)
    unfold sm at h2 ⊢
    rw [List.map_cons, List.sum_cons, List.length_cons, Nat.add_mul]
    omega
theorem ways_w {V S : Nat} {nd : Nd} (h : NOk V S nd) (hl : leaf nd = none) : sm (fun c => 3 ^ lam V c) (ways nd) < 3 ^ lam V nd := by
  have hk := ways_ok h hl
  have hle : ∀ c ∈ ways nd, 3 ^ lam V c ≤ 3 ^ (lam V nd - 1) := fun c hc => Nat.pow_le_pow_right (by omega) (by have := (hk c hc).2; omega)
  have h1 := sm_le (f := fun c => 3 ^ lam V c) hle
  have h2 := Nat.mul_le_mul_right (3 ^ (lam V nd - 1)) (ways_len (nd := nd))
  have hpos : 0 < 3 ^ (lam V nd - 1) := Nat.pow_pos (by omega)
  by_cases h0 : ways nd = []
  · rw [h0]
    simp [sm]
    exact Nat.pow_pos (by omega)
  · obtain ⟨c, hc⟩ := List.exists_mem_of_ne_nil _ h0
    have := (hk c hc).2
    have e : 3 ^ lam V nd = 3 * 3 ^ (lam V nd - 1) := by
      rw [show lam V nd = (lam V nd - 1) + 1 by omega, Nat.pow_succ, Nat.mul_comm]
      simp
    rw [e]
    omega
theorem fuel {V S : Nat} : ∀ (m m' : Nat) (nd : Nd), NOk V S nd → lam V nd < m → lam V nd < m' → chF m nd = chF m' nd
  | 0, _, _, _, h, _ => by omega
  | _, 0, _, _, _, h => by omega
  | m + 1, m' + 1, nd, hn, h, h' => by
    rw [chF, chF]
    cases hl : leaf nd with
    | some w => rfl
    | none =>
      have hk := ways_ok hn hl
      show (ways nd).flatMap (chF m) = (ways nd).flatMap (chF m')
      have : ∀ ns : List Nd, (∀ c ∈ ns, NOk V S c ∧ lam V c + 1 ≤ lam V nd) → ns.flatMap (chF m) = ns.flatMap (chF m') := by
        intro ns
        induction ns with
        | nil => intro _; rfl
        | cons c ns ih =>
          intro hc
          have h1 := hc c (by simp)
          rw [List.flatMap_cons, List.flatMap_cons, fuel m m' c h1.1 (by omega) (by omega), ih fun c hc' => hc c (List.mem_cons_of_mem _ hc')]
      exact this _ hk
/-! ### what they come to -/
def Hit (st : List Int) (ws : List Wy) (s' : Sx) (k : Bool) : Prop := ∃ a w b, ws = a ++ w :: b ∧ (∀ x ∈ a, vl st x.test = 0) ∧ (∀ x ∈ b, vl st x.test = 0) ∧ vl st w.test ≠ 0 ∧ w.fin = k ∧ w.told.map (vl st) = s'.told ∧ (k = true → w.ps.map (vl st) = s'.st)
def Mis (st : List Int) (ws : List Wy) : Prop := ∀ x ∈ ws, vl st x.test = 0
theorem Hit.l {st : List Int} {ws vs : List Wy} {s' : Sx} {k : Bool} (h : Hit st ws s' k) (m : Mis st vs) : Hit st (ws ++ vs) s' k := by
  obtain ⟨a, w, b, rfl, h1, h2, h3⟩ := h
  exact ⟨a, w, b ++ vs, by simp, h1, fun x hx => (List.mem_append.mp hx).elim (h2 x) (m x), h3⟩
theorem Hit.r {st : List Int} {ws vs : List Wy} {s' : Sx} {k : Bool} (h : Hit st ws s' k) (m : Mis st vs) : Hit st (vs ++ ws) s' k := by
  obtain ⟨a, w, b, rfl, h1, h2, h3⟩ := h
  exact ⟨vs ++ a, w, b, by simp, fun x hx => (List.mem_append.mp hx).elim (m x) (h1 x), h2, h3⟩
theorem Mis.app {st : List Int} {ws vs : List Wy} (h : Mis st ws) (m : Mis st vs) : Mis st (ws ++ vs) := fun x hx => (List.mem_append.mp hx).elim (h x) (m x)
theorem Run.appE {p r : List Dd} {s s1 : Sx} {k' : Bool} (h : Run p s s1 k') : ∀ {s' : Sx} {k : Bool}, (k' = true → Run r s1 s' k) → (k' = false → s' = s1 ∧ k = false) → Run (p ++ r) s s' k := by
  induction h with
  | nil => exact fun q _ => q rfl
  | set _ ih => exact fun e q => .set (ih e q)
  | tell _ ih => exact fun e q => .tell (ih e q)
  | ite h1 _ _ i2 => exact fun e q => .ite h1 (i2 e q)
  | iteCut h1 => intro s' k _ q; obtain ⟨rfl, rfl⟩ := q rfl; exact .iteCut h1
  | off => intro s' k _ q; obtain ⟨rfl, rfl⟩ := q rfl; exact .off
  | stop h0 _ ih => exact fun e q => .stop h0 (ih e q)
  | more h0 h1 _ _ i2 => exact fun e q => .more h0 h1 (i2 e q)
  | cut h0 h1 => intro s' k _ q; obtain ⟨rfl, rfl⟩ := q rfl; exact .cut h0 h1
theorem vl_kid {st : List Int} (hs : StOk st) {d : Nat} {t h : Ex} (hd : EOk d (bothE t h)) : vl st (fold (bothE t h)) = if vl st t ≠ 0 ∧ vl st h ≠ 0 then 1 else 0 := by rw [fold_vl hs hd, vl_both]
theorem kid_sem {st : List Int} (hs : StOk st) {V S m : Nat} {d : Nat} {t h : Ex} (hd : EOk d (bothE t h)) {r : List Dd} {ps told : List Ex} {l : Nat}
    (hk : ∀ c ∈ kid t h r ps told l, NOk V S c ∧ lam V c < m)
    (ih : ∀ nd, NOk V S nd → lam V nd < m → (vl st nd.test = 0 → Mis st (chF m nd)) ∧ (vl st nd.test ≠ 0 → ∀ s' k, Run nd.blk ⟨nd.ps.map (vl st), nd.told.map (vl st), nd.left⟩ s' k → Hit st (chF m nd) s' k)) :
    (¬ (vl st t ≠ 0 ∧ vl st h ≠ 0) → Mis st ((kid t h r ps told l).flatMap (chF m))) ∧ ((vl st t ≠ 0 ∧ vl st h ≠ 0) → ∀ s' k, Run r ⟨ps.map (vl st), told.map (vl st), l⟩ s' k → Hit st ((kid t h r ps told l).flatMap (chF m)) s' k) := by
  have hv := vl_kid hs hd
  unfold kid at hk ⊢
  split
  · rename_i h0
    have h0 := eqE_iff.mp h0
    rw [h0] at hv
    refine ⟨fun _ x hx => by simp at hx, fun q => ?_⟩
    rw [if_pos q] at hv
    exact absurd hv (by show ¬ (0 : Int) = 1; decide)
  · rename_i h0
    rw [if_neg h0] at hk
    have h1 := hk _ (List.mem_singleton.mpr rfl)
    have i := ih _ h1.1 h1.2
    simp only [List.flatMap_cons, List.flatMap_nil, List.append_nil]
    refine ⟨fun q => i.1 ?_, fun q => i.2 ?_⟩
    · show vl st (fold (bothE t h)) = 0
      rw [hv, if_neg q]
    · show vl st (fold (bothE t h)) ≠ 0
      rw [hv, if_pos q]
      decide
theorem ch_sem {st : List Int} (hs : StOk st) {V S : Nat} : ∀ (m : Nat) (nd : Nd), NOk V S nd → lam V nd < m → (vl st nd.test = 0 → Mis st (chF m nd)) ∧ (vl st nd.test ≠ 0 → ∀ s' k, Run nd.blk ⟨nd.ps.map (vl st), nd.told.map (vl st), nd.left⟩ s' k → Hit st (chF m nd) s' k)
  | 0, _, _, h => by omega
  | m + 1, nd, hn, h => by
    have ih := fun nd => ch_sem (V := V) (S := S) hs m nd
    have hk : leaf nd = none → ∀ c ∈ ways nd, NOk V S c ∧ lam V c < m := fun hl c hc => by
      have := ways_ok hn hl c hc
      exact ⟨this.1, by omega⟩
    have hv : ∀ {e : Ex}, EOk 2 e → vl st (vOf nd e) = vl (nd.ps.map (vl st)) e := fun {e} he => by
      unfold vOf
      rw [fold_vl hs (paE_ok hn.len hn.pok he), paE_vl hn.len he]
    have hvo : ∀ {e : Ex}, EOk 2 e → EOk (2 * (S - lam V nd) + 2) (vOf nd e) := fun he => vOf_ok hn he
    have htk := hn.tok
    rw [chF]
    obtain ⟨test, blk, ps, told, left⟩ := nd
    match blk with
    | [] =>
      have hl : leaf ⟨test, [], ps, told, left⟩ = some ⟨test, true, ps, told⟩ := rfl
      rw [hl]
      refine ⟨fun h0 x hx => by rw [List.mem_singleton.mp hx]; exact h0, fun h0 s' k hr => ?_⟩
      cases hr
      exact ⟨[], _, [], rfl, by simp, by simp, h0, rfl, rfl, fun _ => rfl⟩
    | .set n e :: r =>
      have hl : leaf ⟨test, .set n e :: r, ps, told, left⟩ = none := rfl
      have g := hn.gd.set
      have hc := hk hl _ (List.mem_singleton.mpr rfl)
      have i := ih _ hc.1 hc.2
      rw [hl]
      show (_ → Mis st (List.flatMap (chF m) [_])) ∧ _
      simp only [ways, List.flatMap_cons, List.flatMap_nil, List.append_nil]
      refine ⟨i.1, fun h0 s' k hr => i.2 h0 s' k ?_⟩
      cases hr with
      | set hr =>
        have e1 : (ps.set n.toNat (vOf ⟨test, .set n e :: r, ps, told, left⟩ e)).map (vl st) = (ps.map (vl st)).set n.toNat (vl (ps.map (vl st)) e) := by rw [List.map_set, hv g.2.2]
        show Run r ⟨_, _, _⟩ s' k
        simp only [e1]
        exact hr
    | .tell e :: r =>
      have hl : leaf ⟨test, .tell e :: r, ps, told, left⟩ = none := rfl
      have g := hn.gd.tell
      have hc := hk hl _ (List.mem_singleton.mpr rfl)
      have i := ih _ hc.1 hc.2
      rw [hl]
      show (_ → Mis st (List.flatMap (chF m) [_])) ∧ _
      simp only [ways, List.flatMap_cons, List.flatMap_nil, List.append_nil]
      refine ⟨i.1, fun h0 s' k hr => i.2 h0 s' k ?_⟩
      cases hr with
      | tell hr =>
        have e1 : (told ++ [vOf ⟨test, .tell e :: r, ps, told, left⟩ e]).map (vl st) = told.map (vl st) ++ [vl (ps.map (vl st)) e] := by rw [List.map_append, List.map_cons, List.map_nil, hv g]
        show Run r ⟨_, _, _⟩ s' k
        simp only [e1]
        exact hr
    | .ite e a b :: r =>
      have hl : leaf ⟨test, .ite e a b :: r, ps, told, left⟩ = none := rfl
      have g := hn.gd.ite.1
      have hb1 : EOk _ (bothE test (vOf ⟨test, .ite e a b :: r, ps, told, left⟩ e)) := both_deep (htk.mono (d' := 3 * (S - lam V ⟨test, .ite e a b :: r, ps, told, left⟩) + 3) (by omega)) ((hvo g).mono (by omega))
      have hb2 : EOk _ (bothE test (.neg (vOf ⟨test, .ite e a b :: r, ps, told, left⟩ e))) := both_deep (htk.mono (d' := 3 * (S - lam V ⟨test, .ite e a b :: r, ps, told, left⟩) + 3) (by omega)) (EOk.mono (d := 2 * (S - lam V ⟨test, .ite e a b :: r, ps, told, left⟩) + 3) (by omega) (hvo g))
      have k1 := kid_sem hs hb1 (fun c hc => hk hl c (List.mem_append_left _ hc)) ih
      have k2 := kid_sem hs hb2 (fun c hc => hk hl c (List.mem_append_right _ hc)) ih
      have ve := hv g
      have vn : vl st (.neg (vOf ⟨test, .ite e a b :: r, ps, told, left⟩ e)) = if vl (ps.map (vl st)) e = 0 then 1 else 0 := by rw [← ve]; rfl
      rw [ve] at k1
      rw [vn] at k2
      rw [hl]
      show (_ → Mis st (List.flatMap (chF m) (_ ++ _))) ∧ _
      simp only [ways, List.flatMap_append]
      refine ⟨fun h0 => (k1.1 fun q => q.1 h0).app (k2.1 fun q => q.1 h0), fun h0 s' k hr => ?_⟩
      have hr2 : Run ((if vl (ps.map (vl st)) e ≠ 0 then a else b) ++ r) ⟨ps.map (vl st), told.map (vl st), left⟩ s' k := by
        cases hr with
        | ite h1 h2 => exact h1.appE (fun _ => h2) (fun h => by cases h)
        | iteCut h1 => exact h1.appE (fun h => by cases h) (fun _ => ⟨rfl, rfl⟩)
      by_cases hz : vl (ps.map (vl st)) e = 0
      · rw [if_neg (by simpa using hz)] at hr2
        exact (k2.2 ⟨h0, by simp [hz]⟩ s' k hr2).r (k1.1 fun q => q.2 hz)
      · rw [if_pos hz] at hr2
        exact (k1.2 ⟨h0, hz⟩ s' k hr2).l (k2.1 fun q => q.2 (by simp [hz]))
    | .loop e b :: r =>
      cases left with
      | zero =>
        have hl : leaf ⟨test, .loop e b :: r, ps, told, 0⟩ = some ⟨test, false, ps, told⟩ := rfl
        rw [hl]
        refine ⟨fun h0 x hx => by rw [List.mem_singleton.mp hx]; exact h0, fun h0 s' k hr => ?_⟩
        cases hr with
        | off => exact ⟨[], _, [], rfl, by simp, by simp, h0, rfl, rfl, fun h => by cases h⟩
      | succ left =>
      have hl : leaf ⟨test, .loop e b :: r, ps, told, left + 1⟩ = none := rfl
      have g := hn.gd.loop.1
      have hb1 : EOk _ (bothE test (vOf ⟨test, .loop e b :: r, ps, told, left + 1⟩ e)) := both_deep (htk.mono (d' := 3 * (S - lam V ⟨test, .loop e b :: r, ps, told, left + 1⟩) + 3) (by omega)) ((hvo g).mono (by omega))
      have hb2 : EOk _ (bothE test (.neg (vOf ⟨test, .loop e b :: r, ps, told, left + 1⟩ e))) := both_deep (htk.mono (d' := 3 * (S - lam V ⟨test, .loop e b :: r, ps, told, left + 1⟩) + 3) (by omega)) (EOk.mono (d := 2 * (S - lam V ⟨test, .loop e b :: r, ps, told, left + 1⟩) + 3) (by omega) (hvo g))
      have k1 := kid_sem hs hb1 (fun c hc => hk hl c (List.mem_append_left _ hc)) ih
      have k2 := kid_sem hs hb2 (fun c hc => hk hl c (List.mem_append_right _ hc)) ih
      have ve := hv g
      have vn : vl st (.neg (vOf ⟨test, .loop e b :: r, ps, told, left + 1⟩ e)) = if vl (ps.map (vl st)) e = 0 then 1 else 0 := by rw [← ve]; rfl
      rw [ve] at k1
      rw [vn] at k2
      rw [hl]
      show (_ → Mis st (List.flatMap (chF m) (_ ++ _))) ∧ _
      simp only [ways, List.flatMap_append]
      refine ⟨fun h0 => (k1.1 fun q => q.1 h0).app (k2.1 fun q => q.1 h0), fun h0 s' k hr => ?_⟩
      cases hr with
      | stop hz hr => exact (k2.2 ⟨h0, by simp [hz]⟩ s' k hr).r (k1.1 fun q => q.2 hz)
      | more hz h1 h2 => exact (k1.2 ⟨h0, hz⟩ s' k (h1.appE (fun _ => h2) (fun h => by cases h))).l (k2.1 fun q => q.2 (by simp [hz]))
      | cut hz h1 => exact (k1.2 ⟨h0, hz⟩ s' false (h1.appE (fun h => by cases h) (fun _ => ⟨rfl, rfl⟩))).l (k2.1 fun q => q.2 (by simp [hz]))
/-! ### each way is right -/
structure WOk (w : Wy) : Prop where
  len : w.ps.length = 4
  pok : ∀ e ∈ w.ps, EOk 60 e
  dok : ∀ e ∈ w.told, EOk 60 e
  dln : w.told.length ≤ 30
  tok : EOk 78 w.test
  tsm : fold w.test = w.test ∧ w.test ≠ .num 0
theorem leaf_wok {V : Nat} {nd : Nd} (h : NOk V 25 nd) {w : Wy} (hl : leaf nd = some w) : WOk w := by
  have key : ∀ b : Bool, WOk ⟨nd.test, b, nd.ps, nd.told⟩ := fun b => ⟨h.len, fun e he => (h.pok e he).mono (by omega), fun e he => (h.dok e he).mono (by omega), by have := h.dln; simp only; omega, h.tok.mono (by omega), h.tsm⟩
  unfold leaf at hl
  split at hl
  · cases hl; exact key true
  · split at hl
    · cases hl; exact key false
    · cases hl
  · cases hl
theorem ch_wok {V : Nat} : ∀ (m : Nat) (nd : Nd), NOk V 25 nd → ∀ w ∈ chF m nd, WOk w
  | 0, _, _ => by intro w hw; cases hw
  | m + 1, nd, hn => by
    intro w hw
    rw [chF] at hw
    cases hl : leaf nd with
    | some w' =>
      rw [hl] at hw
      rw [List.mem_singleton.mp hw]
      exact leaf_wok hn hl
    | none =>
      rw [hl] at hw
      obtain ⟨c, hc, hw⟩ := List.mem_flatMap.mp hw
      exact ch_wok m c (ways_ok hn hl c hc).1 w hw
end S
set_option Elab.async false
set_option linter.all false
set_option maxRecDepth 100000
set_option maxHeartbeats 4000000
namespace S
open PySem PySem.Spec L2 Ev

/-! ## all ways: the walk -/
structure Chc (P : Prog) : Prop where
  pa : P "chances.put_all" = some F.f_chances_put_all
  ch : P "chances.chances" = some F.f_chances_chances
  wo : P "chances.ways_of" = some F.f_chances_ways_of
  wf : P "chances.way_for" = some F.f_chances_way_for
  oc : P "chances.outcome" = some F.f_chances_outcome
  both : P "conditions.both" = some F.f_conditions_both
def encNd (nd : Nd) : D := .tup [enc nd.test, .tup (nd.blk.map encD), .tup (nd.ps.map enc), .tup (nd.told.map enc), .int nd.left]
def encW (w : Wy) : D := .tup [enc w.test, .str (if w.fin then "end" else "going"), .tup (w.ps.map enc), .tup (w.told.map enc)]
theorem cutc1 {x : D} {xs : List D} : cutD (x :: xs) (some 1) none = xs := by
  unfold cutD HT.sIx
  simp
theorem cutc0 {x : D} {xs : List D} : cutD (x :: xs) none (some 1) = [x] := by
  unfold cutD HT.sIx
  simp
theorem view_lh {L : List MO} {n : Nat} {xs : List D} (h : L[n]? = some (.lst xs)) : view L (.h n) = some xs := by simp only [view, h]
theorem biLen_lh {L : List MO} {n : Nat} {xs : List D} (h : L[n]? = some (.lst xs)) : biLen [.h n] L = some (.d (.int xs.length)) := by simp only [biLen, h]
theorem fin_hge {L : List MO} {n k : Nat} {xs : List D} {Q : Val → List MO → Prop} (hb : (L.take n).all (MO.below n) = true) (hk : n ≤ k) (h : L[k]? = some (.lst xs)) : (fin n (.h k) L).sat Q = Q (.new xs) (L.take n) := by
  unfold fin
  rw [if_pos hb]
  simp only [if_neg (Nat.not_lt.mpr hk), h]
  exact sat_ok
theorem at_enc {ps : List Ex} {i : Int} (h0 : 0 ≤ i) (h1 : i < ps.length) : atI (ps.map enc) i = some (enc ((ps[i.toNat]?).getD (.num 0))) := by
  have hl : i.toNat < ps.length := by omega
  obtain ⟨x, e, _, e2⟩ := atI_lt (xs := ps.map enc) h0 (by simpa using h1)
  rw [e, ← e2, List.getElem?_map, List.getElem?_eq_getElem hl]
  rfl
section
variable {C : Calls} {ρ : Rho} {L : List MO}
@[simp] theorem sat_mPop {mo me : M} {Q : Val → List MO → Prop} : (mPop mo me C ρ L).sat Q = (mo C ρ L).sat fun o L1 => (me C ρ L1).sat fun y L2 => (match fz o, fz y with
  | .h n, .d (.int i) => match L1[n]?, L2[n]? with
    | some (.lst _), some (.lst (x :: xs)) => if i = 0 then Out.ok (Val.d x) (L2.set n (.lst xs)) else .no
    | _, _ => .no
  | _, _ => .no).sat Q := by
  rw [mPop, sat_bind]
  congr 1
  funext o L1
  rw [sat_bind]
  all_goals congr 1
def gon (J : Rho → List MO → Prop) (Q : Fl × Rho → List MO → Prop) (f : Fl × Rho) (L : List MO) : Prop := match f with
  | (.next, ρ1) => J ρ1 L
  | (.cont, ρ1) => J ρ1 L
  | (.brk, ρ1) => Q (.next, ρ1) L
  | (.ret v, ρ1) => Q (.ret v, ρ1) L
@[simp] theorem gon_next {J : Rho → List MO → Prop} {Q : Fl × Rho → List MO → Prop} : gon J Q (.next, ρ) L = J ρ L := rfl
@[simp] theorem gon_ret {J : Rho → List MO → Prop} {Q : Fl × Rho → List MO → Prop} {v : Val} : gon J Q (.ret v, ρ) L = Q (.ret v, ρ) L := rfl
theorem sat_two {it : MI} {g : MG} {mb : MS} {Q : Fl × Rho → List MO → Prop} {x y : D} (J : Rho → List MO → Prop) (start : (it C ρ L).sat fun s L1 => s = ⟨[x, y], none⟩ ∧ L1 = L)
    (h : (g C (.d x) ρ L).sat fun ρ1 L1 => (mb C ρ1 L1).sat fun f L2 => gon J Q f L2)
    (h2 : ∀ ρ L, J ρ L → (g C (.d y) ρ L).sat fun ρ1 L1 => (mb C ρ1 L1).sat fun f L2 => gon (fun ρ2 L2 => Q (.next, ρ2) L2) Q f L2) : (mFor it g mb C ρ L).sat Q := by
  refine sat_mFor (fun zs ρ' L' => (zs = [x, y] ∧ ρ' = ρ ∧ L' = L) ∨ (zs = [y] ∧ J ρ' L') ∨ (zs = [] ∧ Q (.next, ρ') L')) ?_ ?_ ?_
  · exact Out.sat_mono start fun s L1 ⟨e1, e2⟩ => by subst e1 e2; exact ⟨rfl, .inl ⟨rfl, rfl, rfl⟩⟩
  · rintro z r ρ1 L1 (⟨e, rfl, rfl⟩ | ⟨e, hj⟩ | ⟨e, _⟩)
    · cases e
      refine Out.sat_mono h fun ρ2 L2 q => Out.sat_mono q fun f L3 q => ?_
      obtain ⟨f, ρ3⟩ := f
      cases f with
      | next => exact .inr (.inl ⟨rfl, q⟩)
      | cont => exact .inr (.inl ⟨rfl, q⟩)
      | brk => exact q
      | ret v => exact q
    · cases e
      refine Out.sat_mono (h2 _ _ hj) fun ρ2 L2 q => Out.sat_mono q fun f L3 q => ?_
      obtain ⟨f, ρ3⟩ := f
      cases f with
      | next => exact .inr (.inr ⟨rfl, q⟩)
      | cont => exact .inr (.inr ⟨rfl, q⟩)
      | brk => exact q
      | ret v => exact q
    · cases e
  · rintro ρ1 L1 (⟨e, _⟩ | ⟨e, _⟩ | ⟨_, q⟩)
    · cases e
    · cases e
    · exact q
end
section
variable {P : Prog} {n : Nat} {L : List MO}
theorem pa_run (c : Chc P) {ps : List Ex} (hl : ps.length = 4) : ∀ {d : Nat} {e : Ex}, EOk d e → ∀ (n : Nat) (L : List MO), d + 1 ≤ n → Wf L → run P n "chances.put_all" [.d (enc e), .d (.tup (ps.map enc))] L = .ok (.d (enc (paE ps e))) L := fun {d} => by
  induction d using Nat.strongRecOn with
  | _ d ih =>
  intro e h n L hn hL
  obtain ⟨n, rfl⟩ : ∃ m, n = m + 1 := ⟨n - 1, by omega⟩
  refine run_pure c.pa rfl hL (by simp) ?_
  simp only [F.f_chances_put_all]
  cases e with
  | num i => simp [enc, paE, take_len]
  | nam i =>
    unfold EOk at h
    have q := at_enc (ps := ps) h.1 (by omega)
    simp [enc, paE, take_len, q]
  | neg e =>
    cases d with
    | zero => exact h.elim
    | succ d =>
    have q := fun L (hL : Wf L) => ih d (by omega) (e := e) h n L (by omega) hL
    simp [enc]
    refine comp_kids (ks := [e]) (en := enc) (f := fun k => enc (paE ps k)) hL (by simp) ?_ ?_ ?_
    · simp [cutc1]
    · intro k hk acc
      rw [List.mem_singleton.mp hk]
      simp [wipe1, q _ (Wf.snoc (xs := acc) hL)]
    · simp [cutc0, paE, enc, take_len]
  | two w a b =>
    cases d with
    | zero => exact h.elim
    | succ d =>
    have q : ∀ k ∈ [a, b], ∀ L, Wf L → run P n "chances.put_all" [.d (enc k), .d (.tup (ps.map enc))] L = .ok (.d (enc (paE ps k))) L := fun k hk L hL => by
      simp at hk
      rcases hk with rfl | rfl
      · exact ih d (by omega) h.2.1 n L (by omega) hL
      · exact ih d (by omega) h.2.2 n L (by omega) hL
    obtain ⟨hw, _, _⟩ := h
    have hw' : w ≠ "number" ∧ w ≠ "name" := by
      rcases fives hw with rfl | rfl | rfl | rfl | rfl <;> decide
    simp [enc, hw'.1, hw'.2]
    refine comp_kids (ks := [a, b]) (en := enc) (f := fun k => enc (paE ps k)) hL (by simp) ?_ ?_ ?_
    · simp [cutc1]
    · intro k hk acc
      have := q k hk _ (Wf.snoc (xs := acc) hL)
      simp [wipe1, this]
    · simp [cutc0, paE, enc, take_len]
theorem bo_run (c : Chc P) (hn : 1 ≤ n) (hL : Wf L) (a b : Ex) : run P n "conditions.both" [.d (enc a), .d (enc b)] L = .ok (.d (enc (bothE a b))) L := by
  obtain ⟨n, rfl⟩ : ∃ m, n = m + 1 := ⟨n - 1, by omega⟩
  refine run_pure c.both rfl hL (by simp) ?_
  simp only [F.f_conditions_both]
  simp [bothE, enc, take_len]
theorem kid_app {t h : Ex} {r : List Dd} {ps told : List Ex} {l : Nat} : (kid t h r ps told l).map encNd = if eqE (fold (bothE t h)) (.num 0) = true then [] else [.tup [enc (fold (bothE t h)), .tup (r.map encD), .tup (ps.map enc), .tup (told.map enc), .int l]] := by
  unfold kid
  split <;> rfl
theorem wo_tail (c : Chc P) (f : Vfn P) (fd : Fld P) {test v : Ex} {ps told : List Ex} {left : Nat} {r1 r2 : List Dd} (k1 : EOk 78 (bothE test v)) (k2 : EOk 78 (bothE test (.neg v))) (hn : 85 ≤ n) (hL : Wf L) {a1 a5 a6 : Option Val} :
    ((mSeq (mSetL 10 (mLst mNil)) (mSeq (mFor (mIt (mTup (mCons (mTup (mCons (mVar 7) (mCons (mVar 8) mNil))) (mCons (mTup (mCons (mTup (mCons (mK (D.str "not")) (mCons (mVar 7) mNil))) (mCons (mVar 9) mNil))) mNil)))) (gTup' 2 (gCons' (gName' 11) (gCons' (gName' 12) gNil'))) (mSeq (mSet 13 (mCall "expressions.folded" (mCons (mCall "conditions.both" (mCons (mVar 0) (mCons (mVar 11) mNil))) mNil))) (mIfS (mtOf (mBin (cEq true) (mVar 13) (mTup (mCons (mK (D.str "number")) (mCons (mK (D.int 0)) mNil))))) (mDrop (mApp (mVar 10) (mTup (mCons (mVar 13) (mCons (mVar 12) (mCons (mVar 2) (mCons (mVar 3) (mCons (mVar 4) mNil)))))))) (mEmpty)))) (mRet (mVar 10)))) (Ev.run P n) [some (.d (enc test)), a1, some (.d (.tup (ps.map enc))), some (.d (.tup (told.map enc))), some (.d (.int left)), a5, a6, some (.d (enc v)), some (.d (.tup (r1.map encD))), some (.d (.tup (r2.map encD))), none, none, none, none] L).sat
      fun r L1 => ∃ x, (r.1 = .ret x ∨ r.1 = .next ∧ x = .d .non) ∧ (fin L.length x L1).sat fun z L' => z = .new ((kid test v r1 ps told left ++ kid test (.neg v) r2 ps told left).map encNd) ∧ L' = L := by
  have q1 := fun L (hL : Wf L) => bo_run (n := n) c (by omega) hL test v
  have q2 := fun L (hL : Wf L) => bo_run (n := n) c (by omega) hL test (.neg v)
  have q3 := fun L (hL : Wf L) => folded_ok f fd k1 (by omega) n L (by omega) hL
  have q4 := fun L (hL : Wf L) => folded_ok f fd k2 (by omega) n L (by omega) hL
  have d1 := fun L => eq_num (fold_ok k1) (by omega) (i := 0) (by omega) (neg := true) (L := L)
  have d2 := fun L => eq_num (fold_ok k2) (by omega) (i := 0) (by omega) (neg := true) (L := L)
  have en : enc (.neg v) = .tup [.str "not", enc v] := rfl
  rw [en] at q2
  have hsz : sizeLine = 16777216 := sizeLine_val
  refine seq_cut (fun ρ1 L2 => L2 = L ++ [.lst []] ∧ ρ1 = [some (.d (enc test)), a1, some (.d (.tup (ps.map enc))), some (.d (.tup (told.map enc))), some (.d (.int left)), a5, a6, some (.d (enc v)), some (.d (.tup (r1.map encD))), some (.d (.tup (r2.map encD))), some (.h L.length), none, none, none]) (by simp) ?_
  rintro ρ1 L2 ⟨rfl, rfl⟩
  refine seq_cut (fun ρ1 L3 => L3 = L ++ [.lst ((kid test v r1 ps told left).map encNd ++ (kid test (.neg v) r2 ps told left).map encNd)] ∧ ∃ b1 b2 b3, ρ1 = [some (.d (enc test)), a1, some (.d (.tup (ps.map enc))), some (.d (.tup (told.map enc))), some (.d (.int left)), a5, a6, some (.d (enc v)), some (.d (.tup (r1.map encD))), some (.d (.tup (r2.map encD))), some (.h L.length), b1, b2, b3]) ?_ ?_
  · refine sat_two (x := .tup [enc v, .tup (r1.map encD)]) (y := .tup [.tup [.str "not", enc v], .tup (r2.map encD)]) (fun ρ1 L3 => L3 = L ++ [.lst ((kid test v r1 ps told left).map encNd)] ∧ ∃ b1 b2 b3, ρ1 = [some (.d (enc test)), a1, some (.d (.tup (ps.map enc))), some (.d (.tup (told.map enc))), some (.d (.int left)), a5, a6, some (.d (enc v)), some (.d (.tup (r1.map encD))), some (.d (.tup (r2.map encD))), some (.h L.length), b1, b2, b3]) (by simp) ?_ ?_
    · have w1 := q1 _ (Wf.snoc (xs := []) hL)
      have w3 := q3 _ (Wf.snoc (xs := []) hL)
      rw [kid_app]
      simp [w1, w3, d1]
      cases he : eqE (fold (bothE test v)) (.num 0) with
      | true => simp
      | false => simp [appSat, hsz]
    · rintro ρ1 L3 ⟨rfl, b1, b2, b3, rfl⟩
      have hkl := kid_len (t := test) (h := v) (r := r1) (ps := ps) (told := told) (l := left)
      generalize hK : (kid test v r1 ps told left).map encNd = K
      have hKl : K.length ≤ 1 := by rw [← hK]; simpa using hkl
      have w1 := q2 _ (Wf.snoc (xs := K) hL)
      have w3 := q4 _ (Wf.snoc (xs := K) hL)
      rw [kid_app]
      simp [w1, w3, d2]
      cases he : eqE (fold (bothE test (.neg v))) (.num 0) with
      | true => simp
      | false =>
        simp [appSat, hsz]
        omega
  · rintro ρ1 L3 ⟨rfl, b1, b2, b3, rfl⟩
    simp only [sat_mRet, sat_mVar, List.getElem?_cons_zero, List.getElem?_cons_succ, slotSat_some]
    refine ⟨_, .inl rfl, ?_⟩
    rw [fz_h, fin_lst hL, List.map_append]
    exact ⟨rfl, rfl⟩
theorem wo_run (c : Chc P) (f : Vfn P) (fd : Fld P) {V : Nat} {nd : Nd} (h : NOk V 25 nd) (hlf : leaf nd = none) (hn : 90 ≤ n) (hL : Wf L) :
    run P n "chances.ways_of" [.d (enc nd.test), .d (.tup (nd.blk.map encD)), .d (.tup (nd.ps.map enc)), .d (.tup (nd.told.map enc)), .d (.int nd.left)] L = .ok (.new ((ways nd).map encNd)) L := by
  obtain ⟨n, rfl⟩ : ∃ m, n = m + 1 := ⟨n - 1, by omega⟩
  rw [← Out.sat_eq]
  refine run_sat c.wo rfl ?_
  simp only [F.f_chances_ways_of]
  obtain ⟨test, blk, ps, told, left⟩ := nd
  have hlam := h.lm
  have hlen := h.len
  have hdl := h.dln
  have val : ∀ {e : Ex}, EOk 2 e → lam V ⟨test, blk, ps, told, left⟩ ≥ 1 → ∀ L, Wf L → run P n "chances.put_all" [.d (enc e), .d (.tup (ps.map enc))] L = .ok (.d (enc (paE ps e))) L ∧ run P n "expressions.folded" [.d (enc (paE ps e))] L = .ok (.d (enc (vOf ⟨test, blk, ps, told, left⟩ e))) L := fun {e} he _ L hL => by
    refine ⟨pa_run c hlen he n L (by omega) hL, ?_⟩
    have hp := paE_ok hlen h.pok he
    exact folded_ok f fd hp (by simp only at *; omega) n L (by simp only at *; omega) hL
  match blk with
  | [] => cases hlf
  | x :: r =>
  have hlm1 : 1 ≤ lam V ⟨test, x :: r, ps, told, left⟩ := by
    have := cD_pos x
    unfold lam
    rw [cB]
    omega
  simp only at hlen hdl
  rw [List.map_cons]
  refine seq_cut (fun ρ1 L1 => L1 = L ∧ ρ1 = [some (.d (enc test)), some (.d (.tup (encD x :: r.map encD))), some (.d (.tup (ps.map enc))), some (.d (.tup (told.map enc))), some (.d (.int left)), some (.d (encD x)), some (.d (.tup (r.map encD))), none, none, none, none, none, none, none]) (by simp [cutc1]) ?_
  rintro ρ1 L1 ⟨rfl, rfl⟩
  match x with
  | .tell e =>
    have g := h.gd.tell
    obtain ⟨v1, v2⟩ := val g hlm1 L1 hL
    have eD : encD (.tell e) = .tup [.str "tell", enc e] := rfl
    rw [eD]
    refine seq_cut (fun ρ1 L2 => L2 = L1 ∧ ρ1 = [some (.d (enc test)), some (.d (.tup (.tup [.str "tell", enc e] :: r.map encD))), some (.d (.tup (ps.map enc))), some (.d (.tup (told.map enc))), some (.d (.int left)), some (.d (.tup [.str "tell", enc e])), some (.d (.tup (r.map encD))), some (.d (enc (vOf ⟨test, .tell e :: r, ps, told, left⟩ e))), none, none, none, none, none, none]) (by simp [v1, v2]) ?_
    rintro ρ1 L2 ⟨rfl, rfl⟩
    simp
    refine ⟨by omega, ?_⟩
    rw [fin_new (L := L2) (by rw [take_len]; exact hL), take_len]
    simp [ways, encNd]
  | .set m e =>
    have g := h.gd.set
    obtain ⟨v1, v2⟩ := val g.2.2 hlm1 L1 hL
    have eD : encD (.set m e) = .tup [.str "set", .int m, enc e] := rfl
    rw [eD]
    refine seq_cut (fun ρ1 L2 => L2 = L1 ∧ ρ1 = [some (.d (enc test)), some (.d (.tup (.tup [.str "set", .int m, enc e] :: r.map encD))), some (.d (.tup (ps.map enc))), some (.d (.tup (told.map enc))), some (.d (.int left)), some (.d (.tup [.str "set", .int m, enc e])), some (.d (.tup (r.map encD))), some (.d (enc (vOf ⟨test, .set m e :: r, ps, told, left⟩ e))), none, none, none, none, none, none]) (by simp [v1, v2]) ?_
    rintro ρ1 L2 ⟨rfl, rfl⟩
    have cs := cut_set (xs := ps.map enc) (d := enc (vOf ⟨test, .set m e :: r, ps, told, left⟩ e)) g.1 (by simp; omega : m < (ps.map enc).length)
    have l1 : (cutD (ps.map enc) none (some m)).length ≤ 4 := Nat.le_trans cutD_len (by simp [hlen])
    have l2 : (cutD (ps.map enc) (some (m + 1)) none).length ≤ 4 := Nat.le_trans cutD_len (by simp [hlen])
    rw [List.singleton_append, ← List.map_set] at cs
    simp
    refine ⟨by omega, by omega, ?_⟩
    rw [cs, fin_new (L := L2) (by rw [take_len]; exact hL), take_len]
    simp [ways, encNd]
  | .ite e a b =>
    obtain ⟨ge, ga, gb, la, lb⟩ := h.gd.ite
    obtain ⟨v1, v2⟩ := val ge hlm1 L1 hL
    have hv := vOf_ok h ge
    obtain ⟨l1, l2⟩ := lpo h.lp
    rw [LpD] at l1
    have e1 : lam V ⟨test, .ite e a b :: r, ps, told, left⟩ = 1 + cB a + cB b + cB r + left * V := by unfold lam; rw [cB, cD]
    have k1 := (kid_ok h (hv.mono (by omega)) (LpB_app l1.1 l2) (ga.appG h.gd.tl) (l := left) (by rw [e1, cB_app]; omega)).1
    have k2 := (kid_ok h (v := .neg (vOf _ e)) hv (LpB_app l1.2 l2) (gb.appG h.gd.tl) (l := left) (by rw [e1, cB_app]; omega)).1
    have hrl := cB_len r
    rw [e1] at hlam
    have eD : encD (.ite e a b) = .tup [.str "if", enc e, .tup (a.map encD), .tup (b.map encD)] := by rw [encD, encB_map, encB_map]
    have ew : (ways ⟨test, .ite e a b :: r, ps, told, left⟩) = kid test (vOf ⟨test, .ite e a b :: r, ps, told, left⟩ e) (a ++ r) ps told left ++ kid test (.neg (vOf ⟨test, .ite e a b :: r, ps, told, left⟩ e)) (b ++ r) ps told left := rfl
    rw [ew]
    rw [eD]
    generalize hve : vOf ⟨test, .ite e a b :: r, ps, told, left⟩ e = v at *
    refine seq_cut (fun ρ1 L2 => L2 = L1 ∧ ρ1 = [some (.d (enc test)), some (.d (.tup (.tup [.str "if", enc e, .tup (a.map encD), .tup (b.map encD)] :: r.map encD))), some (.d (.tup (ps.map enc))), some (.d (.tup (told.map enc))), some (.d (.int left)), some (.d (.tup [.str "if", enc e, .tup (a.map encD), .tup (b.map encD)])), some (.d (.tup (r.map encD))), some (.d (enc v)), none, none, none, none, none, none]) (by simp [v1, v2]) ?_
    rintro ρ1 L2 ⟨rfl, rfl⟩
    refine seq_cut (fun ρ1 L3 => L3 = L2 ∧ ρ1 = [some (.d (enc test)), some (.d (.tup (.tup [.str "if", enc e, .tup (a.map encD), .tup (b.map encD)] :: r.map encD))), some (.d (.tup (ps.map enc))), some (.d (.tup (told.map enc))), some (.d (.int left)), some (.d (.tup [.str "if", enc e, .tup (a.map encD), .tup (b.map encD)])), some (.d (.tup (r.map encD))), some (.d (enc v)), none, none, none, none, none, none]) (by simp) ?_
    rintro ρ1 L3 ⟨rfl, rfl⟩
    refine seq_cut (fun ρ1 L4 => L4 = L3 ∧ ρ1 = [some (.d (enc test)), some (.d (.tup (.tup [.str "if", enc e, .tup (a.map encD), .tup (b.map encD)] :: r.map encD))), some (.d (.tup (ps.map enc))), some (.d (.tup (told.map enc))), some (.d (.int left)), some (.d (.tup [.str "if", enc e, .tup (a.map encD), .tup (b.map encD)])), some (.d (.tup (r.map encD))), some (.d (enc v)), none, none, none, none, none, none]) (by simp) ?_
    rintro ρ1 L4 ⟨rfl, rfl⟩
    refine seq_cut (fun ρ1 L5 => L5 = L4 ∧ ρ1 = [some (.d (enc test)), some (.d (.tup (.tup [.str "if", enc e, .tup (a.map encD), .tup (b.map encD)] :: r.map encD))), some (.d (.tup (ps.map enc))), some (.d (.tup (told.map enc))), some (.d (.int left)), some (.d (.tup [.str "if", enc e, .tup (a.map encD), .tup (b.map encD)])), some (.d (.tup (r.map encD))), some (.d (enc v)), none, none, none, none, none, none]) (by simp [bSub]) ?_
    rintro ρ1 L5 ⟨rfl, rfl⟩
    refine seq_cut (fun ρ1 L6 => L6 = L5 ∧ ρ1 = [some (.d (enc test)), some (.d (.tup (.tup [.str "if", enc e, .tup (a.map encD), .tup (b.map encD)] :: r.map encD))), some (.d (.tup (ps.map enc))), some (.d (.tup (told.map enc))), some (.d (.int left)), some (.d (.tup [.str "if", enc e, .tup (a.map encD), .tup (b.map encD)])), some (.d (.tup (r.map encD))), some (.d (enc v)), some (.d (.tup ((a ++ r).map encD))), none, none, none, none, none]) (by simp; omega) ?_
    rintro ρ1 L6 ⟨rfl, rfl⟩
    refine seq_cut (fun ρ1 L7 => L7 = L6 ∧ ρ1 = [some (.d (enc test)), some (.d (.tup (.tup [.str "if", enc e, .tup (a.map encD), .tup (b.map encD)] :: r.map encD))), some (.d (.tup (ps.map enc))), some (.d (.tup (told.map enc))), some (.d (.int left)), some (.d (.tup [.str "if", enc e, .tup (a.map encD), .tup (b.map encD)])), some (.d (.tup (r.map encD))), some (.d (enc v)), some (.d (.tup ((a ++ r).map encD))), some (.d (.tup ((b ++ r).map encD))), none, none, none, none]) (by simp; omega) ?_
    rintro ρ1 L7 ⟨rfl, rfl⟩
    exact wo_tail c f fd (k1.mono (by omega)) (k2.mono (by omega)) (by omega) hL
  | .loop e b =>
    cases left with
    | zero => cases hlf
    | succ left =>
    obtain ⟨ge, gb, lb⟩ := h.gd.loop
    obtain ⟨v1, v2⟩ := val ge hlm1 L1 hL
    have hv := vOf_ok h ge
    obtain ⟨l1, l2⟩ := lpo h.lp
    rw [LpD] at l1
    have e1 : lam V ⟨test, .loop e b :: r, ps, told, left + 1⟩ = 1 + cB r + left * V + V := by unfold lam; rw [cB, cD, Nat.succ_mul]; omega
    have k1 := (kid_ok h (hv.mono (by omega)) (LpB_app l1.2 h.lp) (gb.appG h.gd) (l := left) (by rw [e1, cB_app, cB, cD]; omega)).1
    have k2 := (kid_ok h (v := .neg (vOf _ e)) hv l2 h.gd.tl (l := left) (by rw [e1]; omega)).1
    have hrl := cB_len r
    rw [e1] at hlam
    have eD : encD (.loop e b) = .tup [.str "while", enc e, .tup (b.map encD)] := by rw [encD, encB_map]
    have ew : (ways ⟨test, .loop e b :: r, ps, told, left + 1⟩) = kid test (vOf ⟨test, .loop e b :: r, ps, told, left + 1⟩ e) (b ++ .loop e b :: r) ps told left ++ kid test (.neg (vOf ⟨test, .loop e b :: r, ps, told, left + 1⟩ e)) r ps told left := rfl
    rw [ew]
    have eg : (b ++ .loop e b :: r).map encD = b.map encD ++ (.tup [.str "while", enc e, .tup (b.map encD)] :: r.map encD) := by rw [List.map_append, List.map_cons, eD]
    rw [eD]
    generalize hve : vOf ⟨test, .loop e b :: r, ps, told, left + 1⟩ e = v at *
    refine seq_cut (fun ρ1 L2 => L2 = L1 ∧ ρ1 = [some (.d (enc test)), some (.d (.tup (.tup [.str "while", enc e, .tup (b.map encD)] :: r.map encD))), some (.d (.tup (ps.map enc))), some (.d (.tup (told.map enc))), some (.d (.int ((left + 1 : Nat) : Int))), some (.d (.tup [.str "while", enc e, .tup (b.map encD)])), some (.d (.tup (r.map encD))), some (.d (enc v)), none, none, none, none, none, none]) (by simp [v1, v2]) ?_
    rintro ρ1 L2 ⟨rfl, rfl⟩
    refine seq_cut (fun ρ1 L3 => L3 = L2 ∧ ρ1 = [some (.d (enc test)), some (.d (.tup (.tup [.str "while", enc e, .tup (b.map encD)] :: r.map encD))), some (.d (.tup (ps.map enc))), some (.d (.tup (told.map enc))), some (.d (.int ((left + 1 : Nat) : Int))), some (.d (.tup [.str "while", enc e, .tup (b.map encD)])), some (.d (.tup (r.map encD))), some (.d (enc v)), none, none, none, none, none, none]) (by simp) ?_
    rintro ρ1 L3 ⟨rfl, rfl⟩
    refine seq_cut (fun ρ1 L4 => L4 = L3 ∧ ρ1 = [some (.d (enc test)), some (.d (.tup (.tup [.str "while", enc e, .tup (b.map encD)] :: r.map encD))), some (.d (.tup (ps.map enc))), some (.d (.tup (told.map enc))), some (.d (.int ((left + 1 : Nat) : Int))), some (.d (.tup [.str "while", enc e, .tup (b.map encD)])), some (.d (.tup (r.map encD))), some (.d (enc v)), none, none, none, none, none, none]) (by simp) ?_
    rintro ρ1 L4 ⟨rfl, rfl⟩
    refine seq_cut (fun ρ1 L5 => L5 = L4 ∧ ρ1 = [some (.d (enc test)), some (.d (.tup (.tup [.str "while", enc e, .tup (b.map encD)] :: r.map encD))), some (.d (.tup (ps.map enc))), some (.d (.tup (told.map enc))), some (.d (.int left)), some (.d (.tup [.str "while", enc e, .tup (b.map encD)])), some (.d (.tup (r.map encD))), some (.d (enc v)), none, none, none, none, none, none]) (by simp [bSub]) ?_
    rintro ρ1 L5 ⟨rfl, rfl⟩
    refine seq_cut (fun ρ1 L6 => L6 = L5 ∧ ρ1 = [some (.d (enc test)), some (.d (.tup (.tup [.str "while", enc e, .tup (b.map encD)] :: r.map encD))), some (.d (.tup (ps.map enc))), some (.d (.tup (told.map enc))), some (.d (.int left)), some (.d (.tup [.str "while", enc e, .tup (b.map encD)])), some (.d (.tup (r.map encD))), some (.d (enc v)), some (.d (.tup ((b ++ .loop e b :: r).map encD))), none, none, none, none, none]) (by rw [eg]; simp; omega) ?_
    rintro ρ1 L6 ⟨rfl, rfl⟩
    refine seq_cut (fun ρ1 L7 => L7 = L6 ∧ ρ1 = [some (.d (enc test)), some (.d (.tup (.tup [.str "while", enc e, .tup (b.map encD)] :: r.map encD))), some (.d (.tup (ps.map enc))), some (.d (.tup (told.map enc))), some (.d (.int left)), some (.d (.tup [.str "while", enc e, .tup (b.map encD)])), some (.d (.tup (r.map encD))), some (.d (enc v)), some (.d (.tup ((b ++ .loop e b :: r).map encD))), some (.d (.tup (r.map encD))), none, none, none, none]) (by simp) ?_
    rintro ρ1 L7 ⟨rfl, rfl⟩
    exact wo_tail c f fd (k1.mono (by omega)) (k2.mono (by omega)) (by omega) hL
end
end S
set_option Elab.async false
set_option linter.all false
set_option maxRecDepth 100000
set_option maxHeartbeats 4000000
namespace S
open PySem PySem.Spec L2 Ev

/-! ## chances, way_for, outcome: the walk -/
theorem take_set_ge {L : List MO} {n i : Nat} {m : MO} (h : n ≤ i) : (L.set i m).take n = L.take n := by
  rw [List.take_set, List.set_eq_of_length_le]
  rw [List.length_take]
  omega
theorem sm_len {V : Nat} : ∀ ns : List Nd, ns.length ≤ sm (ell V) ns
  | [] => by simp [sm]
  | x :: ns => by
    have h1 := ell_pos (V := V) (nd := x)
    have h2 := sm_len (V := V) ns
    unfold sm at h2 ⊢
    rw [List.map_cons, List.sum_cons, List.length_cons]
    omega
theorem sm_cons {f : Nd → Nat} {x : Nd} {ns : List Nd} : sm f (x :: ns) = f x + sm f ns := by simp [sm]
section
variable {C : Calls} {ρ : Rho} {L : List MO}
theorem sat_pop0 {i n : Nat} {x : D} {xs : List D} {Q : Val → List MO → Prop} (h1 : ρ[i]? = some (some (.h n))) (h2 : L[n]? = some (.lst (x :: xs))) : (mPop (mVar i) (mK (D.int 0)) C ρ L).sat Q = Q (.d x) (L.set n (.lst xs)) := by
  rw [sat_mPop]
  simp [h1, h2]
end
theorem chF_none {m : Nat} {nd : Nd} (hl : leaf nd = none) : chF (m + 1) nd = (ways nd).flatMap (chF m) := by rw [chF, hl]
theorem chF_some {m : Nat} {nd : Nd} {w : Wy} (hl : leaf nd = some w) : chF (m + 1) nd = [w] := by rw [chF, hl]
theorem ch_26 {V M : Nat} (hM : 25 < M) {nd : Nd} (h : NOk V 25 nd) (hl : leaf nd = none) : chF M nd = (ways nd).flatMap (chF M) := by
  obtain ⟨m, rfl⟩ : ∃ m, M = m + 1 := ⟨M - 1, by omega⟩
  have e : chF (m + 1) nd = (ways nd).flatMap (chF m) := chF_none hl
  rw [e]
  have hk := ways_ok h hl
  have hlm := h.lm
  have : ∀ ns : List Nd, (∀ c ∈ ns, NOk V 25 c ∧ lam V c + 1 ≤ lam V nd) → ns.flatMap (chF m) = ns.flatMap (chF (m + 1)) := by
    intro ns
    induction ns with
    | nil => intro _; rfl
    | cons c ns ih =>
      intro hc
      have h1 := hc c (by simp)
      rw [List.flatMap_cons, List.flatMap_cons, fuel m (m + 1) c h1.1 (by omega) (by omega), ih fun c hc' => hc c (List.mem_cons_of_mem _ hc')]
  exact this _ hk
theorem ch_leaf {M : Nat} (hM : 25 < M) {nd : Nd} {w : Wy} (hl : leaf nd = some w) : chF M nd = [w] := by
  obtain ⟨m, rfl⟩ : ∃ m, M = m + 1 := ⟨M - 1, by omega⟩
  exact chF_some hl
def names4 : List Ex := [.nam 0, .nam 1, .nam 2, .nam 3]
def rootN (r : List Dd) (t : Nat) : Nd := ⟨.num 1, r, names4, [], t⟩
theorem root_ok {V : Nat} {r : List Dd} {t : Nat} (hp : LpB V r) (hg : Gd 2 4 r) (hl : lam V (rootN r t) ≤ 25) : NOk V 25 (rootN r t) where
  lp := hp
  gd := hg
  len := rfl
  lm := hl
  pok := fun e he => by
    simp [rootN, names4] at he
    rcases he with rfl | rfl | rfl | rfl <;> (unfold EOk; omega)
  dok := fun e he => by cases he
  dln := by show 0 ≤ _; omega
  tok := by show EOk _ (.num 1); unfold EOk; omega
  tsm := ⟨rfl, by show Ex.num 1 ≠ .num 0; simp⟩
section
variable {P : Prog} {n : Nat} {L : List MO}
theorem ch_run (c : Chc P) (f : Vfn P) (fd : Fld P) {V M : Nat} (hM : 25 < M) (hV : 1 ≤ V) {r : List Dd} {t : Nat} (h : NOk V 25 (rootN r t)) (hb : ell V (rootN r t) ≤ 16777215) (hn : 92 ≤ n) (hL : Wf L) :
    run P n "chances.chances" [.d (.tup (r.map encD)), .d (.int t)] L = .ok (.new ((chF M (rootN r t)).map encW)) L := by
  obtain ⟨n, rfl⟩ : ∃ m, n = m + 1 := ⟨n - 1, by omega⟩
  rw [← Out.sat_eq]
  refine run_sat c.ch rfl ?_
  simp only [F.f_chances_chances]
  have hsz : sizeLine = 16777216 := sizeLine_val
  generalize hA0 : some (Val.d (.tup (r.map encD))) = A0
  refine seq_cut (fun ρ1 L1 => L1 = L ∧ ρ1 = [A0, some (.d (.int t)), some (.d (.tup (names4.map enc))), none, none, none, none, none, none, none]) ?_ ?_
  · rw [sat_mSet, sat_mBi, sat_mCons]
    refine comp_kids (ks := ([0, 1, 2, 3] : List Int)) (en := D.int) (f := fun k => .tup [.str "name", .int k]) hL (by simp) ?_ ?_ ?_
    · simp [rangeD, List.range_succ]
    · intro k hk acc
      simp [wipe1]
    · subst hA0
      simp [names4, enc]
  rintro ρ1 L1 ⟨rfl, rfl⟩
  refine seq_cut (fun ρ1 L2 => L2 = L1 ++ [MO.lst [encNd (rootN r t)]] ∧ ρ1 = [A0, some (.d (.int t)), some (.d (.tup (names4.map enc))), some (.h L1.length), none, none, none, none, none, none]) ?_ ?_
  · subst hA0
    simp [encNd, rootN, enc]
  rintro ρ1 L2 ⟨rfl, rfl⟩
  refine seq_cut (fun ρ1 L3 => L3 = L1 ++ [MO.lst [encNd (rootN r t)], .lst []] ∧ ρ1 = [A0, some (.d (.int t)), some (.d (.tup (names4.map enc))), some (.h L1.length), some (.h (L1.length + 1)), none, none, none, none, none]) (by simp) ?_
  rintro ρ1 L3 ⟨rfl, rfl⟩
  refine seq_cut (fun ρ1 L4 => ∃ (h3 : Nat) (b2 b3 b5 b6 b7 b8 : Option Val), Wf L4 ∧ L4.take L1.length = L1 ∧ L4[L1.length + 1]? = some (.lst ((chF M (rootN r t)).map encW)) ∧ ρ1 = [A0, some (.d (.int t)), b2, b3, some (.h (L1.length + 1)), b5, b6, b7, b8, none]) ?_ ?_
  · refine sat_mWhile (fun m ρ L4 => ∃ (ws : List Wy) (ns : List Nd) (h3 : Nat) (b2 b5 b6 b7 b8 : Option Val), ws ++ ns.flatMap (chF M) = chF M (rootN r t) ∧ (∀ c ∈ ns, NOk V 25 c) ∧ ws.length + sm (ell V) ns ≤ 16777215 ∧ m = sm (fun c => 3 ^ lam V c) ns ∧ Wf L4 ∧ L4.take L1.length = L1 ∧ L1.length ≤ h3 ∧ L4[h3]? = some (.lst (ns.map encNd)) ∧ h3 ≠ L1.length + 1 ∧ L4[L1.length + 1]? = some (.lst (ws.map encW)) ∧ ρ = [A0, some (.d (.int t)), b2, some (.h h3), some (.h (L1.length + 1)), b5, b6, b7, b8, none]) ?_ (m := 3 ^ lam V (rootN r t)) ?_
    · rintro m ρ L4 ⟨ws, ns, h3, b2, b5, b6, b7, b8, e0, hok, hsum, rfl, hw, htk, hge, hL3, hne, hL4, rfl⟩
      have bl := biLen_lh hL3
      match ns with
      | [] =>
        simp [bl]
        simp at e0
        rw [e0] at hL4
        exact ⟨hw, htk, hL4⟩
      | nd :: ns =>
      have hlt3 : h3 < L4.length := (List.getElem?_eq_some_iff.mp hL3).1
      have hlt4 : L1.length + 1 < L4.length := (List.getElem?_eq_some_iff.mp hL4).1
      rw [List.map_cons] at hL3 bl
      have hnd := hok nd (by simp)
      have hok' : ∀ c ∈ ns, NOk V 25 c := fun c hc => hok c (List.mem_cons_of_mem _ hc)
      rw [sm_cons] at hsum
      have hns := sm_len (V := V) ns
      have hep := ell_pos (V := V) (nd := nd)
      rw [List.flatMap_cons] at e0
      have hpos : ((0 : Int) < ((encNd nd :: ns.map encNd).length : Int)) = True := by apply eq_true; simp
      rw [sat_mtOf, sat_mBin, sat_mBi, sat_mCons]
      simp only [sat_mVar, sat_mNil, sat_mK, List.getElem?_cons_zero, List.getElem?_cons_succ, slotSat_some, fz_h, bl, optSat_some, fz_dd, cLt_int, hpos, decide_true, blSat_bl, if_true]
      rw [sat_mSeq, sat_mAsg, sat_pop0 (n := h3) (by rfl) hL3]
      generalize hL5 : L4.set h3 (MO.lst (ns.map encNd)) = L5
      have hw5 : Wf L5 := by rw [← hL5]; exact hw.set fun _ => rfl
      have htk5 : L5.take L1.length = L1 := by rw [← hL5, take_set_ge hge]; exact htk
      have h53 : L5[h3]? = some (.lst (ns.map encNd)) := by rw [← hL5]; exact List.getElem?_set_self hlt3
      have h54 : L5[L1.length + 1]? = some (.lst (ws.map encW)) := by rw [← hL5, List.getElem?_set_ne hne]; exact hL4
      have hlen5 : L5.length = L4.length := by rw [← hL5]; simp
      have eN : fz (.d (encNd nd)) = .d (.tup [enc nd.test, .tup (nd.blk.map encD), .tup (nd.ps.map enc), .tup (nd.told.map enc), .int nd.left]) := rfl
      rw [eN, sat_gTup]
      refine ⟨rfl, ?_⟩
      simp only [sat_gCons, sat_gName, sat_gNil, List.set_cons_succ, List.set_cons_zero, flSat_next]
      -- what is done at a leaf
      have atleaf : ∀ w : Wy, leaf nd = some w → ∃ m', m' < sm (fun c => 3 ^ lam V c) (nd :: ns) ∧ ∃ (ws' : List Wy) (ns' : List Nd) (h3' : Nat) (b2 b5 b6 b7 b8 : Option Val), ws' ++ ns'.flatMap (chF M) = chF M (rootN r t) ∧ (∀ c ∈ ns', NOk V 25 c) ∧ ws'.length + sm (ell V) ns' ≤ 16777215 ∧ m' = sm (fun c => 3 ^ lam V c) ns' ∧ Wf (L5.set (L1.length + 1) (MO.lst (ws.map encW ++ [encW w]))) ∧ (L5.set (L1.length + 1) (MO.lst (ws.map encW ++ [encW w]))).take L1.length = L1 ∧ L1.length ≤ h3' ∧ (L5.set (L1.length + 1) (MO.lst (ws.map encW ++ [encW w])))[h3']? = some (.lst (ns'.map encNd)) ∧ h3' ≠ L1.length + 1 ∧ (L5.set (L1.length + 1) (MO.lst (ws.map encW ++ [encW w])))[L1.length + 1]? = some (.lst (ws'.map encW)) ∧ [A0, some (Val.d (.int t)), some (.d (.tup (nd.ps.map enc))), some (.h h3), some (.h (L1.length + 1)), some (.d (enc nd.test)), some (.d (.tup (nd.blk.map encD))), some (.d (.tup (nd.told.map enc))), some (.d (.int nd.left)), none] = [A0, some (.d (.int t)), b2, some (.h h3'), some (.h (L1.length + 1)), b5, b6, b7, b8, none] := fun w hl => by
        rw [ch_leaf hM hl] at e0
        refine ⟨_, ?_, ws ++ [w], ns, h3, _, _, _, _, _, by rw [← e0]; simp, hok', by simp; omega, rfl, hw5.set fun _ => rfl, by rw [take_set_ge (by omega)]; exact htk5, hge, by rw [List.getElem?_set_ne (by omega)]; exact h53, hne, by rw [List.getElem?_set_self (by omega)]; simp, rfl⟩
        rw [sm_cons]
        have : 0 < 3 ^ lam V nd := Nat.pow_pos (by omega)
        omega
      have hwl : ws.length < 16777216 := by omega
      match hblk : nd.blk with
      | [] =>
        have hl : leaf nd = some ⟨nd.test, true, nd.ps, nd.told⟩ := by unfold leaf; rw [hblk]
        have al := atleaf _ hl
        rw [hblk] at al
        simp [appSat, h54, hsz, hwl]
        simpa [encW] using al
      | x :: blk =>
      have notleaf : leaf nd = none → (hd2 : ∀ q : Prop, q → q) → ∃ m', m' < sm (fun c => 3 ^ lam V c) (nd :: ns) ∧ ∃ (ws' : List Wy) (ns' : List Nd) (h3' : Nat) (b2 b5 b6 b7 b8 : Option Val), ws' ++ ns'.flatMap (chF M) = chF M (rootN r t) ∧ (∀ c ∈ ns', NOk V 25 c) ∧ ws'.length + sm (ell V) ns' ≤ 16777215 ∧ m' = sm (fun c => 3 ^ lam V c) ns' ∧ Wf (L5 ++ [MO.lst ((ways nd).map encNd ++ ns.map encNd)]) ∧ (L5 ++ [MO.lst ((ways nd).map encNd ++ ns.map encNd)]).take L1.length = L1 ∧ L1.length ≤ h3' ∧ (L5 ++ [MO.lst ((ways nd).map encNd ++ ns.map encNd)])[h3']? = some (.lst (ns'.map encNd)) ∧ h3' ≠ L1.length + 1 ∧ (L5 ++ [MO.lst ((ways nd).map encNd ++ ns.map encNd)])[L1.length + 1]? = some (.lst (ws'.map encW)) ∧ [A0, some (Val.d (.int t)), some (.d (.tup (nd.ps.map enc))), some (.h L5.length), some (.h (L1.length + 1)), some (.d (enc nd.test)), some (.d (.tup ((x :: blk).map encD))), some (.d (.tup (nd.told.map enc))), some (.d (.int nd.left)), none] = [A0, some (.d (.int t)), b2, some (.h h3'), some (.h (L1.length + 1)), b5, b6, b7, b8, none] := fun hl _ => by
        rw [ch_26 hM hnd hl] at e0
        have hwe := ways_ell hV hnd.lp hl
        have hww := ways_w hnd hl
        have hwk := ways_ok hnd hl
        refine ⟨_, ?_, ws, ways nd ++ ns, L5.length, _, _, _, _, _, by rw [List.flatMap_append]; exact e0, fun c hc => (List.mem_append.mp hc).elim (fun hc => (hwk c hc).1) (hok' c), by rw [sm_app]; omega, rfl, hw5.snoc, by rw [List.take_append_of_le_length (by omega)]; exact htk5, by omega, by simp, by omega, by rw [List.getElem?_append_left (by omega)]; exact h54, rfl⟩
        rw [sm_app, sm_cons]
        omega
      have hwo := fun hl => wo_run (n := n) c f fd hnd hl (by omega) hw5
      have hview := view_lh h53
      have hwlen := ways_len (nd := nd)
      rw [hblk, List.map_cons] at hwo
      have goOn : leaf nd = none → ∀ (hd : Str) (xs : List D), encD x = .tup (.str hd :: xs) → (hd = "while" → nd.left ≠ 0) → ((mIfS (mtOf (mBin (cEq false) (mBi biLen (mCons (mVar 6) mNil)) (mK (D.int 0)))) (mDrop (mApp (mVar 4) (mTup (mCons (mVar 5) (mCons (mK (D.str "end")) (mCons (mVar 2) (mCons (mVar 7) mNil))))))) (mIfS (mtAnd (mtOf (mBin (cEq false) (mBin bIx (mBin bIx (mVar 6) (mK (D.int 0))) (mK (D.int 0))) (mK (D.str "while")))) (mtOf (mBin (cEq false) (mVar 8) (mK (D.int 0))))) (mDrop (mApp (mVar 4) (mTup (mCons (mVar 5) (mCons (mK (D.str "going")) (mCons (mVar 2) (mCons (mVar 7) mNil))))))) (mSetL 3 (mBin bAdd (mCall "chances.ways_of" (mCons (mVar 5) (mCons (mVar 6) (mCons (mVar 2) (mCons (mVar 7) (mCons (mVar 8) mNil)))))) (mVar 3))))) (Ev.run P n) [A0, some (Val.d (.int t)), some (.d (.tup (nd.ps.map enc))), some (.h h3), some (.h (L1.length + 1)), some (.d (enc nd.test)), some (.d (.tup (encD x :: blk.map encD))), some (.d (.tup (nd.told.map enc))), some (.d (.int nd.left)), none] L5).sat (fun r L6 => r = (.next, [A0, some (Val.d (.int t)), some (.d (.tup (nd.ps.map enc))), some (.h L5.length), some (.h (L1.length + 1)), some (.d (enc nd.test)), some (.d (.tup (encD x :: blk.map encD))), some (.d (.tup (nd.told.map enc))), some (.d (.int nd.left)), none]) ∧ L6 = L5 ++ [MO.lst ((ways nd).map encNd ++ ns.map encNd)]) := fun hl hd xs ex hwh => by
        have hwo := hwo hl
        rw [ex] at hwo ⊢
        by_cases hh : hd = "while"
        · have h0 := hwh hh
          subst hh
          have hsum2 : (ways nd).length + ns.length ≤ 16777216 := by omega
          have b1 : ((1 : Int) + blk.length = 0) = False := by apply eq_false; omega
          have b0 : (((blk.length : Int) + 1) = 0) = False := by apply eq_false; omega
          simp [h0, hwo, bAdd, hview, hsz, hsum2, b0]
        · have hsum2 : (ways nd).length + ns.length ≤ 16777216 := by omega
          have b0 : (((blk.length : Int) + 1) = 0) = False := by apply eq_false; omega
          simp [hh, hwo, bAdd, hview, hsz, hsum2, b0]
      have fin : leaf nd = none → ∀ (hd : Str) (xs : List D), encD x = .tup (.str hd :: xs) → (hd = "while" → nd.left ≠ 0) → _ := fun hl hd xs ex hwh => Out.sat_mono (goOn hl hd xs ex hwh) fun r L6 (q : _ ∧ _) => q
      rw [List.map_cons]
      have close : leaf nd = none → ∀ (hd : Str) (xs : List D), encD x = .tup (.str hd :: xs) → (hd = "while" → nd.left ≠ 0) → ((mIfS (mtOf (mBin (cEq false) (mBi biLen (mCons (mVar 6) mNil)) (mK (D.int 0)))) (mDrop (mApp (mVar 4) (mTup (mCons (mVar 5) (mCons (mK (D.str "end")) (mCons (mVar 2) (mCons (mVar 7) mNil))))))) (mIfS (mtAnd (mtOf (mBin (cEq false) (mBin bIx (mBin bIx (mVar 6) (mK (D.int 0))) (mK (D.int 0))) (mK (D.str "while")))) (mtOf (mBin (cEq false) (mVar 8) (mK (D.int 0))))) (mDrop (mApp (mVar 4) (mTup (mCons (mVar 5) (mCons (mK (D.str "going")) (mCons (mVar 2) (mCons (mVar 7) mNil))))))) (mSetL 3 (mBin bAdd (mCall "chances.ways_of" (mCons (mVar 5) (mCons (mVar 6) (mCons (mVar 2) (mCons (mVar 7) (mCons (mVar 8) mNil)))))) (mVar 3))))) (Ev.run P n) [A0, some (Val.d (.int t)), some (.d (.tup (nd.ps.map enc))), some (.h h3), some (.h (L1.length + 1)), some (.d (enc nd.test)), some (.d (.tup (encD x :: blk.map encD))), some (.d (.tup (nd.told.map enc))), some (.d (.int nd.left)), none] L5).sat (fun f L6 => match f with
          | (.next, ρ1) => ∃ m', m' < sm (fun c => 3 ^ lam V c) (nd :: ns) ∧ ∃ (ws : List Wy) (ns : List Nd) (h3 : Nat) (b2 b5 b6 b7 b8 : Option Val), ws ++ ns.flatMap (chF M) = chF M (rootN r t) ∧ (∀ c ∈ ns, NOk V 25 c) ∧ ws.length + sm (ell V) ns ≤ 16777215 ∧ m' = sm (fun c => 3 ^ lam V c) ns ∧ Wf L6 ∧ L6.take L1.length = L1 ∧ L1.length ≤ h3 ∧ L6[h3]? = some (.lst (ns.map encNd)) ∧ h3 ≠ L1.length + 1 ∧ L6[L1.length + 1]? = some (.lst (ws.map encW)) ∧ ρ1 = [A0, some (.d (.int t)), b2, some (.h h3), some (.h (L1.length + 1)), b5, b6, b7, b8, none]
          | _ => False) := fun hl hd xs ex hwh => by
        refine Out.sat_mono (goOn hl hd xs ex hwh) fun f L6 ⟨e1, e2⟩ => ?_
        subst e1 e2
        have := notleaf hl (fun _ q => q)
        rw [List.map_cons] at this
        exact this
      have kind : (leaf nd = none ∧ ∃ (hd : Str) (xs : List D), encD x = .tup (.str hd :: xs) ∧ (hd = "while" → nd.left ≠ 0)) ∨ (∃ w, leaf nd = some w ∧ w = ⟨nd.test, false, nd.ps, nd.told⟩ ∧ nd.left = 0 ∧ ∃ xs : List D, encD x = .tup (.str "while" :: xs)) := by
        cases x with
        | set m e => exact .inl ⟨by unfold leaf; rw [hblk], "set", _, rfl, fun h => absurd h (by decide)⟩
        | tell e => exact .inl ⟨by unfold leaf; rw [hblk], "tell", _, rfl, fun h => absurd h (by decide)⟩
        | ite e a b => exact .inl ⟨by unfold leaf; rw [hblk], "if", _, by rw [encD], fun h => absurd h (by decide)⟩
        | loop e b =>
          by_cases h0 : nd.left = 0
          · exact .inr ⟨_, by unfold leaf; rw [hblk]; simp only; rw [if_pos h0], rfl, h0, _, by rw [encD]⟩
          · exact .inl ⟨by unfold leaf; rw [hblk]; simp only; rw [if_neg h0], "while", _, by rw [encD], fun _ => h0⟩
      rcases kind with ⟨hl, hd, xs, ex, hwh⟩ | ⟨w, hl, hw0, h0, xs, ex⟩
      · refine Out.sat_mono (close hl hd xs ex hwh) fun f L6 q => ?_
        obtain ⟨fl, ρ6⟩ := f
        cases fl <;> first | exact q | exact q.elim
      · have al := atleaf w hl
        rw [hblk, List.map_cons, ex] at al
        rw [ex]
        have b0 : (((blk.length : Int) + 1) = 0) = False := by apply eq_false; omega
        simp [appSat, h54, hsz, hwl, h0, b0]
        simpa [encW, hw0, h0] using al
    · refine ⟨[], [rootN r t], L1.length, _, _, _, _, _, by simp, fun c hc => by rw [List.mem_singleton.mp hc]; exact h, by simp [sm]; exact hb, by simp [sm], ?_, by simp, Nat.le_refl _, by simp, by omega, by simp, rfl⟩
      have h1 := Wf.snoc (xs := [encNd (rootN r t)]) hL
      have h2 := Wf.snoc (xs := []) h1
      simpa using h2
  · rintro ρ1 L4 ⟨h3, b2, b3, b5, b6, b7, b8, hw, htk, hL4, rfl⟩
    simp only [sat_mRet, sat_mVar, List.getElem?_cons_zero, List.getElem?_cons_succ, slotSat_some]
    refine ⟨_, .inl rfl, ?_⟩
    rw [fz_h, fin_hge (xs := (chF M (rootN r t)).map encW) (by rw [htk]; exact hL) (by omega) hL4, htk]
    exact ⟨rfl, rfl⟩
end
end S
set_option Elab.async false
set_option linter.all false
set_option maxRecDepth 100000
set_option maxHeartbeats 4000000
namespace S
open PySem PySem.Spec L2 Ev

/-! ## way_for, outcome -/
theorem atI_get2 {xs : List D} {j : Nat} {x : D} (h : xs[j]? = some x) : atI xs (j : Int) = some x := by
  have hl : j < xs.length := (List.getElem?_eq_some_iff.mp h).1
  unfold atI ixN
  rw [if_pos (by omega), if_pos (by omega)]
  simpa using h
theorem rangeD_s2 {j m : Nat} : rangeD (j : Int) (m + 1) = .int j :: rangeD ((j + 1 : Nat) : Int) m := by
  unfold rangeD
  rw [List.range_succ_eq_map]
  simp
  intro a _
  omega
section
variable {P : Prog} {n : Nat} {L : List MO}
theorem wf_nil (c : Chc P) (hn : 1 ≤ n) (hL : Wf L) (x : D) : run P n "chances.way_for" [.d (.lst []), .d x] L = .ok (.d .non) L := by
  obtain ⟨n, rfl⟩ : ∃ m, n = m + 1 := ⟨n - 1, by omega⟩
  refine run_pure c.wf rfl hL (by simp) ?_
  simp only [F.f_chances_way_for]
  refine seq_cut (fun ρ1 L1 => L1 = L) ?_ (by rintro ρ1 L1 rfl; simp [take_len])
  refine sat_mFor (fun zs ρ L1 => zs = [] ∧ L1 = L) ?_ ?_ ?_
  · simp [rangeD]
  · rintro z zs ρ L1 ⟨e, _⟩
    cases e
  · rintro ρ L1 ⟨_, rfl⟩
    exact ⟨_, rfl, rfl⟩
theorem wf_run (c : Chc P) (f : Vfn P) {st : List Int} (hs : StOk st) {a b : List Wy} {w : Wy} (ok : ∀ x ∈ a ++ w :: b, WOk x) (ha : ∀ x ∈ a, vl st x.test = 0) (hw : vl st w.test ≠ 0) (hlen : (a ++ w :: b).length ≤ 16777215) (hn : 85 ≤ n) (hL : Wf L) :
    run P n "chances.way_for" [.d (.lst ((a ++ w :: b).map encW)), .d (.tup (st.map .int))] L = .ok (.d (.int a.length)) L := by
  obtain ⟨n, rfl⟩ : ∃ m, n = m + 1 := ⟨n - 1, by omega⟩
  refine run_pure c.wf rfl hL (by simp) ?_
  simp only [F.f_chances_way_for]
  refine seq_cut2 (fun ρ1 L1 => False) ?_ fun _ _ h => h.elim
  generalize hws : a ++ w :: b = ws at *
  have hal : a.length < ws.length := by rw [← hws]; simp
  refine sat_mFor (fun zs ρ L1 => L1 = L ∧ ∃ (j : Nat) (z : Option Val), j ≤ a.length ∧ zs = rangeD (j : Int) (ws.length - j) ∧ ρ = [some (.d (.lst (ws.map encW))), some (.d (.tup (st.map .int))), z]) ?_ ?_ ?_
  · simp
    exact ⟨by omega, 0, by omega, rfl⟩
  · rintro z zs ρ L1 ⟨rfl, j, z0, hj, ez, rfl⟩
    obtain ⟨m, hm⟩ : ∃ m, ws.length - j = m + 1 := ⟨ws.length - j - 1, by omega⟩
    rw [hm, rangeD_s2, List.cons.injEq] at ez
    obtain ⟨rfl, rfl⟩ := ez
    have hjl : j < ws.length := by omega
    have e1 : atI (ws.map encW) (j : Int) = some (encW ws[j]) := atI_get2 (by rw [List.getElem?_map, List.getElem?_eq_getElem hjl]; rfl)
    have q := value_ok f hs (ok _ (List.getElem_mem hjl)).tok n L1 (by omega) hL
    have e2 : bIx (.d (encW ws[j])) (.d (.int 0)) L1 = some (.d (enc ws[j].test)) := by simp [encW]
    rcases Nat.lt_or_ge j a.length with hlt | hge
    · have h0 : vl st ws[j].test = 0 := by
        refine ha _ ?_
        have : ws[j] = a[j] := by
          simp only [← hws]
          exact List.getElem_append_left hlt
        rw [this]
        exact List.getElem_mem hlt
      simp [e1, e2, q, h0]
      exact ⟨j + 1, by omega, by rw [show ws.length - (j + 1) = m by omega]; simp⟩
    · obtain rfl : j = a.length := by omega
      have h0 : vl st ws[a.length].test ≠ 0 := by
        have : ws[a.length] = w := by simp [← hws]
        rw [this]
        exact hw
      simp [e1, e2, q, h0, take_len]
  · rintro ρ L1 ⟨rfl, j, z0, hj, ez, rfl⟩
    obtain ⟨m, hm⟩ : ∃ m, ws.length - j = m + 1 := ⟨ws.length - j - 1, by omega⟩
    rw [hm, rangeD_s2] at ez
    cases ez
theorem oc_run (c : Chc P) (f : Vfn P) {st : List Int} (hs : StOk st) {w : Wy} (ok : WOk w) (hn : 85 ≤ n) (hL : Wf L) :
    run P n "chances.outcome" [.d (encW w), .d (.tup (st.map .int))] L = .ok (.d (if w.fin then .tup [.str "end", .tup ((w.ps.map (vl st)).map .int), .tup ((w.told.map (vl st)).map .int)] else .tup [.str "going", .tup ((w.told.map (vl st)).map .int)])) L := by
  obtain ⟨n, rfl⟩ : ∃ m, n = m + 1 := ⟨n - 1, by omega⟩
  refine run_pure c.oc rfl hL (by intro j; split <;> simp) ?_
  simp only [F.f_chances_outcome]
  have q : ∀ e, EOk 60 e → ∀ L, Wf L → run P n "expressions.value_of" [.d (enc e), .d (.tup (st.map .int))] L = .ok (.d (.int (vl st e))) L := fun e he L hL => value_ok f hs he n L (by omega) hL
  refine seq_cut (fun ρ1 L1 => L1 = L ∧ ρ1 = [some (.d (encW w)), some (.d (.tup (st.map .int))), some (.d (enc w.test)), some (.d (.str (if w.fin then "end" else "going"))), some (.d (.tup (w.ps.map enc))), some (.d (.tup (w.told.map enc))), none, none]) (by simp [encW]) ?_
  rintro ρ1 L1 ⟨rfl, rfl⟩
  refine seq_cut (fun ρ1 L2 => L2 = L1 ∧ ρ1 = [some (.d (encW w)), some (.d (.tup (st.map .int))), some (.d (enc w.test)), some (.d (.str (if w.fin then "end" else "going"))), some (.d (.tup (w.ps.map enc))), some (.d (.tup (w.told.map enc))), some (.d (.tup ((w.told.map (vl st)).map .int))), none]) ?_ ?_
  · rw [sat_mSet, sat_mBi, sat_mCons]
    refine comp_kids (ks := w.told) (en := enc) (f := fun e => .int (vl st e)) hL (by have := ok.dln; omega) (by simp) ?_ ?_
    · intro e he acc
      simp [wipe1, q e (ok.dok e he) _ (Wf.snoc (xs := acc) hL)]
    · simp [Function.comp_def]
  rintro ρ1 L2 ⟨rfl, rfl⟩
  cases hf : w.fin with
  | false => simp [take_len]
  | true =>
    rw [sat_mRet, sat_mIf]
    simp only [sat_mtOf, sat_mBin, sat_mVar, sat_mK, List.getElem?_cons_zero, List.getElem?_cons_succ, slotSat_some, fz_dd, if_true, cEq_str, beq_self_eq_true, optSat_some, blSat_bl, Bool.false_eq_true, if_false, sat_mTup, sat_mCons]
    rw [sat_mBi, sat_mCons]
    refine comp_kids (ks := w.ps) (en := enc) (f := fun e => .int (vl st e)) hL (by have := ok.len; omega) (by simp) ?_ ?_
    · intro e he acc
      simp [wipe1, q e (ok.pok e he) _ (Wf.snoc (xs := acc) hL)]
    · simp [Function.comp_def, take_len]
end
/-! ## the law -/
theorem comp_nothing {C : Calls} {ρ : Rho} {L : List MO} {it : MI} {vs : List Nat} {g : MG} {t : MT} {m : M} {Q : Val → List MO → Prop} {ks : List D} (hL : Wf L)
    (start : (it C ρ L).sat fun s L1 => L1 = L ∧ s = ⟨ks, none⟩)
    (step : ∀ k ∈ ks, (g C (.d k) (wipeR ρ vs) (L ++ [.lst []])).sat fun ρ1 L1 => (t C ρ1 L1).sat fun b L2 => b = false ∧ L2 = L ++ [.lst []])
    (done : Q (.new []) L) : (mComp it vs g t m C ρ L).sat Q := by
  refine sat_mComp (fun r acc L' => L' = L ∧ acc = [] ∧ ∀ x ∈ r, x ∈ ks) ?_ ?_ ?_
  · refine Out.sat_mono start fun s L1 ⟨h1, h2⟩ => ?_
    subst h1 h2
    exact ⟨rfl, rfl, rfl, fun x hx => hx⟩
  · rintro x r acc L' ⟨rfl, rfl, hr⟩
    refine Out.sat_mono (step x (hr x (by simp))) fun ρ1 L1 q => ?_
    refine Out.sat_mono q fun b L2 ⟨hb, q1⟩ => ?_
    subst hb q1
    exact ⟨L', rfl, rfl, rfl, rfl, fun x hx => hr x (List.mem_cons_of_mem _ hx)⟩
  · rintro acc L' ⟨rfl, rfl, _⟩
    exact ⟨hL, done⟩
theorem cut_dropLast {xs : List D} (h : xs ≠ []) : cutD xs none (some (-1)) = xs.dropLast := by
  have hp : 0 < xs.length := List.length_pos_iff.mpr h
  rw [List.dropLast_eq_take]
  unfold cutD HT.sIx
  simp
  congr 1
  omega
theorem encOt_dt3 {s : Sx} {k : Bool} (hs : StOk s.st) (ht : s.told.length ≤ 1000000) : Dt 1000000 2 (encOt s k) := by
  have h4 := hs.1
  have nums : ∀ is : List Int, is.length ≤ 1000000 → Dt 1000000 1 (.tup (is.map .int)) := fun is hl => .tup (by simpa using hl) (by simp; exact fun _ _ => .int)
  cases k with
  | true =>
    refine .tup (by simp) fun x hx => ?_
    simp at hx
    rcases hx with rfl | rfl | rfl
    · exact .str (by decide)
    · exact nums _ (by omega)
    · exact nums _ (by omega)
  | false =>
    refine .tup (by simp) fun x hx => ?_
    simp at hx
    rcases hx with rfl | rfl
    · exact .str (by decide)
    · exact nums _ (by omega)
theorem ell_8 : ∀ V, V < 9 → 1 ≤ V → 2 ^ (9 - V) * (1 + 2 ^ (V - 1)) ^ 3 ≤ 16777215 := by decide
theorem root_ready {r : List Dd} (hg : Gd 2 4 r) (hz : szB r ≤ 8) {t : Nat} (ht : t ≤ 3) : ∃ V, 1 ≤ V ∧ NOk V 25 (rootN r t) ∧ ell V (rootN r t) ≤ 16777215 := by
  by_cases h0 : r = []
  · subst h0
    refine ⟨1, by omega, root_ok (by rw [LpB]; trivial) hg (by unfold lam rootN; rw [cB]; simp only; omega), ?_⟩
    unfold ell rootN
    rw [cB]
    simp only
    have : t = 0 ∨ t = 1 ∨ t = 2 ∨ t = 3 := by omega
    rcases this with rfl | rfl | rfl | rfl <;> decide
  · obtain ⟨V, h1, h2, h3⟩ := lp_ex r
    have hc : 1 ≤ cB r := by
      have := cB_len r
      have : 0 < r.length := List.length_pos_iff.mpr h0
      omega
    have hV8 : V < 9 := by omega
    have htV : t * V ≤ 3 * V := Nat.mul_le_mul_right _ ht
    refine ⟨V, h1, root_ok h2 hg (by unfold lam rootN; simp only; omega), ?_⟩
    refine Nat.le_trans ?_ (ell_8 V hV8 h1)
    unfold ell rootN
    simp only
    exact Nat.mul_le_mul (Nat.pow_le_pow_right (by omega) (by omega)) (Nat.pow_le_pow_right (Nat.add_pos_left (by omega) _) ht)
theorem root_vl {st : List Int} (hs : StOk st) : names4.map (vl st) = st := by
  obtain ⟨a, b, c, d, rfl⟩ : ∃ a b c d, st = [a, b, c, d] := by
    match st, hs.1 with
    | [a, b, c, d], _ => exact ⟨a, b, c, d, rfl⟩
  rfl
section
variable {P : Prog} {n : Nat} {L : List MO}
theorem law13_ok (c : Com P) (a : Pik P) (x : Trx P) (rn : Rn P) (f : Vfn P) (fd : Fld P) (cn : Cnt P) (ch : Chc P) (hlaw : P "law" = some F.f_law13) (hn : 180 ≤ n) (ns : List Int) :
    run P n "law" [.d (.lst (ns.map .int))] [] = .ok (.d (.bl true)) [] := by
  obtain ⟨n, rfl⟩ : ∃ m, n = m + 1 := ⟨n - 1, by omega⟩
  refine run_pure hlaw rfl Wf.nil (by simp) ?_
  simp only [F.f_law13]
  refine seq_cut (fun ρ1 L1 => HasPool 0 L1 ∧ ∃ a0, ρ1 = [a0, some (.h 0), none, none, none, none, none, none, none, none, none]) ?_ ?_
  · obtain ⟨p, hp, e⟩ := pool_ok (n := n) c (by omega) Wf.nil ns
    simp [e]
    exact ⟨Wf.nil.snoc, p, rfl, hp⟩
  rintro ρ1 L1 ⟨hp1, a0, rfl⟩
  refine seq_cut (fun ρ1 L4 => True) ?_ (by intro ρ1 L4 _; simp)
  refine sat_mFor (fun r ρ L4 => HasPool 0 L4 ∧ ∃ c2 c3 c4 c5 c6 c7 c8, ρ = [a0, some (.h 0), c2, c3, c4, c5, c6, c7, c8, none, none]) ?_ ?_ ?_
  · simp
    exact hp1
  · rintro y r0 ρ L4 ⟨hp4, c2, c3, c4, c5, c6, c7, c8, rfl⟩
    rw [sat_gName]
    simp only [List.set_cons_succ, List.set_cons_zero]
    refine seq_cut (fun ρ1 L5 => HasPool 0 L5 ∧ ∃ (r : List Dd), r ≠ [] ∧ r.length ≤ 4 ∧ (∀ x ∈ r, DOk 2 4 3 x) ∧ ρ1 = [a0, some (.h 0), some (.d y), some (.d (.tup (r.map encD))), c4, c5, c6, c7, c8, none, none]) ?_ ?_
    · simp
      refine Out.sat_mono (program_ok c a x (by omega) hp4) fun z L5 ⟨⟨r, r0, l, q, ez⟩, hp5, _⟩ => ?_
      subst ez
      simp
      exact ⟨hp5, r, r0, by omega, q, rfl⟩
    rintro ρ1 L5 ⟨hp5, r, hr0, hl, hr, rfl⟩
    have de : ∀ r : List Dd, r.length ≤ 4 → (∀ x ∈ r, DOk 2 4 3 x) → Ev.run P n "trees.deeds_in" [.d (.tup (r.map encD))] L5 = .ok (.d (.int (szB r))) L5 := fun r hl hr => deeds_ok cn (k := 2) (w := 4) (by omega) 3 r (by omega) hr n L5 (by omega) hp5.1
    refine seq_cut (fun ρ1 L6 => L6 = L5 ∧ ∃ (r : List Dd), r.length ≤ 4 ∧ (∀ x ∈ r, DOk 2 4 3 x) ∧ ρ1 = [a0, some (.h 0), some (.d y), some (.d (.tup (r.map encD))), c4, c5, c6, c7, c8, none, none]) ?_ ?_
    · refine sat_mWhile (fun m ρ L6 => L6 = L5 ∧ ∃ (r : List Dd), m = r.length ∧ r.length ≤ 4 ∧ (∀ x ∈ r, DOk 2 4 3 x) ∧ ρ = [a0, some (.h 0), some (.d y), some (.d (.tup (r.map encD))), c4, c5, c6, c7, c8, none, none]) ?_ (m := r.length) ⟨rfl, r, rfl, hl, hr, rfl⟩
      rintro m ρ L6 ⟨rfl, r, rfl, hl, hr, rfl⟩
      have q := de r hl hr
      by_cases h8 : 8 < szB r
      · have e8 : ((8 : Int) < (szB r : Int)) = True := by apply eq_true; omega
        by_cases h1 : 1 < r.length
        · have e1 : ((1 : Int) < (r.length : Int)) = True := by apply eq_true; omega
          have hne : r.map encD ≠ [] := by
            intro e
            have : r = [] := by simpa using e
            rw [this] at h1
            simp at h1
          have cd := cut_dropLast hne
          simp [q, e8, e1, cd]
          exact ⟨r.length - 1, by omega, r.dropLast, by simp, by simp; omega, fun x hx => hr x (List.dropLast_subset _ hx), by rw [List.map_dropLast]⟩
        · have e1 : ((1 : Int) < (r.length : Int)) = False := by apply eq_false; omega
          simp [q, e8, e1]
          exact ⟨r, hl, hr, rfl⟩
      · have e8 : ((8 : Int) < (szB r : Int)) = False := by apply eq_false; omega
        simp [q, e8]
        exact ⟨r, hl, hr, rfl⟩
    rintro ρ1 L6 ⟨rfl, r, hl, hr, rfl⟩
    refine seq_cut (fun ρ1 L7 => L7 = L6 ∧ ∃ (r : List Dd), r.length ≤ 4 ∧ szB r ≤ 8 ∧ (∀ x ∈ r, DOk 2 4 3 x) ∧ ρ1 = [a0, some (.h 0), some (.d y), some (.d (.tup (r.map encD))), c4, c5, c6, c7, c8, none, none]) ?_ ?_
    · have q := de r hl hr
      by_cases h8 : szB r ≤ 8
      · have e8 : ((szB r : Int) ≤ 8) = True := by apply eq_true; omega
        simp [q, e8]
        exact ⟨r, hl, h8, hr, rfl⟩
      · have e8 : ((szB r : Int) ≤ 8) = False := by apply eq_false; omega
        simp [q, e8]
        exact ⟨[.tell (.nam 0)], by simp, by simp [szB, szD], by
          intro x hx
          rw [List.mem_singleton.mp hx]
          unfold DOk EOk
          omega, by simp [encD, enc]⟩
    rintro ρ1 L7 ⟨rfl, r, hl, hz, hr, rfl⟩
    refine seq_cut (fun ρ1 L8 => HasPool 0 L8 ∧ ∃ t : Nat, t ≤ 3 ∧ ρ1 = [a0, some (.h 0), some (.d y), some (.d (.tup (r.map encD))), some (.d (.int t)), c5, c6, c7, c8, none, none]) ?_ ?_
    · simp
      refine draw_to c (by omega) hp5 (by omega) (by omega) fun k L8 k0 k1 hp8 st8 => ?_
      simp
      exact ⟨hp8, k.toNat, by omega, by omega⟩
    rintro ρ1 L8 ⟨hp8, t, ht, rfl⟩
    obtain ⟨V, hV, hN, hE⟩ := root_ready (Gd.of hr) hz ht
    have hM : 25 < 26 := by omega
    generalize hMe : (26 : Nat) = M at hM
    have qc := ch_run (n := n) ch f fd hM hV hN hE (by omega) hp8.1
    have hwok := ch_wok M _ hN
    have hsem := fun (st : List Int) (hs : StOk st) => ch_sem hs M _ hN (by have := hN.lm; omega)
    have hWl : (chF M (rootN r t)).length ≤ 16777215 := by
      have key : ∀ (m : Nat) (nd : Nd), NOk V 25 nd → (chF m nd).length ≤ ell V nd := fun m => by
        induction m with
        | zero => intro nd _; simp [chF]
        | succ m ih =>
          intro nd h
          cases hl : leaf nd with
          | some w => rw [chF_some hl]; exact ell_pos
          | none =>
            rw [chF_none hl]
            refine Nat.le_trans ?_ (ways_ell hV h.lp hl)
            have hk := ways_ok h hl
            have : ∀ ns : List Nd, (∀ c ∈ ns, NOk V 25 c) → (ns.flatMap (chF m)).length ≤ sm (ell V) ns := by
              intro ns
              induction ns with
              | nil => intro _; simp [sm]
              | cons c ns ih2 =>
                intro hc
                rw [List.flatMap_cons, List.length_append, sm_cons]
                have := ih c (hc c (by simp))
                have := ih2 fun c hc' => hc c (List.mem_cons_of_mem _ hc')
                omega
            exact this _ fun c hc => (hk c hc).1
      exact Nat.le_trans (key M _ hN) hE
    generalize hWs : chF M (rootN r t) = ws at *
    refine seq_cut (fun ρ1 L9 => L9 = L8 ∧ ρ1 = [a0, some (.h 0), some (.d y), some (.d (.tup (r.map encD))), some (.d (.int t)), some (.d (.lst (ws.map encW))), c6, c7, c8, none, none]) (by simp [qc]) ?_
    rintro ρ1 L9 ⟨rfl, rfl⟩
    refine seq_cut (fun ρ1 L10 => L10 = L9 ∧ ρ1 = [a0, some (.h 0), some (.d y), some (.d (.tup (r.map encD))), some (.d (.int t)), some (.d (.lst (ws.map encW))), c6, c7, c8, none, none]) ?_ ?_
    · rw [sat_mIfS, sat_mtOf, sat_mBin, sat_mBi, sat_mCons]
      refine comp_nothing (ks := ws.map encW) hp8.1 (by simp) ?_ ?_
      · intro k hk
        obtain ⟨w, hw, rfl⟩ := List.mem_map.mp hk
        have ok := hwok w hw
        have q1 := folded_ok f fd ok.tok (by omega) n (L9 ++ [.lst []]) (by omega) (Wf.snoc hp8.1)
        rw [ok.tsm.1] at q1
        have q2 := eq_num ok.tok (by omega) (i := 0) (by omega) (neg := false) (L := L9 ++ [.lst []])
        have e0 : eqE w.test (.num 0) = false := by
          cases h : eqE w.test (.num 0) with
          | false => rfl
          | true => exact absurd (eqE_iff.mp h) ok.tsm.2
        rw [e0] at q2
        have hpl := ok.len
        cases hfin : w.fin <;> simp [wipe1, encW, hfin, cin2, q1, q2, hpl]
      · simp
    rintro ρ1 L10 ⟨rfl, rfl⟩
    refine seq_cut (fun ρ1 L11 => HasPool 0 L11 ∧ ∃ c6 c7 c8, ρ1 = [a0, some (.h 0), some (.d y), some (.d (.tup (r.map encD))), some (.d (.int t)), some (.d (.lst (ws.map encW))), c6, c7, c8, none, none]) ?_ ?_
    · refine sat_mFor (fun xs ρ L11 => HasPool 0 L11 ∧ ∃ c6 c7 c8, ρ = [a0, some (.h 0), some (.d y), some (.d (.tup (r.map encD))), some (.d (.int t)), some (.d (.lst (ws.map encW))), c6, c7, c8, none, none]) ?_ ?_ ?_
      · simp
        exact hp8
      · rintro z xs ρ L11 ⟨hp11, c6, c7, c8, rfl⟩
        rw [sat_gName]
        simp only [List.set_cons_succ, List.set_cons_zero]
        refine seq_cut (fun ρ1 L12 => HasPool 0 L12 ∧ ∃ st, StOk st ∧ ρ1 = [a0, some (.h 0), some (.d y), some (.d (.tup (r.map encD))), some (.d (.int t)), some (.d (.lst (ws.map encW))), some (.d z), some (.d (.tup (st.map .int))), c8, none, none]) ?_ ?_
        · simp
          refine Out.sat_mono (store_ok c x.toDrx (by omega) hp11) fun z L12 ⟨⟨st, h1, ez⟩, hp12, _⟩ => ?_
          subst ez
          simp
          exact ⟨hp12, st, h1, rfl⟩
        rintro ρ1 L12 ⟨hp12, st, hs, rfl⟩
        obtain ⟨s', kb, hrun⟩ := Run.total t (szB r) r ⟨st, [], t⟩ (Nat.le_refl _) (Nat.le_refl _)
        have hhit := (hsem st hs).2 (by show (1 : Int) ≠ 0; decide) s' kb (by
          show Run r ⟨names4.map (vl st), [], t⟩ s' kb
          rw [root_vl hs]
          exact hrun)
        obtain ⟨wa, w, wb, ews, ha, hb, hw, hfin, htold, hst⟩ := hhit
        have hal : wa.length < ws.length := by rw [ews]; simp
        have wok := hwok w (by rw [ews]; simp)
        have vq : ∀ (j : Nat) (hj : j < ws.length) (L : List MO), Wf L → atI (ws.map encW) (j : Int) = some (encW ws[j]) ∧ bIx (.d (encW ws[j])) (.d (.int 0)) L = some (.d (enc ws[j].test)) ∧ Ev.run P n "_law_value" [.d (enc ws[j].test), .d (.tup (st.map .int))] L = .ok (.d (.int (vl st ws[j].test))) L := fun j hj L hL =>
          ⟨atI_get2 (by rw [List.getElem?_map, List.getElem?_eq_getElem hj]; rfl), by simp [encW], valueL_ok rn.toVfnL hs (hwok _ (List.getElem_mem hj)).tok n L (by omega) hL⟩
        have vz : ∀ (j : Nat) (hj : j < ws.length), (vl st ws[j].test = 0 ↔ j ≠ wa.length) := fun j hj => by
          rcases Nat.lt_trichotomy j wa.length with h | h | h
          · have : ws[j] = wa[j] := by simp only [ews]; exact List.getElem_append_left h
            rw [this]
            exact ⟨fun _ => by omega, fun _ => ha _ (List.getElem_mem h)⟩
          · subst h
            have : ws[wa.length] = w := by simp [ews]
            rw [this]
            exact ⟨fun h => absurd h hw, fun h => absurd rfl h⟩
          · have hj2 : j - wa.length - 1 < wb.length := by rw [ews] at hj; simp at hj; omega
            have : ws[j] = wb[j - wa.length - 1] := by
              simp only [ews]
              rw [List.getElem_append_right (by omega)]
              obtain ⟨i, hi⟩ : ∃ i, j - wa.length = i + 1 := ⟨j - wa.length - 1, by omega⟩
              simp [hi]
            rw [this]
            exact ⟨fun _ => by omega, fun _ => hb _ (List.getElem_mem hj2)⟩
        refine seq_cut (fun ρ1 L13 => L13 = L12 ∧ ρ1 = [a0, some (.h 0), some (.d y), some (.d (.tup (r.map encD))), some (.d (.int t)), some (.d (.lst (ws.map encW))), some (.d z), some (.d (.tup (st.map .int))), some (.d (.lst [.int wa.length])), none, none]) ?_ ?_
        · rw [sat_mSet]
          refine sat_mComp (fun rr acc L' => L' = L12 ∧ ∃ j : Nat, j ≤ ws.length ∧ rr = rangeD (j : Int) (ws.length - j) ∧ acc = if j ≤ wa.length then [] else [.int wa.length]) ?_ ?_ ?_
          · simp
            exact ⟨by omega, 0, by omega, rfl, by simp⟩
          · rintro zz rr acc L' ⟨rfl, j, hj, er, rfl⟩
            have hjl : j < ws.length := by
              refine Nat.lt_of_le_of_ne hj fun e => ?_
              rw [e, Nat.sub_self] at er
              cases er
            obtain ⟨m, hm⟩ : ∃ m, ws.length - j = m + 1 := ⟨ws.length - j - 1, by omega⟩
            rw [hm, rangeD_s2, List.cons.injEq] at er
            obtain ⟨rfl, rfl⟩ := er
            generalize hacc : (if j ≤ wa.length then ([] : List D) else [.int wa.length]) = acc
            obtain ⟨q1, q2, q3⟩ := vq j hjl (L' ++ [.lst acc]) (Wf.snoc hp12.1)
            by_cases hjw : j = wa.length
            · have h0 : ¬ vl st ws[j].test = 0 := fun h => (vz j hjl).mp h hjw
              simp [wipe1, q1, q2, q3, h0]
              refine ⟨by rw [← hacc]; split <;> simp, j + 1, by omega, by rw [show ws.length - (j + 1) = m by omega]; simp, ?_⟩
              rw [← hacc, if_pos (by omega), if_neg (by omega), hjw]
              rfl
            · have h0 : vl st ws[j].test = 0 := (vz j hjl).mpr hjw
              simp [wipe1, q1, q2, q3, h0]
              refine ⟨j + 1, by omega, by rw [show ws.length - (j + 1) = m by omega]; simp, ?_⟩
              rw [← hacc]
              by_cases h1 : j ≤ wa.length
              · rw [if_pos h1, if_pos (by omega)]
              · rw [if_neg h1, if_neg (by omega)]
          · rintro acc L' ⟨rfl, j, hj, er, rfl⟩
            refine ⟨hp12.1, ?_⟩
            have : ws.length - j = 0 := by
              cases hm : ws.length - j with
              | zero => rfl
              | succ m => rw [hm, rangeD_s2] at er; cases er
            rw [if_neg (by omega)]
            exact ⟨_, rfl, rfl, rfl⟩
        rintro ρ1 L13 ⟨rfl, rfl⟩
        have qw := wf_run (n := n) ch f hs (a := wa) (b := wb) (w := w) (by rw [← ews]; exact hwok) ha hw (by rw [← ews]; exact hWl) (by omega) hp12.1
        rw [← ews] at qw
        have qs := same_ok (w := 1000000) (m := 0) c (Nat.le_refl _) (x := .int wa.length) .int n L13 (by omega) hp12.1
        refine seq_cut (fun ρ1 L14 => L14 = L13 ∧ ρ1 = [a0, some (.h 0), some (.d y), some (.d (.tup (r.map encD))), some (.d (.int t)), some (.d (.lst (ws.map encW))), some (.d z), some (.d (.tup (st.map .int))), some (.d (.lst [.int wa.length])), none, none]) (by simp [qw, qs]) ?_
        rintro ρ1 L14 ⟨rfl, rfl⟩
        have q1 := (vq wa.length hal L14 hp12.1).1
        have ew : ws[wa.length] = w := by simp [ews]
        rw [ew] at q1
        have qo := oc_run (n := n) ch f hs wok (by omega) hp12.1
        have hs' : StOk s'.st := hrun.stOk (Gd.of hr) hs
        have hfew := hrun.few (W := 8) hz
        simp only [List.length_nil] at hfew
        have eo : (if w.fin then D.tup [.str "end", .tup ((w.ps.map (vl st)).map .int), .tup ((w.told.map (vl st)).map .int)] else .tup [.str "going", .tup ((w.told.map (vl st)).map .int)]) = encOt s' kb := by
          rw [hfin, htold]
          cases kb with
          | false => rfl
          | true => rw [hst rfl]; rfl
        rw [eo] at qo
        have ql := runL_ok (n := n) rn (d := 3) hr hrun hs (W := 8) hz (by omega) (by omega) hp12.1
        have q4 := same_ok (w := 1000000) (m := 2) c (Nat.le_refl _) (encOt_dt3 (k := kb) hs' (by omega)) n L14 (by omega) hp12.1
        simp [q1, qo, ql, q4]
        exact hp12
      · rintro ρ L11 ⟨hp11, c6, c7, c8, rfl⟩
        exact ⟨_, rfl, hp11, c6, c7, c8, rfl⟩
    rintro ρ1 L11 ⟨hp11, c6, c7, c8, rfl⟩
    have qn := wf_nil (n := n) ch (by omega) hp11.1 (.tup [.int 0, .int 0, .int 0, .int 0])
    obtain ⟨V2, hV2, hN2, hE2⟩ := root_ready (r := []) (t := t) (fun x hx => by cases hx) (by simp [szB]) ht
    have qc2 := ch_run (n := n) ch f fd hM hV2 hN2 hE2 (by omega) hp11.1
    have el : chF M (rootN [] t) = [⟨.num 1, true, names4, []⟩] := ch_leaf hM rfl
    rw [el] at qc2
    simp only [List.map_nil, List.map_cons] at qc2
    have en : cIs true (.d .non) (.d .non) L11 = some (.d (.bl false)) := rfl
    simp [qn, qc2, en]
    exact hp11
  · rintro ρ L4 ⟨hp4, h⟩
    exact ⟨_, rfl, trivial⟩
end
end S
set_option Elab.async false
set_option maxRecDepth 100000
namespace K27
open Ev
theorem i_Com : S.Com P := ⟨p__law_is_integer, p__law_same, p__law_pool, p__law_spread, p__law_draw⟩
theorem i_Pik : S.Pik P := ⟨p__law_pick⟩
theorem i_Drx : S.Drx P := ⟨p__law_expression, p__law_store⟩
theorem i_Trx : S.Trx P := ⟨i_Drx, p__law_block, p__law_deed, p__law_program, p__law_turns⟩
theorem i_VfnL : S.VfnL P := ⟨p__law_worked, p__law_value⟩
theorem i_Rn : S.Rn P := ⟨i_VfnL, p__law_do, p__law_loop, p__law_run⟩
theorem i_Vfn : S.Vfn P := ⟨p_expressions_worked, p_expressions_value_of, p_expressions_names_in, p_expressions_size⟩
theorem i_Fld : S.Fld P := ⟨p_expressions_folded, p_expressions_simpler, p__law_simple, p__law_twins⟩
theorem i_Cnt : S.Cnt P := ⟨p_trees_deeds_in⟩
theorem i_Chc : S.Chc P := ⟨p_chances_put_all, p_chances_chances, p_chances_ways_of, p_chances_way_for, p_chances_outcome, p_conditions_both⟩
theorem law_holds : ∀ ns : List Int, ns.length ≤ 63 → run P 200 "law" [.d (.lst (ns.map .int))] [] = .ok (.d (.bl true)) [] := fun ns _ => S.law13_ok i_Com i_Pik i_Trx i_Rn i_Vfn i_Fld i_Cnt i_Chc p_law (by omega) ns
end K27
open PySem PySem.W PyProof.Rows
set_option maxRecDepth 100000 in
set_option maxHeartbeats 0 in
theorem PySem.Challenge.cw_everymeaning_k27_whole_all_ways_told_holds : PySem.Challenge.rw_everymeaning_k27_whole_all_ways_told.Holds := by
  w_on; o_law; k_head; (case hw => w_witness2)
  k_fill
  refine Ev.walk (P := K27.P) (T := K27.T) (k := 200) (x := "script") (l := PySem.Challenge.rw_everymeaning_k27_whole_all_ways_told) rfl (by decide) rfl ⟨rfl, by decide, by decide⟩ (fun w h Y => PySem.W.kIn_of Y) ?F rfl K27.law_holds
  case F =>
    intro w mg fa h KX G hmg
    refine' K27.all_mk KX G hmg ?a0 ?l0 ?c0 ?k0 ?a1 ?l1 ?c1 ?k1 ?a2 ?l2 ?c2 ?k2 ?a3 ?l3 ?c3 ?k3 ?a4 ?l4 ?c4 ?k4 ?a5 ?l5 ?c5 ?k5 ?a6 ?l6 ?c6 ?k6 ?a7 ?l7 ?c7 ?k7 ?a8 ?l8 ?c8 ?k8 ?a9 ?l9 ?c9 ?k9 ?a10 ?l10 ?c10 ?k10 ?a11 ?l11 ?c11 ?k11 ?a12 ?l12 ?c12 ?k12 ?a13 ?l13 ?c13 ?k13 ?a14 ?l14 ?c14 ?k14 ?a15 ?l15 ?c15 ?k15 ?a16 ?l16 ?c16 ?k16 ?a17 ?l17 ?c17 ?k17 ?a18 ?l18 ?c18 ?k18 ?a19 ?l19 ?c19 ?k19 ?a20 ?l20 ?c20 ?k20 ?a21 ?l21 ?c21 ?k21 ?a22 ?l22 ?c22 ?k22 ?a23 ?l23 ?c23 ?k23 ?a24 ?l24 ?c24 ?k24 ?a25 ?l25 ?c25 ?k25 ?a26 ?l26 ?c26 ?k26 ?z0 ?z1 ?z2 ?z3 ?z4 ?z5 ?z6 ?z7 ?z8 ?z9 ?v0 ?v1
    (case a0 => k_is)
    (case l0 => k_is)
    (case c0 => k_is)
    (case k0 => k_is)
    (case a1 => k_is)
    (case l1 => k_is)
    (case c1 => k_is)
    (case k1 => k_is)
    (case a2 => k_is)
    (case l2 => k_is)
    (case c2 => k_is)
    (case k2 => k_is)
    (case a3 => k_is)
    (case l3 => k_is)
    (case c3 => k_is)
    (case k3 => k_is)
    (case a4 => k_is)
    (case l4 => k_is)
    (case c4 => k_is)
    (case k4 => k_is)
    (case a5 => k_is)
    (case l5 => k_is)
    (case c5 => k_is)
    (case k5 => k_is)
    (case a6 => k_is)
    (case l6 => k_is)
    (case c6 => k_is)
    (case k6 => k_is)
    (case a7 => k_is)
    (case l7 => k_is)
    (case c7 => k_is)
    (case k7 => k_is)
    (case a8 => k_is)
    (case l8 => k_is)
    (case c8 => k_is)
    (case k8 => k_is)
    (case a9 => k_is)
    (case l9 => k_is)
    (case c9 => k_is)
    (case k9 => k_is)
    (case a10 => k_is)
    (case l10 => k_is)
    (case c10 => k_is)
    (case k10 => k_is)
    (case a11 => k_is)
    (case l11 => k_is)
    (case c11 => k_is)
    (case k11 => k_is)
    (case a12 => k_is)
    (case l12 => k_is)
    (case c12 => k_is)
    (case k12 => k_is)
    (case a13 => k_is)
    (case l13 => k_is)
    (case c13 => k_is)
    (case k13 => k_is)
    (case a14 => k_is)
    (case l14 => k_is)
    (case c14 => k_is)
    (case k14 => k_is)
    (case a15 => k_is)
    (case l15 => k_is)
    (case c15 => k_is)
    (case k15 => k_is)
    (case a16 => k_is)
    (case l16 => k_is)
    (case c16 => k_is)
    (case k16 => k_is)
    (case a17 => k_is)
    (case l17 => k_is)
    (case c17 => k_is)
    (case k17 => k_is)
    (case a18 => k_is)
    (case l18 => k_is)
    (case c18 => k_is)
    (case k18 => k_is)
    (case a19 => k_is)
    (case l19 => k_is)
    (case c19 => k_is)
    (case k19 => k_is)
    (case a20 => k_is)
    (case l20 => k_is)
    (case c20 => k_is)
    (case k20 => k_is)
    (case a21 => k_is)
    (case l21 => k_is)
    (case c21 => k_is)
    (case k21 => k_is)
    (case a22 => k_is)
    (case l22 => k_is)
    (case c22 => k_is)
    (case k22 => k_is)
    (case a23 => k_is)
    (case l23 => k_is)
    (case c23 => k_is)
    (case k23 => k_is)
    (case a24 => k_is)
    (case l24 => k_is)
    (case c24 => k_is)
    (case k24 => k_is)
    (case a25 => k_is)
    (case l25 => k_is)
    (case c25 => k_is)
    (case k25 => k_is)
    (case a26 => k_is)
    (case l26 => k_is)
    (case c26 => k_is)
    (case k26 => k_is)
    (case z0 => k_is)
    (case z1 => k_is)
    (case z2 => k_is)
    (case z3 => k_is)
    (case z4 => k_is)
    (case z5 => k_is)
    (case z6 => k_is)
    (case z7 => k_is)
    (case z8 => k_is)
    (case z9 => k_is)
    (case v0 => k_is)
    (case v1 => k_is)
