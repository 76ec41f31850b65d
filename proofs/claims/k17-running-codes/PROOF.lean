import PyProof.Rows.All
import Wide.All
import OpenK.AllK
import Wide.FinOn
import HandS.ForMost
import HandS.Flow
import HandS.TupAny
import HandS.TupMul
import HandS.Zip
import HandS.Deep
import HandS.TryMany
import HandS.IsInst
import HandS.Dict
import KE.KDictKeyed
import KE.DataEq
import KE.DataCmp
import KE.DataMinMax
import KE.SortData
import KE.DataAny
import KE.KTupSum
import HandS.Conv
import HandS.Style
import KE.KDictDisplayH
import PySem.Challenge.RW_farcall_k17_running_codes
set_option Elab.async false
set_option linter.all false
set_option maxRecDepth 100000
/-! PdA: data without addresses over the hand layer: what a value means (Rep), worlds, states. -/
namespace PD
open PySem PySem.Spec L2

/-- data: what may be shared because nobody changes it any more -/
inductive D where
  | n | b (x : Bool) | i (x : Int) | s (x : Str)
  | t (xs : List D) | l (xs : List D) | d (kvs : List (D × D)) | p | sc (ns : List Int)
/-- a slot: shared data, or a list or dict of which the slot is the only owner -/
inductive Sl where
  | v (x : D) | o (x : D)
/-- the drawing list: the script, the place, the rest, the seed -/
structure DSt where
  sc : List Int
  pos : Nat
  rest : Int
  seed : Int
/-- the state of a body -/
structure Se where
  sl : List (Option Sl)
  w : Option DSt
/-- the world: what is frozen, what belongs to the callers, where the drawing list is -/
structure Wr where
  Fz : Addr → Prop
  fr : List (Addr × HO)
  dA : Option Addr

/-- what is known of the top, the program, the world -/
structure CK where
  K : PySem.W.Frag
  P : Program
  w : World
abbrev _root_.L2.Cx.kk (X : L2.Cx) : CK := ⟨X.K, X.prog, X.w⟩
/-! ### keys of dicts -/
def fk : D → Option Key
  | .i x => some (.inl x)
  | .s x => some (.inr x)
  | _ => none
mutual
def nk : D → NestedKey
  | .i x => .num x
  | .b x => .num (if x = true then 1 else 0)
  | .s x => .text x
  | .t xs => .tup (nks xs)
  | _ => .none
def nks : List D → List NestedKey
  | [] => []
  | x :: xs => nk x :: nks xs
end
mutual
def nkOk : D → Bool
  | .n => true
  | .i _ => true
  | .b _ => true
  | .s _ => true
  | .t xs => nksOk xs
  | _ => false
def nksOk : List D → Bool
  | [] => true
  | x :: xs => nkOk x && nksOk xs
end
def fkOk (d : D) : Bool := (fk d).isSome
def dkOk : D → Bool
  | .t xs => nksOk xs && decide ((nk (.t xs)).depth ≤ 8)
  | _ => false
/-- an object as it stands -/
def dX (a : Addr) (o : Obj) : HO := .ext fun h => h.get? a = some o
/-- a dict's object: keys and values -/
inductive Lay (C : CK) (o : Obj) (kvs : List (V × V)) (ds : List (D × D)) : Prop
  | flat (es : Array DictEntry) (ep : Nat) (us : List (Key × Value)) : o.ExactDict → o.data = .dict es ep → KeysOf (mixKind C.P C.w) es → Pairs (mixKind C.P C.w) es.toList us → (us.map (·.1)).Nodup →
      Paired (fun (p : V × V) (q : Key × Value) => p.1 = kV q.1 ∧ RelV p.2 q.2) kvs us → ds.map (fun p => fk p.1) = us.map (fun p => some p.1) → Lay C o kvs ds
  | deep (es : Array DictEntry) (ep : Nat) (xs : List (NestedKey × Addr × Value)) : o.ExactDict → o.data = .dict es ep → es.toList = xs.map (entryOfKey (nestedKind C.P C.w)) → (xs.map (·.1)).Nodup →
      Paired (fun (p : V × V) (q : NestedKey × Addr × Value) => p.1 = V.ref q.2.1 ∧ RelV p.2 q.2.2) kvs xs → ds.map (fun p => nk p.1) = xs.map (·.1) → (∀ p ∈ ds, dkOk p.1 = true) → Lay C o kvs ds
def KLst (K : PySem.W.Frag) (a : Addr) (xs : List V) : Prop :=
  ∃ (o : Obj) (its : Array Value) (n : Nat), K.lookup a = some o ∧ o.cls = .type "list" ∧ o.dict = none ∧ o.data = .seq its n ∧ its.size ≤ sizeLine ∧ Vals xs its.toList
def LstAt (K : CK) (H : Hp) (W : Wr) (a : Addr) (xs : List V) : Prop := (W.Fz a ∧ Rd H a (.lst xs)) ∨ KLst K.K a xs
theorem LstAt.sq {K : CK} {H : Hp} {W : Wr} {a : Addr} {xs : List V} (h : LstAt K H W a xs) : SqL K.K H a xs := by
  rcases h with ⟨_, h⟩ | h
  · exact .inl h
  · exact .inr h

mutual
inductive Rep (K : CK) (H : Hp) (W : Wr) : V → D → Prop
  | n : Rep K H W .non .n
  | b (x : Bool) : Rep K H W (.bl x) (.b x)
  | i (x : Int) : Rep K H W (.int x) (.i x)
  | s {x : Str} : x.length ≤ sizeLine → Rep K H W (.str x) (.s x)
  | t {a : Addr} {vs : List V} {ds : List D} : SqT K.K H a vs → vs.length ≤ sizeLine → Reps K H W vs ds → Rep K H W (.ref a) (.t ds)
  | l {a : Addr} {vs : List V} {ds : List D} : W.Fz a → H a = some (.lst vs) → vs.length ≤ sizeLine → Reps K H W vs ds → Rep K H W (.ref a) (.l ds)
  | d {a : Addr} {o : Obj} {kvs : List (V × V)} {ds : List (D × D)} : W.Fz a → H a = some (dX a o) → Lay K o kvs ds → (a == sysModules) = false → ds.length ≤ sizeLine → RepKV K H W kvs ds → Rep K H W (.ref a) (.d ds)
  | p {a : Addr} : W.dA = some a → Rep K H W (.ref a) .p
  | sc {a : Addr} {ns : List Int} : LstAt K H W a (ns.map V.int) → ns.length ≤ 1000 → Rep K H W (.ref a) (.sc ns)
inductive Reps (K : CK) (H : Hp) (W : Wr) : List V → List D → Prop
  | nil : Reps K H W [] []
  | cons {v : V} {d : D} {vs : List V} {ds : List D} : Rep K H W v d → Reps K H W vs ds → Reps K H W (v :: vs) (d :: ds)
inductive RepKV (K : CK) (H : Hp) (W : Wr) : List (V × V) → List (D × D) → Prop
  | nil : RepKV K H W [] []
  | cons {k v : V} {c d : D} {kvs : List (V × V)} {ds : List (D × D)} : Rep K H W k c → Rep K H W v d → RepKV K H W kvs ds → RepKV K H W ((k, v) :: kvs) ((c, d) :: ds)
end

/-- the world goes on -/
structure Le (H : Hp) (W : Wr) (H' : Hp) (W' : Wr) : Prop where
  fz : ∀ a, W.Fz a → W'.Fz a
  tup : ∀ a vs, Rd H a (.tup vs) → Rd H' a (.tup vs)
  rd : ∀ a u, W.Fz a → Rd H a u → Rd H' a u
  lst : ∀ a u, W.Fz a → H a = some u → H' a = some u
  dA : ∀ a, W.dA = some a → W'.dA = some a
theorem Le.refl (H : Hp) (W : Wr) : Le H W H W := ⟨fun _ h => h, fun _ _ h => h, fun _ _ _ h => h, fun _ _ _ h => h, fun _ h => h⟩
theorem Le.trans {H H1 H2 : Hp} {W W1 W2 : Wr} (a : Le H W H1 W1) (b : Le H1 W1 H2 W2) : Le H W H2 W2 :=
  ⟨fun x h => b.fz x (a.fz x h), fun x vs h => b.tup x vs (a.tup x vs h), fun x u f h => b.rd x u (a.fz x f) (a.rd x u f h), fun x vs f h => b.lst x vs (a.fz x f) (a.lst x vs f h), fun x h => b.dA x (a.dA x h)⟩

section
variable {K : CK} {H H' : Hp} {W W' : Wr}
theorem SqT.le {K : PySem.W.Frag} {a : Addr} {vs : List V} (l : Le H W H' W') (h : SqT K H a vs) : SqT K H' a vs := by
  rcases h with h | h
  · exact .inl (l.tup _ _ h)
  · exact .inr h
theorem LstAt.le {a : Addr} {vs : List V} (l : Le H W H' W') (h : LstAt K H W a vs) : LstAt K H' W' a vs := by
  rcases h with ⟨f, h⟩ | h
  · exact .inl ⟨l.fz _ f, l.rd _ _ f h⟩
  · exact .inr h
mutual
theorem Rep.le (l : Le H W H' W') : ∀ {v : V} {d : D}, Rep K H W v d → Rep K H' W' v d
  | _, _, .n => .n
  | _, _, .b x => .b x
  | _, _, .i x => .i x
  | _, _, .s z => .s z
  | _, _, .t h z r => .t (SqT.le l h) z (Reps.le l r)
  | _, _, .l f h z r => .l (l.fz _ f) (l.lst _ _ f h) z (Reps.le l r)
  | _, _, .d f h y z q r => .d (l.fz _ f) (l.lst _ _ f h) y z q (RepKV.le l r)
  | _, _, .p h => .p (l.dA _ h)
  | _, _, .sc h z => .sc (LstAt.le l h) z
theorem Reps.le (l : Le H W H' W') : ∀ {vs : List V} {ds : List D}, Reps K H W vs ds → Reps K H' W' vs ds
  | _, _, .nil => .nil
  | _, _, .cons r t => .cons (Rep.le l r) (Reps.le l t)
theorem RepKV.le (l : Le H W H' W') : ∀ {vs : List (V × V)} {ds : List (D × D)}, RepKV K H W vs ds → RepKV K H' W' vs ds
  | _, _, .nil => .nil
  | _, _, .cons q r t => .cons (Rep.le l q) (Rep.le l r) (RepKV.le l t)
end
theorem Reps.length : ∀ {vs : List V} {ds : List D}, Reps K H W vs ds → vs.length = ds.length
  | _, _, .nil => rfl
  | _, _, .cons _ t => by rw [List.length_cons, List.length_cons, Reps.length t]
theorem Reps.append : ∀ {vs us : List V} {ds es : List D}, Reps K H W vs ds → Reps K H W us es → Reps K H W (vs ++ us) (ds ++ es)
  | _, _, _, _, .nil, s => s
  | _, _, _, _, .cons r t, s => .cons r (Reps.append t s)
theorem Reps.get : ∀ {vs : List V} {ds : List D} {i : Nat} {d : D}, Reps K H W vs ds → ds[i]? = some d → ∃ v, vs[i]? = some v ∧ Rep K H W v d
  | _, _, _, _, .nil, e => by simp at e
  | _, _, 0, _, .cons r _, e => by simp at e; subst e; exact ⟨_, rfl, r⟩
  | _, _, i + 1, d, .cons _ t, e => by
    obtain ⟨v, h1, h2⟩ := Reps.get (i := i) (d := d) t (by simpa using e)
    exact ⟨v, by simpa using h1, h2⟩
theorem Reps.getV : ∀ {vs : List V} {ds : List D} {i : Nat} {v : V}, Reps K H W vs ds → vs[i]? = some v → ∃ d, ds[i]? = some d ∧ Rep K H W v d
  | _, _, _, _, .nil, e => by simp at e
  | _, _, 0, _, .cons r _, e => by simp at e; subst e; exact ⟨_, rfl, r⟩
  | _, _, i + 1, d, .cons _ t, e => by
    obtain ⟨v, h1, h2⟩ := Reps.getV (i := i) (v := d) t (by simpa using e)
    exact ⟨v, by simpa using h1, h2⟩
theorem Reps.take : ∀ {vs : List V} {ds : List D} (n : Nat), Reps K H W vs ds → Reps K H W (vs.take n) (ds.take n)
  | _, _, 0, _ => .nil
  | _, _, _ + 1, .nil => .nil
  | _, _, n + 1, .cons r t => .cons r (Reps.take n t)
theorem Reps.drop : ∀ {vs : List V} {ds : List D} (n : Nat), Reps K H W vs ds → Reps K H W (vs.drop n) (ds.drop n)
  | _, _, 0, r => r
  | _, _, _ + 1, .nil => .nil
  | _, _, n + 1, .cons _ t => Reps.drop n t
theorem Reps.set : ∀ {vs : List V} {ds : List D} {v : V} {d : D} (i : Nat), Rep K H W v d → Reps K H W vs ds → Reps K H W (vs.set i v) (ds.set i d)
  | _, _, _, _, _, _, .nil => .nil
  | _, _, _, _, 0, r, .cons _ t => .cons r t
  | _, _, _, _, i + 1, r, .cons q t => .cons q (Reps.set i r t)
theorem Reps.reverse : ∀ {vs : List V} {ds : List D}, Reps K H W vs ds → Reps K H W vs.reverse ds.reverse
  | _, _, .nil => .nil
  | _, _, .cons r t => by
    rw [List.reverse_cons, List.reverse_cons]
    exact Reps.append (Reps.reverse t) (.cons r .nil)
theorem Reps.ints : ∀ {vs : List V} {ns : List Int}, Reps K H W vs (ns.map D.i) → vs = ns.map V.int
  | _, [], .nil => rfl
  | _, n :: ns, .cons (.i _) t => by rw [List.map_cons, Reps.ints t]
theorem Reps.bools : ∀ {vs : List V} {ns : List Bool}, Reps K H W vs (ns.map D.b) → vs = ns.map V.bl
  | _, [], .nil => rfl
  | _, n :: ns, .cons (.b _) t => by rw [List.map_cons, Reps.bools t]
theorem Reps.strs : ∀ {vs : List V} {ns : List Str}, Reps K H W vs (ns.map D.s) → vs = ns.map V.str
  | _, [], .nil => rfl
  | _, n :: ns, .cons (.s _) t => by rw [List.map_cons, Reps.strs t]
theorem Reps.of_ints : ∀ (ns : List Int), Reps K H W (ns.map V.int) (ns.map D.i)
  | [] => .nil
  | n :: ns => .cons (.i n) (Reps.of_ints ns)
end

/-- what the drawing list looks like -/
def DrawAt (K : CK) (H : Hp) (W : Wr) (a : Addr) (x : DSt) : Prop :=
  ∃ sA, H a = some (.lst [.ref sA, .int (x.pos : Int), .int x.rest, .int x.seed]) ∧ W.Fz sA ∧ H sA = some (.lst (x.sc.map V.int)) ∧ x.sc.length ≤ 1000
/-- what belongs to an owner at a -/
def OwnAt (K : CK) (H : Hp) (W : Wr) (a : Addr) : D → Prop
  | .l ds => ∃ vs, H a = some (.lst vs) ∧ vs.length ≤ sizeLine ∧ Reps K H W vs ds
  | .d ds => ∃ o, H a = some (dX a o) ∧ ∃ kvs, Lay K o kvs ds ∧ (a == sysModules) = false ∧ ds.length ≤ sizeLine ∧ RepKV K H W kvs ds
  | _ => False
/-- the world is as it should be, outside of the slots -/
structure G0 (K : CK) (H : Hp) (W : Wr) (w : Option DSt) : Prop where
  frk : ∀ p ∈ W.fr, H p.1 = some p.2 ∧ ¬ W.Fz p.1 ∧ W.dA ≠ some p.1
  drw : match w, W.dA with
    | none, none => True
    | some x, some a => DrawAt K H W a x ∧ ¬ W.Fz a
    | _, _ => False
  fz : ∀ a, W.Fz a → H a ≠ none
  nd : (W.fr.map Prod.fst).Nodup
structure Good (K : CK) (H : Hp) (W : Wr) (S : Se) (σ : L2.St) : Prop where
  g0 : G0 K H W S.w
  len : S.sl.length = σ.length
  val : ∀ (i : Nat) (d : D), S.sl[i]? = some (some (Sl.v d)) → ∃ v, σ[i]? = some (some v) ∧ Rep K H W v d
  own : ∀ (i : Nat) (d : D), S.sl[i]? = some (some (Sl.o d)) → ∃ a, σ[i]? = some (some (V.ref a)) ∧ OwnAt K H W a d ∧ ¬ W.Fz a ∧ (∀ p ∈ W.fr, p.1 ≠ a) ∧ W.dA ≠ some a
  dis : ∀ (i j : Nat) (d e : D), i ≠ j → S.sl[i]? = some (some (Sl.o d)) → S.sl[j]? = some (some (Sl.o e)) → σ[i]? ≠ σ[j]?

def Wr.add (W : Wr) (p : Addr) : Wr := { W with Fz := fun a => a = p ∨ W.Fz a }
section
variable {K : CK} {H H' : Hp} {W W' : Wr} {S : Se} {σ : L2.St}
theorem OwnAt.some {a : Addr} {d : D} (h : OwnAt K H W a d) : ∃ o, H a = some o ∧ Mut (some o) := by
  cases d <;> first | exact h.elim | (obtain ⟨_, e, _⟩ := h; exact ⟨_, e, trivial⟩)
theorem Rd.some' {a : Addr} {u : HO} (h : Rd H a u) : H a ≠ none := by
  rcases h with h | ⟨o, h⟩ <;> rw [h] <;> exact fun z => nomatch z
/-- a new object is laid: all that was tracked stays -/
theorem Le.new {p : Addr} {o : HO} (hp : H p = none) : Le H W (upd H p o) (W.add p) := by
  have ne : ∀ a u, Rd H a u → a ≠ p := fun a u h z => Rd.some' h (z ▸ hp)
  refine ⟨fun a h => .inr h, fun a vs h => ?_, fun a u _ h => ?_, fun a vs _ h => by rw [upd_ne (ne_of_none h hp)]; exact h, fun _ h => h⟩
  · have q := ne a _ h
    rcases h with h | ⟨o', h⟩
    · exact .inl (by rw [upd_ne q]; exact h)
    · exact .inr ⟨o', by rw [upd_ne q]; exact h⟩
  · have q := ne a _ h
    rcases h with h | ⟨o', h⟩
    · exact .inl (by rw [upd_ne q]; exact h)
    · exact .inr ⟨o', by rw [upd_ne q]; exact h⟩
/-- .. not frozen: its maker owns it -/
theorem Le.new0 {p : Addr} {o : HO} (hp : H p = none) : Le H W (upd H p o) W := by
  have ne : ∀ a u, Rd H a u → a ≠ p := fun a u h z => Rd.some' h (z ▸ hp)
  refine ⟨fun a h => h, fun a vs h => ?_, fun a u _ h => ?_, fun a vs _ h => by rw [upd_ne (ne_of_none h hp)]; exact h, fun _ h => h⟩
  · have q := ne a _ h
    rcases h with h | ⟨o', h⟩
    · exact .inl (by rw [upd_ne q]; exact h)
    · exact .inr ⟨o', by rw [upd_ne q]; exact h⟩
  · have q := ne a _ h
    rcases h with h | ⟨o', h⟩
    · exact .inl (by rw [upd_ne q]; exact h)
    · exact .inr ⟨o', by rw [upd_ne q]; exact h⟩
end
end PD

/-! PdB: expressions over data. -/
namespace PD
open PySem PySem.Spec L2

/-- slots only freeze -/
def SLe (S S' : Se) : Prop := ∀ (i : Nat) (d : D), S.sl[i]? = some (some (Sl.o d)) → S'.sl[i]? = some (some (Sl.o d)) ∨ S'.sl[i]? = some (some (Sl.v d))
theorem SLe.refl (S : Se) : SLe S S := fun _ _ h => .inl h
/-- what an operand stands for: shared data, or what a slot owns -/
def RepB (K : CK) (H : Hp) (W : Wr) (S : Se) (σ : L2.St) (v : V) (d : D) : Prop :=
  Rep K H W v d ∨ ∃ i : Nat, S.sl[i]? = some (some (Sl.o d)) ∧ σ[i]? = some (some v)
inductive RepBs (K : CK) (H : Hp) (W : Wr) (S : Se) (σ : L2.St) : List V → List D → Prop
  | nil : RepBs K H W S σ [] []
  | cons {v : V} {d : D} {vs : List V} {ds : List D} : RepB K H W S σ v d → RepBs K H W S σ vs ds → RepBs K H W S σ (v :: vs) (d :: ds)
section
variable {K : CK} {H H' : Hp} {W W' : Wr} {S S' : Se} {σ : L2.St}
theorem RepB.go {v : V} {d : D} (l : Le H W H' W') (sl : SLe S S') (G : Good K H' W' S' σ) (r : RepB K H W S σ v d) : RepB K H' W' S' σ v d := by
  rcases r with r | ⟨i, e, q⟩
  · exact .inl (r.le l)
  · rcases sl i d e with e' | e'
    · exact .inr ⟨i, e', q⟩
    · obtain ⟨v', q', r'⟩ := G.val i d e'
      rw [q] at q'
      cases q'
      exact .inl r'
/-- its list, whoever owns it -/
theorem RepB.lst {v : V} {ds : List D} (G : Good K H W S σ) (r : RepB K H W S σ v (.l ds)) : ∃ a vs, v = .ref a ∧ H a = some (.lst vs) ∧ vs.length ≤ sizeLine ∧ Reps K H W vs ds := by
  rcases r with r | ⟨i, e, q⟩
  · cases r with
    | l f h z r => exact ⟨_, _, rfl, h, z, r⟩
  · obtain ⟨a, q', ⟨vs, h, z, r⟩, _⟩ := G.own i _ e
    rw [q] at q'
    cases q'
    exact ⟨a, vs, rfl, h, z, r⟩
theorem RepB.tup {v : V} {ds : List D} (G : Good K H W S σ) (r : RepB K H W S σ v (.t ds)) : ∃ a vs, v = .ref a ∧ SqT K.K H a vs ∧ vs.length ≤ sizeLine ∧ Reps K H W vs ds ∧ Rep K H W v (.t ds) := by
  rcases r with r | ⟨i, e, q⟩
  · have r' := r
    cases r with
    | t h z r => exact ⟨_, _, rfl, h, z, r, r'⟩
  · obtain ⟨a, q', o, _⟩ := G.own i _ e
    exact o.elim
theorem RepB.dic {v : V} {ds : List (D × D)} (G : Good K H W S σ) (r : RepB K H W S σ v (.d ds)) : ∃ a o kvs, v = .ref a ∧ H a = some (dX a o) ∧ Lay K o kvs ds ∧ (a == sysModules) = false ∧ ds.length ≤ sizeLine ∧ RepKV K H W kvs ds := by
  rcases r with r | ⟨i, e, q⟩
  · cases r with
    | d f h y z q r => exact ⟨_, _, _, rfl, h, y, z, q, r⟩
  · obtain ⟨a, q', ⟨o, h, vs, y, z, q2, r⟩, _⟩ := G.own i _ e
    rw [q] at q'
    cases q'
    exact ⟨a, o, vs, rfl, h, y, z, q2, r⟩
theorem RepB.int {v : V} {x : Int} (G : Good K H W S σ) (r : RepB K H W S σ v (.i x)) : v = .int x := by
  rcases r with r | ⟨i, e, q⟩
  · cases r; rfl
  · obtain ⟨a, q', o, _⟩ := G.own i _ e
    exact o.elim
theorem RepB.str {v : V} {x : Str} (G : Good K H W S σ) (r : RepB K H W S σ v (.s x)) : v = .str x ∧ x.length ≤ sizeLine := by
  rcases r with r | ⟨i, e, q⟩
  · cases r with
    | s z => exact ⟨rfl, z⟩
  · obtain ⟨a, q', o, _⟩ := G.own i _ e
    exact o.elim
theorem RepB.bl {v : V} {x : Bool} (G : Good K H W S σ) (r : RepB K H W S σ v (.b x)) : v = .bl x := by
  rcases r with r | ⟨i, e, q⟩
  · cases r; rfl
  · obtain ⟨a, q', o, _⟩ := G.own i _ e
    exact o.elim
theorem RepB.non {v : V} (G : Good K H W S σ) (r : RepB K H W S σ v .n) : v = .non := by
  rcases r with r | ⟨i, e, q⟩
  · cases r; rfl
  · obtain ⟨a, q', o, _⟩ := G.own i _ e
    exact o.elim
theorem RepBs.go : ∀ {vs : List V} {ds : List D}, Le H W H' W' → SLe S S' → Good K H' W' S' σ → RepBs K H W S σ vs ds → RepBs K H' W' S' σ vs ds
  | _, _, _, _, _, .nil => .nil
  | _, _, l, s, G, .cons r t => .cons (r.go l s G) (RepBs.go l s G t)
theorem RepBs.of : ∀ {vs : List V} {ds : List D}, Reps K H W vs ds → RepBs K H W S σ vs ds
  | _, _, .nil => .nil
  | _, _, .cons r t => .cons (.inl r) (RepBs.of t)
theorem SLe.trans {S1 S2 : Se} {H1 : Hp} {W1 : Wr} (a : SLe S S1) (b : SLe S1 S2) (c : ∀ (i : Nat) d, S1.sl[i]? = some (some (Sl.v d)) → S2.sl[i]? = some (some (Sl.v d))) : SLe S S2 := fun i d e => by
  rcases a i d e with h | h
  · exact b i d h
  · exact .inr (c i d h)
end
/-- a step of a body's state within an expression -/
structure Go (K : CK) (σ : L2.St) (H : Hp) (W : Wr) (S : Se) (H' : Hp) (W' : Wr) (S' : Se) : Prop where
  le : Le H W H' W'
  fr : W'.fr = W.fr
  sl : SLe S S'
  keep : ∀ (i : Nat) (d : D), S.sl[i]? = some (some (Sl.v d)) → S'.sl[i]? = some (some (Sl.v d))
  G : Good K H' W' S' σ
theorem Go.refl {K : CK} {σ : L2.St} {H : Hp} {W : Wr} {S : Se} (G : Good K H W S σ) : Go K σ H W S H W S := ⟨Le.refl _ _, rfl, SLe.refl _, fun _ _ h => h, G⟩
theorem Go.trans {K : CK} {σ : L2.St} {H H1 H2 : Hp} {W W1 W2 : Wr} {S S1 S2 : Se} (a : Go K σ H W S H1 W1 S1) (b : Go K σ H1 W1 S1 H2 W2 S2) : Go K σ H W S H2 W2 S2 :=
  ⟨a.le.trans b.le, b.fr.trans a.fr, SLe.trans (H1 := H1) (W1 := W1) a.sl b.sl b.keep, fun i d h => b.keep i d (a.keep i d h), b.G⟩

abbrev Fe := Se → Option (D × Se)
abbrev Fb := Se → Option (Bool × Se)
abbrev Fs := Se → Option (List D × Se)
def tD (K : CK) (f : Fe) : TE := fun σ H Q => ∃ W S d S', Good K H W S σ ∧ f S = some (d, S') ∧ ∀ v H' W', Go K σ H W S H' W' S' → Rep K H' W' v d → Q v H'
def tO (K : CK) (f : Fe) : TE := fun σ H Q => ∃ W S d S', Good K H W S σ ∧ f S = some (d, S') ∧ ∀ v H' W', Go K σ H W S H' W' S' → RepB K H' W' S' σ v d → Q v H'
def tT (K : CK) (f : Fb) : TT := fun σ H Q => ∃ W S b S', Good K H W S σ ∧ f S = some (b, S') ∧ ∀ H' W', Go K σ H W S H' W' S' → Q b H'
def tDs (K : CK) (f : Fs) : TA := fun σ H Q => ∃ W S ds S', Good K H W S σ ∧ f S = some (ds, S') ∧ ∀ vs H' W', Go K σ H W S H' W' S' → Reps K H' W' vs ds → Q vs H'
def tOs (K : CK) (f : Fs) : TA := fun σ H Q => ∃ W S ds S', Good K H W S σ ∧ f S = some (ds, S') ∧ ∀ vs H' W', Go K σ H W S H' W' S' → RepBs K H' W' S' σ vs ds → Q vs H'
/-- an expression whose value may be shared; an operand (that is only looked at); a test; arguments -/
abbrev PDe (X : Cx) (e : Expr) (f : Fe) : Prop := PE X e (tD X.kk f)
abbrev PDo (X : Cx) (e : Expr) (f : Fe) : Prop := PE X e (tO X.kk f)
abbrev PDt (X : Cx) (e : Expr) (f : Fb) : Prop := PT X e (tT X.kk f)
abbrev PDs (X : Cx) (es : List Expr) (f : Fs) : Prop := PA X es (tDs X.kk f)
abbrev PDos (X : Cx) (es : List Expr) (f : Fs) : Prop := PA X es (tOs X.kk f)

theorem PE.imp {X : Cx} {e : Expr} {t t' : TE} (h : PE X e t) (i : ∀ σ H Q, t' σ H Q → t σ H Q) : PE X e t' := ⟨fun pins s σ H Q I q => h.run pins s σ H Q I (i _ _ _ q)⟩
theorem PT.imp {X : Cx} {e : Expr} {t t' : TT} (h : PT X e t) (i : ∀ σ H Q, t' σ H Q → t σ H Q) : PT X e t' := ⟨fun pins s σ H Q I q => h.run pins s σ H Q I (i _ _ _ q)⟩
theorem PW.imp {X : Cx} {e : Expr} {t t' : TT} (h : PW X e t) (i : ∀ σ H Q, t' σ H Q → t σ H Q) : PW X e t' := ⟨fun wh pins s σ H Q I q => h.run wh pins s σ H Q I (i _ _ _ q)⟩
theorem PA.imp {X : Cx} {es : List Expr} {t t' : TA} (h : PA X es t) (i : ∀ σ H Q, t' σ H Q → t σ H Q) : PA X es t' := ⟨fun pos pins s σ H Q I q => h.run pos pins s σ H Q I (i _ _ _ q)⟩
/-- what may be shared may be looked at -/
theorem pdo {X : Cx} {e : Expr} {f : Fe} (h : PDe X e f) : PDo X e f := PE.imp h fun _ _ _ ⟨W, S, d, S', G, e, q⟩ => ⟨W, S, d, S', G, e, fun v H' W' g r => q v H' W' g (.inl r)⟩

/-! ### names and constants -/
def fC (d : D) : Fe := fun S => some (d, S)
def fV (i : Nat) : Fe := fun S => match S.sl[i]? with
  | some (some (Sl.v d)) => some (d, S)
  | _ => none
/-- what the slot owns, looked at -/
def fO (i : Nat) : Fe := fun S => match S.sl[i]? with
  | some (some (Sl.o d)) => some (d, S)
  | _ => none
/-- what the slot owns, given away: frozen from now on -/
def fZ (i : Nat) : Fe := fun S => match S.sl[i]? with
  | some (some (Sl.o d)) => some (d, { S with sl := S.sl.set i (some (Sl.v d)) })
  | _ => none
section
variable {X : Cx}
theorem pd_v (i : Nat) {x : Str} {pos : Pos} (hN : X.N[i]? = some x := by rfl) (hv : Vis X.env.scope x := by first | exact Or.inl rfl | exact Or.inr (Or.inl rfl) | exact Or.inr (Or.inr rfl)) (hd : (x == ("__debug__" : Str)) = false := by decide)
    (hcd : (x == ("__classdict__" : Str)) = false := by decide) : PDe X (.Name x pos) (fV i) := PE.imp (pe_var hN hv hd hcd) fun σ H Q ⟨W, S, d, S', G, e, q⟩ => by
  unfold fV at e
  split at e
  · rename_i d' e'
    cases e
    obtain ⟨v, ev, r⟩ := G.val i _ e'
    exact ⟨v, ev, q v H W (Go.refl G) r⟩
  · cases e
theorem pd_o (i : Nat) {x : Str} {pos : Pos} (hN : X.N[i]? = some x := by rfl) (hv : Vis X.env.scope x := by first | exact Or.inl rfl | exact Or.inr (Or.inl rfl) | exact Or.inr (Or.inr rfl)) (hd : (x == ("__debug__" : Str)) = false := by decide)
    (hcd : (x == ("__classdict__" : Str)) = false := by decide) : PDo X (.Name x pos) (fO i) := PE.imp (pe_var hN hv hd hcd) fun σ H Q ⟨W, S, d, S', G, e, q⟩ => by
  unfold fO at e
  split at e
  · rename_i d' e'
    cases e
    obtain ⟨a, ev, _⟩ := G.own i _ e'
    exact ⟨_, ev, q _ H W (Go.refl G) (.inr ⟨i, e', ev⟩)⟩
  · cases e
end
/-- an owner's object is frozen -/
theorem Good.freeze {K : CK} {H : Hp} {W : Wr} {S : Se} {σ : L2.St} {i : Nat} {d : D} {a : Addr} (G : Good K H W S σ) (e : S.sl[i]? = some (some (Sl.o d))) (ev : σ[i]? = some (some (V.ref a))) :
    Go K σ H W S H (W.add a) { S with sl := S.sl.set i (some (Sl.v d)) } ∧ Rep K H (W.add a) (.ref a) d := by
  obtain ⟨a', ev', ow, nf, nr, nd⟩ := G.own i d e
  rw [ev] at ev'
  cases ev'
  have hi : i < S.sl.length := by
    rcases Nat.lt_or_ge i S.sl.length with h | h
    · exact h
    · rw [List.getElem?_eq_none h] at e; cases e
  have l : Le H W H (W.add a) := ⟨fun _ h => .inr h, fun _ _ h => h, fun _ _ _ h => h, fun _ _ _ h => h, fun _ h => h⟩
  have hr : Rep K H (W.add a) (.ref a) d := by
    cases d with
    | l ds => obtain ⟨vs, h, z, r⟩ := ow; exact .l (.inl rfl) h z (r.le l)
    | d ds => obtain ⟨o, h, kvs, y, z, q, r⟩ := ow; exact .d (.inl rfl) h y z q (r.le l)
    | _ => exact ow.elim
  have at_ : ∀ (j : Nat) x, (S.sl.set i (some (Sl.v d)))[j]? = some (some x) → (j = i ∧ x = Sl.v d) ∨ (j ≠ i ∧ S.sl[j]? = some (some x)) := fun j x h => by
    by_cases hj : j = i
    · subst hj
      rw [List.getElem?_set_self hi] at h
      cases h
      exact .inl ⟨rfl, rfl⟩
    · rw [List.getElem?_set_ne (Ne.symm hj)] at h
      exact .inr ⟨hj, h⟩
  have put : ∀ (j : Nat) x, j ≠ i → S.sl[j]? = some (some x) → (S.sl.set i (some (Sl.v d)))[j]? = some (some x) := fun j x n h => by
    rw [List.getElem?_set_ne (Ne.symm n)]; exact h
  refine ⟨⟨l, rfl, fun j x h => ?_, fun j x h => ?_, ⟨⟨fun p hp => ?_, ?_, fun b hb => ?_, G.g0.nd⟩, ?_, fun j x h => ?_, fun j x h => ?_, fun j k x y n h1 h2 => ?_⟩⟩, hr⟩
  · by_cases hj : j = i
    · subst hj
      rw [e] at h; cases h
      exact .inr (List.getElem?_set_self hi)
    · exact .inl (put j _ hj h)
  · by_cases hj : j = i
    · subst hj
      rw [e] at h; cases h
    · exact put j _ hj h
  · obtain ⟨e1, n1, d1⟩ := G.g0.frk p hp
    exact ⟨e1, fun z => z.elim (nr p hp) n1, d1⟩
  · have h := G.g0.drw
    show match S.w, W.dA with | none, none => True | some x, some b => DrawAt K H (W.add a) b x ∧ ¬ (b = a ∨ W.Fz b) | _, _ => False
    revert h
    cases S.w with
    | none => cases W.dA <;> exact fun h => h
    | some x =>
      cases q : W.dA with
      | none => exact fun h => h
      | some b =>
        rintro ⟨⟨sA, e1, e2, e2', e3⟩, n⟩
        exact ⟨⟨sA, e1, l.fz _ e2, l.lst _ _ e2 e2', e3⟩, fun z => z.elim (fun z => nd (by rw [q, z])) n⟩
  · rcases hb with rfl | hb
    · obtain ⟨o, q, _⟩ := OwnAt.some ow
      rw [q]; exact fun z => nomatch z
    · exact G.g0.fz b hb
  · show (S.sl.set i _).length = _
    rw [List.length_set]
    exact G.len
  · have h : (S.sl.set i (some (Sl.v d)))[j]? = some (some (Sl.v x)) := h
    rcases at_ j _ h with ⟨e', h3⟩ | ⟨n, h⟩
    · subst e'
      injection h3 with h3
      subst h3
      exact ⟨_, ev, hr⟩
    · obtain ⟨v, q, r⟩ := G.val j x h
      exact ⟨v, q, r.le l⟩
  · have h : (S.sl.set i (some (Sl.v d)))[j]? = some (some (Sl.o x)) := h
    rcases at_ j _ h with ⟨e', h⟩ | ⟨n, h⟩
    · exact Sl.noConfusion h
    · obtain ⟨b, q, o, f1, f2, f3⟩ := G.own j x h
      refine ⟨b, q, ?_, fun z => z.elim (fun z => ?_) f1, f2, f3⟩
      · cases x with
        | l ds => obtain ⟨vs, h, z, r⟩ := o; exact ⟨vs, h, z, r.le l⟩
        | d ds => obtain ⟨ob, h, kvs, y, z, q, r⟩ := o; exact ⟨ob, h, kvs, y, z, q, r.le l⟩
        | _ => exact o.elim
      · exact G.dis j i x d n h e (by rw [q, ev, z])
  · have h1 : (S.sl.set i (some (Sl.v d)))[j]? = some (some (Sl.o x)) := h1
    have h2 : (S.sl.set i (some (Sl.v d)))[k]? = some (some (Sl.o y)) := h2
    rcases at_ j _ h1 with ⟨e', h1⟩ | ⟨n1, h1⟩
    · exact Sl.noConfusion h1
    · rcases at_ k _ h2 with ⟨e', h2⟩ | ⟨n2, h2⟩
      · exact Sl.noConfusion h2
      · exact G.dis j k x y n h1 h2
section
variable {X : Cx}
theorem pd_z (i : Nat) {x : Str} {pos : Pos} (hN : X.N[i]? = some x := by rfl) (hv : Vis X.env.scope x := by first | exact Or.inl rfl | exact Or.inr (Or.inl rfl) | exact Or.inr (Or.inr rfl)) (hd : (x == ("__debug__" : Str)) = false := by decide)
    (hcd : (x == ("__classdict__" : Str)) = false := by decide) : PDe X (.Name x pos) (fZ i) := PE.imp (pe_var hN hv hd hcd) fun σ H Q ⟨W, S, d, S', G, e, q⟩ => by
  unfold fZ at e
  split at e
  · rename_i d' e'
    cases e
    obtain ⟨a, ev, _⟩ := G.own i _ e'
    obtain ⟨g, r⟩ := G.freeze e' ev
    exact ⟨_, ev, q _ H _ g r⟩
  · cases e
theorem pd_c {e : Expr} {v : V} {d : D} (h : PE X e (tC v)) (r : ∀ H W, Rep X.kk H W v d) : PDe X e (fC d) := PE.imp h fun σ H Q ⟨W, S, d', S', G, e, q⟩ => by
  cases e
  exact q v H W (Go.refl G) (r H W)
theorem pd_int {i : Int} {j : Nat} {pos : Pos} : PDe X (.Constant (.int i) j pos) (fC (.i i)) := pd_c pe_int fun _ _ => .i i
theorem pd_bl {b : Bool} {j : Nat} {pos : Pos} : PDe X (.Constant (.bool b) j pos) (fC (.b b)) := pd_c pe_bl fun _ _ => .b b
theorem pd_non {j : Nat} {pos : Pos} : PDe X (.Constant .none j pos) (fC .n) := pd_c pe_non fun _ _ => .n
theorem pd_str {x : Str} {j : Nat} {pos : Pos} (h : x.length ≤ sizeLine := by decide +kernel) : PDe X (.Constant (.str x) j pos) (fC (.s x)) := pd_c pe_str fun _ _ => .s h
end

/-! ### operators -/
abbrev M1 := D → Option D
abbrev M2 := D → D → Option D
def rO2 (K : CK) (m : M2) : R2 := fun x y H Q => ∃ W S σ dx dy d, Good K H W S σ ∧ RepB K H W S σ x dx ∧ RepB K H W S σ y dy ∧ m dx dy = some d ∧
  ∀ v H' W', Go K σ H W S H' W' S → Rep K H' W' v d → Q v H'
def rO1 (K : CK) (m : M1) : V → Hp → VK → Prop := fun x H Q => ∃ W S σ dx d, Good K H W S σ ∧ RepB K H W S σ x dx ∧ m dx = some d ∧
  ∀ v H' W', Go K σ H W S H' W' S → Rep K H' W' v d → Q v H'
def fOp (m : M2) (a b : Fe) : Fe := fun S => (a S).bind fun p => (b p.2).bind fun q => (m p.1 q.1).map fun z => (z, q.2)
def fUn (m : M1) (a : Fe) : Fe := fun S => (a S).bind fun p => (m p.1).map fun z => (z, p.2)
theorem bind_some {α β : Type} {x : Option α} {f : α → Option β} {b : β} (h : x.bind f = some b) : ∃ a, x = some a ∧ f a = some b := by
  cases x with
  | none => cases h
  | some a => exact ⟨a, rfl, h⟩
theorem map_some {α β : Type} {x : Option α} {f : α → β} {b : β} (h : x.map f = some b) : ∃ a, x = some a ∧ f a = b := by
  cases x with
  | none => cases h
  | some a => exact ⟨a, rfl, Option.some.inj h⟩
theorem tOp_of {K : CK} {m : M2} {fa fb : Fe} {σ : L2.St} {H : Hp} {Q : VK} (h : tD K (fOp m fa fb) σ H Q) : tOp (rO2 K m) (tO K fa) (tO K fb) σ H Q := by
  obtain ⟨W, S, d, S', G, e, q⟩ := h
  obtain ⟨⟨x, S1⟩, e1, e⟩ := bind_some e
  obtain ⟨⟨y, S2⟩, e2, e⟩ := bind_some e
  obtain ⟨z, e3, e⟩ := map_some e
  cases e
  refine ⟨W, S, x, S1, G, e1, fun v H1 W1 g1 r1 => ⟨W1, S1, y, S2, g1.G, e2, fun u H2 W2 g2 r2 => ⟨W2, S2, σ, x, y, d, g2.G, r1.go g2.le g2.sl g2.G, r2, e3, fun w H3 W3 g3 r3 => ?_⟩⟩⟩
  exact q w H3 W3 ((g1.trans g2).trans g3) r3
section
variable {X : Cx} {a b c : Expr} {fa fb fc : Fe} {pos : Pos}
theorem pd_op {op : Operator} {m : M2} (ho : OpR X (binaryOp op) (rO2 X.kk m)) (ha : PDo X a fa) (hb : PDo X b fb) : PDe X (.BinOp a op b pos) (fOp m fa fb) :=
  PE.imp (pe_op ho ha hb) fun _ _ _ h => tOp_of h
theorem pd_cmp {op : CmpOp} {m : M2} (ho : OpR X (compareOp op) (rO2 X.kk m)) (ha : PDo X a fa) (hb : PDo X b fb) (hm : behindInMarks op b = false := by first | exact nobehind _ (by decide) (by decide) | rfl) : PDe X (.Compare a [op] [b] pos) (fOp m fa fb) :=
  PE.imp (pe_cmpR ho ha hb hm) fun _ _ _ h => tOp_of h
theorem pd_un {op : UnaryOp} {m : M1} (ho : UnR X (unaryOp op) (rO1 X.kk m)) (ha : PDo X a fa) : PDe X (.UnaryOp op a pos) (fUn m fa) :=
  PE.imp (pe_un ho ha) fun σ H Q ⟨W, S, d, S', G, e, q⟩ => by
    obtain ⟨⟨x, S1⟩, e1, e⟩ := bind_some e
    obtain ⟨z, e3, e⟩ := map_some e
    cases e
    exact ⟨W, S, x, S1, G, e1, fun v H1 W1 g1 r1 => ⟨W1, S1, σ, x, d, g1.G, r1, e3, fun w H3 W3 g3 r3 => q w H3 W3 (g1.trans g3) r3⟩⟩
/-- a truth value as a test -/
def fTst (f : Fe) : Fb := fun S => (f S).bind fun p => match p.1 with
  | .b k => some (k, p.2)
  | _ => none
theorem fTst_some {f : Fe} {S S' : Se} {k : Bool} (h : fTst f S = some (k, S')) : f S = some (.b k, S') := by
  unfold fTst at h
  obtain ⟨⟨d, S1⟩, e1, e⟩ := bind_some h
  cases d with
  | b x =>
    have e' : some (x, S1) = some (k, S') := e
    injection e' with e'
    injection e' with e2 e3
    rw [e1, e2, e3]
  | _ => cases e
theorem pt_c {op : CmpOp} {m : M2} (ho : OpR X (compareOp op) (rO2 X.kk m)) (ha : PDo X a fa) (hb : PDo X b fb) (hm : behindInMarks op b = false := by first | exact nobehind _ (by decide) (by decide) | rfl) : PDt X (.Compare a [op] [b] pos) (fTst (fOp m fa fb)) :=
  PT.imp (pt_cmpR ho ha hb hm) fun σ H Q ⟨W, S, k, S', G, e, q⟩ => tOp_of ⟨W, S, _, S', G, fTst_some e, fun v H' W' g r => by
    cases r
    exact ⟨k, rfl, q H' W' g⟩⟩
theorem pt_v {e : Expr} {f : Fe} (h : PDe X e f) (he : ∀ whole, isTrue e X.env whole = (do let v ← whole; standAt e.pos; holding [v] (truthy v)) := by intro _; rfl) : PDt X e (fTst f) :=
  PT.imp (pt_val h he) fun σ H Q ⟨W, S, k, S', G, e, q⟩ => ⟨W, S, _, S', G, fTst_some e, fun v H' W' g r => by
    cases r
    exact ⟨k, rfl, q H' W' g⟩⟩
def fNot (f : Fb) : Fb := fun S => (f S).map fun p => (!p.1, p.2)
def fAnd (f g : Fb) : Fb := fun S => (f S).bind fun p => if p.1 = true then g p.2 else some (false, p.2)
def fOr (f g : Fb) : Fb := fun S => (f S).bind fun p => if p.1 = true then some (true, p.2) else g p.2
theorem pd_not {f : Fb} (h : PDt X a f) : PDt X (.UnaryOp .Not a pos) (fNot f) :=
  PT.imp (pt_not h) fun σ H Q ⟨W, S, k, S', G, e, q⟩ => by
    obtain ⟨⟨c, S1⟩, e1, e⟩ := map_some e
    cases e
    exact ⟨W, S, c, S1, G, e1, fun H' W' g => q H' W' g⟩
abbrev PDw (X : Cx) (e : Expr) (f : Fb) : Prop := PW X e (tT X.kk f)
theorem pdw {e : Expr} {f : Fb} (h : PDw X e f) : PDt X e f := h.pt
theorem pd_and1 {f : Fb} (h : PDt X a f) : PDw X (.BoolOp .And [a] pos) f := pw_and1 h
theorem pd_or1 {f : Fb} (h : PDt X a f) : PDw X (.BoolOp .Or [a] pos) f := pw_or1 h
theorem pd_and {f g : Fb} {rest : List Expr} (h : PDt X a f) (h' : PDw X (.BoolOp .And (b :: rest) pos) g) : PDw X (.BoolOp .And (a :: b :: rest) pos) (fAnd f g) :=
  PW.imp (pw_and h h') fun σ H Q ⟨W, S, k, S', G, e, q⟩ => by
    obtain ⟨⟨c, S1⟩, e1, e⟩ := bind_some e
    refine ⟨W, S, c, S1, G, e1, fun H1 W1 g1 => ?_⟩
    cases c with
    | true => exact iteT ⟨W1, S1, k, S', g1.G, e, fun H2 W2 g2 => q H2 W2 (g1.trans g2)⟩
    | false => cases e; exact iteF (q H1 W1 g1)
theorem pd_or {f g : Fb} {rest : List Expr} (h : PDt X a f) (h' : PDw X (.BoolOp .Or (b :: rest) pos) g) : PDw X (.BoolOp .Or (a :: b :: rest) pos) (fOr f g) :=
  PW.imp (pw_or h h') fun σ H Q ⟨W, S, k, S', G, e, q⟩ => by
    obtain ⟨⟨c, S1⟩, e1, e⟩ := bind_some e
    refine ⟨W, S, c, S1, G, e1, fun H1 W1 g1 => ?_⟩
    cases c with
    | true => cases e; exact iteT (q H1 W1 g1)
    | false => exact iteF ⟨W1, S1, k, S', g1.G, e, fun H2 W2 g2 => q H2 W2 (g1.trans g2)⟩
def fIf (t : Fb) (f g : Fe) : Fe := fun S => (t S).bind fun p => if p.1 = true then f p.2 else g p.2
theorem pd_if {t : Fb} {f g : Fe} (hc : PDt X c t) (ha : PDe X a f) (hb : PDe X b g) : PDe X (.IfExp c a b pos) (fIf t f g) :=
  PE.imp (pe_ifExp hc ha hb) fun σ H Q ⟨W, S, k, S', G, e, q⟩ => by
    obtain ⟨⟨c, S1⟩, e1, e⟩ := bind_some e
    refine ⟨W, S, c, S1, G, e1, fun H1 W1 g1 => ?_⟩
    cases c with
    | true => exact iteT ⟨W1, S1, k, S', g1.G, e, fun v H2 W2 g2 r => q v H2 W2 (g1.trans g2) r⟩
    | false => exact iteF ⟨W1, S1, k, S', g1.G, e, fun v H2 W2 g2 r => q v H2 W2 (g1.trans g2) r⟩
end
end PD

/-! PdC: operators and built-in functions over data. -/
namespace PD
open PySem PySem.Spec L2

mutual
def toP : D → PyData
  | .n => .none
  | .b x => .bool x
  | .i x => .int x
  | .s x => .str x
  | .t xs => .tuple (toPs xs)
  | .l xs => .list (toPs xs)
  | .d _ => .dict []
  | .p => .dict []
  | .sc _ => .dict []
def toPs : List D → List PyData
  | [] => []
  | x :: xs => toP x :: toPs xs
end
theorem toPs_map : ∀ xs : List D, toPs xs = xs.map toP
  | [] => rfl
  | x :: xs => by rw [toPs, toPs_map xs]; rfl

section
variable {K : CK} {H H' : Hp} {W W' : Wr} {S S' : Se} {σ : L2.St}
mutual
theorem Rep.dp : ∀ {v : V} {d : D}, Rep K H W v d → (toP d).plain = true → Dp K.K H v (toP d)
  | _, _, .n, _ => .non
  | _, _, .b x, _ => .bl x
  | _, _, .i x, _ => .int x
  | _, _, .s (x := x) _, _ => .str x
  | _, _, .t h _ r, p => .tup h (Reps.dp r p)
  | _, _, .l _ h _ r, p => .lst (.inl (.inl h)) (Reps.dp r p)
  | _, _, .d _ _ _ _ _ _, p => nomatch p
  | _, _, .p _, p => nomatch p
  | _, _, .sc _ _, p => nomatch p
theorem Reps.dp : ∀ {vs : List V} {ds : List D}, Reps K H W vs ds → PyData.plainAll (toPs ds) = true → DpAll K.K H vs (toPs ds)
  | _, _, .nil, _ => .nil
  | _, _, .cons r t, p => by
    have p' := Bool.and_eq_true_iff.mp (show (PyData.plain (toP _) && PyData.plainAll (toPs _)) = true from p)
    exact .cons (Rep.dp r p'.1) (Reps.dp t p'.2)
end
theorem RepB.dp {v : V} {d : D} (G : Good K H W S σ) (r : RepB K H W S σ v d) (p : (toP d).plain = true) : Dp K.K H v (toP d) := by
  cases d with
  | l xs =>
    obtain ⟨a, vs, rfl, h, z, r⟩ := r.lst G
    exact .lst (.inl (.inl h)) (Reps.dp r p)
  | d xs => exact nomatch p
  | _ =>
    rcases r with r | ⟨i, e, q⟩
    · exact r.dp p
    · obtain ⟨a, q', o, _⟩ := G.own i _ e
      exact o.elim
end

/-! ### new objects -/
section
variable {K : CK} {H H' : Hp} {W W' : Wr} {S S' : Se} {σ : L2.St}
/-- what was tracked stays -/
theorem Good.keep (G : Good K H W S σ) (l : Le H W H' W') (lf : W'.fr = W.fr) (k : ∀ a o, H a = some o → H' a = some o) (hd : W'.dA = W.dA) (hf : ∀ a, W'.Fz a → W.Fz a ∨ H a = none) (hs : ∀ a, W'.Fz a → H' a ≠ none) : Good K H' W' S σ := by
  have nf : ∀ a o, H a = some o → ¬ W.Fz a → ¬ W'.Fz a := fun a o e n z => (hf a z).elim n fun q => by rw [e] at q; cases q
  refine ⟨⟨fun p hp => ?_, ?_, hs, by rw [lf]; exact G.g0.nd⟩, G.len, fun i d e => ?_, fun i d e => ?_, G.dis⟩
  · rw [lf] at hp
    obtain ⟨e, n, q⟩ := G.g0.frk p hp
    exact ⟨k _ _ e, nf _ _ e n, by rw [hd]; exact q⟩
  · have h := G.g0.drw
    rw [hd]
    revert h
    cases S.w with
    | none => cases W.dA <;> exact fun h => h
    | some x =>
      cases e : W.dA with
      | none => exact fun h => h
      | some a =>
        rintro ⟨⟨sA, e1, e2, e2', e3⟩, n⟩
        exact ⟨⟨sA, k _ _ e1, l.fz _ e2, l.lst _ _ e2 e2', e3⟩, nf _ _ e1 n⟩
  · obtain ⟨v, q, r⟩ := G.val i d e
    exact ⟨v, q, r.le l⟩
  · obtain ⟨a, q, o, f1, f2, f3⟩ := G.own i d e
    obtain ⟨ob, eo, _⟩ := OwnAt.some o
    refine ⟨a, q, ?_, nf _ _ eo f1, by rw [lf]; exact f2, by rw [hd]; exact f3⟩
    cases d with
    | l ds => obtain ⟨vs, h, z, r⟩ := o; exact ⟨vs, k _ _ h, z, r.le l⟩
    | d ds => obtain ⟨ob, h, kvs, y, z, q, r⟩ := o; exact ⟨ob, k _ _ h, kvs, y, z, q, r.le l⟩
    | _ => exact o.elim
theorem kept_new {p : Addr} {o : HO} (hp : H p = none) : ∀ a u, H a = some u → upd H p o a = some u := fun a u e => by
  rw [upd_ne (ne_of_none e hp)]; exact e
theorem Good.new {p : Addr} {o : HO} (G : Good K H W S σ) (hp : H p = none) : Go K σ H W S (upd H p o) (W.add p) S := by
  refine ⟨Le.new hp, rfl, SLe.refl _, fun _ _ h => h, G.keep (Le.new hp) rfl (kept_new hp) rfl (fun a h => ?_) fun a h => ?_⟩
  · rcases h with rfl | h
    · exact .inr hp
    · exact .inl h
  · by_cases e : a = p
    · subst e; rw [upd_same]; exact fun z => nomatch z
    · rw [upd_ne e]
      rcases h with h | h
      · exact absurd h e
      · exact G.g0.fz a h
/-- a new object that is somebody's own -/
theorem Good.new0 {p : Addr} {o : HO} (G : Good K H W S σ) (hp : H p = none) : Go K σ H W S (upd H p o) W S := by
  refine ⟨Le.new0 hp, rfl, SLe.refl _, fun _ _ h => h, G.keep (Le.new0 hp) rfl (kept_new hp) rfl (fun a h => .inl h) fun a h => ?_⟩
  by_cases e : a = p
  · subst e; rw [upd_same]; exact fun z => nomatch z
  · rw [upd_ne e]
    exact G.g0.fz a h
theorem Rep.new_tup {p : Addr} {vs : List V} {ds : List D} (hp : H p = none) (z : vs.length ≤ sizeLine) (r : Reps K H W vs ds) : Rep K (upd H p (.tup vs)) (W.add p) (.ref p) (.t ds) :=
  .t (.inl (.inl upd_same)) z (r.le (Le.new hp))
theorem Rep.new_lst {p : Addr} {vs : List V} {ds : List D} (hp : H p = none) (z : vs.length ≤ sizeLine) (r : Reps K H W vs ds) : Rep K (upd H p (.lst vs)) (W.add p) (.ref p) (.l ds) :=
  .l (.inl rfl) upd_same z (r.le (Le.new hp))
end

/-! ### arguments, displays -/
def fNil : Fs := fun S => some ([], S)
def fCons (f : Fe) (g : Fs) : Fs := fun S => (f S).bind fun p => (g p.2).map fun q => (p.1 :: q.1, q.2)
def lim : Nat := 16777216
theorem lim_eq : lim = sizeLine := by decide
def fTup (g : Fs) : Fe := fun S => (g S).bind fun p => if p.1.length ≤ lim then some (.t p.1, p.2) else none
def fLst (g : Fs) : Fe := fun S => (g S).bind fun p => if p.1.length ≤ lim then some (.l p.1, p.2) else none
theorem ite_some' {α : Type} {c : Prop} [Decidable c] {x : Option α} {z : α} (h : (if c then x else none) = some z) : c ∧ x = some z := by
  by_cases hc : c
  · rw [if_pos hc] at h; exact ⟨hc, h⟩
  · rw [if_neg hc] at h; cases h
section
variable {X : Cx} {e : Expr} {es : List Expr} {f : Fe} {g : Fs} {pos : Pos}
theorem pds_nil : PDs X [] fNil := PA.imp pa_nil fun σ H Q ⟨W, S, d, S', G, e, q⟩ => by cases e; exact q [] H W (Go.refl G) .nil
theorem pdo_nil : PDos X [] fNil := PA.imp pa_nil fun σ H Q ⟨W, S, d, S', G, e, q⟩ => by cases e; exact q [] H W (Go.refl G) .nil
theorem pds_cons (ha : PDe X e f) (hr : PDs X es g) (hs : starEach (e :: es) X.env = (false, eval e X.env) :: starEach es X.env := by rfl) : PDs X (e :: es) (fCons f g) :=
  PA.imp (pa_cons ha hr hs) fun σ H Q ⟨W, S, d, S', G, e, q⟩ => by
    obtain ⟨⟨x, S1⟩, e1, e⟩ := bind_some e
    obtain ⟨⟨ys, S2⟩, e2, e⟩ := map_some e
    cases e
    exact ⟨W, S, x, S1, G, e1, fun v H1 W1 g1 r1 => ⟨W1, S1, ys, S2, g1.G, e2, fun vs H2 W2 g2 r2 => q _ H2 W2 (g1.trans g2) (.cons (r1.le g2.le) r2)⟩⟩
theorem pdo_cons (ha : PDo X e f) (hr : PDos X es g) (hs : starEach (e :: es) X.env = (false, eval e X.env) :: starEach es X.env := by rfl) : PDos X (e :: es) (fCons f g) :=
  PA.imp (pa_cons ha hr hs) fun σ H Q ⟨W, S, d, S', G, e, q⟩ => by
    obtain ⟨⟨x, S1⟩, e1, e⟩ := bind_some e
    obtain ⟨⟨ys, S2⟩, e2, e⟩ := map_some e
    cases e
    exact ⟨W, S, x, S1, G, e1, fun v H1 W1 g1 r1 => ⟨W1, S1, ys, S2, g1.G, e2, fun vs H2 W2 g2 r2 => q _ H2 W2 (g1.trans g2) (.cons (r1.go g2.le g2.sl g2.G) r2)⟩⟩
theorem pd_tup {k : Nat} (h : PDs X es g) : PDe X (.Tuple es k pos) (fTup g) :=
  PE.imp (pe_tup h) fun σ H Q ⟨W, S, d, S', G, e, q⟩ => by
    obtain ⟨⟨xs, S1⟩, e1, e⟩ := bind_some e
    obtain ⟨z, e⟩ := ite_some' e
    cases e
    rw [lim_eq] at z
    refine ⟨W, S, xs, S1, G, e1, fun vs H1 W1 g1 r1 => ⟨by rw [r1.length]; exact z, fun p hp => ?_⟩⟩
    exact q _ _ _ (g1.trans (g1.G.new hp)) (Rep.new_tup hp (by rw [r1.length]; exact z) r1)
/-- an expression that makes a new object which nobody else holds -/
def Fresh (H : Hp) (W : Wr) (S : Se) (σ : L2.St) (a : Addr) : Prop := ¬ W.Fz a ∧ (∀ p ∈ W.fr, p.1 ≠ a) ∧ W.dA ≠ some a ∧ ∀ (i : Nat) d, S.sl[i]? = some (some (Sl.o d)) → σ[i]? ≠ some (some (V.ref a))
def tN (K : CK) (f : Fe) : TE := fun σ H Q => ∃ W S d S', Good K H W S σ ∧ f S = some (d, S') ∧ ∀ a H' W', Go K σ H W S H' W' S' → OwnAt K H' W' a d → Fresh H' W' S' σ a → Q (.ref a) H'
abbrev PDn (X : Cx) (e : Expr) (f : Fe) : Prop := PE X e (tN X.kk f)
theorem Good.fresh {K : CK} {H : Hp} {W : Wr} {S : Se} {σ : L2.St} {p : Addr} (G : Good K H W S σ) (hp : H p = none) : Fresh H W S σ p := by
  refine ⟨fun z => G.g0.fz p z hp, fun q hq e => ?_, fun e => ?_, fun i d e q => ?_⟩
  · have := (G.g0.frk q hq).1
    rw [e, hp] at this; cases this
  · have h := G.g0.drw
    rw [e] at h
    revert h
    cases S.w with
    | none => exact fun h => h.elim
    | some x => rintro ⟨⟨sA, e1, _⟩, _⟩; rw [hp] at e1; cases e1
  · obtain ⟨a, q', o, _⟩ := G.own i d e
    rw [q] at q'; cases q'
    obtain ⟨ob, eo, _⟩ := OwnAt.some o
    rw [hp] at eo; cases eo
theorem Fresh.le {K : CK} {H H' : Hp} {W : Wr} {S : Se} {σ : L2.St} {p : Addr} (f : Fresh H W S σ p) : Fresh H' W S σ p := f
/-- .. frozen at once -/
theorem Go.freeze {K : CK} {H : Hp} {W : Wr} {S : Se} {σ : L2.St} {a : Addr} {d : D} (G : Good K H W S σ) (ow : OwnAt K H W a d) (fr : Fresh H W S σ a) : Go K σ H W S H (W.add a) S ∧ Rep K H (W.add a) (.ref a) d := by
  obtain ⟨f1, f2, f3, f4⟩ := fr
  have l : Le H W H (W.add a) := ⟨fun _ h => .inr h, fun _ _ h => h, fun _ _ _ h => h, fun _ _ _ h => h, fun _ h => h⟩
  refine ⟨⟨l, rfl, SLe.refl _, fun _ _ h => h, ⟨⟨fun p hp => ?_, ?_, fun b hb => ?_, G.g0.nd⟩, G.len, fun i x e => ?_, fun i x e => ?_, G.dis⟩⟩, ?_⟩
  · obtain ⟨e1, n1, d1⟩ := G.g0.frk p hp
    exact ⟨e1, fun z => z.elim (f2 p hp) n1, d1⟩
  · have h := G.g0.drw
    show match S.w, W.dA with | none, none => True | some x, some b => DrawAt K H (W.add a) b x ∧ ¬ (b = a ∨ W.Fz b) | _, _ => False
    revert h
    cases S.w with
    | none => cases W.dA <;> exact fun h => h
    | some x =>
      cases q : W.dA with
      | none => exact fun h => h
      | some b =>
        rintro ⟨⟨sA, e1, e2, e2', e3⟩, n⟩
        exact ⟨⟨sA, e1, l.fz _ e2, l.lst _ _ e2 e2', e3⟩, fun z => z.elim (fun z => f3 (by rw [q, z])) n⟩
  · rcases hb with rfl | hb
    · obtain ⟨o, q, _⟩ := OwnAt.some ow
      rw [q]; exact fun z => nomatch z
    · exact G.g0.fz b hb
  · obtain ⟨v, q, r⟩ := G.val i x e
    exact ⟨v, q, r.le l⟩
  · obtain ⟨b, q, o, n1, n2, n3⟩ := G.own i x e
    refine ⟨b, q, ?_, fun z => z.elim (fun z => f4 i x e (by rw [q, z])) n1, n2, n3⟩
    cases x with
    | l ds => obtain ⟨vs, h, z, r⟩ := o; exact ⟨vs, h, z, r.le l⟩
    | d ds => obtain ⟨ob, h, kvs, y, z, q, r⟩ := o; exact ⟨ob, h, kvs, y, z, q, r.le l⟩
    | _ => exact o.elim
  · cases d with
    | l ds => obtain ⟨vs, h, z, r⟩ := ow; exact .l (.inl rfl) h z (r.le l)
    | d ds => obtain ⟨o, h, kvs, y, z, q, r⟩ := ow; exact .d (.inl rfl) h y z q (r.le l)
    | _ => exact ow.elim
theorem pdn (h : PDn X e f) : PDe X e f := PE.imp h fun σ H Q ⟨W, S, d, S', G, e, q⟩ => ⟨W, S, d, S', G, e, fun a H' W' g o fr => by
  obtain ⟨g2, r⟩ := Go.freeze g.G o fr
  exact q _ H' _ (g.trans g2) r⟩
theorem pn_lst (h : PDs X es g) : PDn X (.List es pos) (fLst g) :=
  PE.imp (pe_lst h) fun σ H Q ⟨W, S, d, S', G, e, q⟩ => by
    obtain ⟨⟨xs, S1⟩, e1, e⟩ := bind_some e
    obtain ⟨z, e⟩ := ite_some' e
    cases e
    rw [lim_eq] at z
    refine ⟨W, S, xs, S1, G, e1, fun vs H1 W1 g1 r1 => ⟨by rw [r1.length]; exact z, fun p hp => ?_⟩⟩
    have g2 := g1.G.new0 (o := .lst vs) hp
    exact q p _ W1 (g1.trans g2) ⟨vs, upd_same, by rw [r1.length]; exact z, r1.le (Le.new0 hp)⟩ (Fresh.le (K := X.kk) (g1.G.fresh hp))
end

/-! ### built-in functions -/
abbrev Ms := List D → Option D
def rOs (K : CK) (m : Ms) : List V → Hp → VK → Prop := fun vs H Q => ∃ W S σ ds d, Good K H W S σ ∧ RepBs K H W S σ vs ds ∧ m ds = some d ∧
  ∀ v H' W', Go K σ H W S H' W' S → Rep K H' W' v d → Q v H'
def rNs (K : CK) (m : Ms) : List V → Hp → VK → Prop := fun vs H Q => ∃ W S σ ds d, Good K H W S σ ∧ RepBs K H W S σ vs ds ∧ m ds = some d ∧
  ∀ a H' W', Go K σ H W S H' W' S → OwnAt K H' W' a d → Fresh H' W' S σ a → Q (.ref a) H'
def fB (m : Ms) (g : Fs) : Fe := fun S => (g S).bind fun p => (m p.1).map fun z => (z, p.2)
section
variable {X : Cx} {x : Str} {p pos : Pos} {e : Expr} {es : List Expr} {g : Fs} {id T : String} {m : Ms}
theorem tB_of {σ : L2.St} {H : Hp} {Q : VK} (h : tD X.kk (fB m g) σ H Q) : tCB (rOs X.kk m) (tOs X.kk g) σ H Q := by
  obtain ⟨W, S, d, S', G, e, q⟩ := h
  obtain ⟨⟨xs, S1⟩, e1, e⟩ := bind_some e
  obtain ⟨z, e2, e⟩ := map_some e
  cases e
  exact ⟨W, S, xs, S1, G, e1, fun vs H1 W1 g1 r1 => ⟨W1, S1, σ, xs, d, g1.G, r1, e2, fun v H2 W2 g2 r2 => q v H2 W2 (g1.trans g2) r2⟩⟩
theorem tBn_of {σ : L2.St} {H : Hp} {Q : VK} (h : tN X.kk (fB m g) σ H Q) : tCB (rNs X.kk m) (tOs X.kk g) σ H Q := by
  obtain ⟨W, S, d, S', G, e, q⟩ := h
  obtain ⟨⟨xs, S1⟩, e1, e⟩ := bind_some e
  obtain ⟨z, e2, e⟩ := map_some e
  cases e
  exact ⟨W, S, xs, S1, G, e1, fun vs H1 W1 g1 r1 => ⟨W1, S1, σ, xs, d, g1.G, r1, e2, fun v H2 W2 g2 r2 f2 => q v H2 W2 (g1.trans g2) r2 f2⟩⟩
theorem pd_b (h : CallR X (.builtin id) (rOs X.kk m)) (hm : X.mg x = none) (hv : bootBuiltins x = some (.builtin id)) (ha : PDos X (e :: es) g) (hg : Gl X x := by rfl) (hn : x ≠ "__name__" := by decide) (hd : (x == ("__debug__" : Str)) = false := by decide)
    (he : starEach (e :: es) X.env = (false, eval e X.env) :: starEach es X.env := by rfl) (hp : (backTo pos (starEach es X.env)).any (·.1) = false := by rfl) : PDe X (.Call (.Name x p) (e :: es) [] pos) (fB m g) :=
  PE.imp (pe_callB h hg hm hv ha hn hd he hp) fun _ _ _ h => tB_of h
theorem pd_ty (h : CallR X (.type T) (rOs X.kk m)) (hm : X.mg x = none) (hv : bootBuiltins x = some (.type T)) (ha : PDos X (e :: es) g) (hg : Gl X x := by rfl) (hn : x ≠ "__name__" := by decide) (hd : (x == ("__debug__" : Str)) = false := by decide)
    (he : starEach (e :: es) X.env = (false, eval e X.env) :: starEach es X.env := by rfl) (hp : (backTo pos (starEach es X.env)).any (·.1) = false := by rfl) : PDe X (.Call (.Name x p) (e :: es) [] pos) (fB m g) :=
  PE.imp (pe_callTy h hg hm hv ha hn hd he hp) fun _ _ _ h => tB_of h
theorem pn_b (h : CallR X (.builtin id) (rNs X.kk m)) (hm : X.mg x = none) (hv : bootBuiltins x = some (.builtin id)) (ha : PDos X (e :: es) g) (hg : Gl X x := by rfl) (hn : x ≠ "__name__" := by decide) (hd : (x == ("__debug__" : Str)) = false := by decide)
    (he : starEach (e :: es) X.env = (false, eval e X.env) :: starEach es X.env := by rfl) (hp : (backTo pos (starEach es X.env)).any (·.1) = false := by rfl) : PDn X (.Call (.Name x p) (e :: es) [] pos) (fB m g) :=
  PE.imp (pe_callB h hg hm hv ha hn hd he hp) fun _ _ _ h => tBn_of h
theorem pn_ty (h : CallR X (.type T) (rNs X.kk m)) (hm : X.mg x = none) (hv : bootBuiltins x = some (.type T)) (ha : PDos X (e :: es) g) (hg : Gl X x := by rfl) (hn : x ≠ "__name__" := by decide) (hd : (x == ("__debug__" : Str)) = false := by decide)
    (he : starEach (e :: es) X.env = (false, eval e X.env) :: starEach es X.env := by rfl) (hp : (backTo pos (starEach es X.env)).any (·.1) = false := by rfl) : PDn X (.Call (.Name x p) (e :: es) [] pos) (fB m g) :=
  PE.imp (pe_callTy h hg hm hv ha hn hd he hp) fun _ _ _ h => tBn_of h
end
theorem OpR.imp {X : Cx} {f : Value → Value → Sem Value} {r r' : R2} (h : OpR X f r) (i : ∀ x y H Q, r' x y H Q → r x y H Q) : OpR X f r' := fun pins s σ H x y v u Q I rx ry q => h pins s σ H x y v u Q I rx ry (i _ _ _ _ q)
theorem CallR.imp {X : Cx} {f : Value} {r r' : List V → Hp → VK → Prop} (h : CallR X f r) (i : ∀ xs H Q, r' xs H Q → r xs H Q) : CallR X f r' := fun pins s σ H xs us Q I rx q => h pins s σ H xs us Q I rx (i _ _ _ q)
end PD

/-! PdD: the operators. -/
namespace PD
open PySem PySem.Spec L2

/-! ### tuple * int at 1, 0 and below -/
section
open PySem.AutoSeq1 PyProof.Rows
theorem tuple_mul1 (l : Addr) (items : Array Value) (n : Nat) (dd : Option Addr) (sl : Array (Option Value)) (x : Int) (u : Tok) (c0 : (decide (x < -(2 ^ 63)) || decide (x ≥ 2 ^ 63)) = false) (c1 : (items.isEmpty || x == 1) = true) :
    Meets (Builtin.«tuple.__mul__» ⟨[.ref l, .int x u], []⟩) (fun _ R s => s.heap.get? l = some { cls := .type "tuple", dict := dd, data := .seq items n, slots := sl } ∧ R (.ok (.ret (Value.ref l))) s) :=
  .of_wp fun prog w A R s h => by
    obtain ⟨hp, g, d, tk, os⟩ := s
    obtain ⟨hl, h⟩ := h
    have f1 := AutoSeq1.idx_int
    wp_walk using wpAny_loadPart' hl
    repeat (first
      | (refine wpAny_ite_false (decide_eq_false (by rw [c0]; exact Bool.false_ne_true)) ?_; wp_walk using wpAny_loadPart' hl)
      | (refine wpAny_ite_true (decide_eq_true c1) ?_; wp_walk using wpAny_loadPart' hl))
    exact ⟨_, rfl, h⟩
theorem tuple_mul0 (l : Addr) (items : Array Value) (n : Nat) (dd : Option Addr) (sl : Array (Option Value)) (x : Int) (u : Tok) (c0 : (decide (x < -(2 ^ 63)) || decide (x ≥ 2 ^ 63)) = false) (c1 : (items.isEmpty || x == 1) = false) (c2 : (decide (x ≤ 0) || items.isEmpty) = true) :
    Meets (Builtin.«tuple.__mul__» ⟨[.ref l, .int x u], []⟩) (fun _ R s => s.heap.get? l = some { cls := .type "tuple", dict := dd, data := .seq items n, slots := sl } ∧
      R (.ok (.ret (Value.ref s.heap.objs.size))) { s with heap := s.heap.push { cls := Value.type "tuple", data := Data.seq #[] }, toks := s.toks }) :=
  .of_wp fun prog w A R s h => by
    obtain ⟨hp, g, d, tk, os⟩ := s
    obtain ⟨hl, h⟩ := h
    have f1 := AutoSeq1.idx_int
    wp_walk using wpAny_loadPart' hl
    repeat (first
      | (refine wpAny_ite_false (decide_eq_false (by rw [c0]; exact Bool.false_ne_true)) ?_; wp_walk using wpAny_loadPart' hl)
      | (refine wpAny_ite_false (decide_eq_false (by rw [c1]; exact Bool.false_ne_true)) ?_; wp_walk using wpAny_loadPart' hl)
      | (refine wpAny_ite_true (decide_eq_true c2) ?_; wp_walk using wpAny_loadPart' hl))
    exact ⟨_, rfl, h⟩
end

/-! ### arithmetic -/
def mAdd : M2
  | .i a, .i b => some (.i (a + b))
  | .s a, .s b => if a.length + b.length ≤ lim then some (.s (a ++ b)) else none
  | .t a, .t b => if a.length + b.length ≤ lim then some (.t (a ++ b)) else none
  | .l a, .l b => if a.length + b.length ≤ lim then some (.l (a ++ b)) else none
  | _, _ => none
def mSub : M2
  | .i a, .i b => some (.i (a - b))
  | _, _ => none
noncomputable def small64 (a b : Int) : Bool := @decide ((-(2 ^ 64) < a ∧ a < 2 ^ 64) ∨ (-(2 ^ 64) < b ∧ b < 2 ^ 64)) (Classical.propDecidable _)
def rep {α : Type} (k : Int) (xs : List α) : List α := (List.replicate k.toNat xs).flatten
noncomputable def mMul : M2
  | .i a, .i b => if small64 a b = true then some (.i (a * b)) else none
  | .t a, .i k => if a.length ≤ 1000 ∧ -1000 ≤ k ∧ k ≤ 1000 then some (.t (rep k a)) else none
  | .l a, .i k => if a.length ≤ 1000 ∧ -1000 ≤ k ∧ k ≤ 1000 then some (.l (rep k a)) else none
  | _, _ => none
def mFdiv : M2
  | .i a, .i b => if b ≠ 0 ∧ b.natAbs < 1073741824 then some (.i (a.fdiv b)) else none
  | _, _ => none
def mMod : M2
  | .i a, .i b => if b ≠ 0 then some (.i (a.fmod b)) else none
  | _, _ => none
def mPow : M2
  | .i a, .i b => if 0 ≤ b ∧ b ≤ 1000000 ∧ a.natAbs < 2 ^ 64 then some (.i (a ^ b.toNat)) else none
  | _, _ => none
def mNeg : M1
  | .i a => some (.i (-a))
  | _ => none
theorem rep_length {α : Type} (k : Int) (xs : List α) : (rep k xs).length = k.toNat * xs.length := by unfold rep; rw [PyProof.Rows.lm_len_rep_flat]
theorem str_len_append (a b : Str) : (a ++ b).length = a.length + b.length := by
  show (a.cps ++ b.cps).size = a.cps.size + b.cps.size
  rw [Array.size_append]
section
variable {K : CK} {H : Hp} {W : Wr}
theorem Reps.rep {vs : List V} {ds : List D} (r : Reps K H W vs ds) : ∀ n : Nat, Reps K H W (List.replicate n vs).flatten (List.replicate n ds).flatten
  | 0 => .nil
  | n + 1 => by
    rw [List.replicate_succ, List.replicate_succ, List.flatten_cons, List.flatten_cons]
    exact Reps.append r (Reps.rep r n)
end
theorem op_mAdd {X : Cx} : OpR X (binaryOp .Add) (rO2 X.kk mAdd) := by
  intro pins s σ H x y v u Q I rx ry ⟨W, S, σ', dx, dy, d, G, r1, r2, e, q⟩
  unfold mAdd at e
  split at e
  · rename_i a b
    obtain rfl := r1.int G
    obtain rfl := r2.int G
    cases e
    exact op_add pins s σ H _ _ v u Q I rx ry ⟨_, _, rfl, rfl, q _ _ _ (Go.refl G) (.i _)⟩
  · rename_i a b
    obtain ⟨rfl, z1⟩ := r1.str G
    obtain ⟨rfl, z2⟩ := r2.str G
    obtain ⟨z, e⟩ := ite_some' e
    cases e
    rw [lim_eq] at z
    exact op_add_str pins s σ H _ _ v u Q I rx ry ⟨_, _, rfl, rfl, z, q _ _ _ (Go.refl G) (.s (by rw [str_len_append]; exact z))⟩
  · rename_i a b
    obtain ⟨p1, vs, rfl, h1, z1, q1, w1⟩ := r1.tup G
    obtain ⟨p2, us, rfl, h2, z2, q2, w2⟩ := r2.tup G
    obtain ⟨z, e⟩ := ite_some' e
    cases e
    rw [lim_eq, ← q1.length, ← q2.length] at z
    refine op_catA pins s σ H _ _ v u Q I rx ry ⟨_, _, _, _, rfl, rfl, h1, h2, z, fun e => ?_, fun _ e => ?_, fun _ _ p hp => ?_⟩
    · subst e
      cases q1
      exact q _ _ _ (Go.refl G) w2
    · subst e
      cases q2
      exact q _ _ _ (Go.refl G) (by rw [List.append_nil]; exact w1)
    · exact q _ _ _ (G.new hp) (Rep.new_tup hp (by rw [List.length_append]; exact z) (Reps.append q1 q2))
  · rename_i a b
    obtain ⟨p1, vs, rfl, h1, z1, q1⟩ := r1.lst G
    obtain ⟨p2, us, rfl, h2, z2, q2⟩ := r2.lst G
    obtain ⟨z, e⟩ := ite_some' e
    cases e
    rw [lim_eq, ← q1.length, ← q2.length] at z
    refine op_cat pins s σ H _ _ v u Q I rx ry ⟨_, _, _, _, rfl, rfl, h1, h2, z, fun p hp => ?_⟩
    exact q _ _ _ (G.new hp) (Rep.new_lst hp (by rw [List.length_append]; exact z) (Reps.append q1 q2))
  · cases e
theorem op_mSub {X : Cx} : OpR X (binaryOp .Sub) (rO2 X.kk mSub) := by
  intro pins s σ H x y v u Q I rx ry ⟨W, S, σ', dx, dy, d, G, r1, r2, e, q⟩
  unfold mSub at e
  split at e
  · obtain rfl := r1.int G
    obtain rfl := r2.int G
    cases e
    exact op_sub pins s σ H _ _ v u Q I rx ry ⟨_, _, rfl, rfl, q _ _ _ (Go.refl G) (.i _)⟩
  · cases e
section
open PyProof.Rows
/-- t * k whatever k is -/
theorem op_repT' {X : Cx} {pins : List (Addr × Obj)} {s : Shared} {σ : L2.St} {H : Hp} {l : Addr} {k : Int} {xs : List V} {v u : Value} {Q : VK} (I : Inv X pins σ H s) (rx : RelV (.ref l) v) (ry : RelV (.int k) u) (hT : SqT X.K H l xs)
    (hz : xs.length ≤ 1000) (k1 : -1000 ≤ k) (k2 : k ≤ 1000) (h1 : (List.replicate k.toNat xs).flatten = xs → Q (.ref l) H) (h2 : ∀ p, H p = none → Q (.ref p) (upd H p (.tup (List.replicate k.toNat xs).flatten))) :
    wpAny (model X.prog X.w) X.A (binaryOp .Mult v u) (EP X pins σ Q) X.xe s := by
  by_cases hb : xs ≠ [] ∧ 2 ≤ k
  · exact op_repT pins s σ H _ _ v u Q I rx ry ⟨l, k, xs, rfl, rfl, hT, hb.1, hb.2, k2, hz, h2⟩
  cases rx
  obtain ⟨t, rfl⟩ := ry
  obtain ⟨its, r, ⟨⟨cls, dd, data, sl⟩, ho, hc, n, hd⟩, hs⟩ := I.tuple hT
  simp only at hc hd
  subst hc hd
  have hle : its.length = xs.length := r.length.symm
  have c0 : (decide (k < -(2 ^ 63)) || decide (k ≥ 2 ^ 63)) = false := by
    rw [decide_eq_false (by omega), decide_eq_false (by omega)] <;> rfl
  by_cases hsame : (its.toArray.isEmpty || k == 1) = true
  · refine wpAny_binaryOp_repeat_ref (T := "tuple") (U := "int") (by decide) ⟨_, ho, rfl⟩ (fun s' => typeIs_int s' k t) noFill_tuple_mul F.fills_int_mul F.slot_int_rmul repeat_tuple F.slot_int_index.lookup
      (call_meets F.slot_int_rmul (typeIs_int s k t) F.entry_int_rmul (F.args_int_rmul_2 _ _) (int_rmul_tuple k t l its.toArray n dd sl)
        ⟨ho, rfl, ⟨_, ho, rfl⟩, call_meets F.slot_tuple_mul ⟨_, ho, rfl⟩ F.entry_tuple_mul (F.args_tuple_mul_2 _ _) (tuple_mul1 l its.toArray n dd sl k t c0 hsame) ⟨ho, ?_⟩⟩)
    refine ⟨.ref l, H, I, rfl, h1 ?_⟩
    rcases Bool.or_eq_true_iff.mp hsame with e | e
    · have e0 : xs = [] := by
        cases its with
        | nil => exact List.eq_nil_of_length_eq_zero hle.symm
        | cons a b => simp at e
      rw [e0]
      simp
    · have e1 : k = 1 := by simpa using e
      rw [e1]
      simp
  · have hs' : (its.toArray.isEmpty || k == 1) = false := by simpa using hsame
    have hs2 := Bool.or_eq_false_iff.mp hs'
    have hk : k ≤ 0 := by
      have n1 : k ≠ 1 := by simpa using hs2.2
      have n2 : xs ≠ [] := fun e => by
        have : its = [] := List.eq_nil_of_length_eq_zero (by rw [hle, e]; rfl)
        rw [this] at hs2
        simp at hs2
      have n3 : ¬ 2 ≤ k := fun z => hb ⟨n2, z⟩
      omega
    have c2 : (decide (k ≤ 0) || its.toArray.isEmpty) = true := by rw [decide_eq_true hk] <;> rfl
    refine wpAny_binaryOp_repeat_ref (T := "tuple") (U := "int") (by decide) ⟨_, ho, rfl⟩ (fun s' => typeIs_int s' k t) noFill_tuple_mul F.fills_int_mul F.slot_int_rmul repeat_tuple F.slot_int_index.lookup
      (call_meets F.slot_int_rmul (typeIs_int s k t) F.entry_int_rmul (F.args_int_rmul_2 _ _) (int_rmul_tuple k t l its.toArray n dd sl)
        ⟨ho, rfl, ⟨_, ho, rfl⟩, call_meets F.slot_tuple_mul ⟨_, ho, rfl⟩ F.entry_tuple_mul (F.args_tuple_mul_2 _ _) (tuple_mul0 l its.toArray n dd sl k t c0 hs' c2) ⟨ho, ?_⟩⟩)
    have e0 : k.toNat = 0 := by omega
    refine ⟨.ref s.heap.objs.size, _, I.laid (t' := s.toks) (o := .tup (List.replicate k.toNat xs).flatten) (fun b ob q => Heap.get?_push_of_some _ q) (Nat.le_refl _) ?_, rfl, h2 _ (I.hok.fresh (Nat.le_refl _))⟩
    rw [e0]
    exact ⟨Nat.zero_le _, [], .nil, IsTup.new _ _⟩
end
theorem op_mMul {X : Cx} : OpR X (binaryOp .Mult) (rO2 X.kk mMul) := by
  intro pins s σ H x y v u Q I rx ry ⟨W, S, σ', dx, dy, d, G, r1, r2, e, q⟩
  unfold mMul at e
  split at e
  · obtain rfl := r1.int G
    obtain rfl := r2.int G
    obtain ⟨z, e⟩ := ite_some' e
    cases e
    refine op_mul pins s σ H _ _ v u Q I rx ry ⟨_, _, rfl, rfl, ?_, q _ _ _ (Go.refl G) (.i _)⟩
    exact @of_decide_eq_true _ (Classical.propDecidable _) z
  · obtain ⟨p1, vs, rfl, h1, z1, q1, w1⟩ := r1.tup G
    obtain rfl := r2.int G
    obtain ⟨⟨z, k1, k2⟩, e⟩ := ite_some' e
    cases e
    rw [← q1.length] at z
    refine op_repT' I rx ry h1 z k1 k2 (fun e => ?_) fun p hp => ?_
    · have q2 := q1.rep (Int.toNat ‹_›)
      rw [e] at q2
      exact q _ _ _ (Go.refl G) (.t h1 z1 q2)
    · refine q _ _ _ (G.new hp) (Rep.new_tup hp ?_ (q1.rep _))
      rw [PyProof.Rows.lm_len_rep_flat, sizeLine_eq]
      have a1 : Int.toNat ‹_› * vs.length ≤ 1000 * 1000 := Nat.mul_le_mul (by omega) z
      omega
  · obtain ⟨p1, vs, rfl, h1, z1, q1⟩ := r1.lst G
    obtain rfl := r2.int G
    obtain ⟨⟨z, k1, k2⟩, e⟩ := ite_some' e
    cases e
    rw [← q1.length] at z
    have a2 : vs.length * Int.toNat ‹_› ≤ sizeLine := by
      rw [sizeLine_eq]
      have a1 : vs.length * Int.toNat ‹_› ≤ 1000 * 1000 := Nat.mul_le_mul z (by omega)
      omega
    refine op_rep pins s σ H _ _ v u Q I rx ry ⟨_, _, _, rfl, rfl, h1, by omega, by omega, a2, fun p hp => ?_⟩
    refine q _ _ _ (G.new hp) (Rep.new_lst hp ?_ (q1.rep _))
    rw [PyProof.Rows.lm_len_rep_flat, Nat.mul_comm]
    exact a2
  · cases e
theorem op_mFdiv {X : Cx} : OpR X (binaryOp .FloorDiv) (rO2 X.kk mFdiv) := by
  intro pins s σ H x y v u Q I rx ry ⟨W, S, σ', dx, dy, d, G, r1, r2, e, q⟩
  unfold mFdiv at e
  split at e
  · obtain rfl := r1.int G
    obtain rfl := r2.int G
    obtain ⟨z, e⟩ := ite_some' e
    cases e
    exact op_fdivN pins s σ H _ _ v u Q I rx ry ⟨_, _, rfl, rfl, z, q _ _ _ (Go.refl G) (.i _)⟩
  · cases e
theorem op_mMod {X : Cx} : OpR X (binaryOp .Mod) (rO2 X.kk mMod) := by
  intro pins s σ H x y v u Q I rx ry ⟨W, S, σ', dx, dy, d, G, r1, r2, e, q⟩
  unfold mMod at e
  split at e
  · obtain rfl := r1.int G
    obtain rfl := r2.int G
    obtain ⟨z, e⟩ := ite_some' e
    cases e
    exact op_modN pins s σ H _ _ v u Q I rx ry ⟨_, _, rfl, rfl, z, q _ _ _ (Go.refl G) (.i _)⟩
  · cases e
theorem op_mPow {X : Cx} : OpR X (binaryOp .Pow) (rO2 X.kk mPow) := by
  intro pins s σ H x y v u Q I rx ry ⟨W, S, σ', dx, dy, d, G, r1, r2, e, q⟩
  unfold mPow at e
  split at e
  · obtain rfl := r1.int G
    obtain rfl := r2.int G
    obtain ⟨z, e⟩ := ite_some' e
    cases e
    exact op_pow pins s σ H _ _ v u Q I rx ry ⟨_, _, rfl, rfl, z, q _ _ _ (Go.refl G) (.i _)⟩
  · cases e
theorem un_mNeg {X : Cx} : UnR X (unaryOp .USub) (rO1 X.kk mNeg) := by
  intro pins s σ H x v Q I rx ⟨W, S, σ', dx, d, G, r1, e, q⟩
  unfold mNeg at e
  split at e
  · obtain rfl := r1.int G
    cases e
    exact un_neg pins s σ H _ v Q I rx ⟨_, rfl, q _ _ _ (Go.refl G) (.i _)⟩
  · cases e

/-! ### comparisons -/
open PySem.SeqAt PySem.W in
def notNone : PyData → Bool
  | .none => false
  | _ => true
def dlim (x y : PyData) : Bool := decide (min x.depth y.depth ≤ 60)
def eqOk (x y : PyData) : Bool := x.plain && y.plain && dlim x y
open PySem.SeqAt PySem.W in
def ltOk (x y : PyData) : Bool := x.plain && y.plain && dlim x y && alike x y && notNone x
def eqD (x y : D) : Bool := PyData.eqv (toP x) (toP y)
open PySem.SeqAt PySem.W in
def ltD (x y : D) : Bool := dataLt (toP x) (toP y)
def mEq : M2 := fun x y => if eqOk (toP x) (toP y) = true then some (.b (eqD x y)) else none
def mNe : M2 := fun x y => if eqOk (toP x) (toP y) = true then some (.b (!eqD x y)) else none
def mLt : M2 := fun x y => if ltOk (toP x) (toP y) = true then some (.b (ltD x y)) else none
def mGt : M2 := fun x y => if ltOk (toP x) (toP y) = true then some (.b (ltD y x)) else none
def mLe : M2 := fun x y => if ltOk (toP x) (toP y) = true then some (.b (!ltD y x)) else none
def mGe : M2 := fun x y => if ltOk (toP x) (toP y) = true then some (.b (!ltD x y)) else none
theorem RepB.reads {X : Cx} {pins : List (Addr × Obj)} {s : Shared} {σ σ' : L2.St} {H : Hp} {W : Wr} {S : Se} {x : V} {v : Value} {d : D} (I : Inv X pins σ H s) (G : Good X.kk H W S σ') (r : RepB X.kk H W S σ' x d) (rx : RelV x v) (p : (toP d).plain = true) :
    ∃ as, Reads s.heap v (toP d) as := Dp.reads I _ _ _ (r.dp G p) rx
theorem eqOk_iff {x y : PyData} (h : eqOk x y = true) : x.plain = true ∧ y.plain = true ∧ min x.depth y.depth ≤ 60 := by
  unfold eqOk dlim at h
  simp only [Bool.and_eq_true, decide_eq_true_eq] at h
  exact ⟨h.1.1, h.1.2, h.2⟩
open PySem.SeqAt PySem.W in
theorem ltOk_iff {x y : PyData} (h : ltOk x y = true) : x.plain = true ∧ y.plain = true ∧ min x.depth y.depth ≤ 60 ∧ alike x y = true ∧ x ≠ .none := by
  unfold ltOk dlim at h
  simp only [Bool.and_eq_true, decide_eq_true_eq] at h
  refine ⟨h.1.1.1.1, h.1.1.1.2, h.1.1.2, h.1.2, fun e => ?_⟩
  have h2 := h.2
  rw [e] at h2
  cases h2
section
open PySem.SeqAt PySem.W
variable {X : Cx} (hu : X.A.units + 100 < cLine)
include hu
theorem op_mEq : OpR X (compareOp .Eq) (rO2 X.kk mEq) := by
  intro pins s σ H x y v u Q I rx ry ⟨W, S, σ', dx, dy, d, G, r1, r2, e, q⟩
  obtain ⟨z, e⟩ := ite_some' e
  cases e
  obtain ⟨p1, p2, hd⟩ := eqOk_iff z
  obtain ⟨as, w1⟩ := r1.reads I G rx p1
  obtain ⟨bs, w2⟩ := r2.reads I G ry p2
  exact eq_plain w1 w2 p1 p2 (by omega) ⟨.bl _, H, I, rfl, q _ _ _ (Go.refl G) (.b _)⟩
theorem op_mNe : OpR X (compareOp .NotEq) (rO2 X.kk mNe) := by
  intro pins s σ H x y v u Q I rx ry ⟨W, S, σ', dx, dy, d, G, r1, r2, e, q⟩
  obtain ⟨z, e⟩ := ite_some' e
  cases e
  obtain ⟨p1, p2, hd⟩ := eqOk_iff z
  obtain ⟨as, w1⟩ := r1.reads I G rx p1
  obtain ⟨bs, w2⟩ := r2.reads I G ry p2
  exact ne_plain w1 w2 p1 p2 (by omega) ⟨.bl _, H, I, rfl, q _ _ _ (Go.refl G) (.b _)⟩
theorem op_mLt : OpR X (compareOp .Lt) (rO2 X.kk mLt) := by
  intro pins s σ H x y v u Q I rx ry ⟨W, S, σ', dx, dy, d, G, r1, r2, e, q⟩
  obtain ⟨z, e⟩ := ite_some' e
  cases e
  obtain ⟨p1, p2, hd, ha, hn⟩ := ltOk_iff z
  obtain ⟨as, w1⟩ := r1.reads I G rx p1
  obtain ⟨bs, w2⟩ := r2.reads I G ry p2
  exact lt_data w1 w2 ha hn (by omega) ⟨.bl _, H, I, rfl, q _ _ _ (Go.refl G) (.b _)⟩
theorem op_mGt : OpR X (compareOp .Gt) (rO2 X.kk mGt) := by
  intro pins s σ H x y v u Q I rx ry ⟨W, S, σ', dx, dy, d, G, r1, r2, e, q⟩
  obtain ⟨z, e⟩ := ite_some' e
  cases e
  obtain ⟨p1, p2, hd, ha, hn⟩ := ltOk_iff z
  obtain ⟨as, w1⟩ := r1.reads I G rx p1
  obtain ⟨bs, w2⟩ := r2.reads I G ry p2
  exact gt_data w1 w2 ha hn (by omega) ⟨.bl _, H, I, rfl, q _ _ _ (Go.refl G) (.b _)⟩
theorem op_mLe : OpR X (compareOp .LtE) (rO2 X.kk mLe) := by
  intro pins s σ H x y v u Q I rx ry ⟨W, S, σ', dx, dy, d, G, r1, r2, e, q⟩
  obtain ⟨z, e⟩ := ite_some' e
  cases e
  obtain ⟨p1, p2, hd, ha, hn⟩ := ltOk_iff z
  obtain ⟨as, w1⟩ := r1.reads I G rx p1
  obtain ⟨bs, w2⟩ := r2.reads I G ry p2
  exact le_data w1 w2 ha hn (by omega) ⟨.bl _, H, I, rfl, q _ _ _ (Go.refl G) (.b _)⟩
theorem op_mGe : OpR X (compareOp .GtE) (rO2 X.kk mGe) := by
  intro pins s σ H x y v u Q I rx ry ⟨W, S, σ', dx, dy, d, G, r1, r2, e, q⟩
  obtain ⟨z, e⟩ := ite_some' e
  cases e
  obtain ⟨p1, p2, hd, ha, hn⟩ := ltOk_iff z
  obtain ⟨as, w1⟩ := r1.reads I G rx p1
  obtain ⟨bs, w2⟩ := r2.reads I G ry p2
  exact ge_data w1 w2 ha hn (by omega) ⟨.bl _, H, I, rfl, q _ _ _ (Go.refl G) (.b _)⟩
end
end PD

/-! PdE: in, is None, subscripts, slices, built-in functions. -/
namespace PD
open PySem PySem.Spec L2

/-! ### in -/
def inOk (x : D) (xs : List D) : Bool := (toP x).plain && PyData.plainAll (toPs xs) && decide (min (PyData.depthAll (toPs xs)) (toP x).depth ≤ 60)
def oneSign (x : Str) : Bool := x.cps.size == 1
def mIn : M2
  | x, .l xs => if inOk x xs = true then some (.b (xs.any fun y => eqD y x)) else none
  | x, .t xs => if inOk x xs = true then some (.b (xs.any fun y => eqD y x)) else none
  | .s x, .s z => if oneSign x = true then some (.b (decide (x.cps.getD 0 0 ∈ z.cps.toList))) else none
  | _, _ => none
def mNotIn : M2 := fun x y => match mIn x y with
  | some (.b k) => some (.b (!k))
  | _ => none
theorem any_toPs (x : D) : ∀ xs : List D, ((toPs xs).any fun y => PyData.eqv y (toP x)) = xs.any fun y => eqD y x := fun xs => by
  rw [toPs_map, List.any_map]; rfl
theorem inOk_iff {x : D} {xs : List D} (h : inOk x xs = true) : (toP x).plain = true ∧ PyData.plainAll (toPs xs) = true ∧ min (PyData.depthAll (toPs xs)) (toP x).depth ≤ 60 := by
  unfold inOk at h
  simp only [Bool.and_eq_true, decide_eq_true_eq] at h
  exact ⟨h.1.1, h.1.2, h.2⟩
theorem oneSign_eq {x : Str} (h : oneSign x = true) : x = ⟨#[x.cps.getD 0 0]⟩ := by
  have h1 : x.cps.size = 1 := by simpa [oneSign] using h
  obtain ⟨⟨l⟩⟩ := x
  match l, h1 with
  | [a], _ => rfl
section
open PySem.SeqAt PySem.W
variable {X : Cx} (hu : X.A.units + 100 < cLine)
include hu
theorem op_mIn : OpR X (compareOp .In) (rO2 X.kk mIn) := by
  intro pins s σ H x y v u Q I rx ry ⟨W, S, σ', dx, dy, d, G, r1, r2, e, q⟩
  unfold mIn at e
  split at e
  · obtain ⟨z, e⟩ := ite_some' e
    cases e
    obtain ⟨p1, p2, hd⟩ := inOk_iff z
    obtain ⟨as, w1⟩ := r1.reads I G rx p1
    obtain ⟨bs, w2⟩ := r2.reads I G ry (show PyData.plain (.list (toPs _)) = true from p2)
    refine in_list_data w2 w1 p2 p1 (by omega) ?_
    rw [any_toPs]
    exact ⟨.bl _, H, I, rfl, q _ _ _ (Go.refl G) (.b _)⟩
  · obtain ⟨z, e⟩ := ite_some' e
    cases e
    obtain ⟨p1, p2, hd⟩ := inOk_iff z
    obtain ⟨as, w1⟩ := r1.reads I G rx p1
    obtain ⟨bs, w2⟩ := r2.reads I G ry (show PyData.plain (.tuple (toPs _)) = true from p2)
    refine in_tuple_data w2 w1 p2 p1 (by omega) ?_
    rw [any_toPs]
    exact ⟨.bl _, H, I, rfl, q _ _ _ (Go.refl G) (.b _)⟩
  · obtain ⟨z, e⟩ := ite_some' e
    cases e
    obtain ⟨rfl, z1⟩ := r1.str G
    obtain ⟨rfl, z2⟩ := r2.str G
    exact op_in_sign pins s σ H _ _ v u Q I rx ry ⟨_, _, by rw [← oneSign_eq z], rfl, q _ _ _ (Go.refl G) (.b _)⟩
  · cases e
theorem op_mNotIn : OpR X (compareOp .NotIn) (rO2 X.kk mNotIn) := by
  intro pins s σ H x y v u Q I rx ry ⟨W, S, σ', dx, dy, d, G, r1, r2, e, q⟩
  unfold mNotIn at e
  split at e
  case h_2 => cases e
  rename_i k e2
  cases e
  unfold mIn at e2
  split at e2
  · obtain ⟨z, e⟩ := ite_some' e2
    cases e
    obtain ⟨p1, p2, hd⟩ := inOk_iff z
    obtain ⟨as, w1⟩ := r1.reads I G rx p1
    obtain ⟨bs, w2⟩ := r2.reads I G ry (show PyData.plain (.list (toPs _)) = true from p2)
    refine notIn_list_data w2 w1 p2 p1 (by omega) ?_
    rw [any_toPs]
    exact ⟨.bl _, H, I, rfl, q _ _ _ (Go.refl G) (.b _)⟩
  · obtain ⟨z, e⟩ := ite_some' e2
    cases e
    obtain ⟨p1, p2, hd⟩ := inOk_iff z
    obtain ⟨as, w1⟩ := r1.reads I G rx p1
    obtain ⟨bs, w2⟩ := r2.reads I G ry (show PyData.plain (.tuple (toPs _)) = true from p2)
    refine notIn_tuple_data w2 w1 p2 p1 (by omega) ?_
    rw [any_toPs]
    exact ⟨.bl _, H, I, rfl, q _ _ _ (Go.refl G) (.b _)⟩
  · obtain ⟨z, e⟩ := ite_some' e2
    cases e
    obtain ⟨rfl, z1⟩ := r1.str G
    obtain ⟨rfl, z2⟩ := r2.str G
    exact op_notIn_sign pins s σ H _ _ v u Q I rx ry ⟨_, _, by rw [← oneSign_eq z], rfl, q _ _ _ (Go.refl G) (.b _)⟩
  · cases e2
end
/-! ### is None -/
def isN : D → Bool
  | .n => true
  | _ => false
def mIs : M2
  | x, .n => some (.b (isN x))
  | _, _ => none
def mIsNot : M2
  | x, .n => some (.b (!isN x))
  | _, _ => none
theorem RepB.isN {K : CK} {H : Hp} {W : Wr} {S : Se} {σ : L2.St} {v : V} {d : D} (G : Good K H W S σ) (r : RepB K H W S σ v d) : decide (v = .non) = isN d := by
  rcases r with r | ⟨i, e, q⟩
  · cases r <;> rfl
  · obtain ⟨a, q', o, _⟩ := G.own i _ e
    rw [q] at q'
    cases q'
    cases d with
    | n => exact o.elim
    | _ => rfl
theorem op_mIs {X : Cx} : OpR X (compareOp .Is) (rO2 X.kk mIs) := by
  intro pins s σ H x y v u Q I rx ry ⟨W, S, σ', dx, dy, d, G, r1, r2, e, q⟩
  unfold mIs at e
  split at e
  · cases e
    obtain rfl := r2.non G
    refine op_isN pins s σ H _ _ v u Q I rx ry ⟨rfl, ?_⟩
    rw [r1.isN G]
    exact q _ _ _ (Go.refl G) (.b _)
  · cases e
theorem op_mIsNot {X : Cx} : OpR X (compareOp .IsNot) (rO2 X.kk mIsNot) := by
  intro pins s σ H x y v u Q I rx ry ⟨W, S, σ', dx, dy, d, G, r1, r2, e, q⟩
  unfold mIsNot at e
  split at e
  · cases e
    obtain rfl := r2.non G
    refine op_notN pins s σ H _ _ v u Q I rx ry ⟨rfl, ?_⟩
    rw [r1.isN G]
    exact q _ _ _ (Go.refl G) (.b _)
  · cases e

/-! ### subscripts, slices -/
def mIx : M2
  | .l xs, .i k => atI xs k
  | .t xs, .i k => atI xs k
  | .s x, .i k => (atI x.cps.toList k).map fun c => .s ⟨#[c]⟩
  | _, _ => none
theorem Reps.atI {K : CK} {H : Hp} {W : Wr} {vs : List V} {ds : List D} {k : Int} {d : D} (r : Reps K H W vs ds) (h : atI ds k = some d) : ∃ v, atI vs k = some v ∧ Rep K H W v d := by
  unfold L2.atI at h ⊢
  obtain ⟨j, e1, e2⟩ := bind_some h
  obtain ⟨v, e3, r3⟩ := r.get e2
  refine ⟨v, ?_, r3⟩
  rw [r.length, e1]
  exact e3
theorem ix_m {X : Cx} : IxR X (rO2 X.kk mIx) := by
  intro value slice pins s σ H x y v u Q I rx ry ⟨W, S, σ', dx, dy, d, G, r1, r2, e, q⟩ hs
  unfold mIx at e
  split at e
  · obtain ⟨p1, vs, rfl, h1, z1, q1⟩ := r1.lst G
    obtain rfl := r2.int G
    obtain ⟨w, e1, r3⟩ := q1.atI e
    exact ix_list value slice pins s σ H _ _ v u Q I rx ry ⟨_, _, _, _, rfl, rfl, .inl (.inl h1), e1, q _ _ _ (Go.refl G) r3⟩ hs
  · obtain ⟨p1, vs, rfl, h1, z1, q1, _⟩ := r1.tup G
    obtain rfl := r2.int G
    obtain ⟨w, e1, r3⟩ := q1.atI e
    exact ix_tup value slice pins s σ H _ _ v u Q I rx ry ⟨_, _, _, _, rfl, rfl, h1, e1, q _ _ _ (Go.refl G) r3⟩ hs
  · obtain ⟨rfl, z1⟩ := r1.str G
    obtain rfl := r2.int G
    obtain ⟨c, e1, e2⟩ := map_some e
    cases e2
    exact ix_str value slice pins s σ H _ _ v u Q I rx ry ⟨_, _, _, rfl, rfl, z1, e1, q _ _ _ (Go.refl G) (.s (by show 1 ≤ sizeLine; decide))⟩ hs
  · cases e
theorem pd_ix {X : Cx} {a b : Expr} {fa fb : Fe} {pos : Pos} (ha : PDo X a fa) (hb : PDo X b fb) (hs : PlainIx b := by exact fun _ _ => rfl) : PDe X (.Subscript a b pos) (fOp mIx fa fb) :=
  PE.imp (pe_ix ix_m ha hb hs) fun _ _ _ h => tOp_of h
/-- a part of a slice -/
abbrev Fo := Se → Option (Option Int × Se)
def tP (K : CK) (f : Fo) : TO := fun σ H Q => ∃ W S d S', Good K H W S σ ∧ f S = some (d, S') ∧ ∀ H' W', Go K σ H W S H' W' S' → Q d H'
def fNoP : Fo := fun S => some (none, S)
def fP (f : Fe) : Fo := fun S => (f S).bind fun p => match p.1 with
  | .i k => some (some k, p.2)
  | _ => none
abbrev PDp (X : Cx) (e : Option Expr) (f : Fo) : Prop := PO X e (tP X.kk f)
theorem PO.imp {X : Cx} {e : Option Expr} {t t' : TO} (h : PO X e t) (i : ∀ σ H Q, t' σ H Q → t σ H Q) : PO X e t' := ⟨fun pins s σ H Q I q => h.run pins s σ H Q I (i _ _ _ q)⟩
theorem pp_no {X : Cx} : PDp X none fNoP := PO.imp po_none fun σ H Q ⟨W, S, d, S', G, e, q⟩ => by cases e; exact q H W (Go.refl G)
theorem pp_some {X : Cx} {e : Expr} {f : Fe} (h : PDo X e f) : PDp X (some e) (fP f) := PO.imp (po_some h) fun σ H Q ⟨W, S, d, S', G, e, q⟩ => by
  obtain ⟨⟨x, S1⟩, e1, e⟩ := bind_some e
  cases x with
  | i k =>
    cases e
    exact ⟨W, S, _, S1, G, e1, fun v H1 W1 g1 r1 => ⟨_, r1.int g1.G, q H1 W1 g1⟩⟩
  | _ => cases e
def cut {α : Type} (xs : List α) (lo hi : Option Int) : List α := (xs.drop (HT.sIx xs.length 0 lo)).take (HT.sIx xs.length xs.length hi - HT.sIx xs.length 0 lo)
def mSl (lo hi : Option Int) : M1
  | .l xs => some (.l (cut xs lo hi))
  | .t xs => some (.t (cut xs lo hi))
  | .s x => some (.s (cutS x lo hi))
  | _ => none
def fSl (f : Fe) (l h : Fo) : Fe := fun S => (f S).bind fun p => (l p.2).bind fun q => (h q.2).bind fun r => (mSl q.1 r.1 p.1).map fun z => (z, r.2)
theorem Reps.cut {K : CK} {H : Hp} {W : Wr} {vs : List V} {ds : List D} (r : Reps K H W vs ds) (lo hi : Option Int) : Reps K H W (cutV vs lo hi) (cut ds lo hi) := by
  unfold cutV PD.cut
  rw [r.length]
  exact Reps.take _ (Reps.drop _ r)
def rSl (K : CK) : V → Option Int → Option Int → Hp → VK → Prop := fun x lo hi H Q => ∃ W S σ dx d, Good K H W S σ ∧ RepB K H W S σ x dx ∧ mSl lo hi dx = some d ∧ ∀ v H' W', Go K σ H W S H' W' S → Rep K H' W' v d → Q v H'
theorem cutS_le (z : Str) (lo hi : Option Int) : (cutS z lo hi).length ≤ z.length := by
  show (List.take _ (List.drop _ z.cps.toList)).toArray.size ≤ z.cps.size
  rw [List.size_toArray, List.length_take, List.length_drop, Array.length_toList]
  omega
theorem sl_m {X : Cx} : SlR X (rSl X.kk) := by
  intro pins s σ H x v vl vu lo hi sl Q I rx hs pl pu ⟨W, S, σ', dx, d, G, r1, e, q⟩
  unfold mSl at e
  split at e
  · cases e
    obtain ⟨p1, vs, rfl, h1, z1, q1⟩ := r1.lst G
    refine sl_list pins s σ H _ v vl vu lo hi sl Q I rx hs pl pu ⟨_, _, rfl, .inl (.inl h1), fun p hp => ?_⟩
    exact q _ _ _ (G.new hp) (Rep.new_lst hp (Nat.le_trans (cutV_length _ _ _) z1) (q1.cut lo hi))
  · cases e
    obtain ⟨p1, vs, rfl, h1, z1, q1, w1⟩ := r1.tup G
    refine sl_tupA pins s σ H _ v vl vu lo hi sl Q I rx hs pl pu ⟨_, _, rfl, h1, fun hw => ?_, fun _ p hp => ?_⟩
    · have q2 := q1.cut lo hi
      have e2 : cutV vs lo hi = vs := by
        unfold cutV
        rw [hw.1, hw.2]
        exact List.take_of_length_le (by rw [List.length_drop]; omega)
      rw [e2] at q2
      exact q _ _ _ (Go.refl G) (.t h1 z1 q2)
    · exact q _ _ _ (G.new hp) (Rep.new_tup hp (Nat.le_trans (cutV_length _ _ _) z1) (q1.cut lo hi))
  · cases e
    obtain ⟨rfl, z1⟩ := r1.str G
    exact sl_str pins s σ H _ v vl vu lo hi sl Q I rx hs pl pu ⟨_, rfl, z1, q _ _ _ (Go.refl G) (.s (Nat.le_trans (cutS_le _ _ _) z1))⟩
  · cases e
theorem pd_sl {X : Cx} {e : Expr} {f : Fe} {lo hi : Option Expr} {l h : Fo} {pos p2 : Pos} (he : PDo X e f) (hl : PDp X lo l) (hh : PDp X hi h) : PDe X (.Subscript e (.Slice lo hi none p2) pos) (fSl f l h) :=
  PE.imp (pe_slice sl_m he hl hh) fun σ H Q ⟨W, S, d, S', G, e, q⟩ => by
    obtain ⟨⟨x, S1⟩, e1, e⟩ := bind_some e
    obtain ⟨⟨lo', S2⟩, e2, e⟩ := bind_some e
    obtain ⟨⟨hi', S3⟩, e3, e⟩ := bind_some e
    obtain ⟨z, e4, e⟩ := map_some e
    cases e
    exact ⟨W, S, x, S1, G, e1, fun v H1 W1 g1 r1 => ⟨W1, S1, lo', S2, g1.G, e2, fun H2 W2 g2 => ⟨W2, S2, hi', S3, g2.G, e3, fun H3 W3 g3 =>
      ⟨W3, S3, σ, x, d, g3.G, (r1.go g2.le g2.sl g2.G).go g3.le g3.sl g3.G, e4, fun w H4 W4 g4 r4 => q w H4 W4 (((g1.trans g2).trans g3).trans g4) r4⟩⟩⟩⟩

/-! ### built-in functions -/
section
variable {K : CK} {H : Hp} {W : Wr} {S : Se} {σ : L2.St}
theorem RepBs.one {vs : List V} {d : D} (r : RepBs K H W S σ vs [d]) : ∃ v, vs = [v] ∧ RepB K H W S σ v d := by
  cases r with
  | cons a t => cases t; exact ⟨_, rfl, a⟩
theorem RepBs.two {vs : List V} {d e : D} (r : RepBs K H W S σ vs [d, e]) : ∃ v u, vs = [v, u] ∧ RepB K H W S σ v d ∧ RepB K H W S σ u e := by
  cases r with
  | cons a t =>
    obtain ⟨u, rfl, b⟩ := t.one
    exact ⟨_, u, rfl, a, b⟩
end
def mLen : Ms
  | [.l xs] => some (.i xs.length)
  | [.t xs] => some (.i xs.length)
  | [.s x] => some (.i x.length)
  | _ => none
theorem cr_mLen {X : Cx} : CallR X (.builtin "len") (rOs X.kk mLen) := by
  intro pins s σ H xs us Q I rx ⟨W, S, σ', ds, d, G, r, e, q⟩
  unfold mLen at e
  split at e
  · cases e
    obtain ⟨v, rfl, r1⟩ := r.one
    obtain ⟨p1, vs, rfl, h1, z1, q1⟩ := r1.lst G
    refine call_len_seq pins s σ H _ us Q I rx ⟨_, _, rfl, .inl (.inl (.inl h1)), ?_⟩
    rw [q1.length]
    exact q _ _ _ (Go.refl G) (.i _)
  · cases e
    obtain ⟨v, rfl, r1⟩ := r.one
    obtain ⟨p1, vs, rfl, h1, z1, q1, _⟩ := r1.tup G
    refine call_len_seq pins s σ H _ us Q I rx ⟨_, _, rfl, .inr h1, ?_⟩
    rw [q1.length]
    exact q _ _ _ (Go.refl G) (.i _)
  · cases e
    obtain ⟨v, rfl, r1⟩ := r.one
    obtain ⟨rfl, z1⟩ := r1.str G
    exact call_len_str pins s σ H _ us Q I rx ⟨_, rfl, z1, q _ _ _ (Go.refl G) (.i _)⟩
  · cases e
def intsOf : List D → Option (List Int)
  | [] => some []
  | .i x :: r => (intsOf r).map (x :: ·)
  | _ => none
def boolsOf : List D → Option (List Bool)
  | [] => some []
  | .b x :: r => (boolsOf r).map (x :: ·)
  | _ => none
theorem intsOf_eq : ∀ {ds : List D} {ns : List Int}, intsOf ds = some ns → ds = ns.map D.i
  | [], ns, h => by cases h; rfl
  | d :: r, ns, h => by
    cases d <;> first | cases h | skip
    obtain ⟨ms, e1, e2⟩ := map_some (x := intsOf r) h
    subst e2
    rw [intsOf_eq e1]
    rfl
theorem boolsOf_eq : ∀ {ds : List D} {ns : List Bool}, boolsOf ds = some ns → ds = ns.map D.b
  | [], ns, h => by cases h; rfl
  | d :: r, ns, h => by
    cases d <;> first | cases h | skip
    obtain ⟨ms, e1, e2⟩ := map_some (x := boolsOf r) h
    subst e2
    rw [boolsOf_eq e1]
    rfl
@[simp] theorem intsOf_map : ∀ ns : List Int, intsOf (ns.map D.i) = some ns
  | [] => rfl
  | n :: r => by show (intsOf (r.map D.i)).map (n :: ·) = _; rw [intsOf_map r]; rfl
@[simp] theorem boolsOf_map : ∀ ns : List Bool, boolsOf (ns.map D.b) = some ns
  | [] => rfl
  | n :: r => by show (boolsOf (r.map D.b)).map (n :: ·) = _; rw [boolsOf_map r]; rfl
def mSum : Ms
  | [.l xs] => (intsOf xs).map fun ns => .i ns.sum
  | [.t xs] => (intsOf xs).map fun ns => .i ns.sum
  | _ => none
def mAny : Ms
  | [.l xs] => (boolsOf xs).map fun ns => .b (ns.any id)
  | _ => none
def mAll : Ms
  | [.l xs] => (boolsOf xs).map fun ns => .b (ns.all id)
  | _ => none
section
variable {X : Cx} (hc : X.calm = true)
include hc
open PySem.W PyProof.Rows in
theorem sum_tup {pins : List (Addr × Obj)} {s : Shared} {σ : L2.St} {H : Hp} {a : Addr} {ns : List Int} {Q : VK} (I : Inv X pins σ H s) (h : SqT X.K H a (ns.map V.int)) (q : Q (.int ns.sum) H) :
    wpAny (model X.prog X.w) X.A (call (.builtin "sum") [.ref a]) (EP X pins σ Q) X.xe s := by
  obtain ⟨its, rv, hl, _⟩ := I.tuple h
  have hi := rv.ints
  obtain ⟨xs, e⟩ := hi.allInts.items
  have hn : numsOf (intItems xs).toList = ns := by rw [← e]; exact hi.numsOf
  rw [nums_intItems] at hn
  rw [e] at hl
  refine ktm_sumG (I.ok.hd hc) hl fun h' tk t' hk => ?_
  rw [preSum_eq, List.take_of_length_le (by simp), hn]
  exact ⟨.int _, H, I.kept hk, ⟨_, rfl⟩, q⟩
theorem cr_mSum : CallR X (.builtin "sum") (rOs X.kk mSum) := by
  intro pins s σ H xs us Q I rx ⟨W, S, σ', ds, d, G, r, e, q⟩
  unfold mSum at e
  split at e
  · obtain ⟨ns, e1, e⟩ := map_some e
    cases e
    obtain ⟨v, rfl, r1⟩ := r.one
    obtain ⟨p1, vs, rfl, h1, z1, q1⟩ := r1.lst G
    rw [intsOf_eq e1] at q1
    obtain rfl := q1.ints
    exact cr_sum hc pins s σ H _ us Q I rx ⟨_, _, rfl, .inl (.inl h1), q _ _ _ (Go.refl G) (.i _)⟩
  · obtain ⟨ns, e1, e⟩ := map_some e
    cases e
    obtain ⟨v, rfl, r1⟩ := r.one
    obtain ⟨p1, vs, rfl, h1, z1, q1, _⟩ := r1.tup G
    rw [intsOf_eq e1] at q1
    obtain rfl := q1.ints
    rw [Vals.ref1 rx]
    exact sum_tup hc I h1 (q _ _ _ (Go.refl G) (.i _))
  · cases e
theorem cr_mAny : CallR X (.builtin "any") (rOs X.kk mAny) := by
  intro pins s σ H xs us Q I rx ⟨W, S, σ', ds, d, G, r, e, q⟩
  unfold mAny at e
  split at e
  · obtain ⟨ns, e1, e⟩ := map_some e
    cases e
    obtain ⟨v, rfl, r1⟩ := r.one
    obtain ⟨p1, vs, rfl, h1, z1, q1⟩ := r1.lst G
    rw [boolsOf_eq e1] at q1
    obtain rfl := q1.bools
    exact cr_any hc pins s σ H _ us Q I rx ⟨_, _, rfl, .inl (.inl h1), q _ _ _ (Go.refl G) (.b _)⟩
  · cases e
theorem cr_mAll : CallR X (.builtin "all") (rOs X.kk mAll) := by
  intro pins s σ H xs us Q I rx ⟨W, S, σ', ds, d, G, r, e, q⟩
  unfold mAll at e
  split at e
  · obtain ⟨ns, e1, e⟩ := map_some e
    cases e
    obtain ⟨v, rfl, r1⟩ := r.one
    obtain ⟨p1, vs, rfl, h1, z1, q1⟩ := r1.lst G
    rw [boolsOf_eq e1] at q1
    obtain rfl := q1.bools
    exact cr_all hc pins s σ H _ us Q I rx ⟨_, _, rfl, .inl (.inl h1), q _ _ _ (Go.refl G) (.b _)⟩
  · cases e
end
def mAbs : Ms
  | [.i x] => some (.i (if x < 0 then -x else x))
  | _ => none
def mInt : Ms
  | [.i x] => some (.i x)
  | [.b x] => some (.i (if x = true then 1 else 0))
  | _ => none
def mTuple : Ms
  | [.l xs] => some (.t xs)
  | [.t xs] => some (.t xs)
  | _ => none
def mList : Ms
  | [.l xs] => some (.l xs)
  | [.t xs] => some (.l xs)
  | _ => none
section
variable {X : Cx}
theorem cr_mAbs : CallR X (.builtin "abs") (rOs X.kk mAbs) := by
  intro pins s σ H xs us Q I rx ⟨W, S, σ', ds, d, G, r, e, q⟩
  unfold mAbs at e
  split at e
  · cases e
    obtain ⟨v, rfl, r1⟩ := r.one
    obtain rfl := r1.int G
    exact call_abs pins s σ H _ us Q I rx ⟨_, rfl, q _ _ _ (Go.refl G) (.i _)⟩
  · cases e
theorem cr_mInt : CallR X (.type "int") (rOs X.kk mInt) := by
  intro pins s σ H xs us Q I rx ⟨W, S, σ', ds, d, G, r, e, q⟩
  unfold mInt at e
  split at e
  · cases e
    obtain ⟨v, rfl, r1⟩ := r.one
    obtain rfl := r1.int G
    exact call_int1 pins s σ H _ us Q I rx (.inl ⟨_, rfl, q _ _ _ (Go.refl G) (.i _)⟩)
  · cases e
    obtain ⟨v, rfl, r1⟩ := r.one
    obtain rfl := r1.bl G
    exact call_int1 pins s σ H _ us Q I rx (.inr ⟨_, rfl, q _ _ _ (Go.refl G) (.i _)⟩)
  · cases e
theorem cr_mTuple : CallR X (.type "tuple") (rOs X.kk mTuple) := by
  intro pins s σ H xs us Q I rx ⟨W, S, σ', ds, d, G, r, e, q⟩
  unfold mTuple at e
  split at e
  · cases e
    obtain ⟨v, rfl, r1⟩ := r.one
    obtain ⟨p1, vs, rfl, h1, z1, q1⟩ := r1.lst G
    exact call_tuple_of pins s σ H _ us Q I rx ⟨_, _, rfl, .inl ⟨.inl (.inl h1), fun l hl => q _ _ _ (G.new hl) (Rep.new_tup hl z1 q1)⟩⟩
  · cases e
    obtain ⟨v, rfl, r1⟩ := r.one
    obtain ⟨p1, vs, rfl, h1, z1, q1, w1⟩ := r1.tup G
    exact call_tuple_of pins s σ H _ us Q I rx ⟨_, _, rfl, .inr ⟨h1, q _ _ _ (Go.refl G) w1⟩⟩
  · cases e
theorem cn_mList : CallR X (.type "list") (rNs X.kk mList) := by
  intro pins s σ H xs us Q I rx ⟨W, S, σ', ds, d, G, r, e, q⟩
  unfold mList at e
  split at e
  · cases e
    obtain ⟨v, rfl, r1⟩ := r.one
    obtain ⟨p1, vs, rfl, h1, z1, q1⟩ := r1.lst G
    exact call_list_of pins s σ H _ us Q I rx ⟨_, _, rfl, .inl (.inl (.inl h1)), fun l hl => q _ _ _ (G.new0 hl) ⟨vs, upd_same, z1, q1.le (Le.new0 hl)⟩ (Fresh.le (K := X.kk) (G.fresh hl))⟩
  · cases e
    obtain ⟨v, rfl, r1⟩ := r.one
    obtain ⟨p1, vs, rfl, h1, z1, q1, w1⟩ := r1.tup G
    exact call_list_of pins s σ H _ us Q I rx ⟨_, _, rfl, .inr h1, fun l hl => q _ _ _ (G.new0 hl) ⟨vs, upd_same, z1, q1.le (Le.new0 hl)⟩ (Fresh.le (K := X.kk) (G.fresh hl))⟩
  · cases e
end
end PD

/-! PdF: targets, what is walked, comprehensions. -/
namespace PD
open PySem PySem.Spec L2

theorem at_set {α : Type} {l : List (Option α)} {i j : Nat} {x : Option α} {y : α} (h : (l.set i x)[j]? = some (some y)) : (j = i ∧ x = some y ∧ i < l.length) ∨ (j ≠ i ∧ l[j]? = some (some y)) := by
  by_cases e : j = i
  · subst e
    rw [List.getElem?_set_self'] at h
    cases q : l[j]? with
    | none => rw [q] at h; cases h
    | some z =>
      rw [q] at h
      refine .inl ⟨rfl, ?_, (List.getElem?_eq_some_iff.mp q).1⟩
      exact Option.some.inj h
  · rw [List.getElem?_set_ne (Ne.symm e)] at h
    exact .inr ⟨e, h⟩
theorem set_at {α : Type} {l : List (Option α)} {i : Nat} {x : Option α} (h : i < l.length) : (l.set i x)[i]? = some x := List.getElem?_set_self h
theorem set_ne {α : Type} {l : List (Option α)} {i j : Nat} {x : Option α} (h : j ≠ i) : (l.set i x)[j]? = l[j]? := List.getElem?_set_ne (Ne.symm h)

def Se.put (S : Se) (i : Nat) (x : Option Sl) : Se := { S with sl := S.sl.set i x }
section
variable {K : CK} {H H' : Hp} {W W' : Wr} {S S' : Se} {σ σ' : L2.St}
theorem Good.set {i : Nat} {v : V} {d : D} (G : Good K H W S σ) (r : Rep K H W v d) : Good K H W (S.put i (some (Sl.v d))) (σ.set i (some v)) := by
  refine ⟨G.g0, ?_, fun j x h => ?_, fun j x h => ?_, fun j k x y n h1 h2 => ?_⟩
  · show (S.sl.set i _).length = _
    rw [List.length_set, List.length_set]
    exact G.len
  · rcases at_set (l := S.sl) h with ⟨e, e2, hi⟩ | ⟨n, h⟩
    · subst e
      have e3 : d = x := by injection e2 with e2; injection e2
      subst e3
      exact ⟨v, set_at (by rw [← G.len]; exact hi), r⟩
    · obtain ⟨u, q, r'⟩ := G.val j x h
      exact ⟨u, by rw [set_ne n]; exact q, r'⟩
  · rcases at_set (l := S.sl) h with ⟨e, e2, hi⟩ | ⟨n, h⟩
    · injection e2 with e2; exact Sl.noConfusion e2
    · obtain ⟨a, q, r'⟩ := G.own j x h
      exact ⟨a, by rw [set_ne n]; exact q, r'⟩
  · rcases at_set (l := S.sl) h1 with ⟨e, e2, hi⟩ | ⟨n1, h1⟩
    · injection e2 with e2; exact Sl.noConfusion e2
    · rcases at_set (l := S.sl) h2 with ⟨e, e2, hi⟩ | ⟨n2, h2⟩
      · injection e2 with e2; exact Sl.noConfusion e2
      · rw [set_ne n1, set_ne n2]
        exact G.dis j k x y n h1 h2
theorem Good.setO {i : Nat} {a : Addr} {d : D} (G : Good K H W S σ) (o : OwnAt K H W a d) (f : Fresh H W S σ a) : Good K H W (S.put i (some (Sl.o d))) (σ.set i (some (V.ref a))) := by
  obtain ⟨f1, f2, f3, f4⟩ := f
  refine ⟨G.g0, ?_, fun j x h => ?_, fun j x h => ?_, fun j k x y n h1 h2 => ?_⟩
  · show (S.sl.set i _).length = _
    rw [List.length_set, List.length_set]
    exact G.len
  · rcases at_set (l := S.sl) h with ⟨e, e2, hi⟩ | ⟨n, h⟩
    · injection e2 with e2; exact Sl.noConfusion e2
    · obtain ⟨u, q, r'⟩ := G.val j x h
      exact ⟨u, by rw [set_ne n]; exact q, r'⟩
  · rcases at_set (l := S.sl) h with ⟨e, e2, hi⟩ | ⟨n, h⟩
    · subst e
      have e3 : d = x := by injection e2 with e2; injection e2
      subst e3
      exact ⟨a, set_at (by rw [← G.len]; exact hi), o, f1, f2, f3⟩
    · obtain ⟨b, q, r'⟩ := G.own j x h
      exact ⟨b, by rw [set_ne n]; exact q, r'⟩
  · rcases at_set (l := S.sl) h1 with ⟨e1, e2, hi⟩ | ⟨n1, h1'⟩
    · rcases at_set (l := S.sl) h2 with ⟨e2, _, _⟩ | ⟨n2, h2'⟩
      · exact absurd (e1.trans e2.symm) n
      · subst e1
        rw [set_at (by rw [← G.len]; exact hi), set_ne n2]
        exact fun z => f4 k y h2' z.symm
    · skip
      rcases at_set (l := S.sl) h2 with ⟨e2, _, hi⟩ | ⟨n2, h2'⟩
      · subst e2
        rw [set_at (by rw [← G.len]; exact hi), set_ne n1]
        exact fun z => f4 j x h1' z
      · rw [set_ne n1, set_ne n2]
        exact G.dis j k x y n h1' h2'
/-- a slot forgotten -/
theorem Good.drop {i : Nat} (G : Good K H W S σ) : Good K H W (S.put i none) (σ.set i none) := by
  refine ⟨G.g0, ?_, fun j x h => ?_, fun j x h => ?_, fun j k x y n h1 h2 => ?_⟩
  · show (S.sl.set i _).length = _
    rw [List.length_set, List.length_set]
    exact G.len
  · rcases at_set (l := S.sl) h with ⟨e, e2, hi⟩ | ⟨n, h⟩
    · cases e2
    · obtain ⟨u, q, r'⟩ := G.val j x h
      exact ⟨u, by rw [set_ne n]; exact q, r'⟩
  · rcases at_set (l := S.sl) h with ⟨e, e2, hi⟩ | ⟨n, h⟩
    · cases e2
    · obtain ⟨b, q, r'⟩ := G.own j x h
      exact ⟨b, by rw [set_ne n]; exact q, r'⟩
  · rcases at_set (l := S.sl) h1 with ⟨e1, e2, hi⟩ | ⟨n1, h1⟩
    · cases e2
    · rcases at_set (l := S.sl) h2 with ⟨_, e2, hi⟩ | ⟨n2, h2⟩
      · cases e2
      · rw [set_ne n1, set_ne n2]
        exact G.dis j k x y n h1 h2
end

/-! ### targets -/
abbrev Ft := D → Se → Option Se
abbrev Fts := List D → Se → Option Se
def Off (ts : List Nat) (σ σ' : L2.St) : Prop := σ'.length = σ.length ∧ ∀ j : Nat, j ∉ ts → σ'[j]? = σ[j]?
def tG (K : CK) (ts : List Nat) (f : Ft) : TG := fun v σ H Q => ∃ W S d S', Good K H W S σ ∧ Rep K H W v d ∧ f d S = some S' ∧ ∀ σ', Good K H W S' σ' → Off ts σ σ' → Q σ' H
def tGs (K : CK) (ts : List Nat) (f : Fts) : TGs := fun vs σ H Q => ∃ W S ds S', Good K H W S σ ∧ Reps K H W vs ds ∧ f ds S = some S' ∧ ∀ σ', Good K H W S' σ' → Off ts σ σ' → Q σ' H
/-- what a target leaves alone -/
def FtOff (ts : List Nat) (f : Ft) : Prop := ∀ d S S', f d S = some S' → S'.w = S.w ∧ ∀ j : Nat, j ∉ ts → S'.sl[j]? = S.sl[j]?
def FtsOff (ts : List Nat) (f : Fts) : Prop := ∀ d S S', f d S = some S' → S'.w = S.w ∧ ∀ j : Nat, j ∉ ts → S'.sl[j]? = S.sl[j]?
abbrev PDg (X : Cx) (e : Expr) (ts : List Nat) (f : Ft) : Prop := PG X e (tG X.kk ts f) ∧ FtOff ts f
abbrev PDgs (X : Cx) (es : List Expr) (ts : List Nat) (f : Fts) : Prop := PGs X es (tGs X.kk ts f) ∧ FtsOff ts f ∧ ∀ ds S S', f ds S = some S' → ds.length = es.length
def fNm (i : Nat) : Ft := fun d S => some (S.put i (some (Sl.v d)))
def fTp (f : Fts) : Ft := fun d S => match d with
  | .t ds => f ds S
  | _ => none
def fGn : Fts := fun ds S => match ds with
  | [] => some S
  | _ => none
def fGc (f : Ft) (g : Fts) : Fts := fun ds S => match ds with
  | d :: r => (f d S).bind (g r)
  | [] => none
theorem PG.imp {X : Cx} {e : Expr} {t t' : TG} (h : PG X e t) (i : ∀ v σ H Q, t' v σ H Q → t v σ H Q) : PG X e t' := ⟨fun pins s σ H v u Q I r q => h.run pins s σ H v u Q I r (i _ _ _ _ q)⟩
theorem PGs.imp {X : Cx} {es : List Expr} {t t' : TGs} (h : PGs X es t) (i : ∀ v σ H Q, t' v σ H Q → t v σ H Q) : PGs X es t' := ⟨fun pins s σ H v u Q I r q => h.run pins s σ H v u Q I r (i _ _ _ _ q)⟩
section
variable {X : Cx} {pos : Pos} {e : Expr} {es : List Expr} {ts us : List Nat} {f : Ft} {g : Fts}
theorem pdg_n (i : Nat) {x : Str} (hN : X.N.Nodup) (hi : X.N[i]? = some x := by rfl) (hl : L2.Loc X.env.scope x := by first | exact Or.inl rfl | exact Or.inr rfl) (hf : X.fn x = true ∨ X.env.scope.names.lookup x = some .local := by first | exact .inl rfl | exact .inr rfl) : PDg X (.Name x pos) [i] (fNm i) := by
  refine ⟨PG.imp (pg_name hN hi hl hf) fun v σ H Q ⟨W, S, d, S', G, r, e, q⟩ => ?_, fun d S S' e => ?_⟩
  · cases e
    refine q _ (G.set r) ⟨by rw [List.length_set], fun j hj => ?_⟩
    exact set_ne (fun z => hj (by simp [z]))
  · cases e
    exact ⟨rfl, fun j hj => set_ne (fun z => hj (by simp [z]))⟩
theorem pdgs_nil : PDgs X [] [] fGn := by
  refine ⟨PGs.imp pgs_nil fun vs σ H Q ⟨W, S, ds, S', G, r, e, q⟩ => ?_, fun ds S S' h => ?_, fun ds S S' h => ?_⟩
  · unfold fGn at e
    split at e
    · cases e
      cases r
      exact ⟨rfl, q _ G ⟨rfl, fun _ _ => rfl⟩⟩
    · cases e
  · cases ds with
    | nil => cases h; exact ⟨rfl, fun _ _ => rfl⟩
    | cons => cases h
  · cases ds with
    | nil => rfl
    | cons => cases h
theorem pdgs_cons (h : PDg X e ts f) (h' : PDgs X es us g) (hs : (assignEach (e :: es) X.env).map (·.2) = assign e X.env :: (assignEach es X.env).map (·.2) := by rfl) : PDgs X (e :: es) (ts ++ us) (fGc f g) := by
  refine ⟨PGs.imp (pgs_cons h.1 h'.1 hs) fun vs σ H Q ⟨W, S, ds, S', G, r, e, q⟩ => ?_, fun ds S S' q => ?_, fun ds S S' q => ?_⟩
  · unfold fGc at e
    split at e
    · rename_i d rr
      obtain ⟨S1, e1, e2⟩ := bind_some e
      cases r with
      | cons r1 r2 =>
        refine ⟨_, _, rfl, W, S, d, S1, G, r1, e1, fun σ1 G1 o1 => ⟨W, S1, rr, S', G1, r2, e2, fun σ2 G2 o2 => q σ2 G2 ⟨o2.1.trans o1.1, fun j hj => ?_⟩⟩⟩
        simp only [List.mem_append, not_or] at hj
        rw [o2.2 j hj.2, o1.2 j hj.1]
    · cases e
  · cases ds with
    | nil => cases q
    | cons d r =>
      obtain ⟨S1, e1, e2⟩ := bind_some (x := f d S) q
      obtain ⟨w1, o1⟩ := h.2 _ _ _ e1
      obtain ⟨w2, o2⟩ := h'.2.1 _ _ _ e2
      refine ⟨w2.trans w1, fun j hj => ?_⟩
      simp only [List.mem_append, not_or] at hj
      rw [o2 j hj.2, o1 j hj.1]
  · cases ds with
    | nil => cases q
    | cons d r =>
      obtain ⟨S1, e1, e2⟩ := bind_some (x := f d S) q
      rw [List.length_cons, List.length_cons, h'.2.2 _ _ _ e2]
theorem pdg_t {k : Nat} (hc : X.calm = true) (h : PDgs X es ts g) (hn : (assignEach es X.env).length = es.length := by rfl) (hst : (assignEach es X.env).findIdx? (·.1) = none := by rfl) : PDg X (.Tuple es k pos) ts (fTp g) := by
  refine ⟨PG.imp (pg_tup hc h.1 hn hst) fun v σ H Q ⟨W, S, d, S', G, r, e, q⟩ => ?_, fun d S S' e => ?_⟩
  · unfold fTp at e
    split at e
    · cases r with
      | t hh z r => exact ⟨_, _, rfl, hh, by rw [r.length]; exact h.2.2 _ _ _ e, W, S, _, S', G, r, e, q⟩
    · cases e
  · unfold fTp at e
    split at e
    · exact h.2.1 _ _ _ e
    · cases e
end
end PD

/-! PdG: what is walked, comprehensions. -/
namespace PD
open PySem PySem.Spec L2

/-- the heap grows by a tuple that is shared at once, or not at all -/
inductive Ext : Hp → Wr → Hp → Wr → Prop
  | refl (H : Hp) (W : Wr) : Ext H W H W
  | new {H : Hp} {W : Wr} (p : Addr) (o : HO) : H p = none → Ext H W (upd H p o) (W.add p)
section
variable {K : CK} {H H' : Hp} {W W' : Wr} {S S' : Se} {σ σ' : L2.St}
theorem Ext.go (e : Ext H W H' W') (G : Good K H W S σ) : Go K σ H W S H' W' S := by
  cases e with
  | refl => exact Go.refl G
  | new p o hp => exact G.new hp
theorem Ext.le (e : Ext H W H' W') : Le H W H' W' := by
  cases e with
  | refl => exact Le.refl _ _
  | new p o hp => exact Le.new hp
end
structure ItOk (K : CK) (bd : Bool) (J : It) (ds : List D) (H0 : Hp) (W0 : Wr) (E : Hp → Wr → Prop) : Prop where
  len : bd = true → ds.length ≤ sizeLine
  go : ∀ (i : Nat) (d : D) (H : Hp) (W : Wr), Le H0 W0 H W → (bd = true → E H W) → ds[i]? = some d → J.go i H ∧ ∀ x H', J.yld i H x H' → ∃ W', Ext H W H' W' ∧ Rep K H' W' x d
  stop : ∀ (H : Hp) (W : Wr), Le H0 W0 H W → (bd = true → E H W) → J.stop ds.length H
def tI (K : CK) (bd : Bool) (f : Fs) : TI := fun σ H R => ∃ W S ds S', Good K H W S σ ∧ f S = some (ds, S') ∧ ∀ J H' W', Go K σ H W S H' W' S' → ItOk K bd J ds H' W' (fun Hn Wn => ∃ Si, Good K Hn Wn Si σ ∧ SLe S' Si) → R J H'
abbrev PDi (X : Cx) (tg iter : Expr) (bd : Bool) (f : Fs) : Prop := PI X tg iter (tI X.kk bd f)
theorem PI.imp {X : Cx} {tg iter : Expr} {t t' : TI} (h : PI X tg iter t) (i : ∀ σ H R, t' σ H R → t σ H R) : PI X tg iter t' := ⟨fun pins s σ H R I q => h.run pins s σ H R I (i _ _ _ q)⟩

/-- a list, a tuple, a text -/
def fSeq (f : Fe) : Fs := fun S => (f S).bind fun p => match p.1 with
  | .l xs => some (xs, p.2)
  | .t xs => some (xs, p.2)
  | .s x => some (x.cps.toList.map fun c => .s ⟨#[c]⟩, p.2)
  | _ => none
theorem SqL.at {K : PySem.W.Frag} {H : Hp} {a : Addr} {xs : List V} (h : H a = some (.lst xs)) : SqL K H a xs := .inl (.inl h)
theorem pdi_seq {X : Cx} {tg e : Expr} {bd : Bool} {f : Fe} (h : PDe X e f) : PDi X tg e bd (fSeq f) := by
  refine ⟨fun pins s σ H R I ⟨W, S, ds, S', G, e, q⟩ => ?_⟩
  obtain ⟨⟨x, S1⟩, e1, e⟩ := bind_some e
  cases x with
  | l xs =>
    cases e
    refine (pi_list h).run pins s σ H R I ⟨W, S, _, _, G, e1, fun v H1 W1 g1 r1 => ?_⟩
    cases r1 with
    | @l a vs _ hf hv z r =>
      refine ⟨_, rfl, ⟨_, SqL.at hv⟩, q _ _ W1 g1 ⟨fun _ => by rw [← r.length]; exact z, fun i d H2 W2 l _ hd => ?_, fun H2 W2 l _ => ?_⟩⟩
      · have hv2 := l.lst _ _ hf hv
        obtain ⟨y, hy, ry⟩ := r.get hd
        refine ⟨⟨_, _, SqL.at hv2, hy⟩, fun x' H' ⟨e', q'⟩ => ?_⟩
        subst e'
        have := q' _ (SqL.at hv2)
        rw [hy] at this
        cases this
        exact ⟨W2, .refl _ _, ry.le l⟩
      · exact ⟨_, SqL.at (l.lst _ _ hf hv), by rw [r.length]; exact Nat.le_refl _⟩
  | t xs =>
    cases e
    refine (pi_tup h).run pins s σ H R I ⟨W, S, _, _, G, e1, fun v H1 W1 g1 r1 => ?_⟩
    cases r1 with
    | @t a vs _ hv z r =>
      refine ⟨_, rfl, ⟨_, hv⟩, q _ _ W1 g1 ⟨fun _ => by rw [← r.length]; exact z, fun i d H2 W2 l _ hd => ?_, fun H2 W2 l _ => ?_⟩⟩
      · have hv2 := SqT.le l hv
        obtain ⟨y, hy, ry⟩ := r.get hd
        refine ⟨⟨_, _, hv2, hy⟩, fun x' H' ⟨e', q'⟩ => ?_⟩
        subst e'
        have := q' _ hv2
        rw [hy] at this
        cases this
        exact ⟨W2, .refl _ _, ry.le l⟩
      · exact ⟨_, SqT.le l hv, by rw [r.length]; exact Nat.le_refl _⟩
  | s z =>
    cases e
    refine (pi_str h).run pins s σ H R I ⟨W, S, _, _, G, e1, fun v H1 W1 g1 r1 => ?_⟩
    cases r1 with
    | s hz =>
      refine ⟨_, rfl, q _ _ W1 g1 ⟨fun _ => by rw [List.length_map, Array.length_toList]; exact hz, fun i d H2 W2 l _ hd => ?_, fun H2 W2 l _ => ?_⟩⟩
      · rw [List.getElem?_map] at hd
        obtain ⟨c, e1, e2⟩ := map_some hd
        subst e2
        have hi := (List.getElem?_eq_some_iff.mp e1).1
        refine ⟨show i < z.cps.size by simpa using hi, fun x' H' ⟨e', c', ec, ex⟩ => ?_⟩
        subst e' ex
        have : c' = c := by
          rw [← Array.getElem?_toList, e1] at ec
          exact (Option.some.inj ec).symm
        subst this
        exact ⟨W2, .refl _ _, .s (by show 1 ≤ sizeLine; decide)⟩
      · show z.cps.size ≤ _
        rw [List.length_map, Array.length_toList]
        exact Nat.le_refl _
  | _ => cases e
/-! ### ranges -/
def rng (lo : Int) (n : Nat) : List D := (List.range n).map fun (i : Nat) => D.i (lo + (i : Int))
theorem rng_get {lo : Int} {n i : Nat} {d : D} (h : (rng lo n)[i]? = some d) : i < n ∧ d = .i (lo + (i : Int)) := by
  unfold rng at h
  rw [List.getElem?_map] at h
  obtain ⟨j, e1, e2⟩ := map_some h
  have hi := (List.getElem?_eq_some_iff.mp e1)
  obtain ⟨h1, h2⟩ := hi
  rw [List.length_range] at h1
  rw [List.getElem_range] at h2
  subst h2
  exact ⟨h1, e2.symm⟩
theorem rng_length {lo : Int} {n : Nat} : (rng lo n).length = n := by unfold rng; rw [List.length_map, List.length_range]
noncomputable def in62 (x : Int) : Bool := @decide (-(2 ^ 62) ≤ x ∧ x < 2 ^ 62) (Classical.propDecidable _)
theorem in62_iff {x : Int} (h : in62 x = true) : -(2 ^ 62) ≤ x ∧ x < 2 ^ 62 := by
  exact @of_decide_eq_true _ (Classical.propDecidable _) h
def szOk (bd : Bool) (n : Nat) : Bool := !bd || decide (n ≤ lim)
theorem szOk_le {bd : Bool} {n : Nat} (h : szOk bd n = true) (e : bd = true) : n ≤ sizeLine := by
  unfold szOk at h
  subst e
  rw [← lim_eq]
  simpa using h
noncomputable def mRng1 (bd : Bool) : List D → Option (List D)
  | [.i n] => if in62 n = true ∧ szOk bd n.toNat = true then some (rng 0 n.toNat) else none
  | _ => none
noncomputable def mRng2 (bd : Bool) : List D → Option (List D)
  | [.i a, .i b] => if in62 a = true ∧ in62 b = true ∧ szOk bd (b - a).toNat = true then some (rng a (b - a).toNat) else none
  | _ => none
def fRng (m : List D → Option (List D)) (g : Fs) : Fs := fun S => (g S).bind fun p => (m p.1).map fun r => (r, p.2)
theorem itr_ok {K : CK} {bd : Bool} {lo : Int} {n : Nat} {H : Hp} {W : Wr} {E : Hp → Wr → Prop} (z : bd = true → n ≤ sizeLine) : ItOk K bd (Itr lo n) (rng lo n) H W E :=
  ⟨fun e => by rw [rng_length]; exact z e, fun i d H2 W2 l _ hd => by
    obtain ⟨h1, rfl⟩ := rng_get hd
    exact ⟨h1, fun x' H' ⟨e', ex⟩ => by subst e' ex; exact ⟨W2, .refl _ _, .i _⟩⟩, fun H2 W2 l _ => by show n ≤ _; rw [rng_length]; exact Nat.le_refl _⟩
theorem Reps.one {K : CK} {H : Hp} {W : Wr} {vs : List V} {n : Int} (r : Reps K H W vs [.i n]) : vs = [.int n] := by
  cases r with
  | cons a t => cases t; cases a; rfl
theorem Reps.two {K : CK} {H : Hp} {W : Wr} {vs : List V} {n m : Int} (r : Reps K H W vs [.i n, .i m]) : vs = [.int n, .int m] := by
  cases r with
  | cons a t => cases a; rw [t.one]
section
variable {X : Cx} {tg a b c : Expr} {g : Fs} {bd : Bool} {p pos : Pos}
theorem pdi_rng1 (hm : X.mg "range" = none) (h : PDs X [a] g) (hg : Gl X "range" := by rfl) (hs : starEach [a] X.env = (false, eval a X.env) :: starEach [] X.env := by rfl) : PDi X tg (.Call (.Name "range" p) [a] [] pos) bd (fRng (mRng1 bd) g) := by
  refine PI.imp (pi_range1 hg hm h hs) fun σ H R ⟨W, S, ds, S', G, e, q⟩ => ?_
  obtain ⟨⟨xs, S1⟩, e1, e⟩ := bind_some e
  obtain ⟨r, e2, e⟩ := map_some e
  have e : (r, S1) = (ds, S') := e
  injection e with ea eb
  subst ea eb
  refine ⟨W, S, xs, S1, G, e1, fun vs H1 W1 g1 r1 => ?_⟩
  have e2 : mRng1 bd xs = some r := e2
  unfold mRng1 at e2
  split at e2
  · obtain ⟨⟨z, z'⟩, e2⟩ := ite_some' e2
    cases e2
    obtain ⟨z1, z2⟩ := in62_iff z
    exact ⟨_, r1.one, z1, z2, q _ _ W1 g1 (itr_ok (szOk_le z'))⟩
  · cases e2
theorem pdi_rng2 (hm : X.mg "range" = none) (h : PDs X [a, b] g) (hg : Gl X "range" := by rfl) (hs : starEach [a, b] X.env = [(false, eval a X.env), (false, eval b X.env)] := by rfl) (hs2 : starEach [b] X.env = [(false, eval b X.env)] := by rfl) : PDi X tg (.Call (.Name "range" p) [a, b] [] pos) bd (fRng (mRng2 bd) g) := by
  refine PI.imp (pi_range2 hg hm h hs hs2) fun σ H R ⟨W, S, ds, S', G, e, q⟩ => ?_
  obtain ⟨⟨xs, S1⟩, e1, e⟩ := bind_some e
  obtain ⟨r, e2, e⟩ := map_some e
  have e : (r, S1) = (ds, S') := e
  injection e with ea eb
  subst ea eb
  refine ⟨W, S, xs, S1, G, e1, fun vs H1 W1 g1 r1 => ?_⟩
  have e2 : mRng2 bd xs = some r := e2
  unfold mRng2 at e2
  split at e2
  · obtain ⟨⟨y, z, z'⟩, e2⟩ := ite_some' e2
    cases e2
    obtain ⟨z1, z2⟩ := in62_iff z
    obtain ⟨y1, y2⟩ := in62_iff y
    exact ⟨_, _, r1.two, ⟨y1, y2, z1, z2⟩, q _ _ W1 g1 (itr_ok (szOk_le z'))⟩
  · cases e2
end

/-! ### zip of two lists or of two tuples -/
def mZip : List D → Option (List D)
  | [.l xs, .l ys] => some (List.zipWith (fun x y => D.t [x, y]) xs ys)
  | [.t xs, .t ys] => some (List.zipWith (fun x y => D.t [x, y]) xs ys)
  | _ => none
def fZip (g : Fs) : Fs := fun S => (g S).bind fun p => (mZip p.1).map fun r => (r, p.2)
theorem zip_get {xs ys : List D} {i : Nat} {d : D} (h : (List.zipWith (fun x y => D.t [x, y]) xs ys)[i]? = some d) : ∃ x y, xs[i]? = some x ∧ ys[i]? = some y ∧ d = .t [x, y] := by
  rw [List.getElem?_zipWith] at h
  cases hx : xs[i]? with
  | none => rw [hx] at h; cases h
  | some x =>
    cases hy : ys[i]? with
    | none => rw [hx, hy] at h; cases h
    | some y =>
      rw [hx, hy] at h
      exact ⟨x, y, rfl, rfl, (Option.some.inj h).symm⟩
theorem rep_pair {K : CK} {H : Hp} {W : Wr} {x y : V} {a b : D} {T : Addr} (hT : H T = none) (r1 : Rep K H W x a) (r2 : Rep K H W y b) : Rep K (upd H T (.tup [x, y])) (W.add T) (.ref T) (.t [a, b]) :=
  Rep.new_tup hT (by show 2 ≤ sizeLine; decide) (.cons r1 (.cons r2 .nil))
section
variable {X : Cx} {elts : List Expr} {kk : Nat} {tpos p pos : Pos} {e e2 : Expr} {g : Fs} {bd : Bool}
theorem pdi_zip (hm : X.mg "zip" = none) (h : PDs X [e, e2] g) (hg : Gl X "zip" := by rfl) (hs : starEach [e, e2] X.env = (false, eval e X.env) :: starEach [e2] X.env := by rfl) (hpl : (backTo pos (starEach [e2] X.env)).any (·.1) = false := by rfl) :
    PDi X (.Tuple elts kk tpos) (.Call (.Name "zip" p) [e, e2] [] pos) bd (fZip g) := by
  refine PI.imp (RZ.pi_zipA hg hm h hs hpl) fun σ H R ⟨W, S, ds, S', G, e, q⟩ => ?_
  obtain ⟨⟨xs, S1⟩, e1, e⟩ := bind_some e
  obtain ⟨r, e2, e⟩ := map_some e
  have e : (r, S1) = (ds, S') := e
  injection e with ea eb
  subst ea eb
  refine ⟨W, S, xs, S1, G, e1, fun vs H1 W1 g1 r1 => ?_⟩
  have e2 : mZip xs = some r := e2
  unfold mZip at e2
  split at e2
  · cases e2
    cases r1 with
    | cons a t => cases t with
      | cons b t => cases t; cases a with
        | @l pa va da fa ha za ra => cases b with
          | @l pb vb db fb hb zb rb =>
            refine ⟨_, _, _, _, rfl, .inl ⟨SqL.at ha, SqL.at hb, q _ _ W1 g1 ⟨fun _ => ?_, fun i d H2 W2 l _ hd => ?_, fun H2 W2 l _ => ?_⟩⟩⟩
            · rw [List.length_zipWith, ← ra.length]
              exact Nat.le_trans (Nat.min_le_left _ _) za
            · obtain ⟨x, y, hx, hy, rfl⟩ := zip_get hd
              obtain ⟨v, hv, rv⟩ := ra.get hx
              obtain ⟨w, hw, rw'⟩ := rb.get hy
              have ha2 := SqL.at (K := X.K) (l.lst _ _ fa ha)
              have hb2 := SqL.at (K := X.K) (l.lst _ _ fb hb)
              refine ⟨⟨_, _, _, _, ha2, hb2, hv, hw⟩, fun x' H' ⟨T, x1, x2, ex, hT, eH, f1, f2⟩ => ?_⟩
              subst ex eH
              have h1 := f1 _ ha2
              have h2 := f2 _ hb2
              rw [hv] at h1
              rw [hw] at h2
              cases h1
              cases h2
              exact ⟨_, .new T _ hT, rep_pair hT (rv.le l) (rw'.le l)⟩
            · refine ⟨_, _, SqL.at (l.lst _ _ fa ha), SqL.at (l.lst _ _ fb hb), ?_⟩
              rw [List.length_zipWith, ra.length, rb.length]
              omega
  · cases e2
    cases r1 with
    | cons a t => cases t with
      | cons b t => cases t; cases a with
        | @t pa va da ha za ra => cases b with
          | @t pb vb db hb zb rb =>
            refine ⟨_, _, _, _, rfl, .inr ⟨ha, hb, q _ _ W1 g1 ⟨fun _ => ?_, fun i d H2 W2 l _ hd => ?_, fun H2 W2 l _ => ?_⟩⟩⟩
            · rw [List.length_zipWith, ← ra.length]
              exact Nat.le_trans (Nat.min_le_left _ _) za
            · obtain ⟨x, y, hx, hy, rfl⟩ := zip_get hd
              obtain ⟨v, hv, rv⟩ := ra.get hx
              obtain ⟨w, hw, rw'⟩ := rb.get hy
              have ha2 := SqT.le l ha
              have hb2 := SqT.le l hb
              refine ⟨⟨_, _, _, _, ha2, hb2, hv, hw⟩, fun x' H' ⟨T, x1, x2, ex, hT, eH, f1, f2⟩ => ?_⟩
              subst ex eH
              have h1 := f1 _ ha2
              have h2 := f2 _ hb2
              rw [hv] at h1
              rw [hw] at h2
              cases h1
              cases h2
              exact ⟨_, .new T _ hT, rep_pair hT (rv.le l) (rw'.le l)⟩
            · refine ⟨_, _, SqT.le l ha, SqT.le l hb, ?_⟩
              rw [List.length_zipWith, ra.length, rb.length]
              omega
  · cases e2
end

/-! ### comprehensions -/
def wipeS (S : Se) : List Nat → Se
  | [] => S
  | v :: vs => (wipeS S vs).put v none
def back (S0 S : Se) : List Nat → Se
  | [] => S
  | v :: vs => (back S0 S vs).put v (S0.sl[v]?.join)
def noOwn (S : Se) (vs : List Nat) : Bool := vs.all fun v => match S.sl[v]? with
  | some (some (Sl.o _)) => false
  | _ => true
def lc1 (vs : List Nat) (ft : Ft) (tt : Fb) (te : Fe) (S : Se) (x : D) : Option (Option D × Se) :=
  (ft x (wipeS S vs)).bind fun S1 => (tt S1).bind fun p => if p.1 = true then (te p.2).map fun q => (some q.1, back S q.2 vs) else some (none, back S p.2 vs)
def lcGo (vs : List Nat) (ft : Ft) (tt : Fb) (te : Fe) : List D → Se → Option (List D × Se)
  | [], S => some ([], S)
  | x :: xs, S => (lc1 vs ft tt te S x).bind fun p => (lcGo vs ft tt te xs p.2).map fun q => (p.1.toList ++ q.1, q.2)
def fLc (vs : List Nat) (fi : Fs) (ft : Ft) (tt : Fb) (te : Fe) : Fe := fun S => (fi S).bind fun p => if noOwn p.2 vs = true then (lcGo vs ft tt te p.1 p.2).map fun q => (.l q.1, q.2) else none
def fYes : Fb := fun S => some (true, S)
theorem wipe_length' (S : Se) : ∀ vs, (wipeS S vs).sl.length = S.sl.length
  | [] => rfl
  | v :: vs => by unfold wipeS Se.put; rw [List.length_set, wipe_length' S vs]
theorem back_length (S0 S : Se) : ∀ vs, (back S0 S vs).sl.length = S.sl.length
  | [] => rfl
  | v :: vs => by unfold back Se.put; rw [List.length_set, back_length S0 S vs]
theorem back_w (S0 S : Se) : ∀ vs, (back S0 S vs).w = S.w
  | [] => rfl
  | v :: vs => back_w S0 S vs
theorem wipe_w (S : Se) : ∀ vs, (wipeS S vs).w = S.w
  | [] => rfl
  | v :: vs => wipe_w S vs
theorem back_out {S0 S : Se} {j : Nat} : ∀ {vs : List Nat}, j ∉ vs → (back S0 S vs).sl[j]? = S.sl[j]?
  | [], _ => rfl
  | v :: vs, h => by
    unfold back Se.put
    rw [set_ne (fun e => h (by rw [e]; exact List.mem_cons_self))]
    exact back_out fun z => h (List.mem_cons_of_mem _ z)
theorem back_in {S0 S : Se} {j : Nat} : ∀ {vs : List Nat}, j ∈ vs → j < S.sl.length → (back S0 S vs).sl[j]? = some (S0.sl[j]?.join)
  | v :: vs, h, hl => by
    unfold back Se.put
    by_cases e : j = v
    · subst e
      exact set_at (by rw [back_length]; exact hl)
    · rw [set_ne e]
      exact back_in ((List.mem_cons.mp h).resolve_left e) hl
theorem wipe_out {S : Se} {j : Nat} : ∀ {vs : List Nat}, j ∉ vs → (wipeS S vs).sl[j]? = S.sl[j]?
  | [], _ => rfl
  | v :: vs, h => by
    unfold wipeS Se.put
    rw [set_ne (fun e => h (by rw [e]; exact List.mem_cons_self))]
    exact wipe_out fun z => h (List.mem_cons_of_mem _ z)
theorem wipeV_out {σ : L2.St} {j : Nat} : ∀ {vs : List Nat}, j ∉ vs → (wipe σ vs)[j]? = σ[j]?
  | [], _ => rfl
  | v :: vs, h => by
    unfold wipe
    rw [set_ne (fun e => h (by rw [e]; exact List.mem_cons_self))]
    exact wipeV_out fun z => h (List.mem_cons_of_mem _ z)
section
variable {K : CK} {H H' : Hp} {W W' : Wr} {S S' : Se} {σ σ' : L2.St}
theorem Good.wipe (G : Good K H W S σ) : ∀ vs, Good K H W (wipeS S vs) (L2.wipe σ vs)
  | [] => G
  | v :: vs => by
    unfold wipeS L2.wipe
    exact (Good.wipe G vs).drop
theorem wipe_eq {vs : List Nat} {σ σ2 : L2.St} (hl : σ2.length = σ.length) (h : ∀ j : Nat, j ∉ vs → σ2[j]? = σ[j]?) : L2.wipe σ2 vs = L2.wipe σ vs := by
  have inn : ∀ (τ : L2.St) (j : Nat) (us : List Nat), j ∈ us → (L2.wipe τ us)[j]? = if j < τ.length then some none else none := by
    intro τ j us
    induction us with
    | nil => intro h; cases h
    | cons v us ih =>
      intro hm
      unfold L2.wipe
      by_cases e : j = v
      · subst e
        by_cases hlt : j < τ.length
        · rw [if_pos hlt]
          exact set_at (by rw [L2.wipe_length]; exact hlt)
        · rw [if_neg hlt]
          exact List.getElem?_eq_none (by rw [List.length_set, L2.wipe_length]; omega)
      · rw [set_ne e]
        exact ih ((List.mem_cons.mp hm).resolve_left e)
  refine List.ext_getElem? fun j => ?_
  by_cases hj : j ∈ vs
  · rw [inn σ2 j vs hj, inn σ j vs hj, hl]
  · rw [wipeV_out hj, wipeV_out hj]
    exact h j hj
/-- behind a block's turn: the block's own names are as they were -/
theorem Good.back {H0 : Hp} {W0 : Wr} {S0 S3 : Se} {σ3 : L2.St} {vs : List Nat} (G0 : Good K H0 W0 S0 σ) (l : Le H0 W0 H W) (G : Good K H W S3 σ3) (hl : σ3.length = σ.length) (ho : ∀ j : Nat, j ∉ vs → σ3[j]? = σ[j]?) (no : noOwn S0 vs = true) :
    Good K H W (back S0 S3 vs) σ := by
  have no' : ∀ (j : Nat) d, j ∈ vs → S0.sl[j]? ≠ some (some (Sl.o d)) := fun j d hj e => by
    have := List.all_eq_true.mp no j hj
    rw [e] at this
    cases this
  have len3 : S3.sl.length = S0.sl.length := by rw [G.len, G0.len, hl]
  have split : ∀ (j : Nat) x, (PD.back S0 S3 vs).sl[j]? = some (some x) → (j ∈ vs ∧ S0.sl[j]? = some (some x)) ∨ (j ∉ vs ∧ S3.sl[j]? = some (some x)) := fun j x h => by
    by_cases hj : j ∈ vs
    · have hlt : j < S3.sl.length := by
        have := (List.getElem?_eq_some_iff.mp h).1
        rw [back_length] at this
        exact this
      rw [back_in hj hlt] at h
      refine .inl ⟨hj, ?_⟩
      cases e : S0.sl[j]? with
      | none => rw [e] at h; cases h
      | some y =>
        rw [e] at h
        cases y with
        | none => cases h
        | some z => exact h
    · rw [back_out hj] at h
      exact .inr ⟨hj, h⟩
  refine ⟨by rw [back_w]; exact G.g0, by rw [back_length, len3]; exact G0.len, fun j d h => ?_, fun j d h => ?_, fun j k d e n h1 h2 => ?_⟩
  · rcases split j _ h with ⟨_, h⟩ | ⟨hj, h⟩
    · obtain ⟨v, q, r⟩ := G0.val j d h
      exact ⟨v, q, r.le l⟩
    · obtain ⟨v, q, r⟩ := G.val j d h
      exact ⟨v, by rw [← ho j hj]; exact q, r⟩
  · rcases split j _ h with ⟨hj, h⟩ | ⟨hj, h⟩
    · exact absurd h (no' j d hj)
    · obtain ⟨v, q, r⟩ := G.own j d h
      exact ⟨v, by rw [← ho j hj]; exact q, r⟩
  · rcases split j _ h1 with ⟨hj, h⟩ | ⟨hj, h1⟩
    · exact absurd h (no' j d hj)
    · rcases split k _ h2 with ⟨hk, h⟩ | ⟨hk, h2⟩
      · exact absurd h (no' k e hk)
      · rw [← ho j hj, ← ho k hk]
        exact G.dis j k d e n h1 h2
end

section
variable {K : CK} {H H' : Hp} {W W' : Wr} {S S' : Se} {σ σ' : L2.St}
theorem Le.fr (l : Le H W H' W') (f : List (Addr × HO)) (f' : List (Addr × HO)) : Le H { W with fr := f } H' { W' with fr := f' } := ⟨l.fz, l.tup, l.rd, l.lst, l.dA⟩
theorem Le.fr1 (l : Le H W H' W') (f' : List (Addr × HO)) : Le H W H' { W' with fr := f' } := ⟨l.fz, l.tup, l.rd, l.lst, l.dA⟩
theorem Le.fr0 (f f' : List (Addr × HO)) : Le H { W with fr := f } H { W with fr := f' } := ⟨fun _ h => h, fun _ _ h => h, fun _ _ _ h => h, fun _ _ _ h => h, fun _ h => h⟩
theorem OwnAt.le {a : Addr} {d : D} (l : Le H W H W') (h : OwnAt K H W a d) : OwnAt K H W' a d := by
  cases d with
  | l ds => obtain ⟨vs, h, z, r⟩ := h; exact ⟨vs, h, z, r.le l⟩
  | d ds => obtain ⟨ob, h, kvs, y, z, q, r⟩ := h; exact ⟨ob, h, kvs, y, z, q, r.le l⟩
  | _ => exact h.elim
/-- another list of what the callers own, over the same frozen part -/
theorem Good.reFr {f : List (Addr × HO)} (G : Good K H W S σ) (hf : ∀ p ∈ f, H p.1 = some p.2 ∧ ¬ W.Fz p.1 ∧ W.dA ≠ some p.1) (hn : (f.map Prod.fst).Nodup) (ho : ∀ (i : Nat) d a, S.sl[i]? = some (some (Sl.o d)) → σ[i]? = some (some (V.ref a)) → ∀ p ∈ f, p.1 ≠ a) :
    Good K H { W with fr := f } S σ := by
  have l : Le H W H { W with fr := f } := ⟨fun _ h => h, fun _ _ h => h, fun _ _ _ h => h, fun _ _ _ h => h, fun _ h => h⟩
  refine ⟨⟨hf, ?_, G.g0.fz, hn⟩, G.len, fun i d e => ?_, fun i d e => ?_, G.dis⟩
  · have h := G.g0.drw
    show match S.w, W.dA with | none, none => True | some x, some b => DrawAt K H { W with fr := f } b x ∧ ¬ W.Fz b | _, _ => False
    exact h
  · obtain ⟨v, q, r⟩ := G.val i d e
    exact ⟨v, q, r.le l⟩
  · obtain ⟨a, q, o, f1, f2, f3⟩ := G.own i d e
    exact ⟨a, q, o.le l, f1, ho i d a e q, f3⟩
/-- a new object of the caller's own -/
theorem Good.inFr {p : Addr} {o : HO} (G : Good K H W S σ) (hp : H p = none) : Good K (upd H p o) { W with fr := (p, o) :: W.fr } S σ := by
  have G1 := (G.new0 (o := o) hp).G
  obtain ⟨f1, f2, f3, f4⟩ := G.fresh hp
  refine G1.reFr (fun q hq => ?_) ?_ fun i d a e q z hz => ?_
  · rcases List.mem_cons.mp hq with rfl | hq
    · exact ⟨upd_same, f1, f3⟩
    · exact G1.g0.frk q hq
  · rw [List.map_cons, List.nodup_cons]
    refine ⟨fun hm => ?_, G.g0.nd⟩
    obtain ⟨q, hq, e⟩ := List.mem_map.mp hm
    exact f2 q hq e
  · rcases List.mem_cons.mp hz with rfl | hz
    · exact fun (e' : p = a) => f4 i d e (by rw [q, e'])
    · obtain ⟨b, q', _, _, g2, _⟩ := G.own i d e
      rw [q] at q'
      cases q'
      exact g2 z hz
/-- .. is let go -/
theorem Good.outFr {p : Addr} {o : HO} {f : List (Addr × HO)} (G : Good K H W S σ) (e : W.fr = (p, o) :: f) : Good K H { W with fr := f } S σ ∧ Fresh H { W with fr := f } S σ p ∧ H p = some o := by
  have hn := G.g0.nd
  rw [e, List.map_cons, List.nodup_cons] at hn
  have hp := G.g0.frk (p, o) (by rw [e]; exact List.mem_cons_self)
  refine ⟨G.reFr (fun q hq => G.g0.frk q (by rw [e]; exact List.mem_cons_of_mem _ hq)) hn.2 fun i d a e1 q z hz => ?_, ⟨hp.2.1, fun q hq ee => hn.1 (List.mem_map.mpr ⟨q, hq, ee⟩), hp.2.2, fun i d e1 q => ?_⟩, hp.1⟩
  · obtain ⟨b, q', _, _, g2, _⟩ := G.own i d e1
    rw [q] at q'
    cases q'
    exact g2 z (by rw [e]; exact List.mem_cons_of_mem _ hz)
  · obtain ⟨b, q', _, _, g2, _⟩ := G.own i d e1
    rw [q] at q'
    cases q'
    exact g2 (p, o) (by rw [e]; exact List.mem_cons_self) rfl
/-- .. is changed -/
theorem Le.upFr {p : Addr} {o o' : HO} (hp : H p = some o) (hm : Mut (some o)) (n : ¬ W.Fz p) : Le H W (upd H p o') W := by
  have ne : ∀ a, W.Fz a → a ≠ p := fun a h z => n (z ▸ h)
  refine ⟨fun _ h => h, fun a vs h => ?_, fun a u f h => ?_, fun a vs f h => by rw [upd_ne (ne a f)]; exact h, fun _ h => h⟩
  · have na : a ≠ p := fun z => by
      subst z
      rcases h with h | ⟨ob, h⟩
      · rw [hp] at h; cases h; exact hm
      · rw [hp] at h; cases h; exact hm
    rcases h with h | ⟨ob, h⟩
    · exact .inl (by rw [upd_ne na]; exact h)
    · exact .inr ⟨ob, by rw [upd_ne na]; exact h⟩
  · rcases h with h | ⟨ob, h⟩
    · exact .inl (by rw [upd_ne (ne a f)]; exact h)
    · exact .inr ⟨ob, by rw [upd_ne (ne a f)]; exact h⟩
theorem Good.upFr {p : Addr} {o o' : HO} {f : List (Addr × HO)} (G : Good K H W S σ) (e : W.fr = (p, o) :: f) (hm : Mut (some o)) : Good K (upd H p o') { W with fr := (p, o') :: f } S σ := by
  have hn := G.g0.nd
  rw [e, List.map_cons, List.nodup_cons] at hn
  have hp := G.g0.frk (p, o) (by rw [e]; exact List.mem_cons_self)
  have l := Le.upFr (W := W) (o' := o') hp.1 hm hp.2.1
  have l2 : Le H W (upd H p o') { W with fr := (p, o') :: f } := l.fr1 _
  have other : ∀ q ∈ f, q.1 ≠ p := fun q hq ee => hn.1 (List.mem_map.mpr ⟨q, hq, ee⟩)
  refine ⟨⟨fun q hq => ?_, ?_, fun a h => ?_, ?_⟩, G.len, fun i d e1 => ?_, fun i d e1 => ?_, G.dis⟩
  · rcases List.mem_cons.mp hq with rfl | hq
    · exact ⟨upd_same, hp.2⟩
    · obtain ⟨a1, a2⟩ := G.g0.frk q (by rw [e]; exact List.mem_cons_of_mem _ hq)
      exact ⟨by rw [upd_ne (other q hq)]; exact a1, a2⟩
  · have h := G.g0.drw
    have hd := hp.2.2
    show match S.w, W.dA with | none, none => True | some x, some b => DrawAt K (upd H p o') { W with fr := (p, o') :: f } b x ∧ ¬ W.Fz b | _, _ => False
    revert h hd
    cases S.w with
    | none => cases W.dA <;> exact fun h _ => h
    | some x =>
      cases q : W.dA with
      | none => exact fun h _ => h
      | some b =>
        rintro ⟨⟨sA, e1, e2, e2', e3⟩, n⟩ hd
        exact ⟨⟨sA, by rw [upd_ne (fun z => hd (by rw [z]))]; exact e1, e2, l.lst _ _ e2 e2', e3⟩, n⟩
  · by_cases h1 : a = p
    · rw [h1, upd_same]; exact fun z => nomatch z
    · rw [upd_ne h1]; exact G.g0.fz a h
  · rw [List.map_cons, List.nodup_cons]; exact hn
  · obtain ⟨v, q, r⟩ := G.val i d e1
    exact ⟨v, q, r.le l2⟩
  · obtain ⟨a, q, ow, f1, f2, f3⟩ := G.own i d e1
    have na : a ≠ p := fun z => f2 (p, o) (by rw [e]; exact List.mem_cons_self) z.symm
    refine ⟨a, q, ?_, f1, fun z hz => ?_, f3⟩
    · cases d with
      | l ds => obtain ⟨vs, h, z, r⟩ := ow; exact ⟨vs, by rw [upd_ne na]; exact h, z, r.le l2⟩
      | d ds => obtain ⟨ob, h, kvs, y, z, q, r⟩ := ow; exact ⟨ob, by rw [upd_ne na]; exact h, kvs, y, z, q, r.le l2⟩
      | _ => exact ow.elim
    · rcases List.mem_cons.mp hz with rfl | hz
      · exact fun z => na z.symm
      · exact f2 z (by rw [e]; exact List.mem_cons_of_mem _ hz)
end

abbrev PDts (X : Cx) (ifs : List Expr) (f : Fb) : Prop := PTs X ifs (tT X.kk f)
theorem PTs.imp {X : Cx} {ifs : List Expr} {t t' : TT} (h : PTs X ifs t) (i : ∀ σ H Q, t' σ H Q → t σ H Q) : PTs X ifs t' := ⟨fun pins s σ H Q I q => h.run pins s σ H Q I (i _ _ _ q)⟩
theorem pdts_nil {X : Cx} : PDts X [] fYes := PTs.imp pts_nil fun σ H Q ⟨W, S, b, S', G, e, q⟩ => by cases e; exact q H W (Go.refl G)
theorem pdts_one {X : Cx} {c : Expr} {f : Fb} (h : PDt X c f) : PDts X [c] f := pts_one h
section
variable {X : Cx} {elt tg iter : Expr} {ifs : List Expr} {scope : Scope} {own : List (Str × Nat)} {pos : Pos} {fi : Fs} {ts : List Nat} {ft : Ft} {tt : Fb} {te : Fe}
/-- what a step keeps, seen from the block's outside -/
theorem back_go {S S1 S3 : Se} {vs : List Nat} (o1 : ∀ j : Nat, j ∉ vs → S1.sl[j]? = S.sl[j]?) (sl : SLe S1 S3) (kp : ∀ (i : Nat) d, S1.sl[i]? = some (some (Sl.v d)) → S3.sl[i]? = some (some (Sl.v d))) (hl : S3.sl.length = S.sl.length) :
    SLe S (back S S3 vs) ∧ ∀ (i : Nat) d, S.sl[i]? = some (some (Sl.v d)) → (back S S3 vs).sl[i]? = some (some (Sl.v d)) := by
  have inn : ∀ (j : Nat) x, j ∈ vs → S.sl[j]? = some (some x) → (back S S3 vs).sl[j]? = some (some x) := fun j x hj e => by
    rw [back_in hj (by rw [hl]; exact (List.getElem?_eq_some_iff.mp e).1), e]
    rfl
  refine ⟨fun i d e => ?_, fun i d e => ?_⟩
  · by_cases hi : i ∈ vs
    · exact .inl (inn i _ hi e)
    · rw [back_out hi]
      exact sl i d (by rw [o1 i hi]; exact e)
  · by_cases hi : i ∈ vs
    · exact inn i _ hi e
    · rw [back_out hi]
      exact kp i d (by rw [o1 i hi]; exact e)
theorem tLc_of {K : CK} {vs : List Nat} (hoff : FtOff ts ft) (hsub : ∀ j ∈ ts, j ∈ vs) {σ : L2.St} {H : Hp} {Q : VK} (hq : tN K (fLc vs fi ft tt te) σ H Q) : tLc (tI K true fi) (tG K ts ft) (tT K tt) (tD K te) vs σ H Q := by
  obtain ⟨W, S, d, S', G, e, q⟩ := hq
  obtain ⟨⟨xs, S1⟩, e1, e⟩ := bind_some e
  obtain ⟨no, e⟩ := ite_some' e
  obtain ⟨⟨ys, S2⟩, e2, e⟩ := map_some e
  have e : (D.l ys, S2) = (d, S') := e
  injection e with ea eb
  subst ea eb
  refine ⟨W, S, xs, S1, G, e1, fun J H1 W1 g1 io => fun D hD => ?_⟩
  refine ⟨fun i m Hc => m = xs.length - i ∧ i ≤ xs.length ∧ ∃ Wd Si acc ad rest, Wd.fr = (D, .lst acc) :: W1.fr ∧ Good K Hc Wd Si σ ∧ Le H1 W1 Hc Wd ∧ SLe S1 Si ∧ (∀ (j : Nat) d, S1.sl[j]? = some (some (Sl.v d)) → Si.sl[j]? = some (some (Sl.v d))) ∧
    Reps K Hc Wd acc ad ∧ acc.length ≤ i ∧ noOwn Si vs = true ∧ lcGo vs ft tt te (xs.drop i) Si = some (rest, S2) ∧ ys = ad ++ rest, ⟨xs.length, rfl, Nat.zero_le _, { W1 with fr := (D, .lst []) :: W1.fr }, S1, [], [], ys, rfl, g1.G.inFr hD, (Le.new0 hD).fr1 _, SLe.refl _, fun _ _ h => h, .nil, Nat.le_refl _, no, e2, rfl⟩, fun i m Hc hw => ?_⟩
  obtain ⟨hm, hi', Wd, Si, acc, ad, rest, hfr, Gd, ld, sld, kpd, rd, hlen, nod, ed, ey⟩ := hw
  by_cases hx : i < xs.length
  · -- a turn
    refine .inr ?_
    have hget : xs[i]? = some xs[i] := List.getElem?_eq_getElem hx
    generalize xs[i] = x at hget
    have hdrop : xs.drop i = x :: xs.drop (i + 1) := by
      rw [List.drop_eq_getElem_cons hx]
      rw [List.getElem?_eq_getElem hx] at hget
      cases hget
      rfl
    rw [hdrop] at ed
    obtain ⟨⟨o, S4⟩, es, ed⟩ := bind_some ed
    obtain ⟨⟨rest', S5⟩, er, ed⟩ := map_some ed
    have ed : (o.toList ++ rest', S5) = (rest, S2) := ed
    injection ed with ea2 eb2
    rw [eb2] at er
    subst ea2
    obtain ⟨Sa, ea, es⟩ := bind_some es
    obtain ⟨⟨b, Sb⟩, eb, es⟩ := bind_some es
    obtain ⟨jg, jy⟩ := io.go i x Hc Wd (show Le H1 W1 Hc Wd from ld) (fun _ => ⟨Si, Gd, sld⟩) hget
    refine ⟨jg, fun H' => (∃ Wd Si acc ad rest, Wd.fr = (D, .lst acc) :: W1.fr ∧ Good K H' Wd Si σ ∧ Le H1 W1 H' Wd ∧ SLe S1 Si ∧ (∀ (j : Nat) d, S1.sl[j]? = some (some (Sl.v d)) → Si.sl[j]? = some (some (Sl.v d))) ∧
      Reps K H' Wd acc ad ∧ acc.length ≤ i + 1 ∧ noOwn Si vs = true ∧ lcGo vs ft tt te (xs.drop (i + 1)) Si = some (rest, S2) ∧ ys = ad ++ rest), fun H' hN => ⟨xs.length - (i + 1), by omega, rfl, hx, hN⟩, fun v H' hy => ?_⟩
    obtain ⟨Wy, xy, ry⟩ := jy v H' hy
    have gy := xy.go Gd
    obtain ⟨oa1, oa2⟩ := hoff _ _ _ ea
    refine ⟨Wy, wipeS Si vs, x, Sa, gy.G.wipe vs, ry, ea, fun σ2 Ga offa => ?_⟩
    have offS : ∀ j : Nat, j ∉ vs → Sa.sl[j]? = Si.sl[j]? := fun j hj => by
      rw [oa2 j (fun z => hj (hsub j z)), wipe_out hj]
    have offV : ∀ j : Nat, j ∉ vs → σ2[j]? = σ[j]? := fun j hj => by
      rw [offa.2 j (fun z => hj (hsub j z)), wipeV_out hj]
    have len2 : σ2.length = σ.length := by rw [offa.1, L2.wipe_length]
    have frd : Wy.fr = (D, .lst acc) :: W1.fr := gy.fr.trans hfr
    refine ⟨wipe_eq len2 offV, Wy, Sa, b, Sb, Ga, eb, fun H3 W3 g3 => ?_⟩
    have lens : ∀ {Sz : Se} {Hz : Hp} {Wz : Wr}, Good K Hz Wz Sz σ2 → Sz.sl.length = Si.sl.length := fun Gz => by rw [Gz.len, len2, ← Gd.len]
    have noB : ∀ {Sz : Se}, Sz.sl.length = Si.sl.length → noOwn (back Si Sz vs) vs = true := fun {Sz} hz => by
      refine List.all_eq_true.mpr fun j hj => ?_
      have h0 := List.all_eq_true.mp nod j hj
      by_cases hlt : j < Sz.sl.length
      · rw [back_in hj hlt]
        cases q : Si.sl[j]? with
        | none => rfl
        | some y =>
          rw [q] at h0
          cases y with
          | none => rfl
          | some z => exact h0
      · rw [List.getElem?_eq_none (by rw [back_length]; omega)]
    cases b with
    | false =>
      refine iteF ?_
      cases es
      obtain ⟨k1, k2⟩ := back_go offS g3.sl g3.keep (lens g3.G)
      refine ⟨W3, back Si Sb vs, acc, ad, rest', g3.fr.trans frd, Good.back Gd ((xy.le).trans g3.le) g3.G len2 offV nod, (ld.trans xy.le).trans g3.le, SLe.trans (H1 := Hc) (W1 := Wd) sld k1 k2, fun j d h => k2 j d (kpd j d h), rd.le (xy.le.trans g3.le), by omega, noB (lens g3.G), er, by rw [ey]; rfl⟩
    | true =>
      refine iteT ?_
      obtain ⟨⟨y, Sc⟩, ec, es⟩ := map_some es
      cases es
      refine ⟨W3, Sb, y, Sc, g3.G, ec, fun u H4 W4 g4 r4 => ?_⟩
      have g34 := g3.trans g4
      have fr4 : W4.fr = (D, .lst acc) :: W1.fr := g34.fr.trans frd
      have hD4 := (g4.G.g0.frk (D, .lst acc) (by rw [fr4]; exact List.mem_cons_self))
      obtain ⟨k1, k2⟩ := back_go offS g34.sl g34.keep (lens g4.G)
      have Gb := Good.back Gd (xy.le.trans g34.le) g4.G len2 offV nod
      have rd4 := rd.le (xy.le.trans g34.le)
      have hlt : acc.length < sizeLine := by
        have := io.len rfl
        omega
      have lup : Le H4 W4 (upd H4 D (.lst (acc ++ [u]))) { W4 with fr := (D, .lst (acc ++ [u])) :: W1.fr } := (Le.upFr hD4.1 trivial hD4.2.1).fr1 _
      refine ⟨acc, hD4.1, hlt, { W4 with fr := (D, .lst (acc ++ [u])) :: W1.fr }, back Si Sc vs, acc ++ [u], ad ++ [y], rest', rfl, Gb.upFr fr4 trivial, ((ld.trans xy.le).trans g34.le).trans lup, SLe.trans (H1 := Hc) (W1 := Wd) sld k1 k2, fun j d h => k2 j d (kpd j d h), (Reps.append rd4 (.cons r4 .nil)).le lup, by rw [List.length_append]; exact Nat.succ_le_succ hlen, noB (lens g4.G), er, by rw [ey]; show ad ++ ([y] ++ rest') = ad ++ [y] ++ rest'; rw [List.append_assoc]⟩
  · -- the end
    refine .inl ?_
    have hi2 : i = xs.length := by omega
    subst hi2
    rw [List.drop_length] at ed
    cases ed
    rw [List.append_nil] at ey
    subst ey
    refine ⟨io.stop Hc Wd ld (fun _ => ⟨_, Gd, sld⟩), ?_⟩
    obtain ⟨G2, f2, hD2⟩ := Gd.outFr hfr
    have l2 : Le H1 W1 Hc { Wd with fr := W1.fr } := ld.fr1 _
    refine q D Hc { Wd with fr := W1.fr } (g1.trans ⟨l2, rfl, sld, kpd, G2⟩) ⟨acc, hD2, Nat.le_trans hlen (io.len rfl), rd.le (Le.fr1 (Le.refl _ _) _)⟩ f2
theorem pd_lc (hc : X.calm = true) (hN : X.N.Nodup) (hi : PDi X tg iter true fi) (ok : BlkOk X.N X.env.scope scope own)
    (hg : ∀ (s : Shared) (H : Hp) (C : Addr) (cl : List (Str × Addr)) (fp : List Addr), PDg (X.blk s H scope (compEnvC scope cl C X.env) fp) tg ts ft) (ht : ∀ (s : Shared) (H : Hp) (C : Addr) (cl : List (Str × Addr)) (fp : List Addr), PDts (X.blk s H scope (compEnvC scope cl C X.env) fp) ifs tt)
    (he : ∀ (s : Shared) (H : Hp) (C : Addr) (cl : List (Str × Addr)) (fp : List Addr), PDe (X.blk s H scope (compEnvC scope cl C X.env) fp) elt te) (hsub : ∀ j ∈ ts, j ∈ own.map (·.2) := by decide) (hs : ∀ x, foldedSetIterable iter X.env x = pure x := by intro _; rfl) :
    PDn X (.ListComp elt [⟨tg, iter, ifs, 0⟩] scope pos) (fLc (own.map (·.2)) fi ft tt te) := 
  ⟨fun pins s σ H Q I hq => (pe_lc hc hN hi ok (g := tG X.kk ts ft) (tt := tT X.kk tt) (te := tD X.kk te) (fun s H C cl fp => (hg s H C cl fp).1) ht he hs).run pins s σ H Q I (tLc_of (hg s H 0 [] []).2 hsub hq)⟩
end
end PD

/-! PdH: statements, loops, defs, calls. -/
namespace PD
open PySem PySem.Spec L2

inductive Out where
  | nx (S : Se) | rt (d : D) (w : Option DSt) | bk (S : Se) | ct (S : Se)
abbrev Fst := Se → Option Out
/-- what is wanted behind an outcome -/
def Wt (K : CK) (D : Ends) (H : Hp) (W : Wr) : Out → Prop
  | .nx S' => ∀ σ' H' W', Le H W H' W' → W'.fr = W.fr → Good K H' W' S' σ' → D.nx σ' H'
  | .bk S' => ∀ σ' H' W', Le H W H' W' → W'.fr = W.fr → Good K H' W' S' σ' → D.bk σ' H'
  | .ct S' => ∀ σ' H' W', Le H W H' W' → W'.fr = W.fr → Good K H' W' S' σ' → D.ct σ' H'
  | .rt d w => ∀ v H' W', Le H W H' W' → W'.fr = W.fr → G0 K H' W' w → Rep K H' W' v d → D.rt v H'
theorem Wt.le {K : CK} {D : Ends} {H H1 : Hp} {W W1 : Wr} {o : Out} (l : Le H W H1 W1) (f : W1.fr = W.fr) (h : Wt K D H W o) : Wt K D H1 W1 o := by
  cases o with
  | rt d w => exact fun v H' W' l' f' g r => h v H' W' (l.trans l') (f'.trans f) g r
  | _ => exact fun σ' H' W' l' f' g => h σ' H' W' (l.trans l') (f'.trans f) g
def tS (K : CK) (f : Fst) : TS := fun D σ H => ∃ W S o, Good K H W S σ ∧ f S = some o ∧ Wt K D H W o
abbrev PDst (X : Cx) (st : Stmt) (f : Fst) : Prop := PS X st (tS X.kk f)
abbrev PDsts (X : Cx) (sts : List Stmt) (f : Fst) : Prop := PSs X sts (tS X.kk f)
theorem PS.imp {X : Cx} {st : Stmt} {t t' : TS} (h : PS X st t) (i : ∀ D σ H, t' D σ H → t D σ H) : PS X st t' := ⟨fun pins s σ H D I q => h.run pins s σ H D I (i _ _ _ q)⟩
theorem PSs.imp {X : Cx} {st : List Stmt} {t t' : TS} (h : PSs X st t) (i : ∀ D σ H, t' D σ H → t D σ H) : PSs X st t' := ⟨fun pins s σ H D I q => h.run pins s σ H D I (i _ _ _ q)⟩

def sNil : Fst := fun S => some (.nx S)
def thenO (g : Fst) : Out → Option Out
  | .nx S' => g S'
  | o => some o
def sSeq (f g : Fst) : Fst := fun S => (f S).bind (thenO g)
def sRet (f : Fe) : Fst := fun S => (f S).map fun p => .rt p.1 p.2.w
def sRetN : Fst := fun S => some (.rt .n S.w)
def sIf (t : Fb) (f g : Fst) : Fst := fun S => (t S).bind fun p => if p.1 = true then f p.2 else g p.2
def sDrop (f : Fe) : Fst := fun S => (f S).map fun p => .nx p.2
def sAsg (f : Fe) (g : Ft) : Fst := fun S => (f S).bind fun p => (g p.1 p.2).map .nx
def sOwn (i : Nat) (f : Fe) : Fst := fun S => (f S).map fun p => .nx (p.2.put i (some (Sl.o p.1)))
def sBk : Fst := fun S => some (.bk S)
def sCt : Fst := fun S => some (.ct S)
section
variable {X : Cx} {st : Stmt} {sts : List Stmt} {f g : Fst} {e : Expr} {fe : Fe} {pos : Pos}
theorem sts_nil : PDsts X [] sNil := PSs.imp pss_nil fun D σ H ⟨W, S, o, G, e, q⟩ => by
  cases e
  exact q σ H W (Le.refl _ _) rfl G
theorem sts_cons (h : PDst X st f) (h' : PDsts X sts g) : PDsts X (st :: sts) (sSeq f g) := PSs.imp (pss_cons h h') fun D σ H ⟨W, S, o, G, e, q⟩ => by
  obtain ⟨o1, e1, e2⟩ := bind_some e
  refine ⟨W, S, o1, G, e1, ?_⟩
  cases o1 with
  | nx S1 => exact fun σ1 H1 W1 l1 f1 G1 => ⟨W1, S1, o, G1, e2, q.le l1 f1⟩
  | bk S1 => cases e2; exact q
  | ct S1 => cases e2; exact q
  | rt d w => cases e2; exact q
theorem sts_one (h : PDst X st f) : PDsts X [st] f := pss_one h
theorem st_pass : PDst X (.Pass pos) sNil := PS.imp ps_pass fun D σ H ⟨W, S, o, G, e, q⟩ => by
  cases e
  exact q σ H W (Le.refl _ _) rfl G
theorem st_bk : PDst X (.Break pos) sBk := PS.imp ps_break fun D σ H ⟨W, S, o, G, e, q⟩ => by
  cases e
  exact q σ H W (Le.refl _ _) rfl G
theorem st_ct : PDst X (.Continue pos) sCt := PS.imp ps_continue fun D σ H ⟨W, S, o, G, e, q⟩ => by
  cases e
  exact q σ H W (Le.refl _ _) rfl G
theorem st_ret (h : PDe X e fe) : PDst X (.Return (some e) pos) (sRet fe) := PS.imp (ps_ret h) fun D σ H ⟨W, S, o, G, e, q⟩ => by
  obtain ⟨⟨d, S1⟩, e1, e2⟩ := map_some e
  cases e2
  exact ⟨W, S, d, S1, G, e1, fun v H1 W1 g r => q v H1 W1 g.le g.fr g.G.g0 r⟩
theorem st_retN : PDst X (.Return none pos) sRetN := PS.imp ps_retN fun D σ H ⟨W, S, o, G, e, q⟩ => by
  cases e
  exact q _ H W (Le.refl _ _) rfl G.g0 .n
theorem st_expr (h : PDe X e fe) (hs : swapsWith e none pos.line X.env = pure false := by rfl) : PDst X (.Expr e pos) (sDrop fe) := PS.imp (ps_expr h hs) fun D σ H ⟨W, S, o, G, e, q⟩ => by
  obtain ⟨⟨d, S1⟩, e1, e2⟩ := map_some e
  cases e2
  exact ⟨W, S, d, S1, G, e1, fun v H1 W1 g r => q σ H1 W1 g.le g.fr g.G⟩
theorem st_if {c : Expr} {a b : List Stmt} {t : Fb} (hc : PDt X c t) (ha : PDsts X a f) (hb : PDsts X b g) : PDst X (.If c a b pos) (sIf t f g) := PS.imp (ps_if hc ha hb) fun D σ H ⟨W, S, o, G, e, q⟩ => by
  obtain ⟨⟨k, S1⟩, e1, e2⟩ := bind_some e
  refine ⟨W, S, k, S1, G, e1, fun H1 W1 g1 => ?_⟩
  cases k with
  | true => exact iteT ⟨W1, S1, o, g1.G, e2, q.le g1.le g1.fr⟩
  | false => exact iteF ⟨W1, S1, o, g1.G, e2, q.le g1.le g1.fr⟩
theorem tAsg_of {tg : Expr} {ts : List Nat} {ft : Ft} {D : Ends} {σ : L2.St} {H : Hp} (h : tS X.kk (sAsg fe ft) D σ H) : tAsg (tD X.kk fe) (tG X.kk ts ft) D σ H := by
  obtain ⟨W, S, o, G, e, q⟩ := h
  obtain ⟨⟨d, S1⟩, e1, e2⟩ := bind_some e
  obtain ⟨S2, e3, e4⟩ := map_some e2
  cases e4
  exact ⟨W, S, d, S1, G, e1, fun v H1 W1 g r => ⟨W1, S1, d, S2, g.G, r, e3, fun σ2 G2 _ => q σ2 H1 W1 g.le g.fr G2⟩⟩
theorem st_asg {tg : Expr} {ts : List Nat} {ft : Ft} (h : PDe X e fe) (hg : PDg X tg ts ft) (h1 : swapsWithSole [tg] e pos.line X.env = pure false := by rfl) (h2 : swappedStores [tg] e X.env = pure none := by rfl) (h3 : (assignEach [tg] X.env).map (·.2) = [assign tg X.env] := by rfl) :
    PDst X (.Assign [tg] e pos) (sAsg fe ft) := PS.imp (ps_asg h hg.1 h1 h2 h3) fun D σ H h => tAsg_of (tg := tg) h
theorem tOwn_of {i : Nat} {D : Ends} {σ : L2.St} {H : Hp} (h : tS X.kk (sOwn i fe) D σ H) : tAsg (tN X.kk fe) (gName i) D σ H := by
  obtain ⟨W, S, o, G, e, q⟩ := h
  obtain ⟨⟨d, S1⟩, e1, e2⟩ := map_some e
  cases e2
  exact ⟨W, S, d, S1, G, e1, fun a H1 W1 g ow fr => q _ H1 W1 g.le g.fr (g.G.setO ow fr)⟩
theorem st_own (i : Nat) {x : Str} {pos' : Pos} (hN : X.N.Nodup) (h : PDn X e fe) (hi : X.N[i]? = some x := by rfl) (hl : L2.Loc X.env.scope x := by first | exact Or.inl rfl | exact Or.inr rfl) (hs : swapsWith e (some (.Name x pos')) pos.line X.env = pure false := by rfl)
    (hf : X.fn x = true ∨ X.env.scope.names.lookup x = some .local := by first | exact .inl rfl | exact .inr rfl) : PDst X (.Assign [.Name x pos'] e pos) (sOwn i fe) :=
  PS.imp (ps_set hN hi hl h hs hf) fun D σ H h => tOwn_of h
end
section
variable {X : Cx} {elt tg iter : Expr} {ifs : List Expr} {scope : Scope} {own : List (Str × Nat)} {pos spos py : Pos} {fi : Fs} {ts : List Nat} {ft : Ft} {tt : Fb} {te : Fe} {y : Str}
theorem st_lcO (i : Nat) (hc : X.calm = true) (hN : X.N.Nodup) (hi : PDi X tg iter true fi) (ok : BlkOk X.N X.env.scope scope own)
    (hg : ∀ (s : Shared) (H : Hp) (C : Addr) (cl : List (Str × Addr)) (fp : List Addr), PDg (X.blk s H scope (compEnvC scope cl C X.env) fp) tg ts ft) (ht : ∀ (s : Shared) (H : Hp) (C : Addr) (cl : List (Str × Addr)) (fp : List Addr), PDts (X.blk s H scope (compEnvC scope cl C X.env) fp) ifs tt)
    (he : ∀ (s : Shared) (H : Hp) (C : Addr) (cl : List (Str × Addr)) (fp : List Addr), PDe (X.blk s H scope (compEnvC scope cl C X.env) fp) elt te) (hsub : ∀ j ∈ ts, j ∈ own.map (·.2) := by decide) (hs : ∀ x, foldedSetIterable iter X.env x = pure x := by intro _; rfl)
    (hy : X.N[i]? = some y := by rfl) (hyl : X.env.scope.names.lookup y = some .local := by rfl) (hsw : swapsWith (.ListComp elt [⟨tg, iter, ifs, 0⟩] scope pos) (some (.Name y py)) spos.line X.env = pure true := by exact sw_true rfl rfl rfl (by decide +kernel)) :
    PDst X (.Assign [.Name y py] (.ListComp elt [⟨tg, iter, ifs, 0⟩] scope pos) spos) (sOwn i (fLc (own.map (·.2)) fi ft tt te)) :=
  ⟨fun pins s σ H D I hq => (ps_setLc hc hN hy hyl hsw hi ok (g := tG X.kk ts ft) (tt := tT X.kk tt) (te := tD X.kk te) (fun s H C cl fp => (hg s H C cl fp).1) ht he hs).run pins s σ H D I (tLc_of (hg s H 0 [] []).2 hsub (tOwn_of hq))⟩
/-- .. shared at once -/
theorem st_lcV (i : Nat) (hc : X.calm = true) (hN : X.N.Nodup) (hi : PDi X tg iter true fi) (ok : BlkOk X.N X.env.scope scope own)
    (hg : ∀ (s : Shared) (H : Hp) (C : Addr) (cl : List (Str × Addr)) (fp : List Addr), PDg (X.blk s H scope (compEnvC scope cl C X.env) fp) tg ts ft) (ht : ∀ (s : Shared) (H : Hp) (C : Addr) (cl : List (Str × Addr)) (fp : List Addr), PDts (X.blk s H scope (compEnvC scope cl C X.env) fp) ifs tt)
    (he : ∀ (s : Shared) (H : Hp) (C : Addr) (cl : List (Str × Addr)) (fp : List Addr), PDe (X.blk s H scope (compEnvC scope cl C X.env) fp) elt te) (hsub : ∀ j ∈ ts, j ∈ own.map (·.2) := by decide) (hs : ∀ x, foldedSetIterable iter X.env x = pure x := by intro _; rfl)
    (hy : X.N[i]? = some y := by rfl) (hyl : X.env.scope.names.lookup y = some .local := by rfl) (hsw : swapsWith (.ListComp elt [⟨tg, iter, ifs, 0⟩] scope pos) (some (.Name y py)) spos.line X.env = pure true := by exact sw_true rfl rfl rfl (by decide +kernel)) :
    PDst X (.Assign [.Name y py] (.ListComp elt [⟨tg, iter, ifs, 0⟩] scope pos) spos) (sAsg (fLc (own.map (·.2)) fi ft tt te) (fNm i)) :=
  ⟨fun pins s σ H D I hq => (ps_setLc hc hN hy hyl hsw hi ok (g := tG X.kk ts ft) (tt := tT X.kk tt) (te := tD X.kk te) (fun s H C cl fp => (hg s H C cl fp).1) ht he hs).run pins s σ H D I (tLc_of (hg s H 0 [] []).2 hsub (by
    obtain ⟨W, S, o, G, e, q⟩ := hq
    obtain ⟨⟨d, S1⟩, e1, e2⟩ := bind_some e
    obtain ⟨S2, e3, e4⟩ := map_some e2
    cases e4
    cases e3
    refine ⟨W, S, d, S1, G, e1, fun a H1 W1 g ow fr => ?_⟩
    obtain ⟨g2, r2⟩ := Go.freeze g.G ow fr
    exact q _ H1 _ (g.le.trans g2.le) (g2.fr.trans g.fr) (g2.G.set r2)))⟩
end

/-! ### loops -/
def loopO (k : Se → Option Out) : Out → Option Out
  | .nx S => k S
  | .ct S => k S
  | .bk S => some (.nx S)
  | .rt d w => some (.rt d w)
def forGo (ft : Ft) (body : Fst) : List D → Se → Option Out
  | [], S => some (.nx S)
  | x :: xs, S => (ft x S).bind fun S1 => (body S1).bind (loopO (forGo ft body xs))
def sFor (fi : Fs) (ft : Ft) (body : Fst) : Fst := fun S => (fi S).bind fun p => forGo ft body p.1 p.2
section
variable {X : Cx} {tg iter : Expr} {body : List Stmt} {fi : Fs} {ts : List Nat} {ft : Ft} {fb : Fst} {pos : Pos}
theorem tFor_of {D : Ends} {σ : L2.St} {H : Hp} (h : tS X.kk (sFor fi ft fb) D σ H) : tFor (tI X.kk false fi) (tG X.kk ts ft) (tS X.kk fb) D σ H := by
  obtain ⟨W, S, o, G, e, q⟩ := h
  obtain ⟨⟨xs, S1⟩, e1, e⟩ := bind_some e
  refine ⟨W, S, xs, S1, G, e1, fun J H1 W1 g1 io => ?_⟩
  refine ⟨fun i m σ2 H2 => m = xs.length - i ∧ i ≤ xs.length ∧ ∃ Wd Si, Good X.kk H2 Wd Si σ2 ∧ Le H1 W1 H2 Wd ∧ Wd.fr = W1.fr ∧ forGo ft fb (xs.drop i) Si = some o, ⟨xs.length, rfl, Nat.zero_le _, W1, S1, g1.G, Le.refl _ _, rfl, e⟩, fun i m σ2 H2 hw => ?_⟩
  obtain ⟨hm, hi, Wd, Si, Gd, ld, fd, ed⟩ := hw
  by_cases hx : i < xs.length
  · refine .inr ?_
    have hget : xs[i]? = some xs[i] := List.getElem?_eq_getElem hx
    generalize xs[i] = x at hget
    have hdrop : xs.drop i = x :: xs.drop (i + 1) := by
      rw [List.drop_eq_getElem_cons hx]
      rw [List.getElem?_eq_getElem hx] at hget
      cases hget
      rfl
    rw [hdrop] at ed
    obtain ⟨Sa, ea, ed⟩ := bind_some ed
    obtain ⟨ob, eb, ed⟩ := bind_some ed
    obtain ⟨jg, jy⟩ := io.go i x H2 Wd ld (fun h => nomatch h) hget
    refine ⟨jg, fun σ' H' => ∃ Wd Si, Good X.kk H' Wd Si σ' ∧ Le H1 W1 H' Wd ∧ Wd.fr = W1.fr ∧ forGo ft fb (xs.drop (i + 1)) Si = some o, fun σ' H' hN => ⟨xs.length - (i + 1), by omega, rfl, hx, hN⟩, fun v H' hy => ?_⟩
    obtain ⟨Wy, xy, ry⟩ := jy v H' hy
    have gy := xy.go Gd
    refine ⟨Wy, Si, x, Sa, gy.G, ry, ea, fun σ3 Ga _ => ⟨Wy, Sa, ob, Ga, eb, ?_⟩⟩
    have fy : Wy.fr = W1.fr := gy.fr.trans fd
    have ly : Le H1 W1 H' Wy := ld.trans gy.le
    cases ob with
    | nx S2 => exact fun σ4 H4 W4 l4 f4 G4 => ⟨W4, S2, G4, ly.trans l4, f4.trans fy, ed⟩
    | ct S2 => exact fun σ4 H4 W4 l4 f4 G4 => ⟨W4, S2, G4, ly.trans l4, f4.trans fy, ed⟩
    | bk S2 =>
      cases ed
      exact fun σ4 H4 W4 l4 f4 G4 => q σ4 H4 W4 ((g1.le.trans ly).trans l4) ((f4.trans fy).trans g1.fr) G4
    | rt d w =>
      cases ed
      exact fun v H4 W4 l4 f4 G4 r4 => q v H4 W4 ((g1.le.trans ly).trans l4) ((f4.trans fy).trans g1.fr) G4 r4
  · have hi2 : i = xs.length := by omega
    subst hi2
    rw [List.drop_length] at ed
    cases ed
    exact .inl ⟨io.stop H2 Wd ld (fun h => nomatch h), q σ2 H2 Wd (g1.le.trans ld) (fd.trans g1.fr) Gd⟩
theorem st_for (hp : PassesOwn (model X.prog X.w) X.A X.env X.xe) (hc : X.calm = true) (hi : PDi X tg iter false fi) (hg : PDg X tg ts ft) (hb : PDsts X body fb) (hs : ∀ x, foldedSetIterable iter X.env x = pure x := by intro _; rfl) : PDst X (.For tg iter body [] pos) (sFor fi ft fb) :=
  PS.imp (ps_for hp hc hi hg.1 hb hs) fun D σ H h => tFor_of h
end
def whN (c : Fb) (b : Fst) : Nat → Fst
  | 0, _ => none
  | n + 1, S => (c S).bind fun p => if p.1 = true then (b p.2).bind (loopO (whN c b n)) else some (.nx p.2)
open Classical in
noncomputable def sWh (c : Fb) (b : Fst) : Fst := fun S => if h : ∃ o n, whN c b n S = some o then some h.choose else none
theorem whN_mono {c : Fb} {b : Fst} : ∀ {n : Nat} {S : Se} {o : Out}, whN c b n S = some o → ∀ k, whN c b (n + k) S = some o
  | 0, S, o, h, k => by cases h
  | n + 1, S, o, h, k => by
    obtain ⟨⟨d, S1⟩, e1, e2⟩ := bind_some h
    rw [Nat.succ_add]
    show (c S).bind _ = _
    rw [e1]
    show (if d = true then _ else _) = _
    cases d with
    | false => exact e2
    | true =>
      obtain ⟨o1, e3, e4⟩ := bind_some (show (b S1).bind (loopO (whN c b n)) = some o from e2)
      show (b S1).bind _ = _
      rw [e3]
      cases o1 with
      | nx S2 => exact whN_mono (show whN c b n S2 = some o from e4) k
      | ct S2 => exact whN_mono (show whN c b n S2 = some o from e4) k
      | bk S2 => exact e4
      | rt d w => exact e4
theorem sWh_of {c : Fb} {b : Fst} {n : Nat} {S : Se} {o : Out} (h : whN c b n S = some o) : sWh c b S = some o := by
  have hx : ∃ o n, whN c b n S = some o := ⟨o, n, h⟩
  unfold sWh
  rw [dif_pos hx]
  obtain ⟨m, hm⟩ := hx.choose_spec
  have h1 := whN_mono hm n
  have h2 := whN_mono h m
  rw [Nat.add_comm] at h2
  exact h1.symm.trans h2
theorem sWh_some {c : Fb} {b : Fst} {S : Se} {o : Out} (h : sWh c b S = some o) : ∃ n, whN c b n S = some o := by
  unfold sWh at h
  split at h
  · rename_i hx
    cases h
    exact hx.choose_spec
  · cases h
theorem sWh_end {c : Fb} {b : Fst} {S S1 : Se} (h : c S = some (false, S1)) : sWh c b S = some (.nx S1) := sWh_of (n := 1) (by
  show (c S).bind _ = _
  rw [h]
  rfl)
theorem sWh_go {c : Fb} {b : Fst} {S S1 S2 : Se} {o : Out} (h : c S = some (true, S1)) (h1 : b S1 = some (.nx S2)) (h2 : sWh c b S2 = some o) : sWh c b S = some o := by
  obtain ⟨n, hn⟩ := sWh_some h2
  refine sWh_of (n := n + 1) ?_
  show (c S).bind _ = _
  rw [h]
  show (b S1).bind _ = _
  rw [h1]
  exact hn
section
variable {X : Cx} {c : Expr} {body : List Stmt} {fc : Fb} {fb : Fst} {pos : Pos}
theorem st_while (hp : PassesOwn (model X.prog X.w) X.A X.env X.xe) (hc : PDt X c fc) (hb : PDsts X body fb) : PDst X (.While c body [] pos) (sWh fc fb) :=
  PS.imp (ps_while hp hc hb) fun D σ H ⟨W, S, o, G, e, q⟩ => by
    obtain ⟨n, hn⟩ := sWh_some e
    refine ⟨fun m σ2 H2 => ∃ Wd Si, Good X.kk H2 Wd Si σ2 ∧ Le H W H2 Wd ∧ Wd.fr = W.fr ∧ whN fc fb m Si = some o, ⟨n, W, S, G, Le.refl _ _, rfl, hn⟩, fun m σ2 H2 hw => ?_⟩
    obtain ⟨Wd, Si, Gd, ld, fd, ed⟩ := hw
    cases m with
    | zero => cases ed
    | succ m =>
      obtain ⟨⟨k, Sc⟩, e1, e2⟩ := bind_some ed
      refine ⟨Wd, Si, k, Sc, Gd, e1, fun H3 W3 g3 => ?_⟩
      cases k with
      | false =>
        cases e2
        exact iteF (q σ2 H3 W3 (ld.trans g3.le) (g3.fr.trans fd) g3.G)
      | true =>
        obtain ⟨ob, e3, e4⟩ := bind_some (show (fb Sc).bind (loopO (whN fc fb m)) = some o from e2)
        refine iteT ⟨fun σ' H' => ∃ Wd Si, Good X.kk H' Wd Si σ' ∧ Le H W H' Wd ∧ Wd.fr = W.fr ∧ whN fc fb m Si = some o, fun σ' H' hN => ⟨m, Nat.lt_succ_self _, hN⟩, W3, Sc, ob, g3.G, e3, ?_⟩
        have l3 := ld.trans g3.le
        have f3 := g3.fr.trans fd
        cases ob with
        | nx S2 => exact fun σ4 H4 W4 l4 f4 G4 => ⟨W4, S2, G4, l3.trans l4, f4.trans f3, e4⟩
        | ct S2 => exact fun σ4 H4 W4 l4 f4 G4 => ⟨W4, S2, G4, l3.trans l4, f4.trans f3, e4⟩
        | bk S2 =>
          cases e4
          exact fun σ4 H4 W4 l4 f4 G4 => q σ4 H4 W4 (l3.trans l4) (f4.trans f3) G4
        | rt d w =>
          cases e4
          exact fun v H4 W4 l4 f4 G4 r4 => q v H4 W4 (l3.trans l4) (f4.trans f3) G4 r4
end
end PD

/-! PdI: stores into what a slot owns; defs, calls. -/
namespace PD
open PySem PySem.Spec L2
open PyProof.Rows (envOfC)

section
variable {K : CK} {H H' : Hp} {W W' : Wr} {S S' : Se} {σ σ' : L2.St}
/-- the owner's object is changed -/
theorem Good.upOwn {i : Nat} {a : Addr} {d d' : D} {o o' : HO} (G : Good K H W S σ) (e : S.sl[i]? = some (some (Sl.o d))) (ev : σ[i]? = some (some (V.ref a))) (ho : H a = some o) (hm : Mut (some o)) (new : ∀ Hn, Hn a = some o' → Le H W Hn W → OwnAt K Hn W a d') :
    Good K (upd H a o') W (S.put i (some (Sl.o d'))) σ ∧ Le H W (upd H a o') W := by
  obtain ⟨a', q, ow, f1, f2, f3⟩ := G.own i d e
  rw [ev] at q
  cases q
  have l : Le H W (upd H a o') W := Le.upFr ho hm f1
  have hi : i < S.sl.length := (List.getElem?_eq_some_iff.mp e).1
  refine ⟨⟨⟨fun p hp => ?_, ?_, fun b hb => ?_, G.g0.nd⟩, ?_, fun j x h => ?_, fun j x h => ?_, fun j k x y n h1 h2 => ?_⟩, l⟩
  · obtain ⟨a1, a2⟩ := G.g0.frk p hp
    exact ⟨by rw [upd_ne (f2 p hp)]; exact a1, a2⟩
  · have h := G.g0.drw
    show match S.w, W.dA with | none, none => True | some x, some b => DrawAt K (upd H a o') W b x ∧ ¬ W.Fz b | _, _ => False
    revert h
    cases S.w with
    | none => cases W.dA <;> exact fun h => h
    | some x =>
      cases q : W.dA with
      | none => exact fun h => h
      | some b =>
        rintro ⟨⟨sA, e1, e2, e2', e3⟩, n⟩
        exact ⟨⟨sA, by rw [upd_ne (fun z => f3 (by rw [q, z]))]; exact e1, e2, l.lst _ _ e2 e2', e3⟩, n⟩
  · by_cases h1 : b = a
    · rw [h1, upd_same]; exact fun z => nomatch z
    · rw [upd_ne h1]; exact G.g0.fz b hb
  · show (S.sl.set i _).length = _
    rw [List.length_set]
    exact G.len
  · rcases at_set (l := S.sl) h with ⟨e, e2, hi⟩ | ⟨n, h⟩
    · injection e2 with e2; exact Sl.noConfusion e2
    · obtain ⟨v, q, r⟩ := G.val j x h
      exact ⟨v, q, r.le l⟩
  · rcases at_set (l := S.sl) h with ⟨ej, e2, hi⟩ | ⟨n, h⟩
    · subst ej
      have e3 : d' = x := by injection e2 with e2; injection e2
      subst e3
      exact ⟨a, ev, new _ upd_same l, f1, f2, f3⟩
    · obtain ⟨b, q, ow', g1, g2, g3⟩ := G.own j x h
      have nb : b ≠ a := fun z => G.dis j i x d n h e (by rw [q, ev, z])
      refine ⟨b, q, ?_, g1, g2, g3⟩
      cases x with
      | l ds => obtain ⟨vs, h, z, r⟩ := ow'; exact ⟨vs, by rw [upd_ne nb]; exact h, z, r.le l⟩
      | d ds => obtain ⟨ob, h, kvs, y, z, q, r⟩ := ow'; exact ⟨ob, by rw [upd_ne nb]; exact h, kvs, y, z, q, r.le l⟩
      | _ => exact ow'.elim
  · have back : ∀ (m : Nat) z, (S.put i (some (Sl.o d'))).sl[m]? = some (some (Sl.o z)) → ∃ z', S.sl[m]? = some (some (Sl.o z')) := fun m z h => by
      rcases at_set (l := S.sl) h with ⟨em, _, _⟩ | ⟨_, h⟩
      · subst em
        exact ⟨_, e⟩
      · exact ⟨_, h⟩
    obtain ⟨z1, h1⟩ := back j x h1
    obtain ⟨z2, h2⟩ := back k y h2
    exact G.dis j k z1 z2 n h1 h2
end
def isOwn (S : Se) (i : Nat) : Bool := match S.sl[i]? with
  | some (some (Sl.o _)) => true
  | _ => false
theorem isOwn_same {S S' : Se} {i : Nat} {d : D} (h : isOwn S' i = true) (e : S.sl[i]? = some (some (Sl.o d))) (sl : SLe S S') : S'.sl[i]? = some (some (Sl.o d)) := by
  rcases sl i d e with q | q
  · exact q
  · unfold isOwn at h
    rw [q] at h
    cases h
/-- xs.append(e) -/
def sApp (i : Nat) (f : Fe) : Fst := fun S => match S.sl[i]? with
  | some (some (Sl.o (.l xs))) => (f S).bind fun p => if isOwn p.2 i = true ∧ xs.length < lim then some (.nx (p.2.put i (some (Sl.o (.l (xs ++ [p.1])))))) else none
  | _ => none
/-- xs[k] = e -/
def sSet (i : Nat) (f k : Fe) : Fst := fun S => (f S).bind fun p => match p.2.sl[i]? with
  | some (some (Sl.o (.l xs))) => (k p.2).bind fun q => if isOwn q.2 i = true then (match q.1 with
    | .i n => (ixN xs.length n).map fun j => .nx (q.2.put i (some (Sl.o (.l (xs.set j p.1)))))
    | _ => none) else none
  | _ => none
section
variable {X : Cx} {e k : Expr} {fe fk : Fe} {pos pos' apos cpos : Pos} {x : Str}
theorem own_lst {K : CK} {H : Hp} {W : Wr} {S : Se} {σ : L2.St} {i : Nat} {xs : List D} (G : Good K H W S σ) (h : S.sl[i]? = some (some (Sl.o (.l xs)))) : ∃ a vs, σ[i]? = some (some (V.ref a)) ∧ H a = some (.lst vs) ∧ vs.length ≤ sizeLine ∧ Reps K H W vs xs := by
  obtain ⟨a, q, ⟨vs, h, z, r⟩, _⟩ := G.own i _ h
  exact ⟨a, vs, q, h, z, r⟩
theorem st_app (i : Nat) (h : PDe X e fe) (hN : X.N[i]? = some x := by rfl) (hv : Vis X.env.scope x := by first | exact Or.inl rfl | exact Or.inr (Or.inl rfl) | exact Or.inr (Or.inr rfl)) (hd : (x == ("__debug__" : Str)) = false := by decide)
    (hcd : (x == ("__classdict__" : Str)) = false := by decide)
    (h1 : attributeBase (.Name x pos') "append" X.env (eval (.Name x pos') X.env) = eval (.Name x pos') X.env := by rfl)
    (h2 : ((((backTo cpos (starEach [e] X.env)).all fun x => !x.fst) && (backToKw cpos (keywordEach [] X.env)).all fun x => x.fst.isSome) && decide ((([e].length + ([] : List Keyword).length + if ([] : List Keyword).isEmpty = true then 0 else 1) < 30))) = true := by rfl)
    (h3 : (apos.endLine == cpos.line) = true := by rfl) (h4 : starEach [e] X.env = (false, eval e X.env) :: starEach [] X.env := by rfl) (h5 : (backTo cpos (starEach [] X.env)).any (·.1) = false := by rfl)
    (hs : swapsWith (.Call (.Attribute (.Name x pos') "append" apos) [e] [] cpos) none pos.line X.env = pure false := by rfl) :
    PDst X (.Expr (.Call (.Attribute (.Name x pos') "append" apos) [e] [] cpos) pos) (sApp i fe) :=
  PS.imp (ps_expr (pe_bm PySem.F.plainAttrs_list PySem.F.slot_list_append PySem.F.type_list_append mt_append (pe_var hN hv hd hcd) (pa_cons h pa_nil h4) h1 h2 h3 h4 h5) hs) fun D σ H ⟨W, S, o, G, e, q⟩ => by
    unfold sApp at e
    split at e
    case h_2 => cases e
    rename_i xs hxs
    obtain ⟨⟨d, S1⟩, e1, e2⟩ := bind_some e
    obtain ⟨⟨z, z'⟩, e2⟩ := ite_some' e2
    cases e2
    rw [lim_eq] at z'
    obtain ⟨a, vs, ev, hv, hz, hr⟩ := own_lst G hxs
    refine ⟨_, ev, .inl ⟨rfl, _, SqL.at hv⟩, W, S, d, S1, G, e1, fun v H1 W1 g r => ?_⟩
    have hx1 := isOwn_same z hxs g.sl
    obtain ⟨b, us, eb, hb, hzb, hrb⟩ := own_lst g.G hx1
    rw [ev] at eb
    cases eb
    refine ⟨_, _, v, rfl, rfl, hb, by rw [hrb.length]; exact z', ?_⟩
    obtain ⟨G2, l2⟩ := g.G.upOwn (d' := .l (xs ++ [d])) (o' := .lst (us ++ [v])) hx1 ev hb trivial fun Hn hn l => ⟨_, hn, by rw [List.length_append, hrb.length]; exact z', (Reps.append hrb (.cons r .nil)).le l⟩
    exact q _ _ _ (g.le.trans l2) g.fr G2
theorem st_set (i : Nat) (h : PDe X e fe) (hk : PDe X k fk) (hN : X.N[i]? = some x := by rfl) (hv : Vis X.env.scope x := by first | exact Or.inl rfl | exact Or.inr (Or.inl rfl) | exact Or.inr (Or.inr rfl)) (hd : (x == ("__debug__" : Str)) = false := by decide)
    (hcd : (x == ("__classdict__" : Str)) = false := by decide)
    (ha : ∀ v, assign (.Subscript (.Name x pos') k apos) X.env v = (do
      let ov ← holding [v] (eval (.Name x pos') X.env)
      let iv ← holding [v, ov] (eval k X.env)
      standAt apos
      holding [v, ov, iv] (setItem ov iv v)
      release [v, ov, iv] []) := by intro _; rfl)
    (h1 : swapsWithSole [.Subscript (.Name x pos') k apos] e pos.line X.env = pure false := by rfl) (h2 : swappedStores [.Subscript (.Name x pos') k apos] e X.env = pure none := by rfl) (h3 : (assignEach [.Subscript (.Name x pos') k apos] X.env).map (·.2) = [assign (.Subscript (.Name x pos') k apos) X.env] := by rfl) :
    PDst X (.Assign [.Subscript (.Name x pos') k apos] e pos) (sSet i fe fk) :=
  PS.imp (ps_asg h (pg_sub (pe_var hN hv hd hcd) hk set_list ha) h1 h2 h3) fun D σ H ⟨W, S, o, G, e, q⟩ => by
    obtain ⟨⟨d, S1⟩, e1, e⟩ := bind_some e
    refine ⟨W, S, d, S1, G, e1, fun v H1 W1 g r => ?_⟩
    dsimp only at e
    split at e
    case h_2 => cases e
    rename_i xs hxs
    obtain ⟨⟨dk, S2⟩, e2, e⟩ := bind_some e
    obtain ⟨z, e⟩ := ite_some' e
    obtain ⟨a, vs, ev, hv, hz, hr⟩ := own_lst g.G hxs
    refine ⟨_, ev, W1, S1, dk, S2, g.G, e2, fun u H2 W2 g2 r2 => ?_⟩
    have hx1 := isOwn_same z hxs g2.sl
    obtain ⟨b, us, eb, hb, hzb, hrb⟩ := own_lst g2.G hx1
    rw [ev] at eb
    cases eb
    cases dk with
    | i n =>
      cases r2
      obtain ⟨j, ej, e3⟩ := map_some e
      cases e3
      refine ⟨_, _, _, j, rfl, rfl, hb, by rw [hrb.length]; exact ej, ?_⟩
      obtain ⟨G2, l2⟩ := g2.G.upOwn (d' := .l (xs.set j d)) (o' := .lst (us.set j v)) hx1 ev hb trivial fun Hn hn l => ⟨_, hn, by rw [List.length_set]; exact hzb, (Reps.set j (r.le g2.le) hrb).le l⟩
      exact q _ _ _ ((g.le.trans g2.le).trans l2) (g2.fr.trans g.fr) G2
    | _ => cases e
end

/-! ### calls of defs -/
abbrev Fn := List D → Option DSt → Option (D × Option DSt)
def spD (n : Nat) (K : CK) (F : Fn) : Sp := fun vs H Q _ => ∃ W w ds d w', G0 K H W w ∧ Reps K H W vs ds ∧ ds.length = n ∧ F ds w = some (d, w') ∧
  ∀ v H' W', Le H W H' W' → W'.fr = W.fr → G0 K H' W' w' → Rep K H' W' v d → Q v H'
def fFn (F : Fn) (n : Nat) (g : Fs) : Fe := fun S => (g S).bind fun p => if p.1.length = n then (F p.1 p.2.w).map fun r => (r.1, { p.2 with w := r.2 }) else none
section
variable {K : CK} {H H' : Hp} {W W' : Wr} {S S' : Se} {σ σ' : L2.St}
theorem Good.owned (G : Good K H W S σ) : ∀ n : Nat, ∃ L : List (Addr × HO), (∀ p ∈ L, H p.1 = some p.2 ∧ ¬ W.Fz p.1 ∧ W.dA ≠ some p.1 ∧ (∀ q ∈ W.fr, q.1 ≠ p.1) ∧ ∃ (i : Nat) (d : D), i < n ∧ S.sl[i]? = some (some (Sl.o d)) ∧ σ[i]? = some (some (V.ref p.1))) ∧ (L.map Prod.fst).Nodup ∧
    ∀ (i : Nat) d a, i < n → S.sl[i]? = some (some (Sl.o d)) → σ[i]? = some (some (V.ref a)) → ∃ o, (a, o) ∈ L
  | 0 => ⟨[], fun p hp => (nomatch hp), List.nodup_nil, fun i d a h => absurd h (Nat.not_lt_zero _)⟩
  | n + 1 => by
    obtain ⟨L, h1, h2, h3⟩ := Good.owned G n
    by_cases hx : ∃ d, S.sl[n]? = some (some (Sl.o d))
    · obtain ⟨d, hd⟩ := hx
      obtain ⟨a, q, ow, f1, f2, f3⟩ := G.own n d hd
      obtain ⟨o, eo, _⟩ := OwnAt.some ow
      refine ⟨(a, o) :: L, fun p hp => ?_, ?_, fun i e b hi e1 e2 => ?_⟩
      · rcases List.mem_cons.mp hp with rfl | hp
        · exact ⟨eo, f1, f3, f2, n, d, Nat.lt_succ_self _, hd, q⟩
        · obtain ⟨x1, x2, x3, x4, i, e, x5, x6, x7⟩ := h1 p hp
          exact ⟨x1, x2, x3, x4, i, e, Nat.lt_succ_of_lt x5, x6, x7⟩
      · rw [List.map_cons, List.nodup_cons]
        refine ⟨fun hm => ?_, h2⟩
        obtain ⟨p, hp, ep⟩ := List.mem_map.mp hm
        obtain ⟨_, _, _, _, i, e, x5, x6, x7⟩ := h1 p hp
        have ep : p.1 = a := ep
        rw [ep] at x7
        exact G.dis i n e d (Nat.ne_of_lt x5) x6 hd (by rw [x7, q])
      · by_cases hn : i = n
        · subst hn
          rw [q] at e2
          cases e2
          exact ⟨o, List.mem_cons_self⟩
        · obtain ⟨o', ho⟩ := h3 i e b (by omega) e1 e2
          exact ⟨o', List.mem_cons_of_mem _ ho⟩
    · refine ⟨L, fun p hp => ?_, h2, fun i e b hi e1 e2 => ?_⟩
      · obtain ⟨x1, x2, x3, x4, i, e, x5, x6, x7⟩ := h1 p hp
        exact ⟨x1, x2, x3, x4, i, e, Nat.lt_succ_of_lt x5, x6, x7⟩
      · by_cases hn : i = n
        · subst hn
          exact absurd ⟨e, e1⟩ hx
        · exact h3 i e b (by omega) e1 e2
/-- what a callee leaves alone -/
theorem Good.call (G : Good K H W S σ) : ∃ L : List (Addr × HO), G0 K H { W with fr := L ++ W.fr } S.w ∧ ∀ H' W' w', Le H { W with fr := L ++ W.fr } H' W' → W'.fr = L ++ W.fr → G0 K H' W' w' → Go K σ H W S H' { W' with fr := W.fr } { S with w := w' } := by
  obtain ⟨L, h1, h2, h3⟩ := G.owned S.sl.length
  refine ⟨L, ⟨fun p hp => ?_, ?_, G.g0.fz, ?_⟩, fun H' W' w' l0 f0 g0 => ?_⟩
  · rcases List.mem_append.mp hp with hp | hp
    · obtain ⟨x1, x2, x3, _⟩ := h1 p hp
      exact ⟨x1, x2, x3⟩
    · exact G.g0.frk p hp
  · have h := G.g0.drw
    show match S.w, W.dA with | none, none => True | some x, some b => DrawAt K H { W with fr := L ++ W.fr } b x ∧ ¬ W.Fz b | _, _ => False
    exact h
  · rw [List.map_append, List.nodup_append]
    refine ⟨h2, G.g0.nd, fun a ha b hb e => ?_⟩
    subst e
    obtain ⟨p, hp, rfl⟩ := List.mem_map.mp ha
    obtain ⟨q, hq, eq⟩ := List.mem_map.mp hb
    obtain ⟨_, _, _, x4, _⟩ := h1 p hp
    exact x4 q hq eq
  · have l : Le H W H' { W' with fr := W.fr } := ⟨l0.fz, l0.tup, l0.rd, l0.lst, l0.dA⟩
    refine ⟨l, rfl, fun i d e => .inl e, fun i d e => e, ⟨⟨fun p hp => ?_, ?_, g0.fz, G.g0.nd⟩, G.len, fun i d e => ?_, fun i d e => ?_, G.dis⟩⟩
    · exact g0.frk p (by rw [f0]; exact List.mem_append_right _ hp)
    · exact g0.drw
    · obtain ⟨v, q, r⟩ := G.val i d e
      exact ⟨v, q, r.le l⟩
    · obtain ⟨a, q, ow, f1, f2, f3⟩ := G.own i d e
      obtain ⟨o, ho⟩ := h3 i d a (List.getElem?_eq_some_iff.mp e).1 e q
      obtain ⟨e1, _⟩ := h1 _ ho
      obtain ⟨e2, n2, d2⟩ := g0.frk _ (show (a, o) ∈ W'.fr by rw [f0]; exact List.mem_append_left _ ho)
      refine ⟨a, q, ?_, n2, f2, d2⟩
      cases d with
      | l ds =>
        obtain ⟨vs, h, z, r⟩ := ow
        rw [h] at e1
        cases e1
        exact ⟨vs, e2, z, r.le l⟩
      | d ds =>
        obtain ⟨ob, h, kvs, y, z, q, r⟩ := ow
        rw [h] at e1
        cases e1
        exact ⟨ob, e2, kvs, y, z, q, r.le l⟩
      | _ => exact ow.elim
theorem Le.reFr {f f' : List (Addr × HO)} (l : Le H W H' W') : Le H { W with fr := f } H' { W' with fr := f' } := ⟨l.fz, l.tup, l.rd, l.lst, l.dA⟩
theorem G0.one {w : Option DSt} (S : Se) (n : Nat) (g : G0 K H W w) {vs : List V} {ds : List D} (r : Reps K H W vs ds) (N : List Str) : Good K H W ⟨ds.map (fun d => some (Sl.v d)) ++ List.replicate (N.length - ds.length) none, w⟩ (L2.start N vs) := by
  have rep : ∀ (j : Nat) x, (ds.map (fun d => some (Sl.v d)) ++ List.replicate (N.length - ds.length) none)[j]? = some (some x) → ∃ d, x = Sl.v d ∧ ds[j]? = some d := fun j x h => by
    by_cases hj : j < ds.length
    · rw [List.getElem?_append_left (by simpa using hj), List.getElem?_map] at h
      obtain ⟨d, e1, e2⟩ := map_some h
      cases e2
      exact ⟨d, rfl, e1⟩
    · rw [List.getElem?_append_right (by simpa using hj), List.getElem?_replicate] at h
      split at h <;> cases h
  refine ⟨g, ?_, fun i d h => ?_, fun i d h => ?_, fun i j d e n h => ?_⟩
  · unfold L2.start
    rw [List.length_append, List.length_append, List.length_map, List.length_map, List.length_replicate, List.length_replicate, r.length]
  · obtain ⟨d', e1, e2⟩ := rep i _ h
    cases e1
    obtain ⟨v, e3, r3⟩ := r.get e2
    refine ⟨v, ?_, r3⟩
    unfold L2.start
    have hj := (List.getElem?_eq_some_iff.mp e3).1
    rw [List.getElem?_append_left (by simpa using hj), List.getElem?_map, e3]
    rfl
  · obtain ⟨d', e1, _⟩ := rep i _ h
    cases e1
  · obtain ⟨d', e1, _⟩ := rep i _ h
    cases e1
end
section
variable {X : Cx} {k n : Nat} {f : Addr} {fd : FuncData} {ps : List Str} {F : Fn} {x : Str} {p pos : Pos} {e : Expr} {es : List Expr} {g : Fs}
theorem tCall_of {σ : L2.St} {H : Hp} {Q : VK} {K : CK} (h : tD K (fFn F n g) σ H Q) : tCall (spD n K F) [] E0 (tDs K g) σ H Q := by
  obtain ⟨W, S, d, S', G, e, q⟩ := h
  obtain ⟨⟨ds, S1⟩, e1, e⟩ := bind_some e
  obtain ⟨hn, e⟩ := ite_some' e
  obtain ⟨⟨d', w'⟩, e2, e⟩ := map_some e
  cases e
  refine ⟨W, S, ds, S1, G, e1, fun vs H1 W1 g1 r1 => ?_⟩
  obtain ⟨L, g0, fin⟩ := g1.G.call
  rw [List.append_nil]
  refine ⟨{ W1 with fr := L ++ W1.fr }, S1.w, ds, d', w', g0, r1.le ((Le.refl _ _).fr1 _), hn, e2, fun v H' W' l' f' g' r' => ?_⟩
  have gg := fin H' W' w' l' f' g'
  exact q v H' _ (g1.trans gg) (r'.le ((Le.refl _ _).fr1 _))
theorem pd_fn (Fo : FnOk X.prog X.w X.K X.mg X.base CX0 k f fd ps (spD n X.kk F)) (hr : Room k X.A) (hm : X.mg x = some (.ref f)) (hk : PySem.W.keepIn X.K (.ref f) = true) (hb : L2.Binds X.K fd ps []) (ha : PDs X (e :: es) g)
    (hg : Gl X x := by rfl) (hdb : (x == ("__debug__" : Str)) = false := by decide) (he : starEach (e :: es) X.env = (false, eval e X.env) :: starEach es X.env := by rfl) (hpl : (backTo pos (starEach es X.env)).any (·.1) = false := by rfl) :
    PDe X (.Call (.Name x p) (e :: es) [] pos) (fFn F n g) :=
  PE.imp (pe_call Fo hr hg hm hk hb .nil pass0 ha hdb he hpl) fun σ H Q h => tCall_of h
end
/-- what a body is worth: its slots (parameters first), its arguments -/
def runB (sl n : Nat) (g : Fst) : Fn := fun ds w => if ds.length = n then (g ⟨ds.map (fun d => some (Sl.v d)) ++ List.replicate (sl - ds.length) none, w⟩).bind fun o => match o with
  | .rt d w' => some (d, w')
  | .nx S => some (.n, S.w)
  | _ => none else none
section
variable {P : Program} {w : World} {K : PySem.W.Frag} {mg : Str → Option Value} {base : Heap}
theorem def_ok {x qual : Str} {st : Stmt} {f : Addr} {fd : FuncData} {N ps : List Str} {k : Nat} {g : Fst} (F : Fun K x qual st f fd) (S : FnScope N ps (defScope st))
    (hbody : ∀ (cdv : Value) (A : Around) (outer : List Env) (s : Shared) (H : Hp) (E : XK), Room k (A.deeper (envOfC qual (defScope st) s.heap.objs.size f cdv)) → PDsts (cxOf CX0 P w K mg base N qual (defScope st) f cdv A outer s H E).nox (defBody st) g) :
    FnOk P w K mg base CX0 (k + 1) f fd ps (spD ps.length ⟨K, P, w⟩ (runB N.length ps.length g)) := by
  refine F.ok S (fun vs H Q E h => ?_) fun cdv A outer s H vs Q E hr h => ?_
  · obtain ⟨W, w, ds, d, w', g0, r, hn, _⟩ := h
    rw [r.length, hn]
  · obtain ⟨W, w0, ds, d, w', g0, r, hn, e, q⟩ := h
    refine ⟨_, hbody cdv A outer s H E hr, ?_⟩
    unfold runB at e
    rw [if_pos hn] at e
    obtain ⟨o, e1, e2⟩ := bind_some e
    refine ⟨W, _, o, g0.one ⟨[], none⟩ 0 r N, e1, ?_⟩
    cases o with
    | rt d' w2 =>
      cases e2
      exact fun v H' W' l f g r => q v H' W' l f g r
    | nx S2 =>
      cases e2
      exact fun σ' H' W' l f G => q _ H' W' l f G.g0 .n
    | _ => cases e2
/-- a promise that says less -/
theorem fn_imp {k n : Nat} {f : Addr} {fd : FuncData} {ps : List Str} {F F' : Fn} (h : FnOk P w K mg base CX0 k f fd ps (spD n ⟨K, P, w⟩ F)) (i : ∀ ds w0 r, F' ds w0 = some r → F ds w0 = some r) : FnOk P w K mg base CX0 k f fd ps (spD n ⟨K, P, w⟩ F') :=
  h.imp fun vs H Q E ⟨W, w0, ds, d, w', g0, r, hn, e, q⟩ => ⟨W, w0, ds, d, w', g0, r, hn, i _ _ _ e, q⟩
end
end PD

/-! PdJ: the drawing list; isinstance. -/
namespace PD
open PySem PySem.Spec L2
open PyProof.Rows (envOfC)

/-! ### isinstance -/
def tyN : D → String
  | .n => "NoneType" | .b _ => "bool" | .i _ => "int" | .s _ => "str" | .t _ => "tuple" | .l _ => "list" | .d _ => "dict" | .p => "list" | .sc _ => "list"
def isTn (T t : String) : Bool := (t == "bool" && T == "int") || T == t
def isT (T : String) (d : D) : Bool := isTn T (tyN d)
def knownT (T : String) : Bool := T == "bool" || T == "int" || T == "str" || T == "tuple" || T == "list" || T == "dict"
theorem kitB_isTn (T t : String) (h : knownT T = true) (h' : t = "NoneType" ∨ knownT t = true) : kitB t T = some (isTn T t) := by
  unfold knownT at h h'
  simp only [Bool.or_eq_true, beq_iff_eq] at h h'
  rcases h with ((((rfl | rfl) | rfl) | rfl) | rfl) | rfl <;> rcases h' with rfl | (((((rfl | rfl) | rfl) | rfl) | rfl) | rfl) <;> decide +kernel
theorem tyN_known (d : D) : tyN d = "NoneType" ∨ knownT (tyN d) = true := by
  cases d <;> first | exact .inl rfl | exact .inr rfl | exact .inr (by decide)
theorem kitB_isT {T : String} (h : knownT T = true) (d : D) : kitB (tyN d) T = some (isT T d) := kitB_isTn T _ h (tyN_known d)
section
variable {K : CK} {H : Hp} {W : Wr} {S : Se} {σ : L2.St}
theorem Rep.ty {v : V} {d : D} (r : Rep K H W v d) (hp : d ≠ .p) (hs : ∀ ns, d ≠ .sc ns) (hd : ∀ ns, d ≠ .d ns) : TyX K.K H v (.type (tyN d)) := by
  cases r with
  | n => exact .base .non
  | b x => exact .base (.bl x)
  | i x => exact .base (.int x)
  | s h => exact .base (.str _)
  | t h z r =>
    rcases h with (h | ⟨o, h⟩) | ⟨o, its, n, h, c, _⟩
    · exact .base (.tup h)
    · exact .fTuple h
    · exact .kTuple h c
  | l f h z r => exact .base (.lst h)
  | d f h r => exact absurd rfl (hd _)
  | p h => exact absurd rfl hp
  | sc h z => exact absurd rfl (hs _)
theorem RepB.ty {v : V} {d : D} (G : Good K H W S σ) (r : RepB K H W S σ v d) (hp : d ≠ .p) (hs : ∀ ns, d ≠ .sc ns) (hd : ∀ ns, d ≠ .d ns) : TyX K.K H v (.type (tyN d)) := by
  rcases r with r | ⟨i, e, q⟩
  · exact r.ty hp hs hd
  · obtain ⟨a, q', o, _⟩ := G.own i _ e
    rw [q] at q'
    cases q'
    cases d with
    | l ds => obtain ⟨vs, h, _⟩ := o; exact .base (.lst h)
    | d ds => exact absurd rfl (hd _)
    | _ => exact o.elim
end
def mIsi (T : String) : M1
  | .p => none
  | .sc _ => none
  | .d _ => none
  | d => some (.b (isT T d))
theorem mIsi_some {T : String} {d e : D} (h : mIsi T d = some e) : d ≠ .p ∧ (∀ ns, d ≠ .sc ns) ∧ (∀ ns, d ≠ .d ns) ∧ e = .b (isT T d) := by
  cases d <;> first | (cases h; done) | (cases h; exact ⟨fun z => D.noConfusion z, fun ns z => D.noConfusion z, fun ns z => D.noConfusion z, rfl⟩)
def mIsi2 (T U : String) : M1
  | .p => none
  | .sc _ => none
  | .d _ => none
  | d => some (.b (isT T d || isT U d))
theorem mIsi2_some {T U : String} {d e : D} (h : mIsi2 T U d = some e) : d ≠ .p ∧ (∀ ns, d ≠ .sc ns) ∧ (∀ ns, d ≠ .d ns) ∧ e = .b (isT T d || isT U d) := by
  cases d <;> first | (cases h; done) | (cases h; exact ⟨fun z => D.noConfusion z, fun ns z => D.noConfusion z, fun ns z => D.noConfusion z, rfl⟩)
section
variable {X : Cx} {a : Expr} {fa : Fe} {x y z : Str} {T U : String} {p pos px py pt : Pos}
theorem pd_isi (hT : knownT T = true) (hm : X.mg "isinstance" = none) (hm2 : X.mg x = none) (hv2 : bootBuiltins x = some (.type T)) (ha : PDo X a fa) (hv : bootBuiltins "isinstance" = some (.builtin "isinstance") := by decide +kernel) (hg : Gl X "isinstance" := by rfl) (hg2 : Gl X x := by rfl)
    (hn2 : x ≠ "__name__" := by decide) (hd2 : (x == ("__debug__" : Str)) = false := by decide)
    (he : starEach [a, .Name x px] X.env = (false, eval a X.env) :: starEach [.Name x px] X.env := by rfl) (hp : (backTo pos (starEach [.Name x px] X.env)).any (·.1) = false := by rfl) :
    PDe X (.Call (.Name "isinstance" p) [a, .Name x px] [] pos) (fUn (mIsi T) fa) :=
  PE.imp (pe_callB call_isi hg hm hv (pa_cons ha (pa_cons (pe_bltn (v := V.ty T) hg2 hm2 hv2 rfl hn2 hd2) pa_nil) he) (by decide) (by decide) he hp) fun σ H Q ⟨W, S, d, S', G, e, q⟩ => by
    obtain ⟨⟨dx, S1⟩, e1, e⟩ := bind_some e
    obtain ⟨z, e2, e⟩ := map_some e
    cases e
    obtain ⟨n1, n2, n3, e3⟩ := mIsi_some e2
    subst e3
    refine ⟨W, S, dx, S1, G, e1, fun v H1 W1 g1 r1 => ⟨v, _, _, _, _, rfl, .ty T, r1.ty g1.G n1 n2 n3, kit_ty (kitB_isT hT dx), q _ _ _ g1 (.b _)⟩⟩
theorem pd_isi2 {k : Nat} (hT : knownT T = true) (hU : knownT U = true) (hm : X.mg "isinstance" = none) (hm2 : X.mg x = none) (hv2 : bootBuiltins x = some (.type T)) (hm3 : X.mg y = none) (hv3 : bootBuiltins y = some (.type U)) (ha : PDo X a fa) (hv : bootBuiltins "isinstance" = some (.builtin "isinstance") := by decide +kernel) (hg : Gl X "isinstance" := by rfl) (hg2 : Gl X x := by rfl) (hg3 : Gl X y := by rfl)
    (hn2 : x ≠ "__name__" := by decide) (hd2 : (x == ("__debug__" : Str)) = false := by decide) (hn3 : y ≠ "__name__" := by decide) (hd3 : (y == ("__debug__" : Str)) = false := by decide)
    (he : starEach [a, .Tuple [.Name x px, .Name y py] k pt] X.env = (false, eval a X.env) :: starEach [.Tuple [.Name x px, .Name y py] k pt] X.env := by rfl) (hp : (backTo pos (starEach [.Tuple [.Name x px, .Name y py] k pt] X.env)).any (·.1) = false := by rfl) :
    PDe X (.Call (.Name "isinstance" p) [a, .Tuple [.Name x px, .Name y py] k pt] [] pos) (fUn (mIsi2 T U) fa) :=
  PE.imp (pe_callB call_isiT hg hm hv (pa_cons ha (pa_cons (pe_tup (pa_cons (pe_bltn (v := V.ty T) hg2 hm2 hv2 rfl hn2 hd2) (pa_cons (pe_bltn (v := V.ty U) hg3 hm3 hv3 rfl hn3 hd3) pa_nil))) pa_nil) he) (by decide) (by decide) he hp) fun σ H Q ⟨W, S, d, S', G, e, q⟩ => by
    obtain ⟨⟨dx, S1⟩, e1, e⟩ := bind_some e
    obtain ⟨z, e2, e⟩ := map_some e
    cases e
    obtain ⟨n1, n2, n3, e3⟩ := mIsi2_some e2
    subst e3
    refine ⟨W, S, dx, S1, G, e1, fun v H1 W1 g1 r1 => ⟨by show 2 ≤ sizeLine; decide, fun tp htp => ?_⟩⟩
    have g2 := g1.G.new (o := .tup [.ty T, .ty U]) htp
    have r2 := r1.go g2.le g2.sl g2.G
    refine ⟨v, tp, _, _, _, _, rfl, upd_same, .cons (.ty T) (.cons (.ty U) .nil), r2.ty g2.G n1 n2 n3, kitAny_cons (kit_ty (kitB_isT hT dx)) (fun hb => kitAny_cons (kit_ty (kitB_isT hU dx)) (fun hb2 => ?_) fun hb2 => ?_) fun hb => ?_, q _ _ _ (g1.trans g2) (.b _)⟩
    · rw [hb, hb2]
      exact kitAny_nil
    · rw [hb2, Bool.or_true]
    · rw [hb, Bool.true_or]
end

/-! ### the drawing list -/
def DSt.get (x : DSt) : Nat → Option D
  | 0 => some (.l (x.sc.map D.i))
  | 1 => some (.i x.pos)
  | 2 => some (.i x.rest)
  | 3 => some (.i x.seed)
  | _ => none
def DSt.put (x : DSt) : Nat → D → Option DSt
  | 1, .i n => if 0 ≤ n then some { x with pos := n.toNat } else none
  | 2, .i n => some { x with rest := n }
  | 3, .i n => some { x with seed := n }
  | _, _ => none
/-- draw[k] -/
def fDr (i k : Nat) : Fe := fun S => match S.sl[i]?, S.w with
  | some (some (Sl.v .p)), some x => (x.get k).map fun d => (d, S)
  | _, _ => none
/-- draw[k] = e -/
def sDr (i k : Nat) (f : Fe) : Fst := fun S => (f S).bind fun p => match p.2.sl[i]?, p.2.w with
  | some (some (Sl.v .p)), some x => (x.put k p.1).map fun y => .nx { p.2 with w := some y }
  | _, _ => none
section
variable {K : CK} {H H' : Hp} {W W' : Wr} {S S' : Se} {σ σ' : L2.St}
theorem Good.draw {i : Nat} {x : DSt} (G : Good K H W S σ) (h : S.sl[i]? = some (some (Sl.v .p))) (hw : S.w = some x) : ∃ a, σ[i]? = some (some (V.ref a)) ∧ W.dA = some a ∧ DrawAt K H W a x ∧ ¬ W.Fz a := by
  obtain ⟨v, q, r⟩ := G.val i _ h
  cases r with
  | @p a ha =>
    have hd := G.g0.drw
    rw [hw, ha] at hd
    exact ⟨a, q, ha, hd⟩
theorem Good.upDraw {a : Addr} {x y : DSt} {vs : List V} (G : Good K H W S σ) (hw : S.w = some x) (ha : W.dA = some a) (hd : DrawAt K H W a x) (nf : ¬ W.Fz a) (new : ∀ Hn, Hn a = some (.lst vs) → Le H W Hn W → DrawAt K Hn W a y) :
    Good K (upd H a (.lst vs)) W { S with w := some y } σ ∧ Le H W (upd H a (.lst vs)) W := by
  obtain ⟨sA, h1, h2, h3, h4⟩ := id hd
  have l : Le H W (upd H a (.lst vs)) W := Le.upFr h1 trivial nf
  refine ⟨⟨⟨fun p hp => ?_, ?_, fun b hb => ?_, G.g0.nd⟩, G.len, fun j z h => ?_, fun j z h => ?_, G.dis⟩, l⟩
  · obtain ⟨a1, a2, a3⟩ := G.g0.frk p hp
    exact ⟨by rw [upd_ne (fun z => a3 (by rw [ha, z]))]; exact a1, a2, a3⟩
  · show match some y, W.dA with | none, none => True | some x, some b => DrawAt K (upd H a (.lst vs)) W b x ∧ ¬ W.Fz b | _, _ => False
    rw [ha]
    exact ⟨new _ upd_same l, nf⟩
  · by_cases h1 : b = a
    · rw [h1, upd_same]; exact fun z => nomatch z
    · rw [upd_ne h1]; exact G.g0.fz b hb
  · obtain ⟨v, q, r⟩ := G.val j z h
    exact ⟨v, q, r.le l⟩
  · obtain ⟨b, q, ow, g1, g2, g3⟩ := G.own j z h
    have nb : b ≠ a := fun e => g3 (by rw [ha, e])
    refine ⟨b, q, ?_, g1, g2, g3⟩
    cases z with
    | l ds => obtain ⟨us, h, z, r⟩ := ow; exact ⟨us, by rw [upd_ne nb]; exact h, z, r.le l⟩
    | d ds => obtain ⟨ob, h, kvs, y, z, q, r⟩ := ow; exact ⟨ob, by rw [upd_ne nb]; exact h, kvs, y, z, q, r.le l⟩
    | _ => exact ow.elim
end
section
variable {X : Cx} {e : Expr} {fe : Fe} {pos pos' apos kpos : Pos} {x : Str}
theorem pd_dr (i k : Nat) {j : Nat} (hN : X.N[i]? = some x := by rfl) (hv : Vis X.env.scope x := by first | exact Or.inl rfl | exact Or.inr (Or.inl rfl) | exact Or.inr (Or.inr rfl)) (hd : (x == ("__debug__" : Str)) = false := by decide)
    (hcd : (x == ("__classdict__" : Str)) = false := by decide) (hs : PlainIx (.Constant (.int (k : Int)) j kpos) := by exact fun _ _ => rfl) : PDe X (.Subscript (.Name x pos') (.Constant (.int (k : Int)) j kpos) pos) (fDr i k) :=
  PE.imp (pe_ix ix_list (pe_var hN hv hd hcd) pe_int hs) fun σ H Q ⟨W, S, d, S', G, e, q⟩ => by
    unfold fDr at e
    split at e
    case h_2 => cases e
    rename_i st h1 h2
    obtain ⟨d', e1, e2⟩ := map_some e
    cases e2
    obtain ⟨a, ev, ha, ⟨sA, hA, fA, hS, hz⟩, nf⟩ := G.draw h1 h2
    match k, e1 with
    | 0, e1 =>
      cases e1
      exact ⟨_, ev, a, _, _, _, rfl, rfl, SqL.at hA, rfl, q _ _ _ (Go.refl G) (.l fA hS (by rw [List.length_map]; exact Nat.le_trans hz (by decide)) (Reps.of_ints _))⟩
    | 1, e1 => cases e1; exact ⟨_, ev, a, _, _, _, rfl, rfl, SqL.at hA, rfl, q _ _ _ (Go.refl G) (.i _)⟩
    | 2, e1 => cases e1; exact ⟨_, ev, a, _, _, _, rfl, rfl, SqL.at hA, rfl, q _ _ _ (Go.refl G) (.i _)⟩
    | 3, e1 => cases e1; exact ⟨_, ev, a, _, _, _, rfl, rfl, SqL.at hA, rfl, q _ _ _ (Go.refl G) (.i _)⟩
theorem st_dr (i k : Nat) {j : Nat} (h : PDe X e fe) (hN : X.N[i]? = some x := by rfl) (hv : Vis X.env.scope x := by first | exact Or.inl rfl | exact Or.inr (Or.inl rfl) | exact Or.inr (Or.inr rfl)) (hd : (x == ("__debug__" : Str)) = false := by decide)
    (hcd : (x == ("__classdict__" : Str)) = false := by decide)
    (ha : ∀ v, assign (.Subscript (.Name x pos') (.Constant (.int (k : Int)) j kpos) apos) X.env v = (do
      let ov ← holding [v] (eval (.Name x pos') X.env)
      let iv ← holding [v, ov] (eval (.Constant (.int (k : Int)) j kpos) X.env)
      standAt apos
      holding [v, ov, iv] (setItem ov iv v)
      release [v, ov, iv] []) := by intro _; rfl)
    (h1 : swapsWithSole [.Subscript (.Name x pos') (.Constant (.int (k : Int)) j kpos) apos] e pos.line X.env = pure false := by rfl) (h2 : swappedStores [.Subscript (.Name x pos') (.Constant (.int (k : Int)) j kpos) apos] e X.env = pure none := by rfl) (h3 : (assignEach [.Subscript (.Name x pos') (.Constant (.int (k : Int)) j kpos) apos] X.env).map (·.2) = [assign (.Subscript (.Name x pos') (.Constant (.int (k : Int)) j kpos) apos) X.env] := by rfl) :
    PDst X (.Assign [.Subscript (.Name x pos') (.Constant (.int (k : Int)) j kpos) apos] e pos) (sDr i k fe) :=
  PS.imp (ps_asg h (pg_sub (pe_var hN hv hd hcd) pe_int set_list ha) h1 h2 h3) fun D σ H ⟨W, S, o, G, e, q⟩ => by
    obtain ⟨⟨d, S1⟩, e1, e⟩ := bind_some e
    refine ⟨W, S, d, S1, G, e1, fun v H1 W1 g r => ?_⟩
    dsimp only at e
    split at e
    case h_2 => cases e
    rename_i st hs hw
    obtain ⟨st', e2, e3⟩ := map_some e
    cases e3
    obtain ⟨a, ev, hda, hd, nf⟩ := g.G.draw hs hw
    obtain ⟨sA, hA, fA, hS, hz⟩ := id hd
    match k, e2 with
    | 1, e2 =>
      cases d with
      | i n =>
        obtain ⟨z, e2⟩ := ite_some' e2
        cases e2
        cases r
        obtain ⟨G2, l2⟩ := g.G.upDraw (y := { st with pos := n.toNat }) (vs := [.ref sA, .int n, .int st.rest, .int st.seed]) hw hda hd nf fun Hn hn l => ⟨sA, by rw [hn, Int.toNat_of_nonneg z], fA, l.lst _ _ fA hS, hz⟩
        exact ⟨_, ev, a, _, _, 1, rfl, rfl, hA, rfl, q _ _ _ (g.le.trans l2) g.fr G2⟩
      | _ => cases e2
    | 2, e2 =>
      cases d with
      | i n =>
        cases e2
        cases r
        obtain ⟨G2, l2⟩ := g.G.upDraw (y := { st with rest := n }) (vs := [.ref sA, .int st.pos, .int n, .int st.seed]) hw hda hd nf fun Hn hn l => ⟨sA, hn, fA, l.lst _ _ fA hS, hz⟩
        exact ⟨_, ev, a, _, _, 2, rfl, rfl, hA, rfl, q _ _ _ (g.le.trans l2) g.fr G2⟩
      | _ => cases e2
    | 3, e2 =>
      cases d with
      | i n =>
        cases e2
        cases r
        obtain ⟨G2, l2⟩ := g.G.upDraw (y := { st with seed := n }) (vs := [.ref sA, .int st.pos, .int st.rest, .int n]) hw hda hd nf fun Hn hn l => ⟨sA, hn, fA, l.lst _ _ fA hS, hz⟩
        exact ⟨_, ev, a, _, _, 3, rfl, rfl, hA, rfl, q _ _ _ (g.le.trans l2) g.fr G2⟩
      | _ => cases e2
    | 0, e2 => cases d <;> cases e2
end
end PD

/-! PdK: truth, and/or as values, chains, max, min, sorted, reversed slices, the drawing list made. -/
namespace PD
open PySem PySem.Spec L2
open PyProof.Rows (envOfC)

def truD : D → Option Bool
  | .n => some false
  | .b x => some x
  | .i x => some (x != 0)
  | .s x => some ((x.length : Int) != 0)
  | .t xs => some (!xs.isEmpty)
  | .l xs => some (!xs.isEmpty)
  | _ => none
theorem Reps.isEmpty {K : CK} {H : Hp} {W : Wr} {vs : List V} {ds : List D} (r : Reps K H W vs ds) : vs.isEmpty = ds.isEmpty := by cases r <;> rfl
theorem RepB.tru {K : CK} {H : Hp} {W : Wr} {S : Se} {σ : L2.St} {v : V} {d : D} {k : Bool} (G : Good K H W S σ) (r : RepB K H W S σ v d) (h : truD d = some k) : TruV K.K v H k := by
  cases d with
  | n => obtain rfl := r.non G; cases h; rfl
  | b x => obtain rfl := r.bl G; cases h; rfl
  | i x => obtain rfl := r.int G; cases h; rfl
  | s x => obtain ⟨rfl, z⟩ := r.str G; cases h; exact ⟨z, rfl⟩
  | t xs => obtain ⟨a, vs, rfl, h1, z, q, _⟩ := r.tup G; cases h; exact .inr (.inl ⟨vs, h1, by rw [q.isEmpty]⟩)
  | l xs => obtain ⟨a, vs, rfl, h1, z, q⟩ := r.lst G; cases h; exact .inl ⟨vs, SqL.at h1, by rw [q.isEmpty]⟩
  | _ => cases h
def fTru (f : Fe) : Fb := fun S => (f S).bind fun p => (truD p.1).map fun k => (k, p.2)
def fAndV (f g : Fe) : Fe := fun S => (f S).bind fun p => (truD p.1).bind fun k => if k = true then g p.2 else some p
def fOrV (f g : Fe) : Fe := fun S => (f S).bind fun p => (truD p.1).bind fun k => if k = true then some p else g p.2
def fNotV (f : Fb) : Fe := fun S => (f S).map fun p => (.b (!p.1), p.2)
section
variable {X : Cx} {a b c : Expr} {f g h : Fe} {pos : Pos} {rest : List Expr}
theorem pt_tr (ha : PDo X a f) (he : ∀ whole, isTrue a X.env whole = (do let v ← whole; standAt a.pos; holding [v] (truthy v)) := by intro _; rfl) : PDt X a (fTru f) :=
  PT.imp (pt_truth ha he) fun σ H Q ⟨W, S, k, S', G, e, q⟩ => by
    obtain ⟨⟨d, S1⟩, e1, e2⟩ := bind_some e
    obtain ⟨k', e3, e4⟩ := map_some e2
    cases e4
    exact ⟨W, S, d, S1, G, e1, fun v H1 W1 g1 r1 => ⟨k, r1.tru g1.G e3, q H1 W1 g1⟩⟩
theorem pd_1 {op : BoolOp} (h : PDe X a f) : PDe X (.BoolOp op [a] pos) f := pe_one h
theorem pd_andV (ha : PDe X a f) (hb : PDe X (.BoolOp .And (b :: rest) pos) g) : PDe X (.BoolOp .And (a :: b :: rest) pos) (fAndV f g) :=
  PE.imp (pe_andT ha hb) fun σ H Q ⟨W, S, d, S', G, e, q⟩ => by
    obtain ⟨⟨x, S1⟩, e1, e2⟩ := bind_some e
    obtain ⟨k, e3, e4⟩ := bind_some e2
    refine ⟨W, S, x, S1, G, e1, fun v H1 W1 g1 r1 => ⟨k, RepB.tru g1.G (Or.inl r1) e3, ?_⟩⟩
    cases k with
    | true => exact iteT ⟨W1, S1, d, S', g1.G, e4, fun u H2 W2 g2 r2 => q u H2 W2 (g1.trans g2) r2⟩
    | false => cases e4; exact iteF (q v H1 W1 g1 r1)
theorem pd_orV (ha : PDe X a f) (hb : PDe X (.BoolOp .Or (b :: rest) pos) g) : PDe X (.BoolOp .Or (a :: b :: rest) pos) (fOrV f g) :=
  PE.imp (pe_orT ha hb) fun σ H Q ⟨W, S, d, S', G, e, q⟩ => by
    obtain ⟨⟨x, S1⟩, e1, e2⟩ := bind_some e
    obtain ⟨k, e3, e4⟩ := bind_some e2
    refine ⟨W, S, x, S1, G, e1, fun v H1 W1 g1 r1 => ⟨k, RepB.tru g1.G (Or.inl r1) e3, ?_⟩⟩
    cases k with
    | true => cases e4; exact iteT (q v H1 W1 g1 r1)
    | false => exact iteF ⟨W1, S1, d, S', g1.G, e4, fun u H2 W2 g2 r2 => q u H2 W2 (g1.trans g2) r2⟩
def fNotE (f : Fe) : Fe := fun S => (f S).bind fun p => (truD p.1).map fun k => (.b (!k), p.2)
theorem pd_notV (ha : PDo X a f) : PDe X (.UnaryOp .Not a pos) (fNotE f) :=
  PE.imp (pe_notT ha) fun σ H Q ⟨W, S, d, S', G, e, q⟩ => by
    obtain ⟨⟨x, S1⟩, e1, e2⟩ := bind_some e
    obtain ⟨k, e3, e4⟩ := map_some e2
    cases e4
    exact ⟨W, S, x, S1, G, e1, fun v H1 W1 g1 r1 => ⟨k, r1.tru g1.G e3, q _ H1 W1 g1 (.b _)⟩⟩
/-- a op b op' c -/
def fChain (m m' : M2) (f g h : Fe) : Fe := fun S => (f S).bind fun p => (g p.2).bind fun q => match m p.1 q.1 with
  | some (.b true) => (h q.2).bind fun r => (m' q.1 r.1).map fun z => (z, r.2)
  | some (.b false) => some (.b false, q.2)
  | _ => none
theorem tChain_of {K : CK} {m m' : M2} {σ : L2.St} {H : Hp} {Q : VK} (hh : tD K (fChain m m' f g h) σ H Q) : tChain (rO2 K m) (rO2 K m') (tO K f) (tO K g) (tO K h) σ H Q := by
  obtain ⟨W, S, d, S', G, e, q⟩ := hh
  obtain ⟨⟨x, S1⟩, e1, e⟩ := bind_some e
  obtain ⟨⟨y, S2⟩, e2, e⟩ := bind_some e
  dsimp only at e
  split at e
  · rename_i em
    obtain ⟨⟨z, S3⟩, e3, e⟩ := bind_some e
    obtain ⟨d', e4, e⟩ := map_some e
    cases e
    refine ⟨W, S, x, S1, G, e1, fun v H1 W1 g1 r1 => ⟨W1, S1, y, S2, g1.G, e2, fun u H2 W2 g2 r2 => ⟨W2, S2, σ, x, y, .b true, g2.G, r1.go g2.le g2.sl g2.G, r2, em, fun w H3 W3 g3 r3 => ?_⟩⟩⟩
    cases r3
    refine ⟨true, rfl, iteT ⟨W3, S2, z, S3, g3.G, e3, fun t H4 W4 g4 r4 => ⟨W4, S3, σ, y, z, d, g4.G, (r2.go g3.le g3.sl g3.G).go g4.le g4.sl g4.G, r4, e4, fun s H5 W5 g5 r5 => q s H5 W5 ((((g1.trans g2).trans g3).trans g4).trans g5) r5⟩⟩⟩
  · rename_i em
    have e : some (D.b false, S2) = some (d, S') := e
    injection e with e
    injection e with ea eb
    subst ea
    subst eb
    refine ⟨W, S, x, S1, G, e1, fun v H1 W1 g1 r1 => ⟨W1, S1, y, S2, g1.G, e2, fun u H2 W2 g2 r2 => ⟨W2, S2, σ, x, y, .b false, g2.G, r1.go g2.le g2.sl g2.G, r2, em, fun w H3 W3 g3 r3 => ?_⟩⟩⟩
    cases r3
    exact ⟨false, rfl, iteF (q _ H3 W3 ((g1.trans g2).trans g3) (.b _))⟩
  · cases e
theorem pd_chain {op op' : CmpOp} {m m' : M2} (ho : OpR X (compareOp op) (rO2 X.kk m)) (ho' : OpR X (compareOp op') (rO2 X.kk m')) (ha : PDo X a f) (hb : PDo X b g) (hc : PDo X c h) (hm : lastMarks [op, op'] [b, c] = false := by with_unfolding_all rfl) :
    PDe X (.Compare a [op, op'] [b, c] pos) (fChain m m' f g h) := PE.imp (pe_chain ho ho' ha hb hc hm) fun _ _ _ h => tChain_of h
theorem pt_chain' {op op' : CmpOp} {m m' : M2} (ho : OpR X (compareOp op) (rO2 X.kk m)) (ho' : OpR X (compareOp op') (rO2 X.kk m')) (ha : PDo X a f) (hb : PDo X b g) (hc : PDo X c h) (hm : lastMarks [op, op'] [b, c] = false := by with_unfolding_all rfl) :
    PDt X (.Compare a [op, op'] [b, c] pos) (fTst (fChain m m' f g h)) := PT.imp (pt_chain ho ho' ha hb hc hm) fun σ H Q ⟨W, S, k, S', G, e, q⟩ => tChain_of ⟨W, S, _, S', G, fTst_some e, fun v H' W' g r => by
    cases r
    exact ⟨k, rfl, q H' W' g⟩⟩
end

/-! ### max, min -/
mutual
theorem toP_inj : ∀ (x y : D), (toP x).plain = true → toP x = toP y → x = y
  | .n, y, _, e => by cases y <;> first | rfl | cases e
  | .b x, y, _, e => by cases y <;> first | (cases e; rfl) | cases e
  | .i x, y, _, e => by cases y <;> first | (cases e; rfl) | cases e
  | .s x, y, _, e => by cases y <;> first | (cases e; rfl) | cases e
  | .t xs, y, p, e => by
    cases y with
    | t ys => rw [toPs_inj xs ys p (by injection e)]
    | _ => cases e
  | .l xs, y, p, e => by
    cases y with
    | l ys => rw [toPs_inj xs ys p (by injection e)]
    | _ => cases e
  | .d _, _, p, _ => nomatch p
  | .p, _, p, _ => nomatch p
  | .sc _, _, p, _ => nomatch p
theorem toPs_inj : ∀ (xs ys : List D), PyData.plainAll (toPs xs) = true → toPs xs = toPs ys → xs = ys
  | [], ys, _, e => by cases ys <;> first | rfl | cases e
  | x :: xs, ys, p, e => by
    cases ys with
    | nil => cases e
    | cons y ys =>
      have p' := Bool.and_eq_true_iff.mp (show (PyData.plain (toP x) && PyData.plainAll (toPs xs)) = true from p)
      have e' : toP x :: toPs xs = toP y :: toPs ys := e
      injection e' with e1 e2
      rw [toP_inj x y p'.1 e1, toPs_inj xs ys p'.2 e2]
end
open PySem.SeqAt PySem.W in
def alikeB (xs : List PyData) : Bool := PyData.plainAll xs && (xs.all fun x => xs.all fun y => alike x y) && (xs.all notNone) && decide (PyData.depthAll xs ≤ 60)
def maxL (x : D) (xs : List D) : D := xs.foldl (fun a y => if ltD a y = true then y else a) x
def minL (x : D) (xs : List D) : D := xs.foldl (fun a y => if ltD y a = true then y else a) x
open PySem.SeqAt PySem.W in
theorem alikeB_iff {xs : List PyData} (h : alikeB xs = true) : PyData.plainAll xs = true ∧ AlikeAll xs ∧ PyData.depthAll xs ≤ 60 := by
  unfold alikeB at h
  simp only [Bool.and_eq_true, decide_eq_true_eq, List.all_eq_true] at h
  refine ⟨h.1.1.1, ⟨fun x hx y hy => h.1.1.2 x hx y hy, fun x hx e => ?_⟩, h.2⟩
  have := h.1.2 x hx
  rw [e] at this
  cases this
open PySem.SeqAt PySem.W in
theorem toP_maxL (x : D) : ∀ xs : List D, toP (maxL x xs) = maxD (toP x) (toPs xs) := fun xs => by
  rw [toPs_map]
  unfold maxL maxD
  induction xs generalizing x with
  | nil => rfl
  | cons y r ih =>
    rw [List.foldl_cons, List.map_cons, List.foldl_cons, ih]
    congr 1
    unfold ltD
    split <;> rfl
open PySem.SeqAt PySem.W in
theorem toP_minL (x : D) : ∀ xs : List D, toP (minL x xs) = minD (toP x) (toPs xs) := fun xs => by
  rw [toPs_map]
  unfold minL minD
  induction xs generalizing x with
  | nil => rfl
  | cons y r ih =>
    rw [List.foldl_cons, List.map_cons, List.foldl_cons, ih]
    congr 1
    unfold ltD
    split <;> rfl
def mMax : Ms
  | [.i a, .i b] => some (.i (if b > a then b else a))
  | [.l (x :: xs)] => if alikeB (toPs (x :: xs)) = true then some (maxL x xs) else none
  | [.t (x :: xs)] => if alikeB (toPs (x :: xs)) = true then some (maxL x xs) else none
  | _ => none
def mMin : Ms
  | [.i a, .i b] => some (.i (if b < a then b else a))
  | [.l (x :: xs)] => if alikeB (toPs (x :: xs)) = true then some (minL x xs) else none
  | [.t (x :: xs)] => if alikeB (toPs (x :: xs)) = true then some (minL x xs) else none
  | _ => none
theorem plain_get {xs : List D} (p : PyData.plainAll (toPs xs) = true) {i : Nat} {d : D} (h : xs[i]? = some d) : (toP d).plain = true := by
  induction xs generalizing i with
  | nil => simp at h
  | cons x r ih =>
    have p' := Bool.and_eq_true_iff.mp (show (PyData.plain (toP x) && PyData.plainAll (toPs r)) = true from p)
    cases i with
    | zero => simp at h; subst h; exact p'.1
    | succ i => exact ih p'.2 (by simpa using h)
section
open PySem.SeqAt PySem.W
variable {X : Cx} (hc : X.calm = true) (hu : X.A.units + 100 < cLine)
include hc hu
/-- the item that was found, by what it reads as -/
theorem found_item {K : CK} {H : Hp} {W : Wr} {vs : List V} {us : List Value} {ds : List D} {i : Nat} {v : Value} {h h' : Heap} {as : List Addr} {bs : List Addr} {z : D} (rv : Vals vs us) (r : Reps K H W vs ds) (p : PyData.plainAll (toPs ds) = true) (hv : us.toArray[i]? = some v)
    (rd : ReadsAll h us (toPs ds) as) (kp : ∀ b o, h.get? b = some o → h'.get? b = some o) (rz : Reads h' v (toP z) bs) : ∃ x, RelV x v ∧ Rep K H W x z := by
  have hv : us[i]? = some v := by simpa using hv
  have hi := (List.getElem?_eq_some_iff.mp hv).1
  have hi2 : i < vs.length := by rw [rv.length]; exact hi
  have hx : vs[i]? = some vs[i] := List.getElem?_eq_getElem hi2
  generalize vs[i] = x at hx
  obtain ⟨u, e1, e2⟩ := rv.get hx
  rw [hv] at e1
  cases e1
  obtain ⟨d, e3, r3⟩ := r.getV hx
  refine ⟨x, e2, ?_⟩
  obtain ⟨cs, rc, _, _, _⟩ := readsAll_at rd i v hv
  have e4 : (toPs ds).getD i .none = toP d := by
    rw [toPs_map, List.getD_eq_getElem?_getD, List.getElem?_map, e3]
    rfl
  rw [e4] at rc
  have pd := plain_get p e3
  have e5 := plain_unique _ _ _ _ _ pd (PyProof.Rows.Reads.keeps kp rc) rz
  rw [← toP_inj _ _ pd e5]
  exact r3
theorem cr_mMax : CallR X (.builtin "max") (rOs X.kk mMax) := by
  intro pins s σ H xs us Q I rx ⟨W, S, σ', ds, d, G, r, e, q⟩
  unfold mMax at e
  split at e
  · cases e
    obtain ⟨v, u, rfl, r1, r2⟩ := r.two
    obtain rfl := r1.int G
    obtain rfl := r2.int G
    exact call_max2 hc pins s σ H _ us Q I rx ⟨_, _, rfl, q _ _ _ (Go.refl G) (.i _)⟩
  · obtain ⟨z, e⟩ := ite_some' e
    cases e
    obtain ⟨p1, p2, p3⟩ := alikeB_iff z
    have p3 : PyData.depthAll (toP _ :: toPs _) ≤ 60 := p3
    obtain ⟨v, rfl, r1⟩ := r.one
    obtain ⟨a, vs, rfl, h1, z1, q1⟩ := r1.lst G
    rw [Vals.ref1 rx]
    obtain ⟨its, rv, hl, _⟩ := I.list (SqL.at h1)
    obtain ⟨as, rd⟩ := Dp.readsAll I _ _ _ (Reps.dp q1 p1) rv
    refine max_list_data (I.ok.hd hc) hl.isList rd p2 (by omega) fun i v h' tk bs hv rz kp => ?_
    rw [← toP_maxL] at rz
    obtain ⟨x, rx', rp⟩ := found_item hc hu rv q1 p1 hv rd kp rz
    exact ⟨x, H, I.kept kp, rx', q _ _ _ (Go.refl G) rp⟩
  · obtain ⟨z, e⟩ := ite_some' e
    cases e
    obtain ⟨p1, p2, p3⟩ := alikeB_iff z
    have p3 : PyData.depthAll (toP _ :: toPs _) ≤ 60 := p3
    obtain ⟨v, rfl, r1⟩ := r.one
    obtain ⟨a, vs, rfl, h1, z1, q1, _⟩ := r1.tup G
    rw [Vals.ref1 rx]
    obtain ⟨its, rv, hl, _⟩ := I.tuple h1
    obtain ⟨as, rd⟩ := Dp.readsAll I _ _ _ (Reps.dp q1 p1) rv
    refine max_tuple_data (I.ok.hd hc) hl rd p2 (by omega) fun i v h' tk bs hv rz kp => ?_
    rw [← toP_maxL] at rz
    obtain ⟨x, rx', rp⟩ := found_item hc hu rv q1 p1 hv rd kp rz
    exact ⟨x, H, I.kept kp, rx', q _ _ _ (Go.refl G) rp⟩
  · cases e
theorem cr_mMin : CallR X (.builtin "min") (rOs X.kk mMin) := by
  intro pins s σ H xs us Q I rx ⟨W, S, σ', ds, d, G, r, e, q⟩
  unfold mMin at e
  split at e
  · cases e
    obtain ⟨v, u, rfl, r1, r2⟩ := r.two
    obtain rfl := r1.int G
    obtain rfl := r2.int G
    exact call_min2 hc pins s σ H _ us Q I rx ⟨_, _, rfl, q _ _ _ (Go.refl G) (.i _)⟩
  · obtain ⟨z, e⟩ := ite_some' e
    cases e
    obtain ⟨p1, p2, p3⟩ := alikeB_iff z
    have p3 : PyData.depthAll (toP _ :: toPs _) ≤ 60 := p3
    obtain ⟨v, rfl, r1⟩ := r.one
    obtain ⟨a, vs, rfl, h1, z1, q1⟩ := r1.lst G
    rw [Vals.ref1 rx]
    obtain ⟨its, rv, hl, _⟩ := I.list (SqL.at h1)
    obtain ⟨as, rd⟩ := Dp.readsAll I _ _ _ (Reps.dp q1 p1) rv
    refine min_list_data (I.ok.hd hc) hl.isList rd p2 (by omega) fun i v h' tk bs hv rz kp => ?_
    rw [← toP_minL] at rz
    obtain ⟨x, rx', rp⟩ := found_item hc hu rv q1 p1 hv rd kp rz
    exact ⟨x, H, I.kept kp, rx', q _ _ _ (Go.refl G) rp⟩
  · obtain ⟨z, e⟩ := ite_some' e
    cases e
    obtain ⟨p1, p2, p3⟩ := alikeB_iff z
    have p3 : PyData.depthAll (toP _ :: toPs _) ≤ 60 := p3
    obtain ⟨v, rfl, r1⟩ := r.one
    obtain ⟨a, vs, rfl, h1, z1, q1, _⟩ := r1.tup G
    rw [Vals.ref1 rx]
    obtain ⟨its, rv, hl, _⟩ := I.tuple h1
    obtain ⟨as, rd⟩ := Dp.readsAll I _ _ _ (Reps.dp q1 p1) rv
    refine min_tuple_data (I.ok.hd hc) hl rd p2 (by omega) fun i v h' tk bs hv rz kp => ?_
    rw [← toP_minL] at rz
    obtain ⟨x, rx', rp⟩ := found_item hc hu rv q1 p1 hv rd kp rz
    exact ⟨x, H, I.kept kp, rx', q _ _ _ (Go.refl G) rp⟩
  · cases e
end
end PD

/-! PdL: sorted, two names at once, the drawing list made, the law's own promise. -/
namespace PD
open PySem PySem.Spec L2
open PyProof.Rows (envOfC)

open PySem.SeqAt PySem.W in
def sortB (xs : List PyData) : Bool := PyData.plainAll xs && (xs.all fun x => xs.all fun y => alike x y) && decide (PyData.depthAll xs ≤ 60) &&
  ((xs.all fun x => match x with | .tuple (_ :: _) => true | _ => false) || (xs.all fun x => match x with | .none => false | .tuple _ => false | _ => true))
def leD (a b : D) : Bool := !ltD b a
def sortL (xs : List D) : List D := xs.mergeSort leD
open PySem.SeqAt PySem.W in
theorem sortB_iff {xs : List PyData} (h : sortB xs = true) : PyData.plainAll xs = true ∧ AllAlike xs ∧ Sortable xs ∧ PyData.depthAll xs ≤ 60 := by
  unfold sortB at h
  simp only [Bool.and_eq_true, Bool.or_eq_true, decide_eq_true_eq, List.all_eq_true] at h
  refine ⟨h.1.1.1, fun x hx y hy => h.1.1.2 x hx y hy, ?_, h.1.2⟩
  rcases h.2 with h | h
  · refine .inl fun d hd => ?_
    have := h d hd
    split at this
    · exact ⟨_, _, rfl⟩
    · cases this
  · refine .inr fun d hd => ⟨fun e => ?_, fun ys e => ?_⟩
    · have := h d hd
      rw [e] at this
      cases this
    · have := h d hd
      rw [e] at this
      cases this
def mSorted : Ms
  | [.l xs] => if sortB (toPs xs) = true then some (.l (sortL xs)) else none
  | _ => none
section
open PySem.SeqAt PySem.W
variable {X : Cx} (hu : X.A.units + 100 < cLine)
include hu
omit hu in
theorem each_of {K : CK} {H : Hp} {W : Wr} : ∀ {vs : List V} {us : List Value} {ds : List D}, Vals vs us → Reps K H W vs ds → EachIs (fun v d => ∃ x, RelV x v ∧ Rep K H W x d) us ds
  | _, _, _, .nil, .nil => .nil
  | _, _, _, .cons r t, .cons q u => .cons ⟨_, r, q⟩ (each_of t u)
omit hu in
theorem of_each {K : CK} {H : Hp} {W : Wr} : ∀ {us : List Value} {ds : List D}, EachIs (fun v d => ∃ x, RelV x v ∧ Rep K H W x d) us ds → ∃ vs, Vals vs us ∧ Reps K H W vs ds
  | _, _, .nil => ⟨[], .nil, .nil⟩
  | _, _, .cons ⟨x, r, q⟩ t => by
    obtain ⟨vs, a, b⟩ := of_each t
    exact ⟨x :: vs, .cons r a, .cons q b⟩
omit hu in
theorem reads_each {h : Heap} : ∀ {us : List Value} {ds : List D} {as : List Addr}, ReadsAll h us (toPs ds) as → EachIs (fun v d => ∃ as, Reads h v (toP d) as) us ds
  | _, [], _, .nil => .nil
  | _, d :: ds, _, .cons r t => .cons ⟨_, r⟩ (reads_each t)
omit hu in
theorem depth_mem {x : PyData} : ∀ {xs : List PyData}, x ∈ xs → x.depth ≤ PyData.depthAll xs
  | y :: r, h => by
    show x.depth ≤ max y.depth (PyData.depthAll r)
    rcases List.mem_cons.mp h with rfl | h
    · exact Nat.le_max_left _ _
    · exact Nat.le_trans (depth_mem h) (Nat.le_max_right _ _)
theorem cn_mSorted : CallR X (.builtin "sorted") (rNs X.kk mSorted) := by
  intro pins s σ H xs us Q I rx ⟨W, S, σ', ds, d, G, r, e, q⟩
  unfold mSorted at e
  split at e
  · rename_i ys
    obtain ⟨z, e⟩ := ite_some' e
    cases e
    obtain ⟨p1, p2, p3, p4⟩ := sortB_iff z
    obtain ⟨v, rfl, r1⟩ := r.one
    obtain ⟨a, vs, rfl, h1, z1, q1⟩ := r1.lst G
    rw [Vals.ref1 rx]
    obtain ⟨its, rv, hl, _⟩ := I.list (SqL.at h1)
    obtain ⟨as, rd⟩ := Dp.readsAll I _ _ _ (Reps.dp q1 p1) rv
    rw [toPs_map] at p2 p3 p4
    refine sorted_data (enc := toP) (bs := ys) hl.isList (each_of rv q1) (reads_each rd) p2 p3 (by rw [← q1.length]; exact z1) (fun b hb => ?_) fun out ho eo => ?_
    · have h3 := depth_mem (List.mem_map_of_mem (f := toP) hb)
      omega
    · have eo : EachIs (fun v d => ∃ x, RelV x v ∧ Rep X.kk H W x d) out (sortL ys) := eo
      obtain ⟨ws, w1, w2⟩ := of_each eo
      obtain ⟨c, hc⟩ := PyProof.Rows.sortedAll_at s.heap its (List.toArray out)
      have hz : ws.length ≤ sizeLine := by
        rw [w1.length, ho, ← q1.length]
        exact z1
      have hn := I.hok.fresh (a := s.heap.objs.size + 1) (Nat.le_succ _)
      refine ⟨.ref _, upd H (s.heap.objs.size + 1) (.lst ws), I.laid (t' := s.toks) (fun b o e => PyProof.Rows.sortedAll_old e) (Nat.le_succ _) ⟨hz, out, c, w1, hc⟩, rfl, q _ _ _ (G.new0 hn) ⟨ws, upd_same, hz, w2.le (Le.new0 hn)⟩ (Fresh.le (K := X.kk) (G.fresh hn))⟩
  · cases e
end

/-! ### a, b = x, y (plain local names) -/
def sPar (i j : Nat) (g : Fs) : Fst := fun S => (g S).bind fun p => match p.1 with
  | [a, b] => some (.nx ((p.2.put i (some (Sl.v a))).put j (some (Sl.v b))))
  | _ => none
/-- the second one the name's own -/
def sParO (i j : Nat) (f g : Fe) : Fst := fun S => (f S).bind fun p => (g p.2).map fun q => .nx ((q.2.put i (some (Sl.v p.1))).put j (some (Sl.o q.1)))
section
variable {X : Cx} {x y : Str} {a b : Expr} {px py pt pos : Pos} {kt k2 : Nat} {pt2 : Pos} {g : Fs} {fa fb : Fe}
theorem st_par (i j : Nat) (hc : X.calm = true) (hN : X.N.Nodup) (ha : PDs X [a, b] g) (hi : X.N[i]? = some x := by rfl) (hj : X.N[j]? = some y := by rfl) (hij : i ≠ j := by decide)
    (hx : X.env.scope.names.lookup x = some .local := by rfl) (hy : X.env.scope.names.lookup y = some .local := by rfl)
    (hw : swappedStores [.Tuple [.Name x px, .Name y py] kt pt] (.Tuple [a, b] k2 pt2) X.env = pure (some [x, y]) := by rfl)
    (hs : swapsWithSole [.Tuple [.Name x px, .Name y py] kt pt] (.Tuple [a, b] k2 pt2) pos.line X.env = pure false := by rfl) :
    PDst X (.Assign [.Tuple [.Name x px, .Name y py] kt pt] (.Tuple [a, b] k2 pt2) pos) (sPar i j g) :=
  PS.imp (ps_par hc hN hi hj hij hx hy ha hw hs) fun D σ H ⟨W, S, o, G, e, q⟩ => by
    obtain ⟨⟨ds, S1⟩, e1, e⟩ := bind_some e
    refine ⟨W, S, ds, S1, G, e1, fun vs H1 W1 g1 r1 => ?_⟩
    match ds, r1, e with
    | [d1, d2], .cons (v := v1) ra (.cons (v := v2) rb .nil), e =>
      cases e
      exact ⟨v1, v2, rfl, q _ H1 W1 g1.le g1.fr ((g1.G.set ra).set rb)⟩
theorem st_parO (i j : Nat) (hc : X.calm = true) (hN : X.N.Nodup) (ha : PDe X a fa) (hb : PDn X b fb) (hi : X.N[i]? = some x := by rfl) (hj : X.N[j]? = some y := by rfl) (hij : i ≠ j := by decide)
    (hx : X.env.scope.names.lookup x = some .local := by rfl) (hy : X.env.scope.names.lookup y = some .local := by rfl)
    (hw : swappedStores [.Tuple [.Name x px, .Name y py] kt pt] (.Tuple [a, b] k2 pt2) X.env = pure (some [x, y]) := by rfl)
    (hs : swapsWithSole [.Tuple [.Name x px, .Name y py] kt pt] (.Tuple [a, b] k2 pt2) pos.line X.env = pure false := by rfl)
    (h1 : starEach [a, b] X.env = (false, eval a X.env) :: starEach [b] X.env := by rfl) (h2 : starEach [b] X.env = (false, eval b X.env) :: starEach [] X.env := by rfl) :
    PDst X (.Assign [.Tuple [.Name x px, .Name y py] kt pt] (.Tuple [a, b] k2 pt2) pos) (sParO i j fa fb) :=
  PS.imp (ps_par hc hN hi hj hij hx hy (pa_cons ha (pa_cons hb pa_nil h2) h1) hw hs) fun D σ H ⟨W, S, o, G, e, q⟩ => by
    obtain ⟨⟨d1, S1⟩, e1, e⟩ := bind_some e
    obtain ⟨⟨d2, S2⟩, e2, e⟩ := map_some e
    cases e
    refine ⟨W, S, d1, S1, G, e1, fun v1 H1 W1 g1 r1 => ⟨W1, S1, d2, S2, g1.G, e2, fun a2 H2 W2 g2 ow fr => ?_⟩⟩
    refine ⟨v1, .ref a2, rfl, ?_⟩
    have G3 := g2.G.set (i := i) (r1.le g2.le)
    have fr3 : Fresh H2 W2 (S2.put i (some (Sl.v d1))) (σ.set i (some v1)) a2 := ⟨fr.1, fr.2.1, fr.2.2.1, fun k d h => by
      rcases at_set (l := S2.sl) h with ⟨_, e3, _⟩ | ⟨n, h⟩
      · injection e3 with e3; exact Sl.noConfusion e3
      · rw [set_ne n]; exact fr.2.2.2 k d h⟩
    exact q _ H2 W2 (g1.le.trans g2.le) (g2.fr.trans g1.fr) (G3.setO ow fr3)
end

/-! ### the drawing list made -/
def F_draw : Fn := fun ds w => match ds, w with
  | [.sc ns], none => some (.p, some ⟨ns, 0, 0, 17⟩)
  | _, _ => none
section
variable {P : Program} {w : World} {K : PySem.W.Frag} {mg : Str → Option Value} {base : Heap}
abbrev rLi (K : PySem.W.Frag) : List V → Hp → VK → Prop := fun xs H Q => ∃ p ys, xs = [.ref p] ∧ (SqL K H p ys ∨ SqT K H p ys) ∧ ∀ l, H l = none → Q (.ref l) (upd H l (.lst ys))
theorem draw_ok {x qual : Str} {st : Stmt} {f : Addr} {fd : FuncData} {k : Nat} (F : Fun K x qual st f fd) (S : FnScope ["script"] ["script"] (defScope st))
    (hbody : ∀ (cdv : Value) (A : Around) (outer : List Env) (s : Shared) (H : Hp) (E : XK), PSs (cxOf CX0 P w K mg base ["script"] qual (defScope st) f cdv A outer s H E).nox (defBody st)
      (tRet (tLst (tCons (tCB (rLi K) (tCons (tVar 0) tNil)) (tCons (tC (.int 0)) (tCons (tC (.int 0)) (tCons (tC (.int 17)) tNil))))))) :
    FnOk P w K mg base CX0 (k + 1) f fd ["script"] (spD 1 ⟨K, P, w⟩ F_draw) := by
  refine F.ok S (fun vs H Q E h => ?_) fun cdv A outer s H vs Q E hr h => ⟨_, hbody cdv A outer s H E, ?_⟩
  · obtain ⟨W, w, ds, d, w', g0, r, hn, _⟩ := h
    rw [r.length, hn]
    rfl
  · obtain ⟨W, w0, ds, d, w', g0, r, hn, e, q⟩ := h
    unfold F_draw at e
    split at e
    case h_2 => cases e
    rename_i ns
    cases e
    cases r with
    | cons r t =>
      cases t
      cases r with
      | @sc a _ ha hz =>
        refine ⟨_, rfl, a, _, rfl, .inl ha.sq, fun l hl => ⟨by show 4 ≤ sizeLine; decide, fun p hp => ?_⟩⟩
        have nlp : l ≠ p := fun z => by rw [z, upd_same] at hp; cases hp
        have hpH : H p = none := by rw [upd_ne nlp.symm] at hp; exact hp
        have hdA : W.dA = none := by
          have h := g0.drw
          revert h
          cases W.dA with
          | none => exact fun _ => rfl
          | some b => exact fun h => h.elim
        have ne : ∀ b o, H b = some o → b ≠ l ∧ b ≠ p := fun b o h => ⟨ne_of_none h hl, ne_of_none h hpH⟩
        have keep : ∀ b o, H b = some o → upd (upd H l (.lst (ns.map V.int))) p (.lst [.ref l, .int 0, .int 0, .int 17]) b = some o := fun b o h => by
          rw [upd_ne (ne b o h).2, upd_ne (ne b o h).1]; exact h
        have keepR : ∀ b u, Rd H b u → Rd (upd (upd H l (.lst (ns.map V.int))) p (.lst [.ref l, .int 0, .int 0, .int 17])) b u := fun b u h => by
          rcases h with h | ⟨o, h⟩
          · exact .inl (keep _ _ h)
          · exact .inr ⟨o, keep _ _ h⟩
        refine q (.ref p) _ { W with Fz := fun b => b = l ∨ W.Fz b, dA := some p } ⟨fun b h => .inr h, fun b vs h => keepR _ _ h, fun b u _ h => keepR _ _ h, fun b vs _ h => keep _ _ h, fun b h => by rw [hdA] at h; cases h⟩ rfl ⟨fun z hz => ?_, ?_, fun b hb => ?_, g0.nd⟩ (.p rfl)
        · obtain ⟨e1, e2, _⟩ := g0.frk z hz
          have n := ne _ _ e1
          exact ⟨keep _ _ e1, fun z => z.elim (fun z => n.1 z) e2, fun z => n.2 (Option.some.inj z).symm⟩
        · refine ⟨⟨l, upd_same, .inl rfl, ?_, hz⟩, fun z => z.elim (fun z => nlp z.symm) fun z => g0.fz p z hpH⟩
          rw [upd_ne nlp, upd_same]
        · rcases hb with rfl | hb
          · rw [upd_ne nlp, upd_same]; exact fun z => nomatch z
          · cases q2 : H b with
            | none => exact absurd q2 (g0.fz b hb)
            | some o => rw [keep _ _ q2]; exact fun z => nomatch z
/-- the law's own promise -/
theorem law_sp {K : CK} {F : Fn} {H : Hp} {a : Addr} {ns : List Int} (hF : ∃ w', F [.sc ns] none = some (.b true, w')) (hl : ns.length ≤ 1000) (hS : SqL K.K H a (ns.map V.int)) : spD 1 K F [.ref a] H (fun v _ => v = .bl true) fun _ _ _ => False := by
  obtain ⟨w', hF⟩ := hF
  refine ⟨⟨fun b => b = a ∧ H a ≠ none, [], none⟩, none, [.sc ns], .b true, w', ⟨fun p hp => (nomatch hp), trivial, fun b (hb : b = a ∧ H a ≠ none) => hb.1 ▸ hb.2, List.nodup_nil⟩, .cons (.sc ?_ hl) .nil, rfl, hF, fun v H' W' _ _ _ r => (match r with | .b _ => rfl)⟩
  rcases hS with h | h
  · exact .inl ⟨⟨rfl, Rd.some' h⟩, h⟩
  · exact .inr h
end
end PD

/-! PdM: dicts, whatever plain keys they have. -/
namespace PD
open PySem PySem.Spec L2

def keyEq (a b : D) : Bool := decide (nk a = nk b)
def lookD (ds : List (D × D)) (k : D) : Option D := (ds.find? fun p => keyEq p.1 k).map (·.2)
def putD (ds : List (D × D)) (k v : D) : List (D × D) := if (ds.any fun p => keyEq p.1 k) = true then ds.map (fun p => if keyEq p.1 k = true then (p.1, v) else p) else ds ++ [(k, v)]
def kindOk (ds : List (D × D)) (k : D) : Bool := (fkOk k && ds.all fun p => fkOk p.1) || (dkOk k && ds.all fun p => dkOk p.1)

def nkK : Key → NestedKey
  | .inl i => .num i
  | .inr s => .text s
theorem fk_nk {d : D} {k : Key} (h : fk d = some k) : nk d = nkK k := by
  cases d <;> first | (cases h; rfl) | cases h
theorem nkK_inj {j k : Key} : nkK j = nkK k ↔ j = k := by
  constructor
  · intro h
    cases j <;> cases k <;> cases h <;> rfl
  · exact fun h => h ▸ rfl
theorem fk_keyEq {a b : D} {j k : Key} (ha : fk a = some j) (hb : fk b = some k) : keyEq a b = decide (j = k) := by
  unfold keyEq
  rw [fk_nk ha, fk_nk hb]
  exact decide_eq_decide.mpr nkK_inj

section
variable {C : CK} {H H' : Hp} {W W' : Wr}
abbrev FlatE (C : CK) (H : Hp) (W : Wr) : List (Key × Value) → List (D × D) → Prop := Paired fun q p => fk p.1 = some q.1 ∧ Rep C H W (kV q.1) p.1 ∧ ∃ x, RelV x q.2 ∧ Rep C H W x p.2
abbrev DeepE (C : CK) (H : Hp) (W : Wr) : List (NestedKey × Addr × Value) → List (D × D) → Prop := Paired fun q p => nk p.1 = q.1 ∧ dkOk p.1 = true ∧ Rep C H W (.ref q.2.1) p.1 ∧ ∃ x, RelV x q.2.2 ∧ Rep C H W x p.2
theorem flat_of : ∀ {kvs : List (V × V)} {us : List (Key × Value)} {ds : List (D × D)}, Paired (fun (p : V × V) (q : Key × Value) => p.1 = kV q.1 ∧ RelV p.2 q.2) kvs us → RepKV C H W kvs ds → ds.map (fun p => fk p.1) = us.map (fun p => some p.1) → FlatE C H W us ds
  | _, _, _, .nil, .nil, _ => .nil
  | _, _, _, .cons (a := p) (b := q) r t, .cons rk rv u, e => by
    rw [List.map_cons, List.map_cons] at e
    injection e with e1 e2
    refine .cons ⟨e1, ?_, _, r.2, rv⟩ (flat_of t u e2)
    have := r.1
    rw [← this]
    exact rk
theorem of_flat : ∀ {us : List (Key × Value)} {ds : List (D × D)}, FlatE C H W us ds → ∃ kvs : List (V × V), Paired (fun (p : V × V) (q : Key × Value) => p.1 = kV q.1 ∧ RelV p.2 q.2) kvs us ∧ RepKV C H W kvs ds ∧ ds.map (fun p => fk p.1) = us.map (fun p => some p.1)
  | _, _, .nil => ⟨[], .nil, .nil, rfl⟩
  | _, _, .cons (a := q) (b := p) ⟨e, rk, x, rx, rv⟩ t => by
    obtain ⟨kvs, a, b, c⟩ := of_flat t
    exact ⟨(kV q.1, x) :: kvs, .cons ⟨rfl, rx⟩ a, .cons rk rv b, by rw [List.map_cons, List.map_cons, c, e]⟩
theorem deep_of : ∀ {kvs : List (V × V)} {us : List (NestedKey × Addr × Value)} {ds : List (D × D)}, Paired (fun (p : V × V) (q : NestedKey × Addr × Value) => p.1 = V.ref q.2.1 ∧ RelV p.2 q.2.2) kvs us → RepKV C H W kvs ds → ds.map (fun p => nk p.1) = us.map (·.1) → (∀ p ∈ ds, dkOk p.1 = true) → DeepE C H W us ds
  | _, _, _, .nil, .nil, _, _ => .nil
  | _, _, _, .cons (a := p) (b := q) r t, .cons rk rv u, e, h => by
    rw [List.map_cons, List.map_cons] at e
    injection e with e1 e2
    refine .cons ⟨e1, h _ List.mem_cons_self, ?_, _, r.2, rv⟩ (deep_of t u e2 fun p hp => h p (List.mem_cons_of_mem _ hp))
    have := r.1
    rw [← this]
    exact rk
theorem of_deep : ∀ {us : List (NestedKey × Addr × Value)} {ds : List (D × D)}, DeepE C H W us ds → ∃ kvs : List (V × V), Paired (fun (p : V × V) (q : NestedKey × Addr × Value) => p.1 = V.ref q.2.1 ∧ RelV p.2 q.2.2) kvs us ∧ RepKV C H W kvs ds ∧ ds.map (fun p => nk p.1) = us.map (·.1) ∧ ∀ p ∈ ds, dkOk p.1 = true
  | _, _, .nil => ⟨[], .nil, .nil, rfl, fun _ h => nomatch h⟩
  | _, _, .cons (a := q) (b := p) ⟨e, dk, rk, x, rx, rv⟩ t => by
    obtain ⟨kvs, a, b, c, d⟩ := of_deep t
    refine ⟨(V.ref q.2.1, x) :: kvs, .cons ⟨rfl, rx⟩ a, .cons rk rv b, by rw [List.map_cons, List.map_cons, c, e], fun z hz => ?_⟩
    rcases List.mem_cons.mp hz with rfl | hz
    · exact dk
    · exact d z hz
theorem FlatE.le (l : Le H W H' W') : ∀ {us : List (Key × Value)} {ds : List (D × D)}, FlatE C H W us ds → FlatE C H' W' us ds
  | _, _, .nil => .nil
  | _, _, .cons ⟨e, rk, x, rx, rv⟩ t => .cons ⟨e, rk.le l, x, rx, rv.le l⟩ (FlatE.le l t)
theorem DeepE.le (l : Le H W H' W') : ∀ {us : List (NestedKey × Addr × Value)} {ds : List (D × D)}, DeepE C H W us ds → DeepE C H' W' us ds
  | _, _, .nil => .nil
  | _, _, .cons ⟨e, d, rk, x, rx, rv⟩ t => .cons ⟨e, d, rk.le l, x, rx, rv.le l⟩ (DeepE.le l t)
/-- what was looked up -/
def RelD (C : CK) (H : Hp) (W : Wr) : Option Value → Option D → Prop
  | some u, some v => ∃ x, RelV x u ∧ Rep C H W x v
  | none, none => True
  | _, _ => False
theorem RelD.some {o : Option Value} {v : D} (h : RelD C H W o (some v)) : ∃ u x, o = some u ∧ RelV x u ∧ Rep C H W x v := by
  cases o with
  | none => exact h.elim
  | some u => obtain ⟨x, a, b⟩ := h; exact ⟨u, x, rfl, a, b⟩
theorem RelD.none {o : Option Value} (h : RelD C H W o none) : o = none := by
  cases o with
  | none => rfl
  | some u => exact h.elim
theorem RelD.isSome {o : Option Value} {o' : Option D} (h : RelD C H W o o') : o.isSome = o'.isSome := by
  cases o <;> cases o' <;> first | rfl | exact h.elim
theorem flat_look {d : D} {k : Key} (hk : fk d = some k) : ∀ {us : List (Key × Value)} {ds : List (D × D)}, FlatE C H W us ds → RelD C H W (valueAt us k) (lookD ds d)
  | _, _, .nil => trivial
  | _, _, .cons (a := q) (b := p) (l₁ := us) (l₂ := ds) ⟨e, rk, x, rx, rv⟩ t => by
    unfold valueAt lookD
    rw [List.find?_cons, List.find?_cons]
    have := fk_keyEq e hk
    rw [this]
    cases decide (q.1 = k) with
    | true => exact ⟨x, rx, rv⟩
    | false => exact flat_look hk t
theorem deep_look {d : D} : ∀ {us : List (NestedKey × Addr × Value)} {ds : List (D × D)}, DeepE C H W us ds → RelD C H W ((atKey us (nk d)).map (·.2)) (lookD ds d)
  | _, _, .nil => trivial
  | _, _, .cons (a := q) (b := p) (l₁ := us) (l₂ := ds) ⟨e, dk, rk, x, rx, rv⟩ t => by
    unfold atKey lookD
    rw [List.find?_cons, List.find?_cons]
    have : keyEq p.1 d = decide (q.1 = nk d) := by unfold keyEq; rw [e]
    rw [this]
    cases decide (q.1 = nk d) with
    | true => exact ⟨x, rx, rv⟩
    | false => exact deep_look t
theorem lookD_any (ds : List (D × D)) (k : D) : (ds.any fun p => keyEq p.1 k) = (lookD ds k).isSome := by
  unfold lookD
  rw [Option.isSome_map]
  induction ds with
  | nil => rfl
  | cons p r ih =>
    rw [List.any_cons, List.find?_cons]
    cases keyEq p.1 k with
    | true => rfl
    | false => rw [ih]; rfl
theorem any_flat {d : D} {k : Key} (hk : fk d = some k) : ∀ {us : List (Key × Value)} {ds : List (D × D)}, FlatE C H W us ds → (us.any fun kv => decide (kv.1 = k)) = (ds.any fun p => keyEq p.1 d)
  | _, _, .nil => rfl
  | _, _, .cons (a := q) (b := p) ⟨e, rk, x, rx, rv⟩ t => by rw [List.any_cons, List.any_cons, fk_keyEq e hk, any_flat hk t]
theorem map_flat {d v : D} {k : Key} {x : V} {u : Value} (hk : fk d = some k) (rx : RelV x u) (rv : Rep C H W x v) : ∀ {us : List (Key × Value)} {ds : List (D × D)}, FlatE C H W us ds →
    FlatE C H W (us.map fun kv => if kv.1 = k then (kv.1, u) else kv) (ds.map fun p => if keyEq p.1 d = true then (p.1, v) else p)
  | _, _, .nil => .nil
  | _, _, .cons (a := q) (b := p) ⟨e, rk, y, ry, rw'⟩ t => by
    rw [List.map_cons, List.map_cons]
    refine .cons ?_ (map_flat hk rx rv t)
    have := fk_keyEq e hk
    by_cases h : q.1 = k
    · rw [if_pos h, if_pos (by rw [this, h]; simp)]
      exact ⟨e, rk, x, rx, rv⟩
    · rw [if_neg h, if_neg (by rw [this]; simpa using h)]
      exact ⟨e, rk, y, ry, rw'⟩
theorem Paired.snoc {α β : Type} {F : α → β → Prop} {a : α} {b : β} (h : F a b) : ∀ {l₁ : List α} {l₂ : List β}, Paired F l₁ l₂ → Paired F (l₁ ++ [a]) (l₂ ++ [b])
  | _, _, .nil => .cons h .nil
  | _, _, .cons r t => .cons r (Paired.snoc h t)
theorem flat_put {d v : D} {k : Key} {x : V} {u : Value} (hk : fk d = some k) (rk : Rep C H W (kV k) d) (rx : RelV x u) (rv : Rep C H W x v) {us : List (Key × Value)} {ds : List (D × D)} (r : FlatE C H W us ds) : FlatE C H W (stored us k u) (putD ds d v) := by
  unfold stored putD
  rw [any_flat hk r]
  split
  · exact map_flat hk rx rv r
  · exact Paired.snoc ⟨hk, rk, x, rx, rv⟩ r
theorem any_deep {d : D} : ∀ {us : List (NestedKey × Addr × Value)} {ds : List (D × D)}, DeepE C H W us ds → (atKey us (nk d)).isSome = (ds.any fun p => keyEq p.1 d)
  | _, _, .nil => rfl
  | _, _, .cons (a := q) (b := p) (l₁ := us) (l₂ := ds) ⟨e, dk, rk, x, rx, rv⟩ t => by
    unfold atKey
    rw [List.find?_cons, List.any_cons]
    have : keyEq p.1 d = decide (q.1 = nk d) := by unfold keyEq; rw [e]
    rw [this]
    cases decide (q.1 = nk d) with
    | true => rfl
    | false => exact any_deep t
theorem map_deep {d v : D} {x : V} {u : Value} (rx : RelV x u) (rv : Rep C H W x v) : ∀ {us : List (NestedKey × Addr × Value)} {ds : List (D × D)}, DeepE C H W us ds →
    DeepE C H W (us.map (putAt (nk d) u)) (ds.map fun p => if keyEq p.1 d = true then (p.1, v) else p)
  | _, _, .nil => .nil
  | _, _, .cons (a := q) (b := p) ⟨e, dk, rk, y, ry, rw'⟩ t => by
    rw [List.map_cons, List.map_cons]
    refine .cons ?_ (map_deep rx rv t)
    have : keyEq p.1 d = decide (q.1 = nk d) := by unfold keyEq; rw [e]
    unfold putAt
    by_cases h : q.1 = nk d
    · rw [if_pos h, if_pos (by rw [this, h]; simp)]
      exact ⟨e, dk, rk, x, rx, rv⟩
    · rw [if_neg h, if_neg (by rw [this]; simpa using h)]
      exact ⟨e, dk, rk, y, ry, rw'⟩
theorem deep_put {d v : D} {a : Addr} {x : V} {u : Value} (hk : dkOk d = true) (rk : Rep C H W (.ref a) d) (rx : RelV x u) (rv : Rep C H W x v) {us : List (NestedKey × Addr × Value)} {ds : List (D × D)} (r : DeepE C H W us ds) : DeepE C H W (storedH us (nk d) a u) (putD ds d v) := by
  unfold storedH putD
  rw [any_deep r]
  split
  · exact map_deep rx rv r
  · exact Paired.snoc ⟨rfl, hk, rk, x, rx, rv⟩ r
theorem fk_not_dk {d : D} (h : fkOk d = true) : dkOk d = false := by
  cases d <;> first | rfl | cases h
/-- a dict with int and text keys -/
theorem Lay.flatE {o : Obj} {kvs : List (V × V)} {ds : List (D × D)} {a : Addr} {h : Heap} (L : Lay C o kvs ds) (r : RepKV C H W kvs ds) (hf : (ds.all fun p => fkOk p.1) = true) (ho : h.get? a = some o) : ∃ us, h.DictOf (mixKind C.P C.w) a us ∧ FlatE C H W us ds := by
  cases L with
  | flat es ep us l1 l2 l3 l4 l5 l6 l7 => exact ⟨us, ⟨o, es, ep, ho, l1, l2, l3, l4, l5⟩, flat_of l6 r l7⟩
  | deep es ep xs l1 l2 l3 l4 l5 l6 l7 =>
    cases ds with
    | cons p ds =>
      have h1 := l7 p List.mem_cons_self
      rw [List.all_cons, Bool.and_eq_true] at hf
      rw [fk_not_dk hf.1] at h1
      cases h1
    | nil =>
      have e0 : xs = [] := by
        cases xs with
        | nil => rfl
        | cons => cases l6
      subst e0
      have e1 : es = #[] := by
        have : es.toList = [] := l3
        exact Array.toList_inj.mp this
      subst e1
      exact ⟨[], ⟨o, _, ep, ho, l1, l2, fun _ he => by simp at he, Pairs.nil, List.nodup_nil⟩, .nil⟩
/-- .. with tuple keys -/
theorem Lay.deepE {o : Obj} {kvs : List (V × V)} {ds : List (D × D)} (L : Lay C o kvs ds) (r : RepKV C H W kvs ds) (hf : (ds.all fun p => dkOk p.1) = true) : ∃ es ep xs, o.ExactDict ∧ o.data = .dict es ep ∧ es.toList = xs.map (entryOfKey (nestedKind C.P C.w)) ∧ (xs.map (·.1)).Nodup ∧ DeepE C H W xs ds := by
  cases L with
  | deep es ep xs l1 l2 l3 l4 l5 l6 l7 => exact ⟨es, ep, xs, l1, l2, l3, l4, deep_of l5 r l6 l7⟩
  | flat es ep us l1 l2 l3 l4 l5 l6 l7 =>
    cases ds with
    | cons p ds =>
      cases us with
      | nil => cases l7
      | cons q us =>
        rw [List.map_cons, List.map_cons] at l7
        injection l7 with e1 e2
        rw [List.all_cons, Bool.and_eq_true] at hf
        have : fkOk p.1 = true := by unfold fkOk; rw [e1]; rfl
        rw [fk_not_dk this] at hf
        cases hf.1
    | nil =>
      have e0 : us = [] := by
        cases us with
        | nil => rfl
        | cons => cases l7
      subst e0
      have e1 : es.toList = [] := by
        cases hh : es.toList with
        | nil => rfl
        | cons a b => rw [hh] at l4; cases l4
      exact ⟨es, ep, [], l1, l2, e1, List.nodup_nil, .nil⟩
end
section
variable {X : Cx} {pins : List (Addr × Obj)} {s : Shared} {σ : L2.St} {H : Hp} {W : Wr}
mutual
theorem Rep.nested (I : Inv X pins σ H s) : ∀ {v : V} {d : D} {u : Value}, Rep X.kk H W v d → nkOk d = true → RelV v u → NestedIs s.heap (nk d) u
  | _, _, _, .n, _, r => by cases r; exact .none
  | _, _, _, .b x, _, r => by cases r; exact .bool rfl
  | _, _, _, .i x, _, r => by obtain ⟨t, rfl⟩ := r; exact .int _ _
  | _, _, _, .s z, _, r => by obtain ⟨t, rfl⟩ := r; exact .text _ _
  | _, _, u, .t h z q, e, r => by
    obtain rfl := (show u = Value.ref _ from r)
    obtain ⟨its, rv, ⟨o, ho, hc, n, hd⟩, _⟩ := I.tuple h
    exact .tup ho hc hd (Reps.nested I q e rv)
  | _, _, _, .l _ _ _ _, e, _ => nomatch e
  | _, _, _, .d _ _ _ _ _ _, e, _ => nomatch e
  | _, _, _, .p _, e, _ => nomatch e
  | _, _, _, .sc _ _, e, _ => nomatch e
theorem Reps.nested (I : Inv X pins σ H s) : ∀ {vs : List V} {ds : List D} {us : List Value}, Reps X.kk H W vs ds → nksOk ds = true → Vals vs us → NestedAll s.heap (nks ds) us
  | _, _, _, .nil, _, .nil => .nil
  | _, _, _, .cons r t, e, .cons q u => by
    have e' := Bool.and_eq_true_iff.mp (show (nkOk _ && nksOk _) = true from e)
    exact .cons (Rep.nested I r e'.1 q) (Reps.nested I t e'.2 u)
end
theorem dkOk_iff {d : D} (h : dkOk d = true) : ∃ xs, d = .t xs ∧ nkOk d = true ∧ (nk d).depth ≤ 8 := by
  cases d with
  | t xs =>
    have e := Bool.and_eq_true_iff.mp (show (nksOk xs && decide ((nk (.t xs)).depth ≤ 8)) = true from h)
    exact ⟨xs, rfl, e.1, of_decide_eq_true e.2⟩
  | _ => cases h
theorem Rep.keyIs (I : Inv X pins σ H s) {a : Addr} {d : D} (r : Rep X.kk H W (.ref a) d) (h : dkOk d = true) : (nestedKind X.prog X.w).is s.heap (nk d) a := by
  obtain ⟨xs, _, h1, h2⟩ := dkOk_iff h
  exact ⟨r.nested I h1 rfl, h2⟩
theorem deep_dict (I : Inv X pins σ H s) {a : Addr} {o : Obj} {es : Array DictEntry} {ep : Nat} {xs : List (NestedKey × Addr × Value)} {ds : List (D × D)} (ho : s.heap.get? a = some o) (h1 : o.ExactDict) (h2 : o.data = .dict es ep) (h3 : es.toList = xs.map (entryOfKey (nestedKind X.prog X.w))) (h4 : (xs.map (·.1)).Nodup) (r : DeepE X.kk H W xs ds) :
    s.heap.DictOfH (nestedKind X.prog X.w) a xs := by
  refine ⟨o, es, ep, ho, h1, h2, h3, fun x hx => ?_, h4⟩
  clear h3 h4
  induction r with
  | nil => cases hx
  | cons q t ih =>
    rcases List.mem_cons.mp hx with rfl | hx
    · obtain ⟨e, dk, rk, _⟩ := q
      rw [← e]
      exact rk.keyIs I dk
    · exact ih hx
theorem dX_get {a : Addr} {o : Obj} (I : Inv X pins σ H s) (h : H a = some (dX a o)) : s.heap.get? a = some o := by
  have q := I.hok a _ h
  exact q.1
theorem dX_ok {P : Program} {w : World} {H' : Hp} {h : Heap} {a : Addr} {o : Obj} (e : h.get? a = some o) : ObjOk P w H' h a (dX a o) := ⟨e, ⟨_, e⟩, fun h1 h2 q k => k _ q⟩
theorem FlatE.length {C : CK} {us : List (Key × Value)} {ds : List (D × D)} (r : FlatE C H W us ds) : us.length = ds.length := Paired.length r
theorem DeepE.length {C : CK} {us : List (NestedKey × Addr × Value)} {ds : List (D × D)} (r : DeepE C H W us ds) : us.length = ds.length := Paired.length r
theorem putD_le (ds : List (D × D)) (k v : D) : (putD ds k v).length ≤ ds.length + 1 := by
  unfold putD
  split
  · rw [List.length_map]; exact Nat.le_succ _
  · rw [List.length_append]; exact Nat.le_refl _
theorem nroom {A : Around} (hu : A.units + 100 < cLine) : (nestedKind X.prog X.w).room A.in1 := by show A.units + 1 + 8 < cLine; omega
end
end PD

/-! PdN: the operations of dicts; dicts walked. -/
namespace PD
open PySem PySem.Spec L2 PyProof.Rows

/-! ### a look-up at the heap's own level -/
section
variable {X : Cx} {pins : List (Addr × Obj)} {s : Shared} {σ σ' : L2.St} {H : Hp} {W : Wr} {S : Se}
def Looks2 (X : Cx) (s : Shared) (H : Hp) (W : Wr) (a : Addr) (ds : List (D × D)) (d : D) (u : Value) : Prop :=
  (∃ us k, s.heap.DictOf (mixKind X.prog X.w) a us ∧ FlatE X.kk H W us ds ∧ fk d = some k ∧ (mixKind X.prog X.w).is k u = true ∧ Rep X.kk H W (kV k) d) ∨
  ∃ xs b, u = .ref b ∧ s.heap.DictOfH (nestedKind X.prog X.w) a xs ∧ DeepE X.kk H W xs ds ∧ (nestedKind X.prog X.w).is s.heap (nk d) b ∧ Rep X.kk H W (.ref b) d ∧ dkOk d = true
theorem RepB.flatKey {v : V} {d : D} {k : Key} (G : Good X.kk H W S σ') (r : RepB X.kk H W S σ' v d) (h : fk d = some k) : v = kV k ∧ Rep X.kk H W (kV k) d := by
  cases d with
  | i x => obtain rfl := r.int G; cases h; exact ⟨rfl, .i x⟩
  | s x => obtain ⟨rfl, z⟩ := r.str G; cases h; exact ⟨rfl, .s z⟩
  | _ => cases h
theorem looks2 {a : Addr} {o : Obj} {kvs : List (V × V)} {ds : List (D × D)} {y : V} {d : D} {u : Value} (I : Inv X pins σ H s) (G : Good X.kk H W S σ') (h : H a = some (dX a o)) (L : Lay X.kk o kvs ds) (r : RepKV X.kk H W kvs ds) (rk : RepB X.kk H W S σ' y d) (ru : RelV y u) (hk : kindOk ds d = true) : Looks2 X s H W a ds d u := by
  have ho := dX_get I h
  unfold kindOk at hk
  rw [Bool.or_eq_true, Bool.and_eq_true, Bool.and_eq_true] at hk
  rcases hk with ⟨h1, h2⟩ | ⟨h1, h2⟩
  · obtain ⟨us, dd, fe⟩ := L.flatE r h2 ho
    cases hf : fk d with
    | none => unfold fkOk at h1; rw [hf] at h1; cases h1
    | some k =>
      obtain ⟨rfl, rk'⟩ := rk.flatKey G hf
      exact .inl ⟨us, k, dd, fe, hf, kV_is ru, rk'⟩
  · obtain ⟨es, ep, xs, l1, l2, l3, l4, de⟩ := L.deepE r h2
    obtain ⟨ys, rfl, _, _⟩ := dkOk_iff h1
    obtain ⟨b, vs, rfl, _, _, _, rb⟩ := rk.tup G
    exact .inr ⟨xs, b, ru, deep_dict I ho l1 l2 l3 l4 de, de, rb.keyIs I h1, rb, h1⟩
theorem Looks2.typeIs {a : Addr} {ds : List (D × D)} {d : D} {u : Value} (L : Looks2 X s H W a ds d u) : s.TypeIs (.ref a) "dict" := by
  rcases L with ⟨us, k, dd, _⟩ | ⟨xs, b, _, dd, _⟩
  · exact dd.typeIs
  · exact dd.typeIs
theorem Looks2.noDict {a : Addr} {ds : List (D × D)} {d : D} {u : Value} (L : Looks2 X s H W a ds d u) : ∀ b, Value.ref a = .ref b → ∃ ob, s.heap.get? b = some ob ∧ ob.dict = none := fun b q => by
  cases q
  rcases L with ⟨us, k, ⟨ob, _, _, h1, h2, _⟩, _⟩ | ⟨xs, b, _, ⟨ob, _, _, h1, h2, _⟩, _⟩
  · exact ⟨ob, h1, h2.2.1⟩
  · exact ⟨ob, h1, h2.2.1⟩
variable {A : Around} {E : Value → Shared → Prop} {a : Addr} {ds : List (D × D)} {d : D} {u : Value}
theorem l2_in {Q : Value → Shared → Prop} (hu : A.units + 100 < cLine) (I : Inv X pins σ H s) (L : Looks2 X s H W a ds d u) (hs : (a == sysModules) = false) (h : ∀ s', Inv X pins σ H s' → Q (.bool (lookD ds d).isSome) s') :
    wpAny (model X.prog X.w) A (compareOp .In u (.ref a)) Q E s := by
  rcases L with ⟨us, k, dd, fe, hf, hi, _⟩ | ⟨xs, b, rfl, dd, de, hi, _⟩
  · refine wpAny_in_of hi hs dd.mapOf ?_
    rw [(flat_look hf fe).isSome]
    exact h _ (I.tok _)
  · refine wpAny_in_heap (nroom (X := X) hu) hi hs dd ?_
    have q := (deep_look (d := d) de).isSome
    rw [Option.isSome_map] at q
    rw [q]
    exact h _ (I.tok _)
theorem l2_notIn {Q : Value → Shared → Prop} (hu : A.units + 100 < cLine) (I : Inv X pins σ H s) (L : Looks2 X s H W a ds d u) (hs : (a == sysModules) = false) (h : ∀ s', Inv X pins σ H s' → Q (.bool (!(lookD ds d).isSome)) s') :
    wpAny (model X.prog X.w) A (compareOp .NotIn u (.ref a)) Q E s := by
  rcases L with ⟨us, k, dd, fe, hf, hi, _⟩ | ⟨xs, b, rfl, dd, de, hi, _⟩
  · refine wpAny_notIn_of hi hs dd.mapOf ?_
    rw [(flat_look hf fe).isSome]
    exact h _ (I.tok _)
  · refine wpAny_notIn_heap (nroom (X := X) hu) hi hs dd ?_
    have q := (deep_look (d := d) de).isSome
    rw [Option.isSome_map] at q
    rw [q]
    exact h _ (I.tok _)
theorem l2_getItem {v : D} {Q : Value → Shared → Prop} (hu : A.units + 100 < cLine) (I : Inv X pins σ H s) (L : Looks2 X s H W a ds d u) (hv : lookD ds d = some v) (h : ∀ x w' s', Inv X pins σ H s' → RelV x w' → Rep X.kk H W x v → Q w' s') :
    wpAny (model X.prog X.w) A (getItem (.ref a) u) Q E s := by
  rcases L with ⟨us, k, dd, fe, hf, hi, _⟩ | ⟨xs, b, rfl, dd, de, hi, _⟩
  · have r := flat_look hf fe
    rw [hv] at r
    obtain ⟨w', x, e, rx, rv⟩ := RelD.some r
    exact wpAny_getItem_of hi dd.mapOf e (h x w' _ (I.tok _) rx rv)
  · have r := deep_look (d := d) de
    rw [hv] at r
    obtain ⟨w', x, e, rx, rv⟩ := RelD.some r
    obtain ⟨p, hp, hp2⟩ := Option.map_eq_some_iff.mp e
    refine wpAny_getItem_heap (nroom (X := X) hu) hi dd hp ?_
    rw [hp2]
    exact h x w' _ (I.tok _) rx rv
theorem l2_get1 {Q : Value → Shared → Prop} (hu : A.units + 100 < cLine) (I : Inv X pins σ H s) (L : Looks2 X s H W a ds d u) (hs : (a == sysModules) = false) (h : ∀ x w' s', Inv X pins σ H s' → RelV x w' → Rep X.kk H W x ((lookD ds d).getD .n) → Q w' s') :
    wpAny (model X.prog X.w) A (call (.builtin "dict.get") [.ref a, u]) Q E s := by
  rcases L with ⟨us, k, dd, fe, hf, hi, _⟩ | ⟨xs, b, rfl, dd, de, hi, _⟩
  · have r := flat_look hf fe
    cases hv : lookD ds d with
    | none =>
      rw [hv] at r h
      have e := RelD.none r
      refine call_meetsIn PySem.F.slot_dict_get dd.typeIs PySem.F.entry_dict_get (PySem.F.args_dict_get_2 _ _) (meets_dict_get (mixKind X.prog X.w) a hi hs) ⟨_, dd.mapOf, ?_⟩
      rw [e]
      exact h .non _ _ (I.tok _) rfl .n
    | some v =>
      rw [hv] at r h
      obtain ⟨w', x, e, rx, rv⟩ := RelD.some r
      refine call_meetsIn PySem.F.slot_dict_get dd.typeIs PySem.F.entry_dict_get (PySem.F.args_dict_get_2 _ _) (meets_dict_get (mixKind X.prog X.w) a hi hs) ⟨_, dd.mapOf, ?_⟩
      rw [e]
      exact h x _ _ (I.tok _) rx rv
  · have r := deep_look (d := d) de
    cases hv : lookD ds d with
    | none =>
      rw [hv] at r h
      have e := RelD.none r
      refine call_meetsIn PySem.F.slot_dict_get dd.typeIs PySem.F.entry_dict_get (PySem.F.args_dict_get_2 _ _) (meetsH_dict_get (nestedKind X.prog X.w) a b hs) ⟨nroom (X := X) hu, nk d, xs, hi, dd, ?_⟩
      rw [e]
      exact h .non _ _ (I.tok _) rfl .n
    | some v =>
      rw [hv] at r h
      obtain ⟨w', x, e, rx, rv⟩ := RelD.some r
      refine call_meetsIn PySem.F.slot_dict_get dd.typeIs PySem.F.entry_dict_get (PySem.F.args_dict_get_2 _ _) (meetsH_dict_get (nestedKind X.prog X.w) a b hs) ⟨nroom (X := X) hu, nk d, xs, hi, dd, ?_⟩
      rw [e]
      exact h x _ _ (I.tok _) rx rv
theorem l2_get2 {z : V} {zd : D} {r : Value} {Q : Value → Shared → Prop} (hu : A.units + 100 < cLine) (I : Inv X pins σ H s) (L : Looks2 X s H W a ds d u) (hs : (a == sysModules) = false) (rz : RelV z r) (rzd : Rep X.kk H W z zd) (h : ∀ x w' s', Inv X pins σ H s' → RelV x w' → Rep X.kk H W x ((lookD ds d).getD zd) → Q w' s') :
    wpAny (model X.prog X.w) A (call (.builtin "dict.get") [.ref a, u, r]) Q E s := by
  rcases L with ⟨us, k, dd, fe, hf, hi, _⟩ | ⟨xs, b, rfl, dd, de, hi, _⟩
  · have r := flat_look hf fe
    cases hv : lookD ds d with
    | none =>
      rw [hv] at r h
      have e := RelD.none r
      refine call_meetsIn PySem.F.slot_dict_get dd.typeIs PySem.F.entry_dict_get (PySem.F.args_dict_get_3 _ _ _) (meets_dict_get_default (mixKind X.prog X.w) a hi hs _) ⟨_, dd.mapOf, ?_⟩
      rw [e]
      exact h z _ _ (I.tok _) rz rzd
    | some v =>
      rw [hv] at r h
      obtain ⟨w', x, e, rx, rv⟩ := RelD.some r
      refine call_meetsIn PySem.F.slot_dict_get dd.typeIs PySem.F.entry_dict_get (PySem.F.args_dict_get_3 _ _ _) (meets_dict_get_default (mixKind X.prog X.w) a hi hs _) ⟨_, dd.mapOf, ?_⟩
      rw [e]
      exact h x _ _ (I.tok _) rx rv
  · have r := deep_look (d := d) de
    cases hv : lookD ds d with
    | none =>
      rw [hv] at r h
      have e := RelD.none r
      refine call_meetsIn PySem.F.slot_dict_get dd.typeIs PySem.F.entry_dict_get (PySem.F.args_dict_get_3 _ _ _) (meetsH_dict_get_default (nestedKind X.prog X.w) a b hs _) ⟨nroom (X := X) hu, nk d, xs, hi, dd, ?_⟩
      rw [e]
      exact h z _ _ (I.tok _) rz rzd
    | some v =>
      rw [hv] at r h
      obtain ⟨w', x, e, rx, rv⟩ := RelD.some r
      refine call_meetsIn PySem.F.slot_dict_get dd.typeIs PySem.F.entry_dict_get (PySem.F.args_dict_get_3 _ _ _) (meetsH_dict_get_default (nestedKind X.prog X.w) a b hs _) ⟨nroom (X := X) hu, nk d, xs, hi, dd, ?_⟩
      rw [e]
      exact h x _ _ (I.tok _) rx rv
/-- d[y] = v -/
theorem l2_set {o : Obj} {x : V} {v : D} {r : Value} {Q : Unit → Shared → Prop} (hu : A.units + 100 < cLine) (I : Inv X pins σ H s) (ha : H a = some (dX a o)) (L : Looks2 X s H W a ds d u) (hl : ds.length < sizeLine) (rx : RelV x r) (rv : Rep X.kk H W x v)
    (h : ∀ o' kvs' s', Inv X pins σ (upd H a (dX a o')) s' → Lay X.kk o' kvs' (putD ds d v) → RepKV X.kk H W kvs' (putD ds d v) → Q () s') :
    wpAny (model X.prog X.w) A (setItem (.ref a) u r) Q E s := by
  rcases L with ⟨us, k, dd, fe, hf, hi, rk⟩ | ⟨xs, b, rfl, dd, de, hi, rk, hdk⟩
  · have hz : us.length ≤ sizeLine := by rw [FlatE.length fe]; omega
    refine wpAny_setItem_pairs (hsz := hz) hi dd fun h' dd' hs => ?_
    obtain ⟨o', es, ep, ho, l1, l2, l3, l4, l5⟩ := dd'
    obtain ⟨kvs, p1, p2, p3⟩ := of_flat (flat_put hf rk rx rv fe)
    exact h o' kvs _ (d_write I (by rw [ha]; exact True.intro) hs ⟨o', ho⟩ (dX_ok ho)) (.flat es ep _ l1 l2 l3 l4 l5 p1 p3) p2
  · have hz : xs.length ≤ sizeLine := by rw [DeepE.length de]; omega
    refine wpAny_setItem_heap (hsz := hz) (nroom (X := X) hu) hi dd fun h' dd' hs => ?_
    obtain ⟨o', es, ep, ho, l1, l2, l3, l4, l5⟩ := dd'
    obtain ⟨kvs, p1, p2, p3, p4⟩ := of_deep (deep_put hdk rk rx rv de)
    exact h o' kvs _ (d_write I (by rw [ha]; exact True.intro) hs ⟨o', ho⟩ (dX_ok ho)) (.deep es ep _ l1 l2 l3 l5 p1 p3 p4) p2
end

/-! ### in, subscripts -/
def mInD : M2 := fun x y => match y with
  | .d ds => if kindOk ds x = true then some (.b (lookD ds x).isSome) else none
  | _ => mIn x y
def mNotInD : M2 := fun x y => match y with
  | .d ds => if kindOk ds x = true then some (.b (!(lookD ds x).isSome)) else none
  | _ => mNotIn x y
def mIxD : M2 := fun x y => match x with
  | .d ds => if kindOk ds y = true then lookD ds y else none
  | _ => mIx x y
section
variable {X : Cx} (hu : X.A.units + 100 < cLine)
include hu
theorem op_mInD : OpR X (compareOp .In) (rO2 X.kk mInD) := by
  intro pins s σ H x y v u Q I rx ry ⟨W, S, σ', dx, dy, d, G, r1, r2, e, q⟩
  cases dy with
  | d ds =>
    obtain ⟨z, e⟩ := ite_some' (show (if kindOk ds dx = true then some (D.b (lookD ds dx).isSome) else none) = some d from e)
    cases e
    obtain ⟨a, o, kvs, rfl, ha, L, hs, hl, rr⟩ := r2.dic G
    obtain rfl := (show u = Value.ref a from ry)
    exact l2_in hu I (looks2 I G ha L rr r1 rx z) hs fun s' I' => ⟨.bl _, H, I', rfl, q _ _ _ (Go.refl G) (.b _)⟩
  | _ => exact op_mIn hu pins s σ H x y v u Q I rx ry ⟨W, S, σ', _, _, d, G, r1, r2, e, q⟩
theorem op_mNotInD : OpR X (compareOp .NotIn) (rO2 X.kk mNotInD) := by
  intro pins s σ H x y v u Q I rx ry ⟨W, S, σ', dx, dy, d, G, r1, r2, e, q⟩
  cases dy with
  | d ds =>
    obtain ⟨z, e⟩ := ite_some' (show (if kindOk ds dx = true then some (D.b (!(lookD ds dx).isSome)) else none) = some d from e)
    cases e
    obtain ⟨a, o, kvs, rfl, ha, L, hs, hl, rr⟩ := r2.dic G
    obtain rfl := (show u = Value.ref a from ry)
    exact l2_notIn hu I (looks2 I G ha L rr r1 rx z) hs fun s' I' => ⟨.bl _, H, I', rfl, q _ _ _ (Go.refl G) (.b _)⟩
  | _ => exact op_mNotIn hu pins s σ H x y v u Q I rx ry ⟨W, S, σ', _, _, d, G, r1, r2, e, q⟩
omit hu in
theorem subT_of {prog : Program} {w : World} {A : Around} {E : Value → Shared → Prop} {s : Shared} {value slice : Expr} {T id : String} {Q : Value → Shared → Prop} {o i : Value}
    (hl : typeLookup (.type T) "__getitem__" = pure (some (.builtin id))) (hs : subscripted slice false o i = operate [o, i] (getItem o i)) (hT : s.TypeIs o T)
    (h : wpAny (model prog w) A (getItem o i) Q E s) : wpAny (model prog w) A (subscriptTail value slice o i) Q E s := by
  unfold subscriptTail
  refine wpAny_bind ?_
  rw [getitemInPython_of_ne hT.not_modules]
  refine wpAny_bind (wpAny_specialOf hT hl ?_)
  have fin : wpAny (model prog w) A (subscripted slice false o i) (fun r s₃ => wpAny (model prog w) A (letTemporaryGo value o r >>= fun _ => pure r) Q E s₃) E s := by
    rw [hs]
    exact wpAny_operating (wpAny_mono h (fun r s₃ h₃ => wpAny_bind (wpAny_letTemporaryGo (wpAny_pure h₃))) fun _ _ x => x)
  first
    | exact wpAny_pure (wpAny_bind fin)
    | exact wpAny_bind (wpAny_pure (wpAny_bind fin))
    | exact wpAny_bind fin
theorem ix_mD : IxR X (rO2 X.kk mIxD) := by
  intro value slice pins s σ H x y v u Q I rx ry ⟨W, S, σ', dx, dy, d, G, r1, r2, e, q⟩ hs
  cases dx with
  | d ds =>
    obtain ⟨z, e⟩ := ite_some' (show (if kindOk ds dy = true then lookD ds dy else none) = some d from e)
    obtain ⟨a, o, kvs, rfl, ha, L, hs', hl, rr⟩ := r1.dic G
    obtain rfl := (show v = Value.ref a from rx)
    have L2 := looks2 I G ha L rr r2 ry z
    exact subT_of PySem.F.slot_dict_getitem.lookup hs L2.typeIs (l2_getItem hu I L2 e fun x w' s' I' rx' rv => ⟨x, H, I', rx', q _ _ _ (Go.refl G) rv⟩)
  | _ => exact ix_m value slice pins s σ H x y v u Q I rx ry ⟨W, S, σ', _, _, d, G, r1, r2, e, q⟩ hs
theorem pd_ixD {a b : Expr} {fa fb : Fe} {pos : Pos} (ha : PDo X a fa) (hb : PDo X b fb) (hs : PlainIx b := by exact fun _ _ => rfl) : PDe X (.Subscript a b pos) (fOp mIxD fa fb) :=
  PE.imp (pe_ix (ix_mD hu) ha hb hs) fun _ _ _ h => tOp_of h
end

/-! ### {} -/
def fDic0 : Fe := fun S => some (.d [], S)
section
variable {X : Cx} {pos : Pos}
theorem pn_dic0 : PDn X (.Dict [] [] pos) fDic0 := ⟨fun pins s σ H Q I ⟨W, S, d, S', G, e, q⟩ => by
  cases e
  have hp := I.hok.fresh (Nat.le_refl s.heap.objs.size)
  have ho : (s.heap.push { cls := .type "dict", data := .dict #[] }).get? s.heap.objs.size = some { cls := .type "dict", data := .dict #[] } := Heap.get?_push_size _ rfl
  refine wpAny_Dict_empty ⟨.ref s.heap.objs.size, _, I.laid (a := s.heap.objs.size) (o := dX s.heap.objs.size { cls := .type "dict", data := .dict #[] }) (t' := s.toks) (fun _ _ q => Heap.get?_push_of_some _ q) (Nat.le_refl _) (dX_ok ho), rfl, ?_⟩
  refine q _ _ W (G.new0 hp) ⟨_, upd_same, [], .flat #[] 0 [] ⟨rfl, rfl, rfl⟩ rfl (fun _ he => by simp at he) Pairs.nil List.nodup_nil .nil rfl, ?_, Nat.zero_le _, .nil⟩ (Fresh.le (K := X.kk) (G.fresh hp))
  exact beq_eq_false_iff_ne.mpr (Ne.symm (Nat.ne_of_lt I.big))⟩
end

/-! ### d[k] = v -/
/-- xs[k] = e, xs a list or a dict that the slot owns -/
def sSetD (i : Nat) (f k : Fe) : Fst := fun S => (f S).bind fun p => match p.2.sl[i]? with
  | some (some (Sl.o (.d ds))) => (k p.2).bind fun q => if isOwn q.2 i = true ∧ kindOk ds q.1 = true ∧ ds.length < lim then some (.nx (q.2.put i (some (Sl.o (.d (putD ds q.1 p.1)))))) else none
  | _ => none
section
variable {X : Cx} {e k : Expr} {fe fk : Fe} {pos pos' apos cpos : Pos} {x : Str}
theorem own_dic {K : CK} {H : Hp} {W : Wr} {S : Se} {σ : L2.St} {i : Nat} {ds : List (D × D)} (G : Good K H W S σ) (h : S.sl[i]? = some (some (Sl.o (.d ds)))) : ∃ a o kvs, σ[i]? = some (some (V.ref a)) ∧ H a = some (dX a o) ∧ Lay K o kvs ds ∧ (a == sysModules) = false ∧ ds.length ≤ sizeLine ∧ RepKV K H W kvs ds := by
  obtain ⟨a, q, ⟨o, h, kvs, y, z, l, r⟩, _⟩ := G.own i _ h
  exact ⟨a, o, kvs, q, h, y, z, l, r⟩
def rSetD (X : Cx) : TSet := fun o i v H Q => ∃ W S σ a ob kvs ds dk dv, Good X.kk H W S σ ∧ o = .ref a ∧ H a = some (dX a ob) ∧ Lay X.kk ob kvs ds ∧ RepKV X.kk H W kvs ds ∧ RepB X.kk H W S σ i dk ∧ kindOk ds dk = true ∧ ds.length < sizeLine ∧ Rep X.kk H W v dv ∧
  ∀ o' kvs', Lay X.kk o' kvs' (putD ds dk dv) → RepKV X.kk H W kvs' (putD ds dk dv) → Q (upd H a (dX a o'))
theorem set_dic (hu : X.A.units + 100 < cLine) : PSet X (rSetD X) := by
  intro pins s σ H o i v ov iv u Q I ro ri rv ⟨W, S, σ', a, ob, kvs, ds, dk, dv, G, eo, ha, L, rr, rk, hk, hl, rvd, q⟩
  subst eo
  obtain rfl := (show ov = Value.ref a from ro)
  exact l2_set hu I ha (looks2 I G ha L rr rk ri hk) hl rv rvd fun o' kvs' s' I' L' r' => ⟨_, I', q o' kvs' L' r'⟩
theorem st_setD (hu : X.A.units + 100 < cLine) (i : Nat) (h : PDe X e fe) (hk : PDe X k fk) (hN : X.N[i]? = some x := by rfl) (hv : Vis X.env.scope x := by first | exact Or.inl rfl | exact Or.inr (Or.inl rfl) | exact Or.inr (Or.inr rfl)) (hd : (x == ("__debug__" : Str)) = false := by decide)
    (hcd : (x == ("__classdict__" : Str)) = false := by decide)
    (ha : ∀ v, assign (.Subscript (.Name x pos') k apos) X.env v = (do
      let ov ← holding [v] (eval (.Name x pos') X.env)
      let iv ← holding [v, ov] (eval k X.env)
      standAt apos
      holding [v, ov, iv] (setItem ov iv v)
      release [v, ov, iv] []) := by intro _; rfl)
    (h1 : swapsWithSole [.Subscript (.Name x pos') k apos] e pos.line X.env = pure false := by rfl) (h2 : swappedStores [.Subscript (.Name x pos') k apos] e X.env = pure none := by rfl) (h3 : (assignEach [.Subscript (.Name x pos') k apos] X.env).map (·.2) = [assign (.Subscript (.Name x pos') k apos) X.env] := by rfl) :
    PDst X (.Assign [.Subscript (.Name x pos') k apos] e pos) (sSetD i fe fk) :=
  PS.imp (ps_asg h (pg_sub (pe_var hN hv hd hcd) hk (set_dic hu) ha) h1 h2 h3) fun D σ H ⟨W, S, o, G, e, q⟩ => by
    obtain ⟨⟨d, S1⟩, e1, e⟩ := bind_some e
    refine ⟨W, S, d, S1, G, e1, fun v H1 W1 g r => ?_⟩
    dsimp only at e
    split at e
    case h_2 => cases e
    rename_i ds hxs
    obtain ⟨⟨dk, S2⟩, e2, e⟩ := bind_some e
    obtain ⟨⟨z, z2, z3⟩, e⟩ := ite_some' e
    cases e
    rw [lim_eq] at z3
    obtain ⟨a, o, kvs, ev, hv, _⟩ := own_dic g.G hxs
    refine ⟨_, ev, W1, S1, dk, S2, g.G, e2, fun u H2 W2 g2 r2 => ?_⟩
    have hx1 := isOwn_same z hxs g2.sl
    obtain ⟨b, o2, kvs2, eb, hb, L, hs, hl, rr⟩ := own_dic g2.G hx1
    rw [ev] at eb
    cases eb
    refine ⟨W2, S2, σ, a, o2, kvs2, ds, dk, d, g2.G, rfl, hb, L, rr, .inl r2, z2, z3, r.le g2.le, fun o' kvs' L' r' => ?_⟩
    obtain ⟨G2, l2⟩ := g2.G.upOwn (d' := .d (putD ds dk d)) (o' := dX a o') hx1 ev hb trivial fun Hn hn l => ⟨o', hn, kvs', L', hs, by have := putD_le ds dk d; omega, r'.le l⟩
    exact q _ _ _ ((g.le.trans g2.le).trans l2) (g2.fr.trans g.fr) G2
end
end PD

/-! PdO: dicts walked; names of the module; xs[::-1]; new lists by + and *. -/
namespace PD
open PySem PySem.Spec L2 PyProof.Rows

theorem hu_room {k : Nat} {A : Around} (r : Room k A) : A.units + 100 < cLine := by have := r.un; have : cLine = 9900 := rfl; omega

/-! ### dicts walked -/
abbrev EntOk : List (V × V) → List DictEntry → Prop := Paired fun p e => RelV p.1 e.key ∧ RelV p.2 e.val
theorem lay_raw {C : CK} {o : Obj} {kvs : List (V × V)} {ds : List (D × D)} (L : Lay C o kvs ds) : ∃ es ep, o.ExactDict ∧ o.data = .dict es ep ∧ EntOk kvs es.toList ∧ kvs.length = es.size := by
  cases L with
  | flat es ep us l1 l2 l3 l4 l5 l6 l7 =>
    refine ⟨es, ep, l1, l2, ?_⟩
    have key : ∀ {kvs : List (V × V)} {us : List (Key × Value)} {xs : List DictEntry}, Paired (fun (p : V × V) (q : Key × Value) => p.1 = kV q.1 ∧ RelV p.2 q.2) kvs us → Pairs (mixKind C.P C.w) xs us → EntOk kvs xs := by
      intro kvs us xs a
      induction a generalizing xs with
      | nil => intro b; cases b; exact .nil
      | cons r t ih =>
        intro b
        cases b with
        | cons h1 h2 h3 =>
          refine .cons ⟨?_, ?_⟩ (ih h3)
          · rw [r.1]; exact relV_key (show keyIs _ _ = true from h1)
          · rw [h2]; exact r.2
    have q := key l6 l4
    exact ⟨q, by rw [Paired.length q, Array.length_toList]⟩
  | deep es ep xs l1 l2 l3 l4 l5 l6 l7 =>
    refine ⟨es, ep, l1, l2, ?_⟩
    have key : ∀ {kvs : List (V × V)} {xs : List (NestedKey × Addr × Value)}, Paired (fun (p : V × V) (q : NestedKey × Addr × Value) => p.1 = V.ref q.2.1 ∧ RelV p.2 q.2.2) kvs xs → EntOk kvs (xs.map (entryOfKey (nestedKind C.P C.w))) := by
      intro kvs xs a
      induction a with
      | nil => exact .nil
      | cons r t ih => exact .cons ⟨by rw [r.1]; rfl, r.2⟩ ih
    have q := key l5
    rw [← l3] at q
    exact ⟨q, by rw [Paired.length q, Array.length_toList]⟩
theorem ent_get {kvs : List (V × V)} {xs : List DictEntry} (h : EntOk kvs xs) : ∀ {i : Nat} {p : V × V}, kvs[i]? = some p → ∃ e, xs[i]? = some e ∧ RelV p.1 e.key ∧ RelV p.2 e.val := by
  induction h with
  | nil => intro i p e; simp at e
  | cons r t ih =>
    intro i p e
    cases i with
    | zero => simp at e; subst e; exact ⟨_, rfl, r⟩
    | succ i => exact ih (by simpa using e)
/-- the keys, the values, the pairs of the dict at d -/
def Jk (d : Addr) (o : Obj) (kvs : List (V × V)) : It :=
  ⟨fun i H => H d = some (dX d o) ∧ i < kvs.length, fun i H x H' => H' = H ∧ ∃ p, kvs[i]? = some p ∧ x = p.1, fun i H => H d = some (dX d o) ∧ kvs.length ≤ i⟩
def Jv (d : Addr) (o : Obj) (kvs : List (V × V)) : It :=
  ⟨fun i H => H d = some (dX d o) ∧ i < kvs.length, fun i H x H' => H' = H ∧ ∃ p, kvs[i]? = some p ∧ x = p.2, fun i H => H d = some (dX d o) ∧ kvs.length ≤ i⟩
def Ji (d : Addr) (o : Obj) (kvs : List (V × V)) : It :=
  ⟨fun i H => H d = some (dX d o) ∧ i < kvs.length, fun i H x H' => ∃ T p, kvs[i]? = some p ∧ x = .ref T ∧ H T = none ∧ H' = upd H T (.tup [p.1, p.2]), fun i H => H d = some (dX d o) ∧ kvs.length ≤ i⟩
section
variable {P : Program} {w : World} {K : PySem.W.Frag} {tg : Expr} {d : Addr} {o : Obj} {es : Array DictEntry} {ep : Nat} {kvs : List (V × V)}
theorem turn_k (it : Addr) (hx : o.ExactDict) (hod : o.data = .dict es ep) (he : EntOk kvs es.toList) (hl : kvs.length = es.size) : Turn P w K tg (Jk d o kvs) [it] it (fun i h => h.IsKeyIter it d i es.size ep) where
  mem := by simp
  obj := fun i h st b hb => by
    have e : b = it := by simpa using hb
    subst e
    obtain ⟨oi, e, c, dd⟩ := st
    exact ⟨oi, e, fun v z => by rw [dd] at z; cases z⟩
  keep := fun i h h' st k => st.at fun oi e => k it (by simp) oi e
  item := by
    intro X hP hw hK hc i pins s σ H E I hf st hg
    subst hP hw hK
    obtain ⟨hd, hi⟩ := hg
    obtain ⟨f0, f1, f2, f3, f4, f5⟩ := hf it (by simp)
    have ho := dX_get I hd
    obtain ⟨p, hp⟩ : ∃ p, kvs[i]? = some p := ⟨kvs[i], List.getElem?_eq_getElem hi⟩
    obtain ⟨e, he1, he2, he3⟩ := ent_get he hp
    have hi2 : i < es.size := by omega
    have he4 : es[i] = e := by
      rw [Array.getElem?_toList, Array.getElem?_eq_getElem hi2] at he1
      exact Option.some.inj he1
    refine wpAny_pyNext_keys_item_raw st ⟨o, ho, hx, hod⟩ hi2 fun h' st' sb => ?_
    have I1 : Inv X pins σ H { s with heap := h' } := I.turned (t' := s.toks) (fun b ob hb e => (sb.2 b hb).trans e) f0 f1 f3 f4 f5
    obtain ⟨oi, e, c, dd⟩ := id st'
    exact ⟨_, rfl, go_of (s := { s with heap := h' }) e c dd (by decide) ⟨p.1, H, I1, by rw [he4]; exact he2, ⟨rfl, p, hp, rfl⟩, st', fun b hb => (hf b hb).1⟩⟩
  done := by
    intro X hP hw hK hc i pins s σ H E I hf st hg
    subst hP hw hK
    obtain ⟨hd, hi⟩ := hg
    obtain ⟨f0, f1, f2, f3, f4, f5⟩ := hf it (by simp)
    have ho := dX_get I hd
    exact wpAny_pyNext_keys_end_raw (I.ok.hd hc) st ⟨o, ho, hx, hod⟩ (by omega) fun h' eb => ⟨rfl, I.turned (t' := s.toks) (fun b ob hb e => eb b ob hb e) f0 f1 f3 f4 f5⟩
  self := fun A i s Q E st h => by
    refine wpAny_pyIter_slot st.typeIs F.slot_dict_keyiterator_iter (wpAny_call_entry F.slot_dict_keyiterator_iter st.typeIs F.entry_dict_keyiterator_iter ?_ (F.args_dict_keyiterator_iter_1 _))
    show wpAny _ _ (ret (.ref it)) _ _ s
    exact wpAny_pure ⟨_, rfl, "dict_keyiterator", _, st.typeIs, F.slot_dict_keyiterator_next.lookup, h⟩
theorem turn_v (it : Addr) (hx : o.ExactDict) (hod : o.data = .dict es ep) (he : EntOk kvs es.toList) (hl : kvs.length = es.size) : Turn P w K tg (Jv d o kvs) [it] it (fun i h => h.IsValIter it d i es.size ep) where
  mem := by simp
  obj := fun i h st b hb => by
    have e : b = it := by simpa using hb
    subst e
    obtain ⟨oi, e, c, dd⟩ := st
    exact ⟨oi, e, fun v z => by rw [dd] at z; cases z⟩
  keep := fun i h h' st k => st.at fun oi e => k it (by simp) oi e
  item := by
    intro X hP hw hK hc i pins s σ H E I hf st hg
    subst hP hw hK
    obtain ⟨hd, hi⟩ := hg
    obtain ⟨f0, f1, f2, f3, f4, f5⟩ := hf it (by simp)
    have ho := dX_get I hd
    obtain ⟨p, hp⟩ : ∃ p, kvs[i]? = some p := ⟨kvs[i], List.getElem?_eq_getElem hi⟩
    obtain ⟨e, he1, he2, he3⟩ := ent_get he hp
    have hi2 : i < es.size := by omega
    have he4 : es[i] = e := by
      rw [Array.getElem?_toList, Array.getElem?_eq_getElem hi2] at he1
      exact Option.some.inj he1
    refine wpAny_pyNext_values_item_raw st ⟨o, ho, hx, hod⟩ hi2 fun h' st' sb => ?_
    have I1 : Inv X pins σ H { s with heap := h' } := I.turned (t' := s.toks) (fun b ob hb e => (sb.2 b hb).trans e) f0 f1 f3 f4 f5
    obtain ⟨oi, e, c, dd⟩ := id st'
    exact ⟨_, rfl, go_of (s := { s with heap := h' }) e c dd (by decide) ⟨p.2, H, I1, by rw [he4]; exact he3, ⟨rfl, p, hp, rfl⟩, st', fun b hb => (hf b hb).1⟩⟩
  done := by
    intro X hP hw hK hc i pins s σ H E I hf st hg
    subst hP hw hK
    obtain ⟨hd, hi⟩ := hg
    obtain ⟨f0, f1, f2, f3, f4, f5⟩ := hf it (by simp)
    have ho := dX_get I hd
    exact wpAny_pyNext_values_end_raw (I.ok.hd hc) st ⟨o, ho, hx, hod⟩ (by omega) fun h' eb => ⟨rfl, I.turned (t' := s.toks) (fun b ob hb e => eb b ob hb e) f0 f1 f3 f4 f5⟩
  self := fun A i s Q E st h => wpAny_pyIter_valiter st h
theorem turn_i {elts : List Expr} {kk : Nat} {tpos : Pos} (it : Addr) (hx : o.ExactDict) (hod : o.data = .dict es ep) (he : EntOk kvs es.toList) (hl : kvs.length = es.size) :
    Turn P w K (.Tuple elts kk tpos) (Ji d o kvs) [it] it (fun i h => ∃ ok ov, IsItemIter h it d i es.size ep ok ov) where
  mem := by simp
  obj := fun i h st b hb => by
    have e : b = it := by simpa using hb
    subst e
    obtain ⟨ok, ov, e⟩ := st
    exact ⟨_, e, fun v z => nomatch z⟩
  keep := fun i h h' st k => let ⟨ok, ov, e⟩ := st; ⟨ok, ov, k it (by simp) _ e⟩
  item := by
    intro X hP hw hK hc i pins s σ H E I hf st hg
    subst hP hw hK
    obtain ⟨hd, hi⟩ := hg
    have ho := dX_get I hd
    obtain ⟨p, hp⟩ : ∃ p, kvs[i]? = some p := ⟨kvs[i], List.getElem?_eq_getElem hi⟩
    obtain ⟨e, he1, he2, he3⟩ := ent_get he hp
    have hi2 : i < es.size := by omega
    have he4 : es[i] = e := by
      rw [Array.getElem?_toList, Array.getElem?_eq_getElem hi2] at he1
      exact Option.some.inj he1
    obtain ⟨ok, ov, hit⟩ := st
    have hlt : it < s.heap.objs.size := Heap.lt_size hit
    refine wpAny_pyNext_items_item_raw hit ⟨o, ho, hx, hod⟩ hi2 fun h' hout hT hz hk => ?_
    refine ⟨_, rfl, wpAny_letOwnedTupleGo_items (s := { s with heap := h' }) hout fun h'' he' sb => ?_⟩
    have hT2 : h''.get? s.heap.objs.size = some { cls := .type "tuple", data := .seq #[es[i].key, es[i].val] } := (sb.2 _ (Nat.ne_of_gt hlt)).trans hT
    have new : ObjOk X.prog X.w (upd H s.heap.objs.size (.tup [p.1, p.2])) h'' s.heap.objs.size (.tup [p.1, p.2]) :=
      ⟨by show 2 ≤ sizeLine; decide, [es[i].key, es[i].val], .cons (by rw [he4]; exact he2) (.cons (by rw [he4]; exact he3) .nil), ⟨_, hT2, rfl, _, rfl⟩⟩
    have I1 : Inv X pins σ (upd H s.heap.objs.size (.tup [p.1, p.2])) { s with heap := h'' } :=
      I.turnedNew (t' := s.toks) (ch := [it]) (fun b ob hb e => (sb.2 b (by simpa using hb)).trans (hk b ob (by simpa using hb) e)) hf (Nat.le_refl _) new
    refine ⟨.ref s.heap.objs.size, _, I1, rfl, ⟨_, p, hp, rfl, I.hok.fresh (Nat.le_refl _), rfl⟩, ⟨_, _, he'⟩, fun b hb => ?_⟩
    have e : b = it := by simpa using hb
    rw [e, upd_ne (Nat.ne_of_lt hlt)]
    exact (hf it (by simp)).1
  done := by
    intro X hP hw hK hc i pins s σ H E I hf st hg
    subst hP hw hK
    obtain ⟨hd, hi⟩ := hg
    obtain ⟨f0, f1, f2, f3, f4, f5⟩ := hf it (by simp)
    have ho := dX_get I hd
    obtain ⟨ok, ov, hit⟩ := st
    exact wpAny_pyNext_items_end_raw (I.ok.hd hc) hit ⟨o, ho, hx, hod⟩ (by omega) fun h' eb => ⟨rfl, I.turned (t' := s.toks) (fun b ob hb e => eb b ob hb e) f0 f1 f3 f4 f5⟩
  self := fun A i s Q E st h => let ⟨_, _, e⟩ := st; PySem.W.kcp_self e h
end
theorem RepKV.get {C : CK} {H : Hp} {W : Wr} : ∀ {kvs : List (V × V)} {ds : List (D × D)} {i : Nat} {p : V × V}, RepKV C H W kvs ds → kvs[i]? = some p → ∃ q, ds[i]? = some q ∧ Rep C H W p.1 q.1 ∧ Rep C H W p.2 q.2
  | _, _, _, _, .nil, e => by simp at e
  | _, _, 0, _, .cons a b _, e => by simp at e; subst e; exact ⟨_, rfl, a, b⟩
  | _, _, i + 1, p, .cons _ _ t, e => RepKV.get (i := i) t (by simpa using e)
theorem RepKV.length {C : CK} {H : Hp} {W : Wr} : ∀ {kvs : List (V × V)} {ds : List (D × D)}, RepKV C H W kvs ds → kvs.length = ds.length
  | _, _, .nil => rfl
  | _, _, .cons _ _ t => by rw [List.length_cons, List.length_cons, RepKV.length t]
section
variable {C : CK} {bd : Bool} {H0 : Hp} {W0 : Wr} {E : Hp → Wr → Prop} {d : Addr} {o : Obj} {kvs : List (V × V)} {ds : List (D × D)}
theorem jk_ok (fz : W0.Fz d) (ha : H0 d = some (dX d o)) (r : RepKV C H0 W0 kvs ds) (z : ds.length ≤ sizeLine) : ItOk C bd (Jk d o kvs) (ds.map (·.1)) H0 W0 E := by
  refine ⟨fun _ => by rw [List.length_map]; exact z, fun i x H W l _ hd => ?_, fun H W l _ => ?_⟩
  · rw [List.getElem?_map] at hd
    obtain ⟨q, hq, rfl⟩ := map_some hd
    have hi := (List.getElem?_eq_some_iff.mp hq).1
    refine ⟨⟨l.lst _ _ fz ha, by rw [r.length]; exact hi⟩, fun y H' ⟨e, p, hp, ey⟩ => ?_⟩
    subst e ey
    obtain ⟨q', hq', r1, r2⟩ := r.get hp
    rw [hq] at hq'
    cases hq'
    exact ⟨W, .refl _ _, r1.le l⟩
  · exact ⟨l.lst _ _ fz ha, by rw [List.length_map, r.length]; exact Nat.le_refl _⟩
theorem jv_ok (fz : W0.Fz d) (ha : H0 d = some (dX d o)) (r : RepKV C H0 W0 kvs ds) (z : ds.length ≤ sizeLine) : ItOk C bd (Jv d o kvs) (ds.map (·.2)) H0 W0 E := by
  refine ⟨fun _ => by rw [List.length_map]; exact z, fun i x H W l _ hd => ?_, fun H W l _ => ?_⟩
  · rw [List.getElem?_map] at hd
    obtain ⟨q, hq, rfl⟩ := map_some hd
    have hi := (List.getElem?_eq_some_iff.mp hq).1
    refine ⟨⟨l.lst _ _ fz ha, by rw [r.length]; exact hi⟩, fun y H' ⟨e, p, hp, ey⟩ => ?_⟩
    subst e ey
    obtain ⟨q', hq', r1, r2⟩ := r.get hp
    rw [hq] at hq'
    cases hq'
    exact ⟨W, .refl _ _, r2.le l⟩
  · exact ⟨l.lst _ _ fz ha, by rw [List.length_map, r.length]; exact Nat.le_refl _⟩
theorem ji_ok (fz : W0.Fz d) (ha : H0 d = some (dX d o)) (r : RepKV C H0 W0 kvs ds) (z : ds.length ≤ sizeLine) : ItOk C bd (Ji d o kvs) (ds.map fun p => .t [p.1, p.2]) H0 W0 E := by
  refine ⟨fun _ => by rw [List.length_map]; exact z, fun i x H W l _ hd => ?_, fun H W l _ => ?_⟩
  · rw [List.getElem?_map] at hd
    obtain ⟨q, hq, rfl⟩ := map_some hd
    have hi := (List.getElem?_eq_some_iff.mp hq).1
    refine ⟨⟨l.lst _ _ fz ha, by rw [r.length]; exact hi⟩, fun y H' ⟨T, p, hp, ey, hT, e⟩ => ?_⟩
    subst e ey
    obtain ⟨q', hq', r1, r2⟩ := r.get hp
    rw [hq] at hq'
    cases hq'
    exact ⟨_, .new T _ hT, rep_pair hT (r1.le l) (r2.le l)⟩
  · exact ⟨l.lst _ _ fz ha, by rw [List.length_map, r.length]; exact Nat.le_refl _⟩
end
def fSeqD (f : Fe) : Fs := fun S => (f S).bind fun p => match p.1 with
  | .d ds => some (ds.map (·.1), p.2)
  | .l xs => some (xs, p.2)
  | .t xs => some (xs, p.2)
  | .s x => some (x.cps.toList.map fun c => .s ⟨#[c]⟩, p.2)
  | _ => none
def fItems (f : Fe) : Fs := fun S => (f S).bind fun p => match p.1 with
  | .d ds => some (ds.map (fun p => .t [p.1, p.2]), p.2)
  | _ => none
def fVals (f : Fe) : Fs := fun S => (f S).bind fun p => match p.1 with
  | .d ds => some (ds.map (·.2), p.2)
  | _ => none
section
variable {X : Cx} {tg e : Expr} {bd : Bool} {f : Fe} {apos cpos : Pos}
theorem pdi_seqD (h : PDe X e f) : PDi X tg e bd (fSeqD f) := by
  refine ⟨fun pins s σ H R I ⟨W, S, ds, S', G, e, q⟩ => ?_⟩
  obtain ⟨⟨x, S1⟩, e1, e⟩ := bind_some e
  cases x with
  | d xs =>
    cases e
    refine thn (h.run pins s σ H (fun v H1 => ∃ W1, Go X.kk σ H W S H1 W1 S1 ∧ Rep X.kk H1 W1 v (.d xs)) I ⟨W, S, _, _, G, e1, fun v H1 W1 g r => ⟨W1, g, r⟩⟩) fun u s1 ⟨x, H1, I1, rx, W1, g, r⟩ => ?_
    cases r with
    | @d a o kvs _ fz ha L hs hl rr =>
      obtain rfl : u = Value.ref a := rx
      obtain ⟨es, ep, hx, hod, he, hlen⟩ := lay_raw L
      have ho := dX_get I1 ha
      exact iter_keys hs ho hx hod (pi_one (tk := s1.toks) I1 _ (turn_k _ hx hod he hlen) ⟨_, Heap.get?_push_size _ rfl, rfl, rfl⟩ (q _ _ W1 g (jk_ok fz ha rr hl)))
  | l xs => exact (pdi_seq h).run pins s σ H R I ⟨W, S, ds, S', G, by unfold fSeq; rw [e1]; exact e, q⟩
  | t xs => exact (pdi_seq h).run pins s σ H R I ⟨W, S, ds, S', G, by unfold fSeq; rw [e1]; exact e, q⟩
  | s xs => exact (pdi_seq h).run pins s σ H R I ⟨W, S, ds, S', G, by unfold fSeq; rw [e1]; exact e, q⟩
  | _ => cases e
theorem pdi_items {elts : List Expr} {kk : Nat} {tpos : Pos} (h : PDe X e f) (hbase : attributeBase e "items" X.env (eval e X.env) = eval e X.env := by rfl) (hline : (apos.endLine == cpos.line) = true := by rfl) :
    PDi X (.Tuple elts kk tpos) (.Call (.Attribute e "items" apos) [] [] cpos) bd (fItems f) := by
  refine ⟨fun pins s σ H R I ⟨W, S, ds, S', G, e, q⟩ => ?_⟩
  obtain ⟨⟨x, S1⟩, e1, e⟩ := bind_some e
  cases x with
  | d xs =>
    cases e
    refine wpAny_Call_method (T := "dict") (id := "dict.items") hbase rfl hline F.plainAttrs_dict F.slot_dict_items F.type_dict_items (thn (h.run pins s σ H (fun v H1 => ∃ W1, Go X.kk σ H W S H1 W1 S1 ∧ Rep X.kk H1 W1 v (.d xs)) I ⟨W, S, _, _, G, e1, fun v H1 W1 g r => ⟨W1, g, r⟩⟩) fun u s1 ⟨x, H1, I1, rx, W1, g, r⟩ => ?_)
    cases r with
    | @d a o kvs _ fz ha L hs hl rr =>
      obtain rfl : u = Value.ref a := rx
      obtain ⟨es, ep, hx, hod, he, hlen⟩ := lay_raw L
      have ho := dX_get I1 ha
      have hm : s1.heap.DictRaw a es ep := ⟨o, ho, hx, hod⟩
      refine ⟨hm.typeIs, fun b q => by cases q; exact ⟨o, ho, hx.2.1⟩, ?_⟩
      have I2 : Inv X pins σ H1 { s1 with heap := s1.heap.push { cls := .type "dict_items", data := .fields #[.ref a] } } := I1.kept (t' := s1.toks) fun b ob q => Heap.get?_push_of_some _ q
      have fin : wpAny (model X.prog X.w) X.A (pyIter (.ref s1.heap.objs.size)) (PIE X pins σ (.Tuple elts kk tpos) R) X.xe { s1 with heap := s1.heap.push { cls := .type "dict_items", data := .fields #[.ref a] } } := by
        refine wpAny_pyIter_items_raw (d := a) ⟨_, Heap.get?_push_size _ rfl, rfl, rfl⟩ (hm.at fun o e => Heap.get?_push_of_some _ e) (pi_one (tk := s1.toks) I2 _ (turn_i _ hx hod he hlen) ⟨.none, .none, ?_⟩ (q _ _ W1 g (ji_ok fz ha rr hl)))
        exact Heap.get?_push_size _ rfl
      show wpAny _ _ (callWith cpos (.builtin "dict.items") [.ref a] [] []) _ X.xe s1
      exact method_meetsIn F.slot_dict_items F.entry_dict_items rfl (PySem.evalArgs_none ⟨rfl, hm.typeIs, F.args_dict_items_1 _, _, meets_dict_items_raw a hs, ⟨es, ep, hm⟩, fin⟩)
  | _ => cases e
theorem pdi_vals (h : PDe X e f) (hbase : attributeBase e "values" X.env (eval e X.env) = eval e X.env := by rfl) (hline : (apos.endLine == cpos.line) = true := by rfl) :
    PDi X tg (.Call (.Attribute e "values" apos) [] [] cpos) bd (fVals f) := by
  refine ⟨fun pins s σ H R I ⟨W, S, ds, S', G, e, q⟩ => ?_⟩
  obtain ⟨⟨x, S1⟩, e1, e⟩ := bind_some e
  cases x with
  | d xs =>
    cases e
    refine wpAny_Call_method (T := "dict") (id := "dict.values") hbase rfl hline F.plainAttrs_dict F.slot_dict_values F.type_dict_values (thn (h.run pins s σ H (fun v H1 => ∃ W1, Go X.kk σ H W S H1 W1 S1 ∧ Rep X.kk H1 W1 v (.d xs)) I ⟨W, S, _, _, G, e1, fun v H1 W1 g r => ⟨W1, g, r⟩⟩) fun u s1 ⟨x, H1, I1, rx, W1, g, r⟩ => ?_)
    cases r with
    | @d a o kvs _ fz ha L hs hl rr =>
      obtain rfl : u = Value.ref a := rx
      obtain ⟨es, ep, hx, hod, he, hlen⟩ := lay_raw L
      have ho := dX_get I1 ha
      have hm : s1.heap.DictRaw a es ep := ⟨o, ho, hx, hod⟩
      refine ⟨hm.typeIs, fun b q => by cases q; exact ⟨o, ho, hx.2.1⟩, ?_⟩
      have I2 : Inv X pins σ H1 { s1 with heap := s1.heap.push { cls := .type "dict_values", data := .fields #[.ref a] } } := I1.kept (t' := s1.toks) fun b ob q => Heap.get?_push_of_some _ q
      have fin : wpAny (model X.prog X.w) X.A (pyIter (.ref s1.heap.objs.size)) (PIE X pins σ tg R) X.xe { s1 with heap := s1.heap.push { cls := .type "dict_values", data := .fields #[.ref a] } } := by
        refine wpAny_pyIter_values_raw (d := a) ⟨_, Heap.get?_push_size _ rfl, rfl, rfl⟩ (hm.at fun o e => Heap.get?_push_of_some _ e) (pi_one (tk := s1.toks) I2 _ (turn_v _ hx hod he hlen) ?_ (q _ _ W1 g (jv_ok fz ha rr hl)))
        exact ⟨_, Heap.get?_push_size _ rfl, rfl, rfl⟩
      show wpAny _ _ (callWith cpos (.builtin "dict.values") [.ref a] [] []) _ X.xe s1
      exact method_meetsIn F.slot_dict_values F.entry_dict_values rfl (PySem.evalArgs_none ⟨rfl, hm.typeIs, F.args_dict_values_1 _, _, meets_dict_values_raw a hs, ⟨es, ep, hm⟩, fin⟩)
  | _ => cases e
end
/-- a comprehension over a list that a slot owns -/
def fSeqO (f : Fe) : Fs := fun S => (f S).bind fun p => match p.1 with
  | .l xs => some (xs, p.2)
  | _ => none
theorem pdi_seqO {X : Cx} {tg e : Expr} {f : Fe} (h : PDo X e f) : PDi X tg e true (fSeqO f) := by
  refine ⟨fun pins s σ H R I ⟨W, S, ds, S', G, e, q⟩ => ?_⟩
  obtain ⟨⟨x, S1⟩, e1, e⟩ := bind_some e
  cases x with
  | l xs =>
    cases e
    refine (pi_list h).run pins s σ H R I ⟨W, S, _, _, G, e1, fun v H1 W1 g1 r1 => ?_⟩
    obtain ⟨a, vs, rfl, hv, z, r⟩ := r1.lst g1.G
    refine ⟨_, rfl, ⟨_, SqL.at hv⟩, q _ _ W1 g1 ⟨fun _ => by rw [← r.length]; exact z, fun i d H2 W2 l E hd => ?_, fun H2 W2 l E => ?_⟩⟩
    · obtain ⟨Si, Gi, sl⟩ := E rfl
      obtain ⟨a', vs', ea, hv2, z2, rr⟩ := (r1.go l sl Gi).lst Gi
      cases ea
      obtain ⟨y, hy, ry⟩ := rr.get hd
      refine ⟨⟨_, _, SqL.at hv2, hy⟩, fun x' H' ⟨e', q'⟩ => ?_⟩
      subst e'
      have := q' _ (SqL.at hv2)
      rw [hy] at this
      cases this
      exact ⟨W2, .refl _ _, ry⟩
    · obtain ⟨Si, Gi, sl⟩ := E rfl
      obtain ⟨a', vs', ea, hv2, z2, rr⟩ := (r1.go l sl Gi).lst Gi
      cases ea
      exact ⟨_, SqL.at hv2, by rw [rr.length]; exact Nat.le_refl _⟩
  | _ => cases e
end PD

/-! PdP: promises of nothing; names of the module; xs[::-1]; new lists by + and *; len and truth of dicts; d.get. -/
namespace PD
open PySem PySem.Spec L2 PyProof.Rows

theorem fn_none {P : Program} {w : World} {K : PySem.W.Frag} {mg : Str → Option Value} {base : Heap} {k n : Nat} {f : Addr} {fd : FuncData} {ps : List Str} : FnOk P w K mg base CX0 k f fd ps (spD n ⟨K, P, w⟩ fun _ _ => none) :=
  ⟨fun vs H Q E ⟨_, _, _, _, _, _, _, _, e, _⟩ => (nomatch e), fun A outer s H args us vs Q E _ _ _ _ ⟨_, _, _, _, _, _, _, _, e, _⟩ => (nomatch e)⟩
section
variable {X : Cx} {x : Str} {pos : Pos}
theorem pd_gl {v : Str} (hm : ∃ u, X.mg x = some u ∧ RelV (.str v) u) (hl : v.length ≤ sizeLine) (hg : Gl X x := by rfl) (hd : (x == ("__debug__" : Str)) = false := by decide) : PDe X (.Name x pos) (fC (.s v)) := by
  obtain ⟨u, hm, r⟩ := hm
  exact pd_c (pe_glob hg hm r hd) fun _ _ => .s hl
end
def mRev : M1
  | .l xs => some (.l xs.reverse)
  | _ => none
section
variable {X : Cx} {e a b : Expr} {f fa fb : Fe} {k : Nat} {p1 p2 p3 pos : Pos}
theorem pd_rev (h : PDo X e f) : PDe X (.Subscript e (.Slice none none (some (.UnaryOp .USub (.Constant (.int 1) k p1) p2)) p3) pos) (fUn mRev f) :=
  PE.imp (pe_revL h) fun σ H Q ⟨W, S, d, S', G, e, q⟩ => by
    obtain ⟨⟨x, S1⟩, e1, e⟩ := bind_some e
    obtain ⟨z, e2, e⟩ := map_some e
    cases e
    refine ⟨W, S, x, S1, G, e1, fun v H1 W1 g r => ?_⟩
    cases x with
    | l xs =>
      cases e2
      obtain ⟨a, vs, rfl, h1, z, rr⟩ := r.lst g.G
      exact ⟨a, vs, rfl, SqL.at h1, fun p hp => q _ _ _ (g.trans (g.G.new hp)) (Rep.new_lst hp (by rw [List.length_reverse]; exact z) rr.reverse)⟩
    | _ => cases e2
def rNO2 (K : CK) (m : M2) : R2 := fun x y H Q => ∃ W S σ dx dy d, Good K H W S σ ∧ RepB K H W S σ x dx ∧ RepB K H W S σ y dy ∧ m dx dy = some d ∧
  ∀ a H' W', Go K σ H W S H' W' S → OwnAt K H' W' a d → Fresh H' W' S σ a → Q (.ref a) H'
theorem pn_op {op : Operator} {m : M2} (ho : OpR X (binaryOp op) (rNO2 X.kk m)) (ha : PDo X a fa) (hb : PDo X b fb) : PDn X (.BinOp a op b pos) (fOp m fa fb) :=
  PE.imp (pe_op ho ha hb) fun σ H Q ⟨W, S, d, S', G, e, q⟩ => by
    obtain ⟨⟨x, S1⟩, e1, e⟩ := bind_some e
    obtain ⟨⟨y, S2⟩, e2, e⟩ := bind_some e
    obtain ⟨z, e3, e⟩ := map_some e
    cases e
    refine ⟨W, S, x, S1, G, e1, fun v H1 W1 g1 r1 => ⟨W1, S1, y, S2, g1.G, e2, fun u H2 W2 g2 r2 => ⟨W2, S2, σ, x, y, d, g2.G, r1.go g2.le g2.sl g2.G, r2, e3, fun w H3 W3 g3 ow fr => ?_⟩⟩⟩
    exact q w H3 W3 ((g1.trans g2).trans g3) ow fr
def nAdd : M2
  | .l a, .l b => if a.length + b.length ≤ lim then some (.l (a ++ b)) else none
  | _, _ => none
def nMul : M2
  | .l a, .i k => if a.length ≤ 1000 ∧ -1000 ≤ k ∧ k ≤ 1000 then some (.l (rep k a)) else none
  | _, _ => none
theorem on_mAdd : OpR X (binaryOp .Add) (rNO2 X.kk nAdd) := by
  intro pins s σ H x y v u Q I rx ry ⟨W, S, σ', dx, dy, d, G, r1, r2, e, q⟩
  unfold nAdd at e
  split at e
  · rename_i a b
    obtain ⟨p1, vs, rfl, h1, z1, q1⟩ := r1.lst G
    obtain ⟨p2, us, rfl, h2, z2, q2⟩ := r2.lst G
    obtain ⟨z, e⟩ := ite_some' e
    cases e
    rw [lim_eq, ← q1.length, ← q2.length] at z
    refine op_cat pins s σ H _ _ v u Q I rx ry ⟨_, _, _, _, rfl, rfl, h1, h2, z, fun p hp => ?_⟩
    exact q _ _ _ (G.new0 hp) ⟨_, upd_same, by rw [List.length_append]; exact z, (Reps.append q1 q2).le (Le.new0 hp)⟩ (Fresh.le (K := X.kk) (G.fresh hp))
  · cases e
theorem on_mMul : OpR X (binaryOp .Mult) (rNO2 X.kk nMul) := by
  intro pins s σ H x y v u Q I rx ry ⟨W, S, σ', dx, dy, d, G, r1, r2, e, q⟩
  unfold nMul at e
  split at e
  · obtain ⟨p1, vs, rfl, h1, z1, q1⟩ := r1.lst G
    obtain rfl := r2.int G
    obtain ⟨⟨z, k1, k2⟩, e⟩ := ite_some' e
    cases e
    rw [← q1.length] at z
    have a2 : vs.length * Int.toNat ‹_› ≤ sizeLine := by
      rw [sizeLine_eq]
      have a1 : vs.length * Int.toNat ‹_› ≤ 1000 * 1000 := Nat.mul_le_mul z (by omega)
      omega
    refine op_rep pins s σ H _ _ v u Q I rx ry ⟨_, _, _, rfl, rfl, h1, by omega, by omega, a2, fun p hp => ?_⟩
    refine q _ _ _ (G.new0 hp) ⟨_, upd_same, ?_, (q1.rep _).le (Le.new0 hp)⟩ (Fresh.le (K := X.kk) (G.fresh hp))
    rw [PyProof.Rows.lm_len_rep_flat, Nat.mul_comm]
    exact a2
  · cases e
end

/-! ### {k: v, ..} -/
abbrev Fps := Se → Option (List (D × D) × Se)
def tPd (K : CK) (f : Fps) : L2.St → Hp → (List (V × V) → Hp → Prop) → Prop := fun σ H Q => ∃ W S d S', Good K H W S σ ∧ f S = some (d, S') ∧ ∀ vs H' W', Go K σ H W S H' W' S' → RepKV K H' W' vs d → Q vs H'
structure PPd (X : Cx) (pos : Pos) (keys : List (Option Expr)) (values : List Expr) (f : Fps) : Prop where
  run : ∀ (pins : List (Addr × Obj)) (s : Shared) (σ : L2.St) (H : Hp) (Q : List (V × V) → Hp → Prop), Inv X pins σ H s → tPd X.kk f σ H Q →
    wpAny (model X.prog X.w) X.A (evalPairs (pairTrees keys values X.env pos)) (fun vs s' => ∃ ps H', Inv X pins σ H' s' ∧ VV ps vs ∧ Q ps H') X.xe s
def fPn : Fps := fun S => some ([], S)
def fPc (f g : Fe) (r : Fps) : Fps := fun S => (f S).bind fun p => (g p.2).bind fun q => (r q.2).map fun t => ((p.1, q.1) :: t.1, t.2)
def dispOk (ds : List (D × D)) : Bool := decide (ds.length ≤ 15) && ((ds.all fun p => fkOk p.1) || ds.all fun p => dkOk p.1)
def mergeD (acc ds : List (D × D)) : List (D × D) := ds.foldl (fun acc p => putD acc p.1 p.2) acc
def fDic (r : Fps) : Fe := fun S => (r S).bind fun p => if dispOk p.1 = true then some (.d (mergeD [] p.1), p.2) else none
theorem mergeD_le : ∀ (ds acc : List (D × D)), (mergeD acc ds).length ≤ acc.length + ds.length
  | [], acc => Nat.le_refl _
  | p :: r, acc => by
    have h1 := mergeD_le r (putD acc p.1 p.2)
    have h2 := putD_le acc p.1 p.2
    show (mergeD (putD acc p.1 p.2) r).length ≤ _
    rw [List.length_cons]; omega
section
variable {X : Cx} {pos : Pos} {k v : Expr} {ks : List (Option Expr)} {vs : List Expr} {f g : Fe} {r : Fps}
theorem ppd_nil : PPd X pos [] [] fPn := ⟨fun pins s σ H Q I ⟨W, S, d, S', G, e, q⟩ => by
  cases e
  exact pairTrees_nil_walk ⟨[], H, I, .nil, q [] H W (Go.refl G) .nil⟩⟩
theorem ppd_cons (hk : PDe X k f) (hv : PDe X v g) (hr : PPd X pos ks vs r) : PPd X pos (some k :: ks) (v :: vs) (fPc f g r) := ⟨fun pins s σ H Q I ⟨W, S, d, S', G, e, q⟩ => by
  obtain ⟨⟨x, S1⟩, e1, e⟩ := bind_some e
  obtain ⟨⟨y, S2⟩, e2, e⟩ := bind_some e
  obtain ⟨⟨zs, S3⟩, e3, e⟩ := map_some e
  cases e
  refine pairTrees_cons_walk (thn (hk.run pins s σ H (fun v H1 => ∃ W1, Go X.kk σ H W S H1 W1 S1 ∧ Rep X.kk H1 W1 v x) I ⟨W, S, x, S1, G, e1, fun v H1 W1 g r => ⟨W1, g, r⟩⟩) fun u s1 ⟨a, H1, I1, ra, W1, g1, r1⟩ => ?_)
  refine thn (hv.run pins s1 σ H1 (fun v H2 => ∃ W2, Go X.kk σ H1 W1 S1 H2 W2 S2 ∧ Rep X.kk H2 W2 v y) I1 ⟨W1, S1, y, S2, g1.G, e2, fun v H2 W2 g r => ⟨W2, g, r⟩⟩) fun u2 s2 ⟨b, H2, I2, rb, W2, g2, r2⟩ => ?_
  refine thn (hr.run pins s2 σ H2 (fun ps H3 => ∃ W3, Go X.kk σ H2 W2 S2 H3 W3 S3 ∧ RepKV X.kk H3 W3 ps zs) I2 ⟨W2, S2, zs, S3, g2.G, e3, fun v H2 W2 g r => ⟨W2, g, r⟩⟩) fun us s3 ⟨ps, H3, I3, rp, W3, g3, r3⟩ => ?_
  exact ⟨(a, b) :: ps, H3, I3, .cons ⟨ra, rb⟩ rp, q _ H3 W3 ((g1.trans g2).trans g3) (.cons (r1.le (g2.le.trans g3.le)) (r2.le g3.le) r3)⟩⟩
section
variable {C : CK} {H : Hp} {W : Wr}
theorem flat_merge : ∀ {us : List (Key × Value)} {ds : List (D × D)}, FlatE C H W us ds → ∀ {as : List (Key × Value)} {bs : List (D × D)}, FlatE C H W as bs → FlatE C H W (merged as us) (mergeD bs ds)
  | _, _, .nil, _, _, a => a
  | _, _, .cons (a := q) (b := p) ⟨e, rk, x, rx, rv⟩ t, _, _, a => flat_merge t (flat_put e rk rx rv a)
theorem deep_merge : ∀ {us : List (NestedKey × Addr × Value)} {ds : List (D × D)}, DeepE C H W us ds → ∀ {as : List (NestedKey × Addr × Value)} {bs : List (D × D)}, DeepE C H W as bs → DeepE C H W (storedAllH as us) (mergeD bs ds)
  | _, _, .nil, _, _, a => a
  | _, _, .cons (a := q) (b := p) ⟨e, dk, rk, x, rx, rv⟩ t, _, _, a => by
    refine deep_merge t (as := storedH _ q.1 q.2.1 q.2.2) ?_
    rw [← e]
    exact deep_put dk rk rx rv a
theorem flat_carries {P : Program} {w : World} : ∀ {ps : List (V × V)} {ds : List (D × D)} {ws : List (Value × Value)}, RepKV C H W ps ds → VV ps ws → (ds.all fun p => fkOk p.1) = true → ∃ us, Carries (mixKind P w) ws us ∧ FlatE C H W us ds
  | _, _, _, .nil, .nil, _ => ⟨[], trivial, .nil⟩
  | _, _, _, .cons (c := c) rk rv t, .cons (b := b) r u, h => by
    rw [List.all_cons, Bool.and_eq_true] at h
    obtain ⟨us, c1, c2⟩ := flat_carries (P := P) (w := w) t u h.2
    cases hf : fk c with
    | none =>
      have := h.1
      unfold fkOk at this
      rw [hf] at this
      cases this
    | some k =>
      have hk : rk = rk := rfl
      have e : ∃ y, y = kV k ∧ Rep C H W y c ∧ RelV y b.1 := by
        cases rk with
        | i x => cases hf; exact ⟨_, rfl, .i x, r.1⟩
        | s z => cases hf; exact ⟨_, rfl, .s z, r.1⟩
        | _ => cases hf
      obtain ⟨y, rfl, ry, rb⟩ := e
      exact ⟨(k, b.2) :: us, ⟨kV_is rb, rfl, c1⟩, .cons ⟨hf, ry, _, r.2, rv⟩ c2⟩
end
theorem deep_carries {pins : List (Addr × Obj)} {s : Shared} {σ : L2.St} {H : Hp} {W : Wr} (I : Inv X pins σ H s) : ∀ {ps : List (V × V)} {ds : List (D × D)} {ws : List (Value × Value)}, RepKV X.kk H W ps ds → VV ps ws → (ds.all fun p => dkOk p.1) = true → ∃ us, CarriesH (nestedKind X.prog X.w) s.heap ws us ∧ DeepE X.kk H W us ds
  | _, _, _, .nil, .nil, _ => ⟨[], trivial, .nil⟩
  | _, _, _, .cons (c := c) rk rv t, .cons (b := b) r u, h => by
    rw [List.all_cons, Bool.and_eq_true] at h
    obtain ⟨us, c1, c2⟩ := deep_carries I t u h.2
    obtain ⟨xs, rfl, _, _⟩ := dkOk_iff h.1
    cases rk with
    | @t a vs ds hh hz hq =>
      have hb : b.1 = Value.ref a := r.1
      have rk : Rep X.kk H W (.ref a) (.t xs) := .t hh hz hq
      exact ⟨(nk (.t xs), a, b.2) :: us, ⟨hb, rfl, rk.keyIs I h.1, c1⟩, .cons ⟨rfl, h.1, rk, _, r.2, rv⟩ c2⟩
theorem dict_pairsH {prog : Program} {w : World} {K : Type} [DecidableEq K] {knd : HeapKind prog w K} {A : Around} {E : Value → Shared → Prop} {s : Shared} {env : Env} {keys : List (Option Expr)} {values : List Expr} {pos : Pos} {pairs : List (Sem Value × Sem Value)} {Q : Value → Shared → Prop} (hu : knd.room A)
    (hshape : (evalEachOpt keys env).zip ((evalEach values env).map fun v => do let x ← v; standAt pos; pure x) = pairs.map fun p => (some p.1, p.2)) (h0 : pairs ≠ []) (hlen : pairs.length ≤ 15)
    (h : wpAny (model prog w) A (evalPairs pairs) (fun vs s₁ => ∃ ps, CarriesH knd s₁.heap vs ps ∧ s₁.heap.DictOfH knd s.heap.objs.size [] ∧
      ∀ h' tk, h'.DictOfH knd s.heap.objs.size (storedAllH [] ps) → Heap.SameBut s.heap.objs.size s₁.heap h' → Q (.ref s.heap.objs.size) { s₁ with heap := h', toks := tk }) E
      { s with heap := s.heap.push { cls := .type "dict", data := .dict #[] } }) :
    wpAny (model prog w) A (eval (.Dict keys values pos) env) Q E s := by
  rw [arm_eval_Dict, hshape, dictDisplay_pairs pairs h0 (by omega)]
  exact wpAny_bind (wpAny_standAt (wpAny_bind (wpAny_subDictH (knd := knd) (Q := fun d s' => wpAny (model prog w) A (pure (Value.ref d)) Q E s') hu hlen
    (wpAny_mono h (fun vs s₁ h₁ => by obtain ⟨ps, hc, hm, hq⟩ := h₁; exact ⟨ps, hc, hm, fun h' tk a b => wpAny_pure (hq h' tk a b)⟩) fun _ _ e => e))))
theorem pn_dic (hu : X.A.units + 100 < cLine) (h : PPd X pos ks vs r) (hall : ks.all (·.isSome) = true := by rfl) (hl : ks.length = vs.length := by rfl) (h0 : ks ≠ [] := by exact List.cons_ne_nil _ _) (h15 : ks.length ≤ 15 := by decide) : PDn X (.Dict ks vs pos) (fDic r) := ⟨fun pins s σ H Q I ⟨W, S, d, S', G, e, q⟩ => by
  obtain ⟨⟨ds, S1⟩, e1, e⟩ := bind_some e
  obtain ⟨z, e⟩ := ite_some' e
  cases e
  unfold dispOk at z
  rw [Bool.and_eq_true, Bool.or_eq_true] at z
  have hle : ds.length ≤ 15 := of_decide_eq_true z.1
  have hml : (mergeD [] ds).length ≤ sizeLine := by
    have := mergeD_le ds []
    rw [List.length_nil] at this
    rw [sizeLine_eq]; omega
  have hp := I.hok.fresh (Nat.le_refl s.heap.objs.size)
  have hsys : (s.heap.objs.size == sysModules) = false := beq_eq_false_iff_ne.mpr (Ne.symm (Nat.ne_of_lt I.big))
  have ho : (s.heap.push { cls := .type "dict", data := .dict #[] }).get? s.heap.objs.size = some { cls := .type "dict", data := .dict #[] } := Heap.get?_push_size _ rfl
  have I1 := I.laid (a := s.heap.objs.size) (o := dX s.heap.objs.size { cls := .type "dict", data := .dict #[] }) (h' := s.heap.push { cls := .type "dict", data := .dict #[] }) (t' := s.toks) (fun _ _ q => Heap.get?_push_of_some _ q) (Nat.le_refl _) (dX_ok ho)
  have G1 := G.inFr (o := dX s.heap.objs.size { cls := .type "dict", data := .dict #[] }) hp
  have run := h.run pins _ σ _ (fun ps H2 => ∃ W2, Go X.kk σ _ _ S H2 W2 S1 ∧ RepKV X.kk H2 W2 ps ds) I1 ⟨_, S, ds, S1, G1, e1, fun v H2 W2 g r => ⟨W2, g, r⟩⟩
  have fin : ∀ {s2 : Shared} {H2 : Hp} {W2 : Wr} {o' : Obj} {h' : Heap} {tk : Nat} {kvs : List (V × V)}, Inv X pins σ H2 s2 → Go X.kk σ (upd H s.heap.objs.size (dX s.heap.objs.size { cls := .type "dict", data := .dict #[] })) { W with fr := (s.heap.objs.size, dX s.heap.objs.size { cls := .type "dict", data := .dict #[] }) :: W.fr } S H2 W2 S1 →
      h'.get? s.heap.objs.size = some o' → Heap.SameBut s.heap.objs.size s2.heap h' → Lay X.kk o' kvs (mergeD [] ds) → RepKV X.kk H2 W2 kvs (mergeD [] ds) → EP X pins σ Q (.ref s.heap.objs.size) { s2 with heap := h', toks := tk } := by
    intro s2 H2 W2 o' h' tk kvs I2 g ho' hs L rr
    have efr : W2.fr = (s.heap.objs.size, dX s.heap.objs.size { cls := .type "dict", data := .dict #[] }) :: W.fr := g.fr
    obtain ⟨_, _, hp2⟩ := g.G.outFr efr
    have G3 := g.G.upFr (o' := dX s.heap.objs.size o') efr trivial
    obtain ⟨G4, fr4, hp4⟩ := G3.outFr rfl
    have I3 := d_write (t' := tk) I2 (by rw [hp2]; exact True.intro) hs ⟨o', ho'⟩ (dX_ok ho')
    have nf : ¬ W2.Fz s.heap.objs.size := (g.G.g0.frk (s.heap.objs.size, _) (by rw [efr]; exact List.mem_cons_self)).2.1
    have l1 : Le H W (upd H s.heap.objs.size (dX s.heap.objs.size { cls := .type "dict", data := .dict #[] })) { W with fr := (s.heap.objs.size, dX s.heap.objs.size { cls := .type "dict", data := .dict #[] }) :: W.fr } := (Le.new0 hp).fr1 _
    have l3 : Le H2 W2 (upd H2 s.heap.objs.size (dX s.heap.objs.size o')) { W2 with fr := W.fr } := (Le.upFr (o' := dX s.heap.objs.size o') hp2 trivial nf).fr1 _
    refine ⟨.ref s.heap.objs.size, _, I3, rfl, q s.heap.objs.size _ { W2 with fr := W.fr } ⟨(l1.trans g.le).trans l3, rfl, g.sl, g.keep, G4⟩ ⟨o', upd_same, kvs, L, hsys, hml, rr.le l3⟩ fr4⟩
  rcases z.2 with hf | hf
  · refine wpAny_Dict_walk (knd := mixKind X.prog X.w) hall hl h0 h15 (thn run fun ws s2 ⟨ps, H2, I2, rel, W2, g, rp⟩ => ?_)
    obtain ⟨us, c1, c2⟩ := flat_carries (P := X.prog) (w := X.w) rp rel hf
    have efr : W2.fr = (s.heap.objs.size, dX s.heap.objs.size { cls := .type "dict", data := .dict #[] }) :: W.fr := g.fr
    obtain ⟨_, _, hp2⟩ := g.G.outFr efr
    have ho2 := dX_get I2 hp2
    refine ⟨us, c1, ⟨_, #[], 0, ho2, ⟨rfl, rfl, rfl⟩, rfl, fun _ he => by simp at he, Pairs.nil, List.nodup_nil⟩, fun h' dd' hs => ?_⟩
    obtain ⟨o', es, ep, ho', l1, l2, l3, l4, l5⟩ := dd'
    obtain ⟨kvs, p1, p2, p3⟩ := of_flat (flat_merge c2 (as := []) (bs := []) .nil)
    exact fin I2 g ho' hs (.flat es ep _ l1 l2 l3 l4 l5 p1 p3) p2
  · refine dict_pairsH (knd := nestedKind X.prog X.w) (pairs := pairTrees ks vs X.env pos) ?_ (zip_pairTrees ks vs X.env pos hall hl) ?_ ?_ (thn run fun ws s2 ⟨ps, H2, I2, rel, W2, g, rp⟩ => ?_)
    · show X.A.units + 8 < cLine; omega
    · intro he
      have hn := pairTrees_length ks vs X.env pos hall hl
      rw [he] at hn
      exact h0 (List.length_eq_zero_iff.mp hn.symm)
    · rw [pairTrees_length ks vs X.env pos hall hl]; exact h15
    obtain ⟨us, c1, c2⟩ := deep_carries I2 rp rel hf
    have efr : W2.fr = (s.heap.objs.size, dX s.heap.objs.size { cls := .type "dict", data := .dict #[] }) :: W.fr := g.fr
    obtain ⟨_, _, hp2⟩ := g.G.outFr efr
    have ho2 := dX_get I2 hp2
    refine ⟨us, c1, ⟨_, #[], 0, ho2, ⟨rfl, rfl, rfl⟩, rfl, rfl, (fun _ hx => nomatch hx), List.nodup_nil⟩, fun h' tk dd' hs => ?_⟩
    obtain ⟨o', es, ep, ho', l1, l2, l3, l4, l5⟩ := dd'
    obtain ⟨kvs, p1, p2, p3, p4⟩ := of_deep (deep_merge c2 (as := []) (bs := []) .nil)
    exact fin I2 g ho' hs (.deep es ep _ l1 l2 l3 l5 p1 p3 p4) p2⟩
end
end PD

/-! PdQ: meanings worked out: slots, the drawing function. -/
namespace PD
open PySem PySem.Spec L2
@[simp] theorem fV_0 {d : D} {r : List (Option Sl)} {w : Option DSt} : fV 0 ⟨some (Sl.v d) :: r, w⟩ = some (d, ⟨some (Sl.v d) :: r, w⟩) := rfl
@[simp] theorem fO_0 {d : D} {r : List (Option Sl)} {w : Option DSt} : fO 0 ⟨some (Sl.o d) :: r, w⟩ = some (d, ⟨some (Sl.o d) :: r, w⟩) := rfl
@[simp] theorem fZ_0 {d : D} {r : List (Option Sl)} {w : Option DSt} : fZ 0 ⟨some (Sl.o d) :: r, w⟩ = some (d, ⟨some (Sl.v d) :: r, w⟩) := rfl
@[simp] theorem put_0 {x y : Option Sl} {r : List (Option Sl)} {w : Option DSt} : Se.put ⟨x :: r, w⟩ 0 y = ⟨y :: r, w⟩ := rfl
@[simp] theorem at_0 {x : Option Sl} {r : List (Option Sl)} : (x :: r)[0]? = some x := rfl
@[simp] theorem fV_1 {a0 : Option Sl} {d : D} {r : List (Option Sl)} {w : Option DSt} : fV 1 ⟨a0 :: some (Sl.v d) :: r, w⟩ = some (d, ⟨a0 :: some (Sl.v d) :: r, w⟩) := rfl
@[simp] theorem fO_1 {a0 : Option Sl} {d : D} {r : List (Option Sl)} {w : Option DSt} : fO 1 ⟨a0 :: some (Sl.o d) :: r, w⟩ = some (d, ⟨a0 :: some (Sl.o d) :: r, w⟩) := rfl
@[simp] theorem fZ_1 {a0 : Option Sl} {d : D} {r : List (Option Sl)} {w : Option DSt} : fZ 1 ⟨a0 :: some (Sl.o d) :: r, w⟩ = some (d, ⟨a0 :: some (Sl.v d) :: r, w⟩) := rfl
@[simp] theorem put_1 {a0 : Option Sl} {x y : Option Sl} {r : List (Option Sl)} {w : Option DSt} : Se.put ⟨a0 :: x :: r, w⟩ 1 y = ⟨a0 :: y :: r, w⟩ := rfl
@[simp] theorem at_1 {a0 : Option Sl} {x : Option Sl} {r : List (Option Sl)} : (a0 :: x :: r)[1]? = some x := rfl
@[simp] theorem fV_2 {a0 a1 : Option Sl} {d : D} {r : List (Option Sl)} {w : Option DSt} : fV 2 ⟨a0 :: a1 :: some (Sl.v d) :: r, w⟩ = some (d, ⟨a0 :: a1 :: some (Sl.v d) :: r, w⟩) := rfl
@[simp] theorem fO_2 {a0 a1 : Option Sl} {d : D} {r : List (Option Sl)} {w : Option DSt} : fO 2 ⟨a0 :: a1 :: some (Sl.o d) :: r, w⟩ = some (d, ⟨a0 :: a1 :: some (Sl.o d) :: r, w⟩) := rfl
@[simp] theorem fZ_2 {a0 a1 : Option Sl} {d : D} {r : List (Option Sl)} {w : Option DSt} : fZ 2 ⟨a0 :: a1 :: some (Sl.o d) :: r, w⟩ = some (d, ⟨a0 :: a1 :: some (Sl.v d) :: r, w⟩) := rfl
@[simp] theorem put_2 {a0 a1 : Option Sl} {x y : Option Sl} {r : List (Option Sl)} {w : Option DSt} : Se.put ⟨a0 :: a1 :: x :: r, w⟩ 2 y = ⟨a0 :: a1 :: y :: r, w⟩ := rfl
@[simp] theorem at_2 {a0 a1 : Option Sl} {x : Option Sl} {r : List (Option Sl)} : (a0 :: a1 :: x :: r)[2]? = some x := rfl
@[simp] theorem fV_3 {a0 a1 a2 : Option Sl} {d : D} {r : List (Option Sl)} {w : Option DSt} : fV 3 ⟨a0 :: a1 :: a2 :: some (Sl.v d) :: r, w⟩ = some (d, ⟨a0 :: a1 :: a2 :: some (Sl.v d) :: r, w⟩) := rfl
@[simp] theorem fO_3 {a0 a1 a2 : Option Sl} {d : D} {r : List (Option Sl)} {w : Option DSt} : fO 3 ⟨a0 :: a1 :: a2 :: some (Sl.o d) :: r, w⟩ = some (d, ⟨a0 :: a1 :: a2 :: some (Sl.o d) :: r, w⟩) := rfl
@[simp] theorem fZ_3 {a0 a1 a2 : Option Sl} {d : D} {r : List (Option Sl)} {w : Option DSt} : fZ 3 ⟨a0 :: a1 :: a2 :: some (Sl.o d) :: r, w⟩ = some (d, ⟨a0 :: a1 :: a2 :: some (Sl.v d) :: r, w⟩) := rfl
@[simp] theorem put_3 {a0 a1 a2 : Option Sl} {x y : Option Sl} {r : List (Option Sl)} {w : Option DSt} : Se.put ⟨a0 :: a1 :: a2 :: x :: r, w⟩ 3 y = ⟨a0 :: a1 :: a2 :: y :: r, w⟩ := rfl
@[simp] theorem at_3 {a0 a1 a2 : Option Sl} {x : Option Sl} {r : List (Option Sl)} : (a0 :: a1 :: a2 :: x :: r)[3]? = some x := rfl
@[simp] theorem fV_4 {a0 a1 a2 a3 : Option Sl} {d : D} {r : List (Option Sl)} {w : Option DSt} : fV 4 ⟨a0 :: a1 :: a2 :: a3 :: some (Sl.v d) :: r, w⟩ = some (d, ⟨a0 :: a1 :: a2 :: a3 :: some (Sl.v d) :: r, w⟩) := rfl
@[simp] theorem fO_4 {a0 a1 a2 a3 : Option Sl} {d : D} {r : List (Option Sl)} {w : Option DSt} : fO 4 ⟨a0 :: a1 :: a2 :: a3 :: some (Sl.o d) :: r, w⟩ = some (d, ⟨a0 :: a1 :: a2 :: a3 :: some (Sl.o d) :: r, w⟩) := rfl
@[simp] theorem fZ_4 {a0 a1 a2 a3 : Option Sl} {d : D} {r : List (Option Sl)} {w : Option DSt} : fZ 4 ⟨a0 :: a1 :: a2 :: a3 :: some (Sl.o d) :: r, w⟩ = some (d, ⟨a0 :: a1 :: a2 :: a3 :: some (Sl.v d) :: r, w⟩) := rfl
@[simp] theorem put_4 {a0 a1 a2 a3 : Option Sl} {x y : Option Sl} {r : List (Option Sl)} {w : Option DSt} : Se.put ⟨a0 :: a1 :: a2 :: a3 :: x :: r, w⟩ 4 y = ⟨a0 :: a1 :: a2 :: a3 :: y :: r, w⟩ := rfl
@[simp] theorem at_4 {a0 a1 a2 a3 : Option Sl} {x : Option Sl} {r : List (Option Sl)} : (a0 :: a1 :: a2 :: a3 :: x :: r)[4]? = some x := rfl
@[simp] theorem fV_5 {a0 a1 a2 a3 a4 : Option Sl} {d : D} {r : List (Option Sl)} {w : Option DSt} : fV 5 ⟨a0 :: a1 :: a2 :: a3 :: a4 :: some (Sl.v d) :: r, w⟩ = some (d, ⟨a0 :: a1 :: a2 :: a3 :: a4 :: some (Sl.v d) :: r, w⟩) := rfl
@[simp] theorem fO_5 {a0 a1 a2 a3 a4 : Option Sl} {d : D} {r : List (Option Sl)} {w : Option DSt} : fO 5 ⟨a0 :: a1 :: a2 :: a3 :: a4 :: some (Sl.o d) :: r, w⟩ = some (d, ⟨a0 :: a1 :: a2 :: a3 :: a4 :: some (Sl.o d) :: r, w⟩) := rfl
@[simp] theorem fZ_5 {a0 a1 a2 a3 a4 : Option Sl} {d : D} {r : List (Option Sl)} {w : Option DSt} : fZ 5 ⟨a0 :: a1 :: a2 :: a3 :: a4 :: some (Sl.o d) :: r, w⟩ = some (d, ⟨a0 :: a1 :: a2 :: a3 :: a4 :: some (Sl.v d) :: r, w⟩) := rfl
@[simp] theorem put_5 {a0 a1 a2 a3 a4 : Option Sl} {x y : Option Sl} {r : List (Option Sl)} {w : Option DSt} : Se.put ⟨a0 :: a1 :: a2 :: a3 :: a4 :: x :: r, w⟩ 5 y = ⟨a0 :: a1 :: a2 :: a3 :: a4 :: y :: r, w⟩ := rfl
@[simp] theorem at_5 {a0 a1 a2 a3 a4 : Option Sl} {x : Option Sl} {r : List (Option Sl)} : (a0 :: a1 :: a2 :: a3 :: a4 :: x :: r)[5]? = some x := rfl
@[simp] theorem fV_6 {a0 a1 a2 a3 a4 a5 : Option Sl} {d : D} {r : List (Option Sl)} {w : Option DSt} : fV 6 ⟨a0 :: a1 :: a2 :: a3 :: a4 :: a5 :: some (Sl.v d) :: r, w⟩ = some (d, ⟨a0 :: a1 :: a2 :: a3 :: a4 :: a5 :: some (Sl.v d) :: r, w⟩) := rfl
@[simp] theorem fO_6 {a0 a1 a2 a3 a4 a5 : Option Sl} {d : D} {r : List (Option Sl)} {w : Option DSt} : fO 6 ⟨a0 :: a1 :: a2 :: a3 :: a4 :: a5 :: some (Sl.o d) :: r, w⟩ = some (d, ⟨a0 :: a1 :: a2 :: a3 :: a4 :: a5 :: some (Sl.o d) :: r, w⟩) := rfl
@[simp] theorem fZ_6 {a0 a1 a2 a3 a4 a5 : Option Sl} {d : D} {r : List (Option Sl)} {w : Option DSt} : fZ 6 ⟨a0 :: a1 :: a2 :: a3 :: a4 :: a5 :: some (Sl.o d) :: r, w⟩ = some (d, ⟨a0 :: a1 :: a2 :: a3 :: a4 :: a5 :: some (Sl.v d) :: r, w⟩) := rfl
@[simp] theorem put_6 {a0 a1 a2 a3 a4 a5 : Option Sl} {x y : Option Sl} {r : List (Option Sl)} {w : Option DSt} : Se.put ⟨a0 :: a1 :: a2 :: a3 :: a4 :: a5 :: x :: r, w⟩ 6 y = ⟨a0 :: a1 :: a2 :: a3 :: a4 :: a5 :: y :: r, w⟩ := rfl
@[simp] theorem at_6 {a0 a1 a2 a3 a4 a5 : Option Sl} {x : Option Sl} {r : List (Option Sl)} : (a0 :: a1 :: a2 :: a3 :: a4 :: a5 :: x :: r)[6]? = some x := rfl
@[simp] theorem fV_7 {a0 a1 a2 a3 a4 a5 a6 : Option Sl} {d : D} {r : List (Option Sl)} {w : Option DSt} : fV 7 ⟨a0 :: a1 :: a2 :: a3 :: a4 :: a5 :: a6 :: some (Sl.v d) :: r, w⟩ = some (d, ⟨a0 :: a1 :: a2 :: a3 :: a4 :: a5 :: a6 :: some (Sl.v d) :: r, w⟩) := rfl
@[simp] theorem fO_7 {a0 a1 a2 a3 a4 a5 a6 : Option Sl} {d : D} {r : List (Option Sl)} {w : Option DSt} : fO 7 ⟨a0 :: a1 :: a2 :: a3 :: a4 :: a5 :: a6 :: some (Sl.o d) :: r, w⟩ = some (d, ⟨a0 :: a1 :: a2 :: a3 :: a4 :: a5 :: a6 :: some (Sl.o d) :: r, w⟩) := rfl
@[simp] theorem fZ_7 {a0 a1 a2 a3 a4 a5 a6 : Option Sl} {d : D} {r : List (Option Sl)} {w : Option DSt} : fZ 7 ⟨a0 :: a1 :: a2 :: a3 :: a4 :: a5 :: a6 :: some (Sl.o d) :: r, w⟩ = some (d, ⟨a0 :: a1 :: a2 :: a3 :: a4 :: a5 :: a6 :: some (Sl.v d) :: r, w⟩) := rfl
@[simp] theorem put_7 {a0 a1 a2 a3 a4 a5 a6 : Option Sl} {x y : Option Sl} {r : List (Option Sl)} {w : Option DSt} : Se.put ⟨a0 :: a1 :: a2 :: a3 :: a4 :: a5 :: a6 :: x :: r, w⟩ 7 y = ⟨a0 :: a1 :: a2 :: a3 :: a4 :: a5 :: a6 :: y :: r, w⟩ := rfl
@[simp] theorem at_7 {a0 a1 a2 a3 a4 a5 a6 : Option Sl} {x : Option Sl} {r : List (Option Sl)} : (a0 :: a1 :: a2 :: a3 :: a4 :: a5 :: a6 :: x :: r)[7]? = some x := rfl
@[simp] theorem fV_8 {a0 a1 a2 a3 a4 a5 a6 a7 : Option Sl} {d : D} {r : List (Option Sl)} {w : Option DSt} : fV 8 ⟨a0 :: a1 :: a2 :: a3 :: a4 :: a5 :: a6 :: a7 :: some (Sl.v d) :: r, w⟩ = some (d, ⟨a0 :: a1 :: a2 :: a3 :: a4 :: a5 :: a6 :: a7 :: some (Sl.v d) :: r, w⟩) := rfl
@[simp] theorem fO_8 {a0 a1 a2 a3 a4 a5 a6 a7 : Option Sl} {d : D} {r : List (Option Sl)} {w : Option DSt} : fO 8 ⟨a0 :: a1 :: a2 :: a3 :: a4 :: a5 :: a6 :: a7 :: some (Sl.o d) :: r, w⟩ = some (d, ⟨a0 :: a1 :: a2 :: a3 :: a4 :: a5 :: a6 :: a7 :: some (Sl.o d) :: r, w⟩) := rfl
@[simp] theorem fZ_8 {a0 a1 a2 a3 a4 a5 a6 a7 : Option Sl} {d : D} {r : List (Option Sl)} {w : Option DSt} : fZ 8 ⟨a0 :: a1 :: a2 :: a3 :: a4 :: a5 :: a6 :: a7 :: some (Sl.o d) :: r, w⟩ = some (d, ⟨a0 :: a1 :: a2 :: a3 :: a4 :: a5 :: a6 :: a7 :: some (Sl.v d) :: r, w⟩) := rfl
@[simp] theorem put_8 {a0 a1 a2 a3 a4 a5 a6 a7 : Option Sl} {x y : Option Sl} {r : List (Option Sl)} {w : Option DSt} : Se.put ⟨a0 :: a1 :: a2 :: a3 :: a4 :: a5 :: a6 :: a7 :: x :: r, w⟩ 8 y = ⟨a0 :: a1 :: a2 :: a3 :: a4 :: a5 :: a6 :: a7 :: y :: r, w⟩ := rfl
@[simp] theorem at_8 {a0 a1 a2 a3 a4 a5 a6 a7 : Option Sl} {x : Option Sl} {r : List (Option Sl)} : (a0 :: a1 :: a2 :: a3 :: a4 :: a5 :: a6 :: a7 :: x :: r)[8]? = some x := rfl
@[simp] theorem fV_9 {a0 a1 a2 a3 a4 a5 a6 a7 a8 : Option Sl} {d : D} {r : List (Option Sl)} {w : Option DSt} : fV 9 ⟨a0 :: a1 :: a2 :: a3 :: a4 :: a5 :: a6 :: a7 :: a8 :: some (Sl.v d) :: r, w⟩ = some (d, ⟨a0 :: a1 :: a2 :: a3 :: a4 :: a5 :: a6 :: a7 :: a8 :: some (Sl.v d) :: r, w⟩) := rfl
@[simp] theorem fO_9 {a0 a1 a2 a3 a4 a5 a6 a7 a8 : Option Sl} {d : D} {r : List (Option Sl)} {w : Option DSt} : fO 9 ⟨a0 :: a1 :: a2 :: a3 :: a4 :: a5 :: a6 :: a7 :: a8 :: some (Sl.o d) :: r, w⟩ = some (d, ⟨a0 :: a1 :: a2 :: a3 :: a4 :: a5 :: a6 :: a7 :: a8 :: some (Sl.o d) :: r, w⟩) := rfl
@[simp] theorem fZ_9 {a0 a1 a2 a3 a4 a5 a6 a7 a8 : Option Sl} {d : D} {r : List (Option Sl)} {w : Option DSt} : fZ 9 ⟨a0 :: a1 :: a2 :: a3 :: a4 :: a5 :: a6 :: a7 :: a8 :: some (Sl.o d) :: r, w⟩ = some (d, ⟨a0 :: a1 :: a2 :: a3 :: a4 :: a5 :: a6 :: a7 :: a8 :: some (Sl.v d) :: r, w⟩) := rfl
@[simp] theorem put_9 {a0 a1 a2 a3 a4 a5 a6 a7 a8 : Option Sl} {x y : Option Sl} {r : List (Option Sl)} {w : Option DSt} : Se.put ⟨a0 :: a1 :: a2 :: a3 :: a4 :: a5 :: a6 :: a7 :: a8 :: x :: r, w⟩ 9 y = ⟨a0 :: a1 :: a2 :: a3 :: a4 :: a5 :: a6 :: a7 :: a8 :: y :: r, w⟩ := rfl
@[simp] theorem at_9 {a0 a1 a2 a3 a4 a5 a6 a7 a8 : Option Sl} {x : Option Sl} {r : List (Option Sl)} : (a0 :: a1 :: a2 :: a3 :: a4 :: a5 :: a6 :: a7 :: a8 :: x :: r)[9]? = some x := rfl
@[simp] theorem fV_10 {a0 a1 a2 a3 a4 a5 a6 a7 a8 a9 : Option Sl} {d : D} {r : List (Option Sl)} {w : Option DSt} : fV 10 ⟨a0 :: a1 :: a2 :: a3 :: a4 :: a5 :: a6 :: a7 :: a8 :: a9 :: some (Sl.v d) :: r, w⟩ = some (d, ⟨a0 :: a1 :: a2 :: a3 :: a4 :: a5 :: a6 :: a7 :: a8 :: a9 :: some (Sl.v d) :: r, w⟩) := rfl
@[simp] theorem fO_10 {a0 a1 a2 a3 a4 a5 a6 a7 a8 a9 : Option Sl} {d : D} {r : List (Option Sl)} {w : Option DSt} : fO 10 ⟨a0 :: a1 :: a2 :: a3 :: a4 :: a5 :: a6 :: a7 :: a8 :: a9 :: some (Sl.o d) :: r, w⟩ = some (d, ⟨a0 :: a1 :: a2 :: a3 :: a4 :: a5 :: a6 :: a7 :: a8 :: a9 :: some (Sl.o d) :: r, w⟩) := rfl
@[simp] theorem fZ_10 {a0 a1 a2 a3 a4 a5 a6 a7 a8 a9 : Option Sl} {d : D} {r : List (Option Sl)} {w : Option DSt} : fZ 10 ⟨a0 :: a1 :: a2 :: a3 :: a4 :: a5 :: a6 :: a7 :: a8 :: a9 :: some (Sl.o d) :: r, w⟩ = some (d, ⟨a0 :: a1 :: a2 :: a3 :: a4 :: a5 :: a6 :: a7 :: a8 :: a9 :: some (Sl.v d) :: r, w⟩) := rfl
@[simp] theorem put_10 {a0 a1 a2 a3 a4 a5 a6 a7 a8 a9 : Option Sl} {x y : Option Sl} {r : List (Option Sl)} {w : Option DSt} : Se.put ⟨a0 :: a1 :: a2 :: a3 :: a4 :: a5 :: a6 :: a7 :: a8 :: a9 :: x :: r, w⟩ 10 y = ⟨a0 :: a1 :: a2 :: a3 :: a4 :: a5 :: a6 :: a7 :: a8 :: a9 :: y :: r, w⟩ := rfl
@[simp] theorem at_10 {a0 a1 a2 a3 a4 a5 a6 a7 a8 a9 : Option Sl} {x : Option Sl} {r : List (Option Sl)} : (a0 :: a1 :: a2 :: a3 :: a4 :: a5 :: a6 :: a7 :: a8 :: a9 :: x :: r)[10]? = some x := rfl
@[simp] theorem fV_11 {a0 a1 a2 a3 a4 a5 a6 a7 a8 a9 a10 : Option Sl} {d : D} {r : List (Option Sl)} {w : Option DSt} : fV 11 ⟨a0 :: a1 :: a2 :: a3 :: a4 :: a5 :: a6 :: a7 :: a8 :: a9 :: a10 :: some (Sl.v d) :: r, w⟩ = some (d, ⟨a0 :: a1 :: a2 :: a3 :: a4 :: a5 :: a6 :: a7 :: a8 :: a9 :: a10 :: some (Sl.v d) :: r, w⟩) := rfl
@[simp] theorem fO_11 {a0 a1 a2 a3 a4 a5 a6 a7 a8 a9 a10 : Option Sl} {d : D} {r : List (Option Sl)} {w : Option DSt} : fO 11 ⟨a0 :: a1 :: a2 :: a3 :: a4 :: a5 :: a6 :: a7 :: a8 :: a9 :: a10 :: some (Sl.o d) :: r, w⟩ = some (d, ⟨a0 :: a1 :: a2 :: a3 :: a4 :: a5 :: a6 :: a7 :: a8 :: a9 :: a10 :: some (Sl.o d) :: r, w⟩) := rfl
@[simp] theorem fZ_11 {a0 a1 a2 a3 a4 a5 a6 a7 a8 a9 a10 : Option Sl} {d : D} {r : List (Option Sl)} {w : Option DSt} : fZ 11 ⟨a0 :: a1 :: a2 :: a3 :: a4 :: a5 :: a6 :: a7 :: a8 :: a9 :: a10 :: some (Sl.o d) :: r, w⟩ = some (d, ⟨a0 :: a1 :: a2 :: a3 :: a4 :: a5 :: a6 :: a7 :: a8 :: a9 :: a10 :: some (Sl.v d) :: r, w⟩) := rfl
@[simp] theorem put_11 {a0 a1 a2 a3 a4 a5 a6 a7 a8 a9 a10 : Option Sl} {x y : Option Sl} {r : List (Option Sl)} {w : Option DSt} : Se.put ⟨a0 :: a1 :: a2 :: a3 :: a4 :: a5 :: a6 :: a7 :: a8 :: a9 :: a10 :: x :: r, w⟩ 11 y = ⟨a0 :: a1 :: a2 :: a3 :: a4 :: a5 :: a6 :: a7 :: a8 :: a9 :: a10 :: y :: r, w⟩ := rfl
@[simp] theorem at_11 {a0 a1 a2 a3 a4 a5 a6 a7 a8 a9 a10 : Option Sl} {x : Option Sl} {r : List (Option Sl)} : (a0 :: a1 :: a2 :: a3 :: a4 :: a5 :: a6 :: a7 :: a8 :: a9 :: a10 :: x :: r)[11]? = some x := rfl
@[simp] theorem fV_12 {a0 a1 a2 a3 a4 a5 a6 a7 a8 a9 a10 a11 : Option Sl} {d : D} {r : List (Option Sl)} {w : Option DSt} : fV 12 ⟨a0 :: a1 :: a2 :: a3 :: a4 :: a5 :: a6 :: a7 :: a8 :: a9 :: a10 :: a11 :: some (Sl.v d) :: r, w⟩ = some (d, ⟨a0 :: a1 :: a2 :: a3 :: a4 :: a5 :: a6 :: a7 :: a8 :: a9 :: a10 :: a11 :: some (Sl.v d) :: r, w⟩) := rfl
@[simp] theorem fO_12 {a0 a1 a2 a3 a4 a5 a6 a7 a8 a9 a10 a11 : Option Sl} {d : D} {r : List (Option Sl)} {w : Option DSt} : fO 12 ⟨a0 :: a1 :: a2 :: a3 :: a4 :: a5 :: a6 :: a7 :: a8 :: a9 :: a10 :: a11 :: some (Sl.o d) :: r, w⟩ = some (d, ⟨a0 :: a1 :: a2 :: a3 :: a4 :: a5 :: a6 :: a7 :: a8 :: a9 :: a10 :: a11 :: some (Sl.o d) :: r, w⟩) := rfl
@[simp] theorem fZ_12 {a0 a1 a2 a3 a4 a5 a6 a7 a8 a9 a10 a11 : Option Sl} {d : D} {r : List (Option Sl)} {w : Option DSt} : fZ 12 ⟨a0 :: a1 :: a2 :: a3 :: a4 :: a5 :: a6 :: a7 :: a8 :: a9 :: a10 :: a11 :: some (Sl.o d) :: r, w⟩ = some (d, ⟨a0 :: a1 :: a2 :: a3 :: a4 :: a5 :: a6 :: a7 :: a8 :: a9 :: a10 :: a11 :: some (Sl.v d) :: r, w⟩) := rfl
@[simp] theorem put_12 {a0 a1 a2 a3 a4 a5 a6 a7 a8 a9 a10 a11 : Option Sl} {x y : Option Sl} {r : List (Option Sl)} {w : Option DSt} : Se.put ⟨a0 :: a1 :: a2 :: a3 :: a4 :: a5 :: a6 :: a7 :: a8 :: a9 :: a10 :: a11 :: x :: r, w⟩ 12 y = ⟨a0 :: a1 :: a2 :: a3 :: a4 :: a5 :: a6 :: a7 :: a8 :: a9 :: a10 :: a11 :: y :: r, w⟩ := rfl
@[simp] theorem at_12 {a0 a1 a2 a3 a4 a5 a6 a7 a8 a9 a10 a11 : Option Sl} {x : Option Sl} {r : List (Option Sl)} : (a0 :: a1 :: a2 :: a3 :: a4 :: a5 :: a6 :: a7 :: a8 :: a9 :: a10 :: a11 :: x :: r)[12]? = some x := rfl
@[simp] theorem fV_13 {a0 a1 a2 a3 a4 a5 a6 a7 a8 a9 a10 a11 a12 : Option Sl} {d : D} {r : List (Option Sl)} {w : Option DSt} : fV 13 ⟨a0 :: a1 :: a2 :: a3 :: a4 :: a5 :: a6 :: a7 :: a8 :: a9 :: a10 :: a11 :: a12 :: some (Sl.v d) :: r, w⟩ = some (d, ⟨a0 :: a1 :: a2 :: a3 :: a4 :: a5 :: a6 :: a7 :: a8 :: a9 :: a10 :: a11 :: a12 :: some (Sl.v d) :: r, w⟩) := rfl
@[simp] theorem fO_13 {a0 a1 a2 a3 a4 a5 a6 a7 a8 a9 a10 a11 a12 : Option Sl} {d : D} {r : List (Option Sl)} {w : Option DSt} : fO 13 ⟨a0 :: a1 :: a2 :: a3 :: a4 :: a5 :: a6 :: a7 :: a8 :: a9 :: a10 :: a11 :: a12 :: some (Sl.o d) :: r, w⟩ = some (d, ⟨a0 :: a1 :: a2 :: a3 :: a4 :: a5 :: a6 :: a7 :: a8 :: a9 :: a10 :: a11 :: a12 :: some (Sl.o d) :: r, w⟩) := rfl
@[simp] theorem fZ_13 {a0 a1 a2 a3 a4 a5 a6 a7 a8 a9 a10 a11 a12 : Option Sl} {d : D} {r : List (Option Sl)} {w : Option DSt} : fZ 13 ⟨a0 :: a1 :: a2 :: a3 :: a4 :: a5 :: a6 :: a7 :: a8 :: a9 :: a10 :: a11 :: a12 :: some (Sl.o d) :: r, w⟩ = some (d, ⟨a0 :: a1 :: a2 :: a3 :: a4 :: a5 :: a6 :: a7 :: a8 :: a9 :: a10 :: a11 :: a12 :: some (Sl.v d) :: r, w⟩) := rfl
@[simp] theorem put_13 {a0 a1 a2 a3 a4 a5 a6 a7 a8 a9 a10 a11 a12 : Option Sl} {x y : Option Sl} {r : List (Option Sl)} {w : Option DSt} : Se.put ⟨a0 :: a1 :: a2 :: a3 :: a4 :: a5 :: a6 :: a7 :: a8 :: a9 :: a10 :: a11 :: a12 :: x :: r, w⟩ 13 y = ⟨a0 :: a1 :: a2 :: a3 :: a4 :: a5 :: a6 :: a7 :: a8 :: a9 :: a10 :: a11 :: a12 :: y :: r, w⟩ := rfl
@[simp] theorem at_13 {a0 a1 a2 a3 a4 a5 a6 a7 a8 a9 a10 a11 a12 : Option Sl} {x : Option Sl} {r : List (Option Sl)} : (a0 :: a1 :: a2 :: a3 :: a4 :: a5 :: a6 :: a7 :: a8 :: a9 :: a10 :: a11 :: a12 :: x :: r)[13]? = some x := rfl
@[simp] theorem fV_14 {a0 a1 a2 a3 a4 a5 a6 a7 a8 a9 a10 a11 a12 a13 : Option Sl} {d : D} {r : List (Option Sl)} {w : Option DSt} : fV 14 ⟨a0 :: a1 :: a2 :: a3 :: a4 :: a5 :: a6 :: a7 :: a8 :: a9 :: a10 :: a11 :: a12 :: a13 :: some (Sl.v d) :: r, w⟩ = some (d, ⟨a0 :: a1 :: a2 :: a3 :: a4 :: a5 :: a6 :: a7 :: a8 :: a9 :: a10 :: a11 :: a12 :: a13 :: some (Sl.v d) :: r, w⟩) := rfl
@[simp] theorem fO_14 {a0 a1 a2 a3 a4 a5 a6 a7 a8 a9 a10 a11 a12 a13 : Option Sl} {d : D} {r : List (Option Sl)} {w : Option DSt} : fO 14 ⟨a0 :: a1 :: a2 :: a3 :: a4 :: a5 :: a6 :: a7 :: a8 :: a9 :: a10 :: a11 :: a12 :: a13 :: some (Sl.o d) :: r, w⟩ = some (d, ⟨a0 :: a1 :: a2 :: a3 :: a4 :: a5 :: a6 :: a7 :: a8 :: a9 :: a10 :: a11 :: a12 :: a13 :: some (Sl.o d) :: r, w⟩) := rfl
@[simp] theorem fZ_14 {a0 a1 a2 a3 a4 a5 a6 a7 a8 a9 a10 a11 a12 a13 : Option Sl} {d : D} {r : List (Option Sl)} {w : Option DSt} : fZ 14 ⟨a0 :: a1 :: a2 :: a3 :: a4 :: a5 :: a6 :: a7 :: a8 :: a9 :: a10 :: a11 :: a12 :: a13 :: some (Sl.o d) :: r, w⟩ = some (d, ⟨a0 :: a1 :: a2 :: a3 :: a4 :: a5 :: a6 :: a7 :: a8 :: a9 :: a10 :: a11 :: a12 :: a13 :: some (Sl.v d) :: r, w⟩) := rfl
@[simp] theorem put_14 {a0 a1 a2 a3 a4 a5 a6 a7 a8 a9 a10 a11 a12 a13 : Option Sl} {x y : Option Sl} {r : List (Option Sl)} {w : Option DSt} : Se.put ⟨a0 :: a1 :: a2 :: a3 :: a4 :: a5 :: a6 :: a7 :: a8 :: a9 :: a10 :: a11 :: a12 :: a13 :: x :: r, w⟩ 14 y = ⟨a0 :: a1 :: a2 :: a3 :: a4 :: a5 :: a6 :: a7 :: a8 :: a9 :: a10 :: a11 :: a12 :: a13 :: y :: r, w⟩ := rfl
@[simp] theorem at_14 {a0 a1 a2 a3 a4 a5 a6 a7 a8 a9 a10 a11 a12 a13 : Option Sl} {x : Option Sl} {r : List (Option Sl)} : (a0 :: a1 :: a2 :: a3 :: a4 :: a5 :: a6 :: a7 :: a8 :: a9 :: a10 :: a11 :: a12 :: a13 :: x :: r)[14]? = some x := rfl
@[simp] theorem fV_15 {a0 a1 a2 a3 a4 a5 a6 a7 a8 a9 a10 a11 a12 a13 a14 : Option Sl} {d : D} {r : List (Option Sl)} {w : Option DSt} : fV 15 ⟨a0 :: a1 :: a2 :: a3 :: a4 :: a5 :: a6 :: a7 :: a8 :: a9 :: a10 :: a11 :: a12 :: a13 :: a14 :: some (Sl.v d) :: r, w⟩ = some (d, ⟨a0 :: a1 :: a2 :: a3 :: a4 :: a5 :: a6 :: a7 :: a8 :: a9 :: a10 :: a11 :: a12 :: a13 :: a14 :: some (Sl.v d) :: r, w⟩) := rfl
@[simp] theorem fO_15 {a0 a1 a2 a3 a4 a5 a6 a7 a8 a9 a10 a11 a12 a13 a14 : Option Sl} {d : D} {r : List (Option Sl)} {w : Option DSt} : fO 15 ⟨a0 :: a1 :: a2 :: a3 :: a4 :: a5 :: a6 :: a7 :: a8 :: a9 :: a10 :: a11 :: a12 :: a13 :: a14 :: some (Sl.o d) :: r, w⟩ = some (d, ⟨a0 :: a1 :: a2 :: a3 :: a4 :: a5 :: a6 :: a7 :: a8 :: a9 :: a10 :: a11 :: a12 :: a13 :: a14 :: some (Sl.o d) :: r, w⟩) := rfl
@[simp] theorem fZ_15 {a0 a1 a2 a3 a4 a5 a6 a7 a8 a9 a10 a11 a12 a13 a14 : Option Sl} {d : D} {r : List (Option Sl)} {w : Option DSt} : fZ 15 ⟨a0 :: a1 :: a2 :: a3 :: a4 :: a5 :: a6 :: a7 :: a8 :: a9 :: a10 :: a11 :: a12 :: a13 :: a14 :: some (Sl.o d) :: r, w⟩ = some (d, ⟨a0 :: a1 :: a2 :: a3 :: a4 :: a5 :: a6 :: a7 :: a8 :: a9 :: a10 :: a11 :: a12 :: a13 :: a14 :: some (Sl.v d) :: r, w⟩) := rfl
@[simp] theorem put_15 {a0 a1 a2 a3 a4 a5 a6 a7 a8 a9 a10 a11 a12 a13 a14 : Option Sl} {x y : Option Sl} {r : List (Option Sl)} {w : Option DSt} : Se.put ⟨a0 :: a1 :: a2 :: a3 :: a4 :: a5 :: a6 :: a7 :: a8 :: a9 :: a10 :: a11 :: a12 :: a13 :: a14 :: x :: r, w⟩ 15 y = ⟨a0 :: a1 :: a2 :: a3 :: a4 :: a5 :: a6 :: a7 :: a8 :: a9 :: a10 :: a11 :: a12 :: a13 :: a14 :: y :: r, w⟩ := rfl
@[simp] theorem at_15 {a0 a1 a2 a3 a4 a5 a6 a7 a8 a9 a10 a11 a12 a13 a14 : Option Sl} {x : Option Sl} {r : List (Option Sl)} : (a0 :: a1 :: a2 :: a3 :: a4 :: a5 :: a6 :: a7 :: a8 :: a9 :: a10 :: a11 :: a12 :: a13 :: a14 :: x :: r)[15]? = some x := rfl
@[simp] theorem fV_16 {a0 a1 a2 a3 a4 a5 a6 a7 a8 a9 a10 a11 a12 a13 a14 a15 : Option Sl} {d : D} {r : List (Option Sl)} {w : Option DSt} : fV 16 ⟨a0 :: a1 :: a2 :: a3 :: a4 :: a5 :: a6 :: a7 :: a8 :: a9 :: a10 :: a11 :: a12 :: a13 :: a14 :: a15 :: some (Sl.v d) :: r, w⟩ = some (d, ⟨a0 :: a1 :: a2 :: a3 :: a4 :: a5 :: a6 :: a7 :: a8 :: a9 :: a10 :: a11 :: a12 :: a13 :: a14 :: a15 :: some (Sl.v d) :: r, w⟩) := rfl
@[simp] theorem fO_16 {a0 a1 a2 a3 a4 a5 a6 a7 a8 a9 a10 a11 a12 a13 a14 a15 : Option Sl} {d : D} {r : List (Option Sl)} {w : Option DSt} : fO 16 ⟨a0 :: a1 :: a2 :: a3 :: a4 :: a5 :: a6 :: a7 :: a8 :: a9 :: a10 :: a11 :: a12 :: a13 :: a14 :: a15 :: some (Sl.o d) :: r, w⟩ = some (d, ⟨a0 :: a1 :: a2 :: a3 :: a4 :: a5 :: a6 :: a7 :: a8 :: a9 :: a10 :: a11 :: a12 :: a13 :: a14 :: a15 :: some (Sl.o d) :: r, w⟩) := rfl
@[simp] theorem fZ_16 {a0 a1 a2 a3 a4 a5 a6 a7 a8 a9 a10 a11 a12 a13 a14 a15 : Option Sl} {d : D} {r : List (Option Sl)} {w : Option DSt} : fZ 16 ⟨a0 :: a1 :: a2 :: a3 :: a4 :: a5 :: a6 :: a7 :: a8 :: a9 :: a10 :: a11 :: a12 :: a13 :: a14 :: a15 :: some (Sl.o d) :: r, w⟩ = some (d, ⟨a0 :: a1 :: a2 :: a3 :: a4 :: a5 :: a6 :: a7 :: a8 :: a9 :: a10 :: a11 :: a12 :: a13 :: a14 :: a15 :: some (Sl.v d) :: r, w⟩) := rfl
@[simp] theorem put_16 {a0 a1 a2 a3 a4 a5 a6 a7 a8 a9 a10 a11 a12 a13 a14 a15 : Option Sl} {x y : Option Sl} {r : List (Option Sl)} {w : Option DSt} : Se.put ⟨a0 :: a1 :: a2 :: a3 :: a4 :: a5 :: a6 :: a7 :: a8 :: a9 :: a10 :: a11 :: a12 :: a13 :: a14 :: a15 :: x :: r, w⟩ 16 y = ⟨a0 :: a1 :: a2 :: a3 :: a4 :: a5 :: a6 :: a7 :: a8 :: a9 :: a10 :: a11 :: a12 :: a13 :: a14 :: a15 :: y :: r, w⟩ := rfl
@[simp] theorem at_16 {a0 a1 a2 a3 a4 a5 a6 a7 a8 a9 a10 a11 a12 a13 a14 a15 : Option Sl} {x : Option Sl} {r : List (Option Sl)} : (a0 :: a1 :: a2 :: a3 :: a4 :: a5 :: a6 :: a7 :: a8 :: a9 :: a10 :: a11 :: a12 :: a13 :: a14 :: a15 :: x :: r)[16]? = some x := rfl
@[simp] theorem fV_17 {a0 a1 a2 a3 a4 a5 a6 a7 a8 a9 a10 a11 a12 a13 a14 a15 a16 : Option Sl} {d : D} {r : List (Option Sl)} {w : Option DSt} : fV 17 ⟨a0 :: a1 :: a2 :: a3 :: a4 :: a5 :: a6 :: a7 :: a8 :: a9 :: a10 :: a11 :: a12 :: a13 :: a14 :: a15 :: a16 :: some (Sl.v d) :: r, w⟩ = some (d, ⟨a0 :: a1 :: a2 :: a3 :: a4 :: a5 :: a6 :: a7 :: a8 :: a9 :: a10 :: a11 :: a12 :: a13 :: a14 :: a15 :: a16 :: some (Sl.v d) :: r, w⟩) := rfl
@[simp] theorem fO_17 {a0 a1 a2 a3 a4 a5 a6 a7 a8 a9 a10 a11 a12 a13 a14 a15 a16 : Option Sl} {d : D} {r : List (Option Sl)} {w : Option DSt} : fO 17 ⟨a0 :: a1 :: a2 :: a3 :: a4 :: a5 :: a6 :: a7 :: a8 :: a9 :: a10 :: a11 :: a12 :: a13 :: a14 :: a15 :: a16 :: some (Sl.o d) :: r, w⟩ = some (d, ⟨a0 :: a1 :: a2 :: a3 :: a4 :: a5 :: a6 :: a7 :: a8 :: a9 :: a10 :: a11 :: a12 :: a13 :: a14 :: a15 :: a16 :: some (Sl.o d) :: r, w⟩) := rfl
@[simp] theorem fZ_17 {a0 a1 a2 a3 a4 a5 a6 a7 a8 a9 a10 a11 a12 a13 a14 a15 a16 : Option Sl} {d : D} {r : List (Option Sl)} {w : Option DSt} : fZ 17 ⟨a0 :: a1 :: a2 :: a3 :: a4 :: a5 :: a6 :: a7 :: a8 :: a9 :: a10 :: a11 :: a12 :: a13 :: a14 :: a15 :: a16 :: some (Sl.o d) :: r, w⟩ = some (d, ⟨a0 :: a1 :: a2 :: a3 :: a4 :: a5 :: a6 :: a7 :: a8 :: a9 :: a10 :: a11 :: a12 :: a13 :: a14 :: a15 :: a16 :: some (Sl.v d) :: r, w⟩) := rfl
@[simp] theorem put_17 {a0 a1 a2 a3 a4 a5 a6 a7 a8 a9 a10 a11 a12 a13 a14 a15 a16 : Option Sl} {x y : Option Sl} {r : List (Option Sl)} {w : Option DSt} : Se.put ⟨a0 :: a1 :: a2 :: a3 :: a4 :: a5 :: a6 :: a7 :: a8 :: a9 :: a10 :: a11 :: a12 :: a13 :: a14 :: a15 :: a16 :: x :: r, w⟩ 17 y = ⟨a0 :: a1 :: a2 :: a3 :: a4 :: a5 :: a6 :: a7 :: a8 :: a9 :: a10 :: a11 :: a12 :: a13 :: a14 :: a15 :: a16 :: y :: r, w⟩ := rfl
@[simp] theorem at_17 {a0 a1 a2 a3 a4 a5 a6 a7 a8 a9 a10 a11 a12 a13 a14 a15 a16 : Option Sl} {x : Option Sl} {r : List (Option Sl)} : (a0 :: a1 :: a2 :: a3 :: a4 :: a5 :: a6 :: a7 :: a8 :: a9 :: a10 :: a11 :: a12 :: a13 :: a14 :: a15 :: a16 :: x :: r)[17]? = some x := rfl
@[simp] theorem fV_18 {a0 a1 a2 a3 a4 a5 a6 a7 a8 a9 a10 a11 a12 a13 a14 a15 a16 a17 : Option Sl} {d : D} {r : List (Option Sl)} {w : Option DSt} : fV 18 ⟨a0 :: a1 :: a2 :: a3 :: a4 :: a5 :: a6 :: a7 :: a8 :: a9 :: a10 :: a11 :: a12 :: a13 :: a14 :: a15 :: a16 :: a17 :: some (Sl.v d) :: r, w⟩ = some (d, ⟨a0 :: a1 :: a2 :: a3 :: a4 :: a5 :: a6 :: a7 :: a8 :: a9 :: a10 :: a11 :: a12 :: a13 :: a14 :: a15 :: a16 :: a17 :: some (Sl.v d) :: r, w⟩) := rfl
@[simp] theorem fO_18 {a0 a1 a2 a3 a4 a5 a6 a7 a8 a9 a10 a11 a12 a13 a14 a15 a16 a17 : Option Sl} {d : D} {r : List (Option Sl)} {w : Option DSt} : fO 18 ⟨a0 :: a1 :: a2 :: a3 :: a4 :: a5 :: a6 :: a7 :: a8 :: a9 :: a10 :: a11 :: a12 :: a13 :: a14 :: a15 :: a16 :: a17 :: some (Sl.o d) :: r, w⟩ = some (d, ⟨a0 :: a1 :: a2 :: a3 :: a4 :: a5 :: a6 :: a7 :: a8 :: a9 :: a10 :: a11 :: a12 :: a13 :: a14 :: a15 :: a16 :: a17 :: some (Sl.o d) :: r, w⟩) := rfl
@[simp] theorem fZ_18 {a0 a1 a2 a3 a4 a5 a6 a7 a8 a9 a10 a11 a12 a13 a14 a15 a16 a17 : Option Sl} {d : D} {r : List (Option Sl)} {w : Option DSt} : fZ 18 ⟨a0 :: a1 :: a2 :: a3 :: a4 :: a5 :: a6 :: a7 :: a8 :: a9 :: a10 :: a11 :: a12 :: a13 :: a14 :: a15 :: a16 :: a17 :: some (Sl.o d) :: r, w⟩ = some (d, ⟨a0 :: a1 :: a2 :: a3 :: a4 :: a5 :: a6 :: a7 :: a8 :: a9 :: a10 :: a11 :: a12 :: a13 :: a14 :: a15 :: a16 :: a17 :: some (Sl.v d) :: r, w⟩) := rfl
@[simp] theorem put_18 {a0 a1 a2 a3 a4 a5 a6 a7 a8 a9 a10 a11 a12 a13 a14 a15 a16 a17 : Option Sl} {x y : Option Sl} {r : List (Option Sl)} {w : Option DSt} : Se.put ⟨a0 :: a1 :: a2 :: a3 :: a4 :: a5 :: a6 :: a7 :: a8 :: a9 :: a10 :: a11 :: a12 :: a13 :: a14 :: a15 :: a16 :: a17 :: x :: r, w⟩ 18 y = ⟨a0 :: a1 :: a2 :: a3 :: a4 :: a5 :: a6 :: a7 :: a8 :: a9 :: a10 :: a11 :: a12 :: a13 :: a14 :: a15 :: a16 :: a17 :: y :: r, w⟩ := rfl
@[simp] theorem at_18 {a0 a1 a2 a3 a4 a5 a6 a7 a8 a9 a10 a11 a12 a13 a14 a15 a16 a17 : Option Sl} {x : Option Sl} {r : List (Option Sl)} : (a0 :: a1 :: a2 :: a3 :: a4 :: a5 :: a6 :: a7 :: a8 :: a9 :: a10 :: a11 :: a12 :: a13 :: a14 :: a15 :: a16 :: a17 :: x :: r)[18]? = some x := rfl
@[simp] theorem fV_19 {a0 a1 a2 a3 a4 a5 a6 a7 a8 a9 a10 a11 a12 a13 a14 a15 a16 a17 a18 : Option Sl} {d : D} {r : List (Option Sl)} {w : Option DSt} : fV 19 ⟨a0 :: a1 :: a2 :: a3 :: a4 :: a5 :: a6 :: a7 :: a8 :: a9 :: a10 :: a11 :: a12 :: a13 :: a14 :: a15 :: a16 :: a17 :: a18 :: some (Sl.v d) :: r, w⟩ = some (d, ⟨a0 :: a1 :: a2 :: a3 :: a4 :: a5 :: a6 :: a7 :: a8 :: a9 :: a10 :: a11 :: a12 :: a13 :: a14 :: a15 :: a16 :: a17 :: a18 :: some (Sl.v d) :: r, w⟩) := rfl
@[simp] theorem fO_19 {a0 a1 a2 a3 a4 a5 a6 a7 a8 a9 a10 a11 a12 a13 a14 a15 a16 a17 a18 : Option Sl} {d : D} {r : List (Option Sl)} {w : Option DSt} : fO 19 ⟨a0 :: a1 :: a2 :: a3 :: a4 :: a5 :: a6 :: a7 :: a8 :: a9 :: a10 :: a11 :: a12 :: a13 :: a14 :: a15 :: a16 :: a17 :: a18 :: some (Sl.o d) :: r, w⟩ = some (d, ⟨a0 :: a1 :: a2 :: a3 :: a4 :: a5 :: a6 :: a7 :: a8 :: a9 :: a10 :: a11 :: a12 :: a13 :: a14 :: a15 :: a16 :: a17 :: a18 :: some (Sl.o d) :: r, w⟩) := rfl
@[simp] theorem fZ_19 {a0 a1 a2 a3 a4 a5 a6 a7 a8 a9 a10 a11 a12 a13 a14 a15 a16 a17 a18 : Option Sl} {d : D} {r : List (Option Sl)} {w : Option DSt} : fZ 19 ⟨a0 :: a1 :: a2 :: a3 :: a4 :: a5 :: a6 :: a7 :: a8 :: a9 :: a10 :: a11 :: a12 :: a13 :: a14 :: a15 :: a16 :: a17 :: a18 :: some (Sl.o d) :: r, w⟩ = some (d, ⟨a0 :: a1 :: a2 :: a3 :: a4 :: a5 :: a6 :: a7 :: a8 :: a9 :: a10 :: a11 :: a12 :: a13 :: a14 :: a15 :: a16 :: a17 :: a18 :: some (Sl.v d) :: r, w⟩) := rfl
@[simp] theorem put_19 {a0 a1 a2 a3 a4 a5 a6 a7 a8 a9 a10 a11 a12 a13 a14 a15 a16 a17 a18 : Option Sl} {x y : Option Sl} {r : List (Option Sl)} {w : Option DSt} : Se.put ⟨a0 :: a1 :: a2 :: a3 :: a4 :: a5 :: a6 :: a7 :: a8 :: a9 :: a10 :: a11 :: a12 :: a13 :: a14 :: a15 :: a16 :: a17 :: a18 :: x :: r, w⟩ 19 y = ⟨a0 :: a1 :: a2 :: a3 :: a4 :: a5 :: a6 :: a7 :: a8 :: a9 :: a10 :: a11 :: a12 :: a13 :: a14 :: a15 :: a16 :: a17 :: a18 :: y :: r, w⟩ := rfl
@[simp] theorem at_19 {a0 a1 a2 a3 a4 a5 a6 a7 a8 a9 a10 a11 a12 a13 a14 a15 a16 a17 a18 : Option Sl} {x : Option Sl} {r : List (Option Sl)} : (a0 :: a1 :: a2 :: a3 :: a4 :: a5 :: a6 :: a7 :: a8 :: a9 :: a10 :: a11 :: a12 :: a13 :: a14 :: a15 :: a16 :: a17 :: a18 :: x :: r)[19]? = some x := rfl

section
variable {S : Se} {f g h : Fe} {a b : Fst} {t u : Fb} {m : M2} {m1 : M1} {ms : Ms} {gs : Fs} {i j k n : Nat} {ft : Ft} {fts : Fts} {d : D} {ds : List D} {lo hi : Fo} {F : Fn}
@[simp] theorem sSeq_eq : sSeq a b S = (a S).bind (thenO b) := rfl
@[simp] theorem sIf_eq : sIf t a b S = (t S).bind fun p => if p.1 = true then a p.2 else b p.2 := rfl
@[simp] theorem sAsg_eq : sAsg f ft S = (f S).bind fun p => (ft p.1 p.2).map .nx := rfl
@[simp] theorem sOwn_eq : sOwn i f S = (f S).map fun p => .nx (p.2.put i (some (Sl.o p.1))) := rfl
@[simp] theorem sRet_eq : sRet f S = (f S).map fun p => .rt p.1 p.2.w := rfl
@[simp] theorem sRetN_eq : sRetN S = some (.rt .n S.w) := rfl
@[simp] theorem sDrop_eq : sDrop f S = (f S).map fun p => .nx p.2 := rfl
@[simp] theorem sNil_eq : sNil S = some (.nx S) := rfl
@[simp] theorem sBk_eq : sBk S = some (.bk S) := rfl
@[simp] theorem sCt_eq : sCt S = some (.ct S) := rfl
@[simp] theorem thenO_nx : thenO a (.nx S) = a S := rfl
@[simp] theorem thenO_rt {w : Option DSt} : thenO a (.rt d w) = some (.rt d w) := rfl
@[simp] theorem thenO_bk : thenO a (.bk S) = some (.bk S) := rfl
@[simp] theorem thenO_ct : thenO a (.ct S) = some (.ct S) := rfl
@[simp] theorem fC_eq : fC d S = some (d, S) := rfl
@[simp] theorem fOp_eq : fOp m f g S = (f S).bind fun p => (g p.2).bind fun q => (m p.1 q.1).map fun z => (z, q.2) := rfl
@[simp] theorem fUn_eq : fUn m1 f S = (f S).bind fun p => (m1 p.1).map fun z => (z, p.2) := rfl
@[simp] theorem fTst_eq : fTst f S = (f S).bind fun p => match p.1 with | .b k => some (k, p.2) | _ => none := rfl
@[simp] theorem fNot_eq : fNot t S = (t S).map fun p => (!p.1, p.2) := rfl
@[simp] theorem fAnd_eq : fAnd t u S = (t S).bind fun p => if p.1 = true then u p.2 else some (false, p.2) := rfl
@[simp] theorem fOr_eq : fOr t u S = (t S).bind fun p => if p.1 = true then some (true, p.2) else u p.2 := rfl
@[simp] theorem fIf_eq : fIf t f g S = (t S).bind fun p => if p.1 = true then f p.2 else g p.2 := rfl
@[simp] theorem fNil_eq : fNil S = some ([], S) := rfl
@[simp] theorem fCons_eq : fCons f gs S = (f S).bind fun p => (gs p.2).map fun q => (p.1 :: q.1, q.2) := rfl
@[simp] theorem fTup_eq : fTup gs S = (gs S).bind fun p => if p.1.length ≤ lim then some (.t p.1, p.2) else none := rfl
@[simp] theorem fLst_eq : fLst gs S = (gs S).bind fun p => if p.1.length ≤ lim then some (.l p.1, p.2) else none := rfl
@[simp] theorem fB_eq : fB ms gs S = (gs S).bind fun p => (ms p.1).map fun z => (z, p.2) := rfl
@[simp] theorem fSl_eq : fSl f lo hi S = (f S).bind fun p => (lo p.2).bind fun q => (hi q.2).bind fun r => (mSl q.1 r.1 p.1).map fun z => (z, r.2) := rfl
@[simp] theorem fNoP_eq : fNoP S = some (none, S) := rfl
@[simp] theorem fP_eq : fP f S = (f S).bind fun p => match p.1 with | .i k => some (some k, p.2) | _ => none := rfl
@[simp] theorem fFn_eq : fFn F n gs S = (gs S).bind fun p => if p.1.length = n then (F p.1 p.2.w).map fun r => (r.1, { p.2 with w := r.2 }) else none := rfl
@[simp] theorem fTru_eq : fTru f S = (f S).bind fun p => (truD p.1).map fun k => (k, p.2) := rfl
@[simp] theorem fAndV_eq : fAndV f g S = (f S).bind fun p => (truD p.1).bind fun k => if k = true then g p.2 else some p := rfl
@[simp] theorem fOrV_eq : fOrV f g S = (f S).bind fun p => (truD p.1).bind fun k => if k = true then some p else g p.2 := rfl
@[simp] theorem fNotE_eq : fNotE f S = (f S).bind fun p => (truD p.1).map fun k => (.b (!k), p.2) := rfl
@[simp] theorem fNm_eq : fNm i d S = some (S.put i (some (Sl.v d))) := rfl
@[simp] theorem fTp_eq : fTp fts (.t ds) S = fts ds S := rfl
@[simp] theorem fGn_eq : fGn [] S = some S := rfl
@[simp] theorem fGc_eq : fGc ft fts (d :: ds) S = (ft d S).bind (fts ds) := rfl
@[simp] theorem fYes_eq : fYes S = some (true, S) := rfl
@[simp] theorem fDic0_eq : fDic0 S = some (.d [], S) := rfl
@[simp] theorem fSeqD_eq : fSeqD f S = (f S).bind fun p => match p.1 with | .d ds => some (ds.map (·.1), p.2) | .l xs => some (xs, p.2) | .t xs => some (xs, p.2) | .s x => some (x.cps.toList.map fun c => .s ⟨#[c]⟩, p.2) | _ => none := rfl
@[simp] theorem fSeqO_eq : fSeqO f S = (f S).bind fun p => match p.1 with | .l xs => some (xs, p.2) | _ => none := rfl
@[simp] theorem fItems_eq : fItems f S = (f S).bind fun p => match p.1 with | .d ds => some (ds.map (fun p => .t [p.1, p.2]), p.2) | _ => none := rfl
@[simp] theorem fVals_eq : fVals f S = (f S).bind fun p => match p.1 with | .d ds => some (ds.map (·.2), p.2) | _ => none := rfl
@[simp] theorem fRng_eq {r : List D → Option (List D)} : fRng r gs S = (gs S).bind fun p => (r p.1).map fun r => (r, p.2) := rfl
@[simp] theorem fZip_eq : fZip gs S = (gs S).bind fun p => (mZip p.1).map fun r => (r, p.2) := rfl
@[simp] theorem sPar_eq : sPar i j gs S = (gs S).bind fun p => match p.1 with | [a, b] => some (.nx ((p.2.put i (some (Sl.v a))).put j (some (Sl.v b)))) | _ => none := rfl
@[simp] theorem sParO_eq : sParO i j f g S = (f S).bind fun p => (g p.2).map fun q => .nx ((q.2.put i (some (Sl.v p.1))).put j (some (Sl.o q.1))) := rfl
@[simp] theorem fDr_eq : fDr i k S = match S.sl[i]?, S.w with | some (some (Sl.v .p)), some x => (x.get k).map fun d => (d, S) | _, _ => none := rfl
@[simp] theorem sDr_eq : sDr i k f S = (f S).bind fun p => match p.2.sl[i]?, p.2.w with | some (some (Sl.v .p)), some x => (x.put k p.1).map fun y => .nx { p.2 with w := some y } | _, _ => none := rfl
@[simp] theorem sFor_eq {fi : Fs} : sFor fi ft a S = (fi S).bind fun p => forGo ft a p.1 p.2 := rfl
@[simp] theorem sApp_eq : sApp i f S = match S.sl[i]? with | some (some (Sl.o (.l xs))) => (f S).bind fun p => if isOwn p.2 i = true ∧ xs.length < lim then some (.nx (p.2.put i (some (Sl.o (.l (xs ++ [p.1])))))) else none | _ => none := rfl
@[simp] theorem sSet_eq {f k : Fe} : sSet i f k S = (f S).bind fun p => match p.2.sl[i]? with | some (some (Sl.o (.l xs))) => (k p.2).bind fun q => if isOwn q.2 i = true then (match q.1 with | .i n => (ixN xs.length n).map fun j => .nx (q.2.put i (some (Sl.o (.l (xs.set j p.1))))) | _ => none) else none | _ => none := rfl
@[simp] theorem sSetD_eq {f k : Fe} : sSetD i f k S = (f S).bind fun p => match p.2.sl[i]? with | some (some (Sl.o (.d ds))) => (k p.2).bind fun q => if isOwn q.2 i = true ∧ kindOk ds q.1 = true ∧ ds.length < lim then some (.nx (q.2.put i (some (Sl.o (.d (putD ds q.1 p.1)))))) else none | _ => none := rfl
@[simp] theorem isOwn_eq {sl : List (Option Sl)} {w : Option DSt} : isOwn ⟨sl, w⟩ i = match sl[i]? with | some (some (Sl.o _)) => true | _ => false := rfl
@[simp] theorem get_1 {x : DSt} : x.get 1 = some (.i x.pos) := rfl
@[simp] theorem get_2 {x : DSt} : x.get 2 = some (.i x.rest) := rfl
@[simp] theorem get_3 {x : DSt} : x.get 3 = some (.i x.seed) := rfl
@[simp] theorem get_0 {x : DSt} : x.get 0 = some (.l (x.sc.map D.i)) := rfl
@[simp] theorem putD_1 {x : DSt} {n : Int} : x.put 1 (.i n) = if 0 ≤ n then some { x with pos := n.toNat } else none := rfl
@[simp] theorem putD_2 {x : DSt} {n : Int} : x.put 2 (.i n) = some { x with rest := n } := rfl
@[simp] theorem putD_3 {x : DSt} {n : Int} : x.put 3 (.i n) = some { x with seed := n } := rfl
end
theorem runB_eq {sl n : Nat} {g : Fst} {ds : List D} {w : Option DSt} (h : ds.length = n) : runB sl n g ds w = (g ⟨ds.map (fun d => some (Sl.v d)) ++ List.replicate (sl - ds.length) none, w⟩).bind fun o => match o with | .rt d w' => some (d, w') | .nx S => some (.n, S.w) | _ => none := if_pos h
/-! ### the drawing function -/
noncomputable def g_next : Fst := (sSeq (sIf (fTst (fOp mGt (fDr 0 2) (fC (.i 0)))) (sSeq (sAsg (fOp mMod (fB mInt (fCons (fDr 0 2) fNil)) (fV 1)) (fNm 2))
    (sSeq (sDr 0 2 (fOp mFdiv (fDr 0 2) (fV 1)))
    (sRet (fV 2)))) sNil)
    (sSeq (sIf (fTst (fOp mLt (fDr 0 1) (fB mLen (fCons (fDr 0 0) fNil)))) (sSeq (sAsg (fB mAbs (fCons (fOp mIxD (fDr 0 0) (fDr 0 1)) fNil)) (fNm 3))
    (sSeq (sDr 0 1 (fOp mAdd (fDr 0 1) (fC (.i 1))))
    (sSeq (sIf (fTst (fOp mGe (fV 3) (fOp mPow (fC (.i 10)) (fC (.i 18))))) (sSeq (sDr 0 2 (fOp mFdiv (fV 3) (fV 1)))
    (sRet (fOp mMod (fB mInt (fCons (fV 3) fNil)) (fV 1)))) sNil)
    (sDr 0 3 (fOp mMod (fB mInt (fCons (fOp mAdd (fOp mAdd (fOp mMul (fDr 0 3) (fC (.i 48271))) (fV 3)) (fC (.i 11))) fNil)) (fC (.i 2147483647))))))) (sDr 0 3 (fOp mMod (fB mInt (fCons (fOp mAdd (fOp mMul (fDr 0 3) (fC (.i 48271))) (fC (.i 12345))) fNil)) (fC (.i 2147483647)))))
    (sRet (fOp mMod (fOp mFdiv (fB mInt (fCons (fOp mMod (fOp mMul (fDr 0 3) (fC (.i 69621))) (fC (.i 2147483629))) fNil)) (fC (.i 7))) (fV 1)))))
noncomputable def M_next : Fn := runB 4 2 g_next
open PySem.SeqAt PySem.W in
theorem ltOk_i (a b : Int) : ltOk (toP (.i a)) (toP (.i b)) = true := by simp [ltOk, dlim, alike, notNone, toP, PyData.plain, PyData.depth]
open PySem.SeqAt PySem.W in
@[simp] theorem ltD_i (a b : Int) : ltD (.i a) (.i b) = decide (a < b) := dataLt_int a b
@[simp] theorem mLt_i (a b : Int) : mLt (.i a) (.i b) = some (.b (decide (a < b))) := by unfold mLt; rw [if_pos (ltOk_i a b), ltD_i]
@[simp] theorem mGt_i (a b : Int) : mGt (.i a) (.i b) = some (.b (decide (b < a))) := by unfold mGt; rw [if_pos (ltOk_i a b), ltD_i]
@[simp] theorem mLe_i (a b : Int) : mLe (.i a) (.i b) = some (.b (!decide (b < a))) := by unfold mLe; rw [if_pos (ltOk_i a b), ltD_i]
@[simp] theorem mGe_i (a b : Int) : mGe (.i a) (.i b) = some (.b (!decide (a < b))) := by unfold mGe; rw [if_pos (ltOk_i a b), ltD_i]
theorem eqOk_i (a b : Int) : eqOk (toP (.i a)) (toP (.i b)) = true := by simp [eqOk, dlim, toP, PyData.plain, PyData.depth]
@[simp] theorem eqD_i (a b : Int) : eqD (.i a) (.i b) = decide (a = b) := by
  unfold eqD
  rw [toP, toP, PyData.eqv]
  exact (decide_eq_decide.mpr Iff.rfl).trans rfl |>.symm ▸ (by cases h : decide (a = b) <;> simp_all)
@[simp] theorem mEq_i (a b : Int) : mEq (.i a) (.i b) = some (.b (decide (a = b))) := by unfold mEq; rw [if_pos (eqOk_i a b), eqD_i]
@[simp] theorem mNe_i (a b : Int) : mNe (.i a) (.i b) = some (.b (!decide (a = b))) := by unfold mNe; rw [if_pos (eqOk_i a b), eqD_i]
@[simp] theorem mAdd_i (a b : Int) : mAdd (.i a) (.i b) = some (.i (a + b)) := rfl
@[simp] theorem mSub_i (a b : Int) : mSub (.i a) (.i b) = some (.i (a - b)) := rfl
@[simp] theorem mLen_l (xs : List D) : mLen [.l xs] = some (.i xs.length) := rfl
@[simp] theorem mLen_t (xs : List D) : mLen [.t xs] = some (.i xs.length) := rfl
@[simp] theorem mInt_i (x : Int) : mInt [.i x] = some (.i x) := rfl
@[simp] theorem mAbs_i (x : Int) : mAbs [.i x] = some (.i (if x < 0 then -x else x)) := rfl
theorem mMod_i {a b : Int} (h : b ≠ 0) : mMod (.i a) (.i b) = some (.i (a.fmod b)) := if_pos h
theorem mFdiv_i {a b : Int} (h : b ≠ 0) (h2 : b.natAbs < 1073741824) : mFdiv (.i a) (.i b) = some (.i (a.fdiv b)) := if_pos ⟨h, h2⟩
theorem mMul_i {a b : Int} (h : small64 a b = true) : mMul (.i a) (.i b) = some (.i (a * b)) := if_pos h
theorem small_r {a b : Int} (h1 : -(2 ^ 64) < b) (h2 : b < 2 ^ 64) : small64 a b = true := by
  exact @decide_eq_true _ (Classical.propDecidable _) (.inr ⟨h1, h2⟩)
structure DOk (x : DSt) : Prop where
  pos : x.pos ≤ x.sc.length
  rest : 0 ≤ x.rest
  seed : 0 ≤ x.seed
theorem atI_nat {α : Type} {xs : List α} {k : Nat} (h : k < xs.length) : atI xs (k : Int) = some xs[k] := by
  unfold L2.atI L2.ixN
  simp [h]
theorem nx_tail {x : DSt} (hx : DOk x) {s1 : Int} (h0' : 0 ≤ s1) {many : Int} (h0 : 0 < many) : 0 ≤ ((((s1.fmod 2147483647) * 69621).fmod 2147483629).fdiv 7).fmod many ∧ ((((s1.fmod 2147483647) * 69621).fmod 2147483629).fdiv 7).fmod many < many :=
  ⟨Int.fmod_nonneg_of_pos _ h0, Int.fmod_lt_of_pos _ h0⟩
theorem mPow_18 : mPow (.i 10) (.i 18) = some (.i 1000000000000000000) := by
  show (if (0 : Int) ≤ 18 ∧ (18 : Int) ≤ 1000000 ∧ (10 : Int).natAbs < 2 ^ 64 then some (D.i ((10 : Int) ^ (18 : Int).toNat)) else none) = _
  rw [if_pos (by decide)]
  rfl
theorem next_ok {x : DSt} (hx : DOk x) {many : Int} (h0 : 0 < many) (h1 : many < 1073741824) : ∃ r x', M_next [.p, .i many] (some x) = some (.i r, some x') ∧ 0 ≤ r ∧ r < many ∧ DOk x' := by
  have hm : many ≠ 0 := by omega
  have ha : many.natAbs < 1073741824 := by omega
  have k1 : ∀ a : Int, mMul (.i a) (.i 48271) = some (.i (a * 48271)) := fun a => mMul_i (small_r (by decide) (by decide))
  have k2 : ∀ a : Int, mMul (.i a) (.i 69621) = some (.i (a * 69621)) := fun a => mMul_i (small_r (by decide) (by decide))
  have k3 : ∀ a : Int, mMod (.i a) (.i 2147483647) = some (.i (a.fmod 2147483647)) := fun a => mMod_i (by decide)
  have k4 : ∀ a : Int, mMod (.i a) (.i 2147483629) = some (.i (a.fmod 2147483629)) := fun a => mMod_i (by decide)
  have k5 : ∀ a : Int, mFdiv (.i a) (.i 7) = some (.i (a.fdiv 7)) := fun a => mFdiv_i (by decide) (by decide)
  unfold M_next g_next
  rw [runB_eq (n := 2) rfl]
  by_cases c1 : 0 < x.rest
  · refine ⟨x.rest.fmod many, { x with rest := x.rest.fdiv many }, ?_, Int.fmod_nonneg_of_pos _ h0, Int.fmod_lt_of_pos _ h0, hx.pos, Int.fdiv_nonneg hx.rest (by omega), hx.seed⟩
    simp [c1, mMod_i hm, mFdiv_i hm ha, List.replicate]
  · by_cases c2 : x.pos < x.sc.length
    · have c2' : (x.pos : Int) < (x.sc.length : Int) := by omega
      have e1 : mIxD (.l (x.sc.map D.i)) (.i x.pos) = some (.i x.sc[x.pos]) := by
        show atI (x.sc.map D.i) (x.pos : Int) = _
        rw [atI_nat (by simpa using c2)]
        simp
      generalize x.sc[x.pos] = c at e1
      have hp : (0 : Int) ≤ x.pos + 1 := by omega
      have hp2 : ((x.pos : Int) + 1).toNat = x.pos + 1 := by omega
      by_cases c3 : (if c < 0 then -c else c) < 1000000000000000000
      · refine ⟨(((((x.seed * 48271 + (if c < 0 then -c else c) + 11).fmod 2147483647) * 69621).fmod 2147483629).fdiv 7).fmod many, { x with pos := x.pos + 1, seed := (x.seed * 48271 + (if c < 0 then -c else c) + 11).fmod 2147483647 }, ?_, Int.fmod_nonneg_of_pos _ h0, Int.fmod_lt_of_pos _ h0, c2, hx.rest, Int.fmod_nonneg_of_pos _ (by decide)⟩
        simp [c1, c2', e1, mPow_18, c3, mMod_i hm, k1, k2, k3, k4, k5, hp, hp2, List.replicate]
      · refine ⟨(if c < 0 then -c else c).fmod many, { x with pos := x.pos + 1, rest := (if c < 0 then -c else c).fdiv many }, ?_, Int.fmod_nonneg_of_pos _ h0, Int.fmod_lt_of_pos _ h0, c2, Int.fdiv_nonneg (by split <;> omega) (by omega), hx.seed⟩
        simp [c1, c2', e1, mPow_18, c3, mMod_i hm, mFdiv_i hm ha, hp, hp2, List.replicate]
    · have c2' : ¬ (x.pos : Int) < (x.sc.length : Int) := by omega
      refine ⟨(((((x.seed * 48271 + 12345).fmod 2147483647) * 69621).fmod 2147483629).fdiv 7).fmod many, { x with seed := (x.seed * 48271 + 12345).fmod 2147483647 }, ?_, Int.fmod_nonneg_of_pos _ h0, Int.fmod_lt_of_pos _ h0, hx.pos, hx.rest, Int.fmod_nonneg_of_pos _ (by decide)⟩
      simp [c1, c2', mMod_i hm, k1, k2, k3, k4, k5, List.replicate]
end PD

/-! PdR: comprehensions and loops worked out; data that is the same as itself. -/
namespace PD
open PySem PySem.Spec L2

section
variable {S : Se} {vs : List Nat} {v : Nat} {fi : Fs} {ft : Ft} {tt : Fb} {te : Fe} {body : Fst}
@[simp] theorem wipeS_nil : wipeS S [] = S := rfl
@[simp] theorem wipeS_cons : wipeS S (v :: vs) = (wipeS S vs).put v none := rfl
@[simp] theorem back_nil {S0 : Se} : back S0 S [] = S := rfl
@[simp] theorem back_cons {S0 : Se} : back S0 S (v :: vs) = (back S0 S vs).put v (S0.sl[v]?.join) := rfl
@[simp] theorem noOwn_nil : noOwn S [] = true := rfl
@[simp] theorem noOwn_cons : noOwn S (v :: vs) = ((match S.sl[v]? with | some (some (Sl.o _)) => false | _ => true) && noOwn S vs) := rfl
@[simp] theorem fLc_eq : fLc vs fi ft tt te S = (fi S).bind fun p => if noOwn p.2 vs = true then (lcGo vs ft tt te p.1 p.2).map fun q => (.l q.1, q.2) else none := rfl
@[simp] theorem lc1_eq {x : D} : lc1 vs ft tt te S x = (ft x (wipeS S vs)).bind fun S1 => (tt S1).bind fun p => if p.1 = true then (te p.2).map fun q => (some q.1, back S q.2 vs) else some (none, back S p.2 vs) := rfl
theorem lc_map {α : Type} (enc f : α → D) : ∀ ys : List α, (∀ y ∈ ys, lc1 vs ft tt te S (enc y) = some (some (f y), S)) → lcGo vs ft tt te (ys.map enc) S = some (ys.map f, S)
  | [], _ => rfl
  | y :: ys, h => by
    rw [List.map_cons, lcGo, h y List.mem_cons_self, Option.bind_some, lc_map enc f ys fun z hz => h z (List.mem_cons_of_mem _ hz)]
    rfl
theorem lc_filt {α : Type} (enc f : α → D) (p : α → Bool) : ∀ ys : List α, (∀ y ∈ ys, lc1 vs ft tt te S (enc y) = some (if p y = true then some (f y) else none, S)) → lcGo vs ft tt te (ys.map enc) S = some ((ys.filter p).map f, S)
  | [], _ => rfl
  | y :: ys, h => by
    rw [List.map_cons, lcGo, h y List.mem_cons_self, Option.bind_some, lc_filt enc f p ys fun z hz => h z (List.mem_cons_of_mem _ hz), List.filter_cons]
    cases p y <;> rfl
/-- draws, one by one -/
theorem lc_draw {α β : Type} (enc : α → D) (f : β → D) (Q : α → β → Prop) {sl : List (Option Sl)} : ∀ ys : List α, (∀ y ∈ ys, ∀ x, DOk x → ∃ z x', lc1 vs ft tt te ⟨sl, some x⟩ (enc y) = some (some (f z), ⟨sl, some x'⟩) ∧ Q y z ∧ DOk x') →
    ∀ x, DOk x → ∃ zs x', lcGo vs ft tt te (ys.map enc) ⟨sl, some x⟩ = some (zs.map f, ⟨sl, some x'⟩) ∧ Paired Q ys zs ∧ DOk x'
  | [], _, x, hx => ⟨[], x, rfl, .nil, hx⟩
  | y :: ys, h, x, hx => by
    obtain ⟨z, x1, e1, q1, h1⟩ := h y List.mem_cons_self x hx
    obtain ⟨zs, x2, e2, q2, h2⟩ := lc_draw enc f Q ys (fun a ha => h a (List.mem_cons_of_mem _ ha)) x1 h1
    refine ⟨z :: zs, x2, ?_, .cons q1 q2, h2⟩
    rw [List.map_cons, lcGo, e1, Option.bind_some, e2]
    rfl
/-- a loop that goes through -/
theorem for_inv {α : Type} (enc : α → D) : ∀ (ys : List α) (R : Nat → Se → Prop), (∀ (i : Nat) (y : α) (S : Se), ys[i]? = some y → R i S → ∃ S1 S2, ft (enc y) S = some S1 ∧ (body S1 = some (.nx S2) ∨ body S1 = some (.ct S2)) ∧ R (i + 1) S2) →
    ∀ S, R 0 S → ∃ S', forGo ft body (ys.map enc) S = some (.nx S') ∧ R ys.length S'
  | [], R, _, S, h => ⟨S, rfl, h⟩
  | y :: ys, R, hh, S, h => by
    obtain ⟨S1, S2, e1, e2, r⟩ := hh 0 y S rfl h
    obtain ⟨S', e3, r3⟩ := for_inv enc ys (fun i => R (i + 1)) (fun i z T e q => hh (i + 1) z T (by simpa using e) q) S2 r
    refine ⟨S', ?_, r3⟩
    rw [List.map_cons, forGo, e1, Option.bind_some]
    rcases e2 with e2 | e2 <;> rw [e2] <;> exact e3
end
theorem rng_eq (lo : Int) (n : Nat) : rng lo n = (List.range n).map fun (i : Nat) => D.i (lo + (i : Int)) := rfl
theorem rng_0 (n : Nat) : rng 0 n = (List.range n).map fun (i : Nat) => D.i (i : Int) := by simp [rng_eq]
theorem in62_nat {n : Nat} (h : n ≤ 1000000000) : in62 (n : Int) = true := by
  exact @decide_eq_true _ (Classical.propDecidable _) ⟨by omega, by omega⟩
theorem mRng1_nat {bd : Bool} {n : Nat} (h : n ≤ lim) : mRng1 bd [.i (n : Int)] = some (rng 0 n) := by
  have h2 : n ≤ 1000000000 := Nat.le_trans h (by decide)
  have e : szOk bd ((n : Int)).toNat = true := by
    unfold szOk
    rw [Int.toNat_natCast, decide_eq_true h]
    simp
  show (if in62 (n : Int) = true ∧ szOk bd ((n : Int)).toNat = true then some (rng 0 (n : Int).toNat) else none) = _
  rw [if_pos ⟨in62_nat h2, e⟩, Int.toNat_natCast]

/-! ### the same -/
noncomputable def g_same (R : Fn) : Fst := (sSeq (sIf (fTru (fUn (mIsi2 "list" "tuple") (fV 1))) (sSeq (sIf (fOr (fTst (fOp mNe (fUn (mIsi "list") (fV 1)) (fUn (mIsi "list") (fV 0)))) (fTst (fOp mNe (fUn (mIsi "tuple") (fV 1)) (fUn (mIsi "tuple") (fV 0))))) (sRet (fC (.b false))) sNil)
    (sSeq (sIf (fTst (fOp mNe (fB mLen (fCons (fV 0) fNil)) (fB mLen (fCons (fV 1) fNil)))) (sRet (fC (.b false))) sNil)
    (sRet (fB mAll (fCons (fLc [2] (fRng (mRng1 true) (fCons (fB mLen (fCons (fV 1) fNil)) fNil)) (fNm 2) fYes (fFn R 2 (fCons (fOp mIxD (fV 0) (fV 2)) (fCons (fOp mIxD (fV 1) (fV 2)) fNil)))) fNil))))) sNil)
    (sSeq (sIf (fTst (fOp mIs (fV 1) (fC .n))) (sRet (fOp mIs (fV 0) (fC .n))) sNil)
    (sSeq (sIf (fTst (fOp mNe (fUn (mIsi "bool") (fV 1)) (fUn (mIsi "bool") (fV 0)))) (sRet (fC (.b false))) sNil)
    (sSeq (sIf (fTru (fUn (mIsi "str") (fV 1))) (sRet (fAndV (fUn (mIsi "str") (fV 0)) (fOp mEq (fV 0) (fV 1)))) sNil)
    (sRet (fAndV (fUn (mIsi "int") (fV 0)) (fOp mEq (fV 0) (fV 1))))))))
noncomputable def M_same : Nat → Fn
  | 0 => fun _ _ => none
  | n + 1 => runB 3 2 (g_same (M_same n))
def sameOk : Nat → D → Bool
  | 0, _ => false
  | n + 1, .t xs => decide (xs.length ≤ lim) && xs.all (sameOk n)
  | n + 1, .l xs => decide (xs.length ≤ lim) && xs.all (sameOk n)
  | _ + 1, .n => true
  | _ + 1, .b _ => true
  | _ + 1, .i _ => true
  | _ + 1, .s _ => true
  | _ + 1, _ => false
@[simp] theorem truD_b (b : Bool) : truD (.b b) = some b := rfl
theorem mIsi_t (T : String) (xs : List D) : mIsi T (.t xs) = some (.b (isTn T "tuple")) := rfl
theorem mIsi_l (T : String) (xs : List D) : mIsi T (.l xs) = some (.b (isTn T "list")) := rfl
theorem mIsi_n (T : String) : mIsi T .n = some (.b (isTn T "NoneType")) := rfl
theorem mIsi_b (T : String) (b : Bool) : mIsi T (.b b) = some (.b (isTn T "bool")) := rfl
theorem mIsi_i (T : String) (b : Int) : mIsi T (.i b) = some (.b (isTn T "int")) := rfl
theorem mIsi_s (T : String) (b : Str) : mIsi T (.s b) = some (.b (isTn T "str")) := rfl
theorem mIsi2_t (T U : String) (xs : List D) : mIsi2 T U (.t xs) = some (.b (isTn T "tuple" || isTn U "tuple")) := rfl
theorem mIsi2_l (T U : String) (xs : List D) : mIsi2 T U (.l xs) = some (.b (isTn T "list" || isTn U "list")) := rfl
theorem mIsi2_n (T U : String) : mIsi2 T U .n = some (.b (isTn T "NoneType" || isTn U "NoneType")) := rfl
theorem mIsi2_b (T U : String) (b : Bool) : mIsi2 T U (.b b) = some (.b (isTn T "bool" || isTn U "bool")) := rfl
theorem mIsi2_i (T U : String) (b : Int) : mIsi2 T U (.i b) = some (.b (isTn T "int" || isTn U "int")) := rfl
theorem mIsi2_s (T U : String) (b : Str) : mIsi2 T U (.s b) = some (.b (isTn T "str" || isTn U "str")) := rfl
theorem i1 : isTn "list" "tuple" = false := by decide
theorem i2 : isTn "tuple" "tuple" = true := by decide
theorem i3 : isTn "list" "list" = true := by decide
theorem i4 : isTn "tuple" "list" = false := by decide
theorem i5 : isTn "list" "NoneType" = false := by decide
theorem i6 : isTn "tuple" "NoneType" = false := by decide
theorem i7 : isTn "list" "bool" = false := by decide
theorem i8 : isTn "tuple" "bool" = false := by decide
theorem i9 : isTn "list" "int" = false := by decide
theorem i10 : isTn "tuple" "int" = false := by decide
theorem i11 : isTn "list" "str" = false := by decide
theorem i12 : isTn "tuple" "str" = false := by decide
theorem i13 : isTn "bool" "bool" = true := by decide
theorem i14 : isTn "bool" "int" = false := by decide
theorem i15 : isTn "bool" "str" = false := by decide
theorem i16 : isTn "str" "bool" = false := by decide
theorem i17 : isTn "str" "int" = false := by decide
theorem i18 : isTn "str" "str" = true := by decide
theorem i19 : isTn "int" "int" = true := by decide
theorem i20 : isTn "int" "bool" = true := by decide
@[simp] theorem mIs_n : mIs .n .n = some (.b true) := rfl
theorem mIs_i (a : Int) : mIs (.i a) .n = some (.b false) := rfl
theorem mIs_b (a : Bool) : mIs (.b a) .n = some (.b false) := rfl
theorem mIs_s (a : Str) : mIs (.s a) .n = some (.b false) := rfl
theorem mIs_t (a : List D) : mIs (.t a) .n = some (.b false) := rfl
theorem mIs_l (a : List D) : mIs (.l a) .n = some (.b false) := rfl
theorem mIs_d (a : List (D × D)) : mIs (.d a) .n = some (.b false) := rfl
mutual
theorem eqv_self : ∀ d : D, (toP d).plain = true → PyData.eqv (toP d) (toP d) = true
  | .n, _ => by simp [toP, PyData.eqv]
  | .b x, _ => by simp [toP, PyData.eqv]
  | .i x, _ => by simp [toP, PyData.eqv]
  | .s x, _ => by simp [toP, PyData.eqv]
  | .t xs, h => by
    rw [toP, PyData.eqv]
    exact eqv_selfs xs h
  | .l xs, h => by
    rw [toP, PyData.eqv]
    exact eqv_selfs xs h
  | .d _, h => nomatch h
  | .p, h => nomatch h
  | .sc _, h => nomatch h
theorem eqv_selfs : ∀ ds : List D, PyData.plainAll (toPs ds) = true → PyData.eqvAll (toPs ds) (toPs ds) = true
  | [], _ => by simp [toPs, PyData.eqvAll]
  | d :: ds, h => by
    have h' := Bool.and_eq_true_iff.mp (show ((toP d).plain && PyData.plainAll (toPs ds)) = true from h)
    rw [toPs, PyData.eqvAll, eqv_self d h'.1, eqv_selfs ds h'.2]
    rfl
end
theorem mNe_bb (a b : Bool) : mNe (.b a) (.b b) = some (.b (!decide (a = b))) := by cases a <;> cases b <;> simp [mNe, eqOk, dlim, eqD, toP, PyData.plain, PyData.depth, PyData.eqv]
theorem mAll_true (n : Nat) : mAll [.l ((List.range n).map fun _ => D.b true)] = some (.b true) := by
  have e : (List.range n).map (fun _ => D.b true) = ((List.range n).map fun _ => true).map D.b := by rw [List.map_map]; rfl
  show ((boolsOf ((List.range n).map fun _ => D.b true)).map fun ns => D.b (ns.all id)) = _
  rw [e, boolsOf_map, Option.map_some]
  congr 2
  rw [List.all_eq_true]
  intro x hx
  obtain ⟨_, _, rfl⟩ := List.mem_map.mp hx
  rfl
section
variable {R : Fn} {xs : List D} {w : Option DSt}
theorem same_t (hl : xs.length ≤ lim) (hR : ∀ d ∈ xs, R [d, d] w = some (.b true, w)) : runB 3 2 (g_same R) [.t xs, .t xs] w = some (.b true, w) := by
  have key : lcGo [2] (fNm 2) fYes (fFn R 2 (fCons (fOp mIxD (fV 0) (fV 2)) (fCons (fOp mIxD (fV 1) (fV 2)) fNil))) ((List.range xs.length).map fun (i : Nat) => D.i (i : Int)) ⟨[some (Sl.v (.t xs)), some (Sl.v (.t xs)), none], w⟩ = some ((List.range xs.length).map fun _ => D.b true, ⟨[some (Sl.v (.t xs)), some (Sl.v (.t xs)), none], w⟩) := by
    refine lc_map _ _ _ fun i hi => ?_
    have hi' : i < xs.length := List.mem_range.mp hi
    have e1 : mIxD (.t xs) (.i (i : Int)) = some xs[i] := atI_nat hi'
    have e2 := hR xs[i] (List.getElem_mem hi')
    generalize xs[i] = d at e1 e2
    simp [e1, e2]
  rw [runB_eq (n := 2) rfl]
  unfold g_same
  have h2 := mRng1_nat (bd := true) hl
  simp [List.replicate, mIsi2_t, mIsi_t, i1, i2, i3, i4, mNe_bb, mRng1_nat hl, rng_0, key, mAll_true]
theorem same_l (hl : xs.length ≤ lim) (hR : ∀ d ∈ xs, R [d, d] w = some (.b true, w)) : runB 3 2 (g_same R) [.l xs, .l xs] w = some (.b true, w) := by
  have key : lcGo [2] (fNm 2) fYes (fFn R 2 (fCons (fOp mIxD (fV 0) (fV 2)) (fCons (fOp mIxD (fV 1) (fV 2)) fNil))) ((List.range xs.length).map fun (i : Nat) => D.i (i : Int)) ⟨[some (Sl.v (.l xs)), some (Sl.v (.l xs)), none], w⟩ = some ((List.range xs.length).map fun _ => D.b true, ⟨[some (Sl.v (.l xs)), some (Sl.v (.l xs)), none], w⟩) := by
    refine lc_map _ _ _ fun i hi => ?_
    have hi' : i < xs.length := List.mem_range.mp hi
    have e1 : mIxD (.l xs) (.i (i : Int)) = some xs[i] := atI_nat hi'
    have e2 := hR xs[i] (List.getElem_mem hi')
    generalize xs[i] = d at e1 e2
    simp [e1, e2]
  rw [runB_eq (n := 2) rfl]
  unfold g_same
  simp [List.replicate, mIsi2_l, mIsi_l, i1, i2, i3, i4, mNe_bb, mRng1_nat hl, rng_0, key, mAll_true]
theorem same_n : runB 3 2 (g_same R) [.n, .n] w = some (.b true, w) := by
  rw [runB_eq (n := 2) rfl]
  unfold g_same
  simp [List.replicate, mIsi2_n, mIsi_n, i5, i6]
theorem same_b (x : Bool) : runB 3 2 (g_same R) [.b x, .b x] w = some (.b true, w) := by
  have e : mEq (.b x) (.b x) = some (.b true) := by cases x <;> simp [mEq, eqOk, dlim, eqD, toP, PyData.plain, PyData.depth, PyData.eqv]
  rw [runB_eq (n := 2) rfl]
  unfold g_same
  simp [List.replicate, mIsi2_b, mIsi_b, mIs_b, i7, i8, i13, i16, i20, mNe_bb, e]
theorem same_i (x : Int) : runB 3 2 (g_same R) [.i x, .i x] w = some (.b true, w) := by
  rw [runB_eq (n := 2) rfl]
  unfold g_same
  simp [List.replicate, mIsi2_i, mIsi_i, mIs_i, i9, i10, i14, i17, i19, mNe_bb]
theorem same_s (x : Str) : runB 3 2 (g_same R) [.s x, .s x] w = some (.b true, w) := by
  have e : mEq (.s x) (.s x) = some (.b true) := by simp [mEq, eqOk, dlim, eqD, toP, PyData.plain, PyData.depth, PyData.eqv]
  rw [runB_eq (n := 2) rfl]
  unfold g_same
  simp [List.replicate, mIsi2_s, mIsi_s, mIs_s, i11, i12, i15, i18, mNe_bb, e]
end
theorem same_refl (n : Nat) : ∀ (d : D) (w : Option DSt), sameOk n d = true → M_same n [d, d] w = some (.b true, w) := by
  induction n with
  | zero => intro d w h; cases d <;> cases h
  | succ n ih =>
    intro d w h
    cases d with
    | t xs =>
      have h' := Bool.and_eq_true_iff.mp (show (decide (xs.length ≤ lim) && xs.all (sameOk n)) = true from h)
      exact same_t (of_decide_eq_true h'.1) fun d hd => ih d w (List.all_eq_true.mp h'.2 d hd)
    | l xs =>
      have h' := Bool.and_eq_true_iff.mp (show (decide (xs.length ≤ lim) && xs.all (sameOk n)) = true from h)
      exact same_l (of_decide_eq_true h'.1) fun d hd => ih d w (List.all_eq_true.mp h'.2 d hd)
    | n => exact same_n
    | b x => exact same_b x
    | i x => exact same_i x
    | s x => exact same_s x
    | _ => cases h
end PD

/-! PdS: sorted, lists of one too. -/
namespace PD
open PySem PySem.Spec L2
open PyProof.Rows (envOfC)
open PySem.SeqAt PySem.W in
def oneB : List D → Bool
  | [d] => (toP d).plain && notNone (toP d) && decide ((toP d).depth ≤ 60) && alike (toP d) (toP d)
  | _ => false
def mSortedA : Ms
  | [.l xs] => if (sortB (toPs xs) || oneB xs) = true then some (.l (sortL xs)) else none
  | _ => none
section
open PySem.SeqAt PySem.W
theorem sorts_one {prog : Program} {w : World} {A : Around} {s : Shared} {vs : List Value} {d : PyData} (e : EachIs (fun v d => ∃ as, Reads s.heap v d as) vs [d]) (ha : alike d d = true) (hn : d ≠ .none) (hu : A.units + d.depth < cLine) : SortsAt prog w A s (dataKind s.heap [d]) vs := by
  have hal : AllAlike [d] := fun x hx y hy => by
    rw [List.mem_singleton.mp hx, List.mem_singleton.mp hy]
    exact ha
  refine ⟨fun v hv => ?_, PyProof.Rows.general', fun E x y a b Q ha' hb hq => ?_, fun h2 => ?_⟩
  · obtain ⟨d', hd, as, r⟩ := e.left v hv
    exact ⟨_, dataKind_some hal hd r⟩
  · obtain ⟨d1, as, hd, ra, rfl⟩ := dataKind_inv ha'
    obtain ⟨d2, as', hd', rb, rfl⟩ := dataKind_inv hb
    rw [List.mem_singleton.mp hd] at ra hq
    rw [List.mem_singleton.mp hd'] at rb hq
    have el : PyProof.Rows.keyLt' PyProof.Rows.general' x y = PyProof.Rows.oneLt' false x y := rfl
    rw [el]
    exact oneLt_alike (fun h => nomatch h) ra rb ha hn (Nat.lt_of_le_of_lt (Nat.add_le_add_left (Nat.min_le_left _ _) _) hu) hq
  · exfalso
    have := e.length
    simp only [List.length_cons, List.length_nil] at this
    omega
theorem sorted_one {prog : Program} {w : World} {A : Around} {E : Value → Shared → Prop} {s : Shared} {β : Type} {R : Value → β → Prop} {enc : β → PyData} {vs : List Value} {b : β} {l : Addr} {Q : Value → Shared → Prop} (hl : s.heap.IsList l vs.toArray) (e : EachIs R vs [b]) (er : EachIs (fun v b => ∃ as, Reads s.heap v (enc b) as) vs [b]) (ha : alike (enc b) (enc b) = true) (hn : enc b ≠ .none)
    (hu : A.units + 2 + (enc b).depth < cLine) (h : ∀ out, out.length = 1 → EachIs R out ([b].mergeSort (dataLe false enc)) → Q (.ref (s.heap.objs.size + 1)) { s with heap := PyProof.Rows.sortedAll s.heap vs (List.toArray out) }) :
    wpAny (model prog w) A (call (.builtin "sorted") [.ref l]) Q E s := by
  have hal : AllAlike ([b].map enc) := fun x hx y hy => by
    have h1 : x = enc b := by simpa using hx
    have h2 : y = enc b := by simpa using hy
    rw [h1, h2]
    exact ha
  have er' : EachIs (fun v b => ∃ as, Reads (sortingHeap (copyHeap s.heap vs) (s.heap.objs.size + 1) vs) v (enc b) as) vs [b] := er.mono fun _ _ ⟨as, r⟩ => ⟨as, PyProof.Rows.Reads.keeps (fun _ _ => sorting_copy_old) r⟩
  have er2 := each_map (R := fun v d => ∃ as, Reads (sortingHeap (copyHeap s.heap vs) (s.heap.objs.size + 1) vs) v d as) enc er'
  refine sorted_vals hl (sorts_one (s := { s with heap := sortingHeap (copyHeap s.heap vs) (s.heap.objs.size + 1) vs }) er2 ha hn ?_) (by rw [e.length, sizeLine_eq]; simp)
    (h _ (by rw [sortVals_length false rfl]; exact e.length) (sortVals_data false e er' hal))
  show A.units + 1 + 1 + _ < _
  omega
theorem cn_mSortedA {X : Cx} (hu : X.A.units + 100 < cLine) : CallR X (.builtin "sorted") (rNs X.kk mSortedA) := by
  intro pins s σ H xs us Q I rx ⟨W, S, σ', ds, d, G, r, e, q⟩
  unfold mSortedA at e
  split at e
  · rename_i ys
    obtain ⟨z, e⟩ := ite_some' e
    cases e
    rcases Bool.or_eq_true_iff.mp z with z | z
    · exact cn_mSorted hu pins s σ H _ us Q I rx ⟨W, S, σ', _, _, G, r, (if_pos z), q⟩
    · match ys, z, r, q with
      | [y], z, r, q =>
        have z' : ((toP y).plain && notNone (toP y) && decide ((toP y).depth ≤ 60) && alike (toP y) (toP y)) = true := z
        simp only [Bool.and_eq_true, decide_eq_true_eq] at z'
        obtain ⟨⟨⟨z1, z2⟩, z3⟩, z4⟩ := z'
        obtain ⟨v, rfl, r1⟩ := r.one
        obtain ⟨a, vs, rfl, h1, zz, q1⟩ := r1.lst G
        rw [Vals.ref1 rx]
        obtain ⟨its, rv, hl, _⟩ := I.list (SqL.at h1)
        have p1 : PyData.plainAll (toPs [y]) = true := by show (PyData.plain (toP y) && true) = true; rw [z1]; rfl
        obtain ⟨as, rd⟩ := Dp.readsAll I _ _ _ (Reps.dp q1 p1) rv
        refine sorted_one (enc := toP) (b := y) hl.isList (each_of rv q1) (reads_each rd) z4 (fun e => by rw [e] at z2; cases z2) (by omega) fun out ho eo => ?_
        have eo : EachIs (fun v d => ∃ x, RelV x v ∧ Rep X.kk H W x d) out (sortL [y]) := eo
        obtain ⟨ws, w1, w2⟩ := of_each eo
        obtain ⟨c, hc⟩ := PyProof.Rows.sortedAll_at s.heap its (List.toArray out)
        have hz : ws.length ≤ sizeLine := by rw [w1.length, ho, sizeLine_eq]; decide
        have hn := I.hok.fresh (a := s.heap.objs.size + 1) (Nat.le_succ _)
        refine ⟨.ref _, upd H (s.heap.objs.size + 1) (.lst ws), I.laid (t' := s.toks) (fun b o e => PyProof.Rows.sortedAll_old e) (Nat.le_succ _) ⟨hz, out, c, w1, hc⟩, rfl, q _ _ _ (G.new0 hn) ⟨ws, upd_same, hz, w2.le (Le.new0 hn)⟩ (Fresh.le (K := X.kk) (G.fresh hn))⟩
  · cases e
end
end PD

/-! PdT: tuples and lists of ints: sums, slices, keys, order. -/
namespace PD
open PySem PySem.Spec L2

abbrev eT (xs : List Int) : D := .t (xs.map D.i)
abbrev eL (xs : List Int) : D := .l (xs.map D.i)
theorem mAdd_t {a b : List D} (h : a.length + b.length ≤ lim) : mAdd (.t a) (.t b) = some (.t (a ++ b)) := if_pos h
theorem mAdd_l {a b : List D} (h : a.length + b.length ≤ lim) : mAdd (.l a) (.l b) = some (.l (a ++ b)) := if_pos h
theorem rep_one (k : Nat) (x : D) : (List.replicate k [x]).flatten = List.replicate k x := by
  induction k with
  | zero => rfl
  | succ k ih => rw [List.replicate_succ, List.flatten_cons, ih]; rfl
theorem mMul_1 {x : D} {k : Int} (h1 : -1000 ≤ k) (h2 : k ≤ 1000) : mMul (.t [x]) (.i k) = some (.t (List.replicate k.toNat x)) := by
  show (if [x].length ≤ 1000 ∧ -1000 ≤ k ∧ k ≤ 1000 then some (D.t (rep k [x])) else none) = _
  rw [if_pos ⟨by show 1 ≤ 1000; decide, h1, h2⟩]
  unfold rep
  rw [rep_one]
theorem take_min {α : Type} (xs : List α) (k : Nat) : xs.take (min k xs.length) = xs.take k := by simp [List.take_eq_take_iff]
theorem drop_min {α : Type} (xs : List α) (k : Nat) : xs.drop (min k xs.length) = xs.drop k := by
  by_cases h : k ≤ xs.length
  · rw [Nat.min_eq_left h]
  · rw [Nat.min_eq_right (by omega), List.drop_length, List.drop_eq_nil_of_le (by omega)]
theorem cut_pre {α : Type} (xs : List α) (k : Nat) : cut xs none (some (k : Int)) = xs.take k := by
  unfold PD.cut
  rw [HT.sIx_none, HT.sIx_nat, Nat.sub_zero, List.drop_zero, take_min]
theorem cut_suf {α : Type} (xs : List α) (k : Nat) : cut xs (some (k : Int)) none = xs.drop k := by
  unfold PD.cut
  rw [HT.sIx_none, HT.sIx_nat, drop_min]
  exact List.take_of_length_le (by rw [List.length_drop]; omega)
theorem cut_mid {α : Type} (xs : List α) (a b : Nat) : cut xs (some (a : Int)) (some (b : Int)) = (xs.drop a).take (b - a) := by
  unfold PD.cut
  rw [HT.sIx_nat, HT.sIx_nat, drop_min]
  by_cases h : a ≤ xs.length
  · rw [Nat.min_eq_left h]
    by_cases h2 : b ≤ xs.length
    · rw [Nat.min_eq_left h2]
    · rw [Nat.min_eq_right (by omega), List.take_of_length_le (by rw [List.length_drop]; omega), List.take_of_length_le (by rw [List.length_drop]; omega)]
  · rw [List.drop_eq_nil_of_le (by omega)]
    simp
theorem cut_map {α β : Type} (f : α → β) (xs : List α) (lo hi : Option Int) : cut (xs.map f) lo hi = (cut xs lo hi).map f := by
  unfold PD.cut
  rw [List.length_map, List.map_take, List.map_drop]
theorem mSum_l (ns : List Int) : mSum [eL ns] = some (.i ns.sum) := by
  show (intsOf (ns.map D.i)).map (fun ns => D.i ns.sum) = _
  rw [intsOf_map]
  rfl
theorem mSum_t (ns : List Int) : mSum [eT ns] = some (.i ns.sum) := by
  show (intsOf (ns.map D.i)).map (fun ns => D.i ns.sum) = _
  rw [intsOf_map]
  rfl
theorem zip_enc {α β : Type} (f : α → D) (g : β → D) : ∀ (xs : List α) (ys : List β), List.zipWith (fun x y => D.t [x, y]) (xs.map f) (ys.map g) = (xs.zip ys).map fun p => D.t [f p.1, g p.2]
  | [], _ => by simp
  | _ :: _, [] => by simp
  | x :: xs, y :: ys => by simp only [List.map_cons, List.zipWith_cons_cons, List.zip_cons_cons, zip_enc f g xs ys]
theorem mZip_tt {α β : Type} (f : α → D) (g : β → D) (xs : List α) (ys : List β) : mZip [.t (xs.map f), .t (ys.map g)] = some ((xs.zip ys).map fun p => D.t [f p.1, g p.2]) := by
  show some (List.zipWith (fun x y => D.t [x, y]) (xs.map f) (ys.map g)) = _
  rw [zip_enc]
theorem mZip_ll {α β : Type} (f : α → D) (g : β → D) (xs : List α) (ys : List β) : mZip [.l (xs.map f), .l (ys.map g)] = some ((xs.zip ys).map fun p => D.t [f p.1, g p.2]) := by
  show some (List.zipWith (fun x y => D.t [x, y]) (xs.map f) (ys.map g)) = _
  rw [zip_enc]
/-! ### keys -/
theorem nks_ints : ∀ xs : List Int, nks (xs.map D.i) = xs.map NestedKey.num
  | [] => rfl
  | x :: xs => by rw [List.map_cons, nks, nks_ints xs]; rfl
theorem nums_inj : ∀ {a b : List Int}, a.map NestedKey.num = b.map NestedKey.num → a = b
  | [], [], _ => rfl
  | [], _ :: _, h => by cases h
  | _ :: _, [], h => by cases h
  | x :: a, y :: b, h => by
    rw [List.map_cons, List.map_cons] at h
    injection h with h1 h2
    injection h1 with h1
    rw [h1, nums_inj h2]
theorem keyEq_eT (a b : List Int) : keyEq (eT a) (eT b) = decide (a = b) := by
  unfold keyEq
  rw [nk, nk, nks_ints, nks_ints]
  refine decide_eq_decide.mpr ⟨fun h => ?_, fun h => by rw [h]⟩
  injection h with h
  exact nums_inj h
theorem nksOk_ints : ∀ xs : List Int, nksOk (xs.map D.i) = true
  | [] => rfl
  | x :: xs => by rw [List.map_cons, nksOk, nksOk_ints xs]; rfl
theorem depth_nums : ∀ xs : List Int, NestedKey.depthAll (xs.map NestedKey.num) ≤ 1
  | [] => by simp [NestedKey.depthAll]
  | x :: xs => by
    have := depth_nums xs
    simp only [List.map_cons, NestedKey.depthAll, NestedKey.depth]
    omega
theorem dkOk_eT (xs : List Int) : dkOk (eT xs) = true := by
  show (nksOk (xs.map D.i) && decide ((nk (eT xs)).depth ≤ 8)) = true
  rw [nksOk_ints, nk, nks_ints]
  have := depth_nums xs
  rw [NestedKey.depth, Bool.true_and]
  exact decide_eq_true (by omega)
/-! ### order -/
theorem plain_ints : ∀ xs : List Int, PyData.plainAll (toPs (xs.map D.i)) = true
  | [] => by simp [toPs, PyData.plainAll]
  | x :: xs => by simp [toPs, toP, PyData.plainAll, PyData.plain, plain_ints xs]
theorem toPs_ints (xs : List Int) : toPs (xs.map D.i) = xs.map PyData.int := by
  rw [toPs_map, List.map_map]
  exact List.map_congr_left fun x _ => by simp [toP]
theorem depth_ints : ∀ xs : List Int, PyData.depthAll (xs.map PyData.int) = 0
  | [] => by simp [PyData.depthAll]
  | x :: xs => by simp [PyData.depthAll, PyData.depth, depth_ints xs]
open PySem.W in
theorem alike_ints : ∀ xs ys : List Int, alikeAll (xs.map PyData.int) (ys.map PyData.int) = true
  | [], _ => by simp [alikeAll]
  | _ :: _, [] => by simp [alikeAll]
  | x :: xs, y :: ys => by simp [alikeAll, alike, alike_ints xs ys]
theorem eqv_ints : ∀ xs ys : List Int, PyData.eqvAll (xs.map PyData.int) (ys.map PyData.int) = decide (xs = ys)
  | [], [] => by simp [PyData.eqvAll]
  | [], _ :: _ => by simp [PyData.eqvAll]
  | _ :: _, [] => by simp [PyData.eqvAll]
  | x :: xs, y :: ys => by
    simp only [List.map_cons, PyData.eqvAll, PyData.eqv, eqv_ints xs ys, List.cons.injEq]
    by_cases h : x = y <;> by_cases h2 : xs = ys <;> simp [h, h2]
def ltP (x y : Int × List Int) : Prop := x.1 < y.1 ∨ (x.1 = y.1 ∧ x.2 < y.2)
instance (x y : Int × List Int) : Decidable (ltP x y) := by unfold ltP; exact inferInstance
abbrev eP (x : Int × List Int) : D := .t [.i x.1, eT x.2]
theorem toP_eT (xs : List Int) : toP (eT xs) = .tuple (xs.map PyData.int) := by rw [toP, toPs_ints]
theorem toP_eP (x : Int × List Int) : toP (eP x) = .tuple [.int x.1, .tuple (x.2.map PyData.int)] := by
  rw [toP, toPs, toPs, toPs, toP_eT, toP]
open PySem.W in
theorem ltD_eP (x y : Int × List Int) : ltD (eP x) (eP y) = decide (ltP x y) := by
  unfold ltD
  rw [toP_eP, toP_eP, dataLt_pair (by simp [alike]) (by simp only [alike]; exact alike_ints _ _), dataLt_int]
  have e1 : dataLt (.tuple (x.2.map PyData.int)) (.tuple (y.2.map PyData.int)) = decide (x.2 < y.2) := by
    rw [dataLt_tuple]
    exact dataLt_ints _ _
  rw [e1]
  have e2 : PyData.eqv (.tuple (x.2.map PyData.int)) (.tuple (y.2.map PyData.int)) = decide (x.2 = y.2) := by
    rw [PyData.eqv]
    exact eqv_ints _ _
  rw [e2]
  have e3 : PyData.eqv (.int x.1) (.int y.1) = decide (x.1 = y.1) := by
    rw [PyData.eqv]
    by_cases h : x.1 = y.1 <;> simp [h]
  rw [e3]
  unfold ltP
  by_cases h1 : x.1 = y.1
  · have h3 : ¬ x.1 < y.1 := by omega
    by_cases h2 : x.2 = y.2
    · simp [h1, h2, List.lt_irrefl]
    · simp [h1, h2]
  · simp [h1]
open PySem.W in
theorem ltOk_eP (x y : Int × List Int) : ltOk (toP (eP x)) (toP (eP y)) = true := by
  rw [toP_eP, toP_eP]
  have p : ∀ z : List Int, PyData.plainAll (z.map PyData.int) = true := fun z => by rw [← toPs_ints]; exact plain_ints z
  simp [ltOk, dlim, alike, notNone, PyData.plain, PyData.plainAll, PyData.depth, PyData.depthAll, alikeAll, alike_ints, p, depth_ints]
theorem mLt_eP (x y : Int × List Int) : mLt (eP x) (eP y) = some (.b (decide (ltP x y))) := by
  unfold mLt
  rw [if_pos (ltOk_eP x y), ltD_eP]
theorem ltP_trans {x y z : Int × List Int} (h : ltP x y) (h2 : ltP y z) : ltP x z := by
  unfold ltP at *
  rcases h with h | ⟨h, h'⟩ <;> rcases h2 with h2 | ⟨h2, h2'⟩
  · exact .inl (by omega)
  · exact .inl (by omega)
  · exact .inl (by omega)
  · exact .inr ⟨by omega, List.lt_trans h' h2'⟩
theorem ltP_irrefl (x : Int × List Int) : ¬ ltP x x := by
  unfold ltP
  rintro (h | ⟨_, h⟩)
  · omega
  · exact List.lt_irrefl _ h
theorem ltP_tri {x y : Int × List Int} (h : ¬ ltP x y) (h2 : ¬ ltP y x) : x = y := by
  unfold ltP at *
  have e : x.1 = y.1 := by
    have a : ¬ x.1 < y.1 := fun z => h (.inl z)
    have b : ¬ y.1 < x.1 := fun z => h2 (.inl z)
    omega
  have e2 : x.2 = y.2 := List.le_antisymm (fun z => h2 (.inr ⟨e.symm, z⟩)) (fun z => h (.inr ⟨e, z⟩))
  exact Prod.ext e e2
/-- x ≤ y -/
def leP (x y : Int × List Int) : Prop := ¬ ltP y x
theorem leP_refl (x : Int × List Int) : leP x x := ltP_irrefl x
theorem leP_trans {x y z : Int × List Int} (h : leP x y) (h2 : leP y z) : leP x z := fun q => by
  by_cases h3 : ltP x y
  · exact h2 (ltP_trans q h3)
  · rw [ltP_tri h3 h] at q
    exact h2 q
theorem leP_of_lt {x y : Int × List Int} (h : ltP x y) : leP x y := fun q => ltP_irrefl _ (ltP_trans h q)
theorem leP_anti {x y : Int × List Int} (h : leP x y) (h2 : leP y x) : x = y := ltP_tri h2 h
theorem lt_app (z : List Int) : ∀ {a b : List Int}, a.length = b.length → (a ++ z < b ++ z ↔ a < b)
  | [], [], _ => by simp [List.lt_irrefl]
  | [], _ :: _, h => by simp at h
  | _ :: _, [], h => by simp at h
  | x :: a, y :: b, h => by
    rw [List.cons_append, List.cons_append, List.cons_lt_cons_iff, List.cons_lt_cons_iff, lt_app z (by simpa using h)]
theorem leP_shift {c d e : Int} {a b : List Int} (z : List Int) (h : a.length = b.length) : leP (c + e, a ++ z) (d + e, b ++ z) ↔ leP (c, a) (d, b) := by
  unfold leP ltP
  rw [lt_app z h.symm]
  constructor
  · intro q r
    refine q ?_
    rcases r with r | ⟨r1, r2⟩
    · exact .inl (by dsimp only at r ⊢; omega)
    · exact .inr ⟨by dsimp only at r1 ⊢; omega, r2⟩
  · intro q r
    refine q ?_
    rcases r with r | ⟨r1, r2⟩
    · exact .inl (by dsimp only at r ⊢; omega)
    · exact .inr ⟨by dsimp only at r1 ⊢; omega, r2⟩
/-! ### dicts over a type of keys -/
section
variable {κ ν : Type} [DecidableEq κ] (ek : κ → D) (ev : ν → D)
def encD (L : List (κ × ν)) : List (D × D) := L.map fun p => (ek p.1, ev p.2)
def look (L : List (κ × ν)) (k : κ) : Option ν := (L.find? fun p => decide (p.1 = k)).map (·.2)
def put (L : List (κ × ν)) (k : κ) (v : ν) : List (κ × ν) := if (L.any fun p => decide (p.1 = k)) = true then L.map (fun p => if p.1 = k then (p.1, v) else p) else L ++ [(k, v)]
variable {ek ev}
theorem look_enc (he : ∀ a b, keyEq (ek a) (ek b) = decide (a = b)) (k : κ) : ∀ L : List (κ × ν), lookD (encD ek ev L) (ek k) = (look L k).map ev
  | [] => rfl
  | p :: L => by
    have ih := look_enc he k L
    unfold lookD look encD at *
    rw [List.map_cons, List.find?_cons, List.find?_cons, he]
    cases decide (p.1 = k) with
    | true => rfl
    | false => exact ih
theorem any_enc (he : ∀ a b, keyEq (ek a) (ek b) = decide (a = b)) (k : κ) : ∀ L : List (κ × ν), ((encD ek ev L).any fun p => keyEq p.1 (ek k)) = L.any fun p => decide (p.1 = k)
  | [] => rfl
  | p :: L => by
    have ih := any_enc he k L
    unfold encD at *
    rw [List.map_cons, List.any_cons, List.any_cons, he, ih]
theorem put_enc (he : ∀ a b, keyEq (ek a) (ek b) = decide (a = b)) (k : κ) (v : ν) (L : List (κ × ν)) : putD (encD ek ev L) (ek k) (ev v) = encD ek ev (put L k v) := by
  unfold putD put
  rw [any_enc he]
  split
  · unfold encD
    rw [List.map_map, List.map_map]
    refine List.map_congr_left fun p _ => ?_
    show (if keyEq (ek p.1) (ek k) = true then (ek p.1, ev v) else (ek p.1, ev p.2)) = _
    rw [he]
    by_cases h : p.1 = k <;> simp [h]
  · unfold encD
    rw [List.map_append]
    rfl
theorem look_put (L : List (κ × ν)) (k j : κ) (v : ν) : look (put L k v) j = if j = k then some v else look L j := by
  unfold put
  by_cases h : (L.any fun p => decide (p.1 = k)) = true
  · rw [if_pos h]
    induction L with
    | nil => simp at h
    | cons p L ih =>
      unfold look at *
      rw [List.map_cons, List.find?_cons]
      by_cases e : p.1 = k
      · rw [if_pos e]
        by_cases e2 : j = k
        · simp [e, e2]
        · have e3 : ¬ p.1 = j := fun z => e2 (z.symm.trans e)
          simp only [e3, decide_false, if_neg e2, List.find?_cons]
          clear ih h
          induction L with
          | nil => rfl
          | cons q L ih =>
            rw [List.map_cons, List.find?_cons, List.find?_cons]
            by_cases e4 : q.1 = k
            · have e5 : ¬ q.1 = j := fun z => e2 (z.symm.trans e4)
              simp only [e4, if_true, show ¬ k = j from fun z => e2 z.symm, decide_false]
              exact ih
            · simp only [e4, if_false]
              cases decide (q.1 = j) with
              | true => rfl
              | false => exact ih
      · rw [if_neg e]
        have h' : (L.any fun p => decide (p.1 = k)) = true := by simpa [e] using h
        by_cases e2 : p.1 = j
        · have : ¬ j = k := fun z => e (e2.trans z)
          simp [e2, this]
        · simp only [e2, decide_false, List.find?_cons]
          exact ih h'
  · rw [if_neg h]
    unfold look
    rw [List.find?_append]
    by_cases e : j = k
    · have : (L.find? fun p => decide (p.1 = j)) = none := by
        rw [List.find?_eq_none]
        intro x hx hq
        exact h (List.any_eq_true.mpr ⟨x, hx, by rw [← e]; exact hq⟩)
      rw [this]
      simp [e]
    · cases q : L.find? fun p => decide (p.1 = j) with
      | some x => simp [e]
      | none => simp [e, Ne.symm e, show ¬ k = j from fun z => e z.symm]
theorem put_le (L : List (κ × ν)) (k : κ) (v : ν) : (put L k v).length ≤ L.length + 1 := by
  unfold put
  split
  · rw [List.length_map]; exact Nat.le_succ _
  · rw [List.length_append]; exact Nat.le_refl _
theorem put_keys (L : List (κ × ν)) (k : κ) (v : ν) (h : (L.map (·.1)).Nodup) : ((put L k v).map (·.1)).Nodup := by
  unfold put
  split
  · rw [List.map_map]
    have : L.map ((·.1) ∘ fun p => if p.1 = k then (p.1, v) else p) = L.map (·.1) := List.map_congr_left fun p _ => by
      show (if p.1 = k then (p.1, v) else p).1 = p.1
      split <;> rfl
    rw [this]
    exact h
  · rename_i hn
    rw [List.map_append, List.nodup_append]
    refine ⟨h, by simp, ?_⟩
    intro a ha b hb e
    obtain ⟨p, hp, rfl⟩ := List.mem_map.mp ha
    have : b = k := by simpa using hb
    exact hn (List.any_eq_true.mpr ⟨p, hp, by simp [e, this]⟩)
theorem look_mem : ∀ {L : List (κ × ν)} {p : κ × ν}, (L.map (·.1)).Nodup → p ∈ L → look L p.1 = some p.2
  | q :: L, p, hn, hp => by
    rw [List.map_cons, List.nodup_cons] at hn
    unfold look
    rw [List.find?_cons]
    rcases List.mem_cons.mp hp with rfl | hp
    · simp
    · have : ¬ q.1 = p.1 := fun z => hn.1 (z ▸ List.mem_map_of_mem (f := (·.1)) hp)
      simp only [this, decide_false]
      exact look_mem hn.2 hp
theorem mem_look {L : List (κ × ν)} {k : κ} {v : ν} (h : look L k = some v) : (k, v) ∈ L := by
  unfold look at h
  obtain ⟨p, hp, e⟩ := Option.map_eq_some_iff.mp h
  have h1 := List.mem_of_find?_eq_some hp
  have h2 := List.find?_some hp
  have h3 : p.1 = k := by simpa using h2
  rw [← h3, ← e]
  exact h1
theorem kinds_enc (hd : ∀ k, dkOk (ek k) = true) (L : List (κ × ν)) (k : κ) : kindOk (encD ek ev L) (ek k) = true := by
  unfold kindOk
  rw [Bool.or_eq_true, Bool.and_eq_true, Bool.and_eq_true]
  refine .inr ⟨hd k, List.all_eq_true.mpr fun p hp => ?_⟩
  obtain ⟨q, _, rfl⟩ := List.mem_map.mp hp
  exact hd q.1
end
end PD

namespace K17
open PySem PySem.Spec L2 PD
open PyProof.Rows (envOfC)

def topS (i : Nat) : Stmt := PySem.Challenge.pw_farcall_k17_running_codes.main.body.getD i (.Pass ⟨0, 0, 0, 0⟩)
abbrev s_bits_for : Stmt := topS 1
abbrev N_bits_for : List Str := ["taps", "state", "bit", "bits", "tap", "one", "other"]
theorem sc_bits_for : FnScope N_bits_for ["taps", "state", "bit"] (defScope s_bits_for) := ⟨rfl, rfl, rfl, by decide +kernel, rfl, by decide +kernel, by decide +kernel⟩
abbrev s_behind : Stmt := topS 2
abbrev N_behind : List Str := ["state", "bit"]
theorem sc_behind : FnScope N_behind ["state", "bit"] (defScope s_behind) := ⟨rfl, rfl, rfl, by decide +kernel, rfl, by decide +kernel, by decide +kernel⟩
abbrev s_run : Stmt := topS 3
abbrev N_run : List Str := ["taps", "bits", "state", "track", "bit"]
theorem sc_run : FnScope N_run ["taps", "bits"] (defScope s_run) := ⟨rfl, rfl, rfl, by decide +kernel, rfl, by decide +kernel, by decide +kernel⟩
abbrev s_apart : Stmt := topS 4
abbrev N_apart : List Str := ["one", "other", "bit", "more"]
theorem sc_apart : FnScope N_apart ["one", "other"] (defScope s_apart) := ⟨rfl, rfl, rfl, by decide +kernel, rfl, by decide +kernel, by decide +kernel⟩
abbrev s_nearest_bits : Stmt := topS 5
abbrev N_nearest_bits : List Str := ["taps", "heard", "many", "rest", "steps", "best", "step", "part", "later", "state", "cost", "bits", "bit", "told", "place"]
theorem sc_nearest_bits : FnScope N_nearest_bits ["taps", "heard"] (defScope s_nearest_bits) := ⟨rfl, rfl, rfl, by decide +kernel, rfl, by decide +kernel, by decide +kernel⟩
abbrev s__law_draw : Stmt := topS 7
theorem sc__law_draw : FnScope ["script"] ["script"] (defScope s__law_draw) := ⟨rfl, rfl, rfl, by decide +kernel, rfl, by decide +kernel, by decide +kernel⟩
abbrev s__law_next : Stmt := topS 8
abbrev N__law_next : List Str := ["draw", "many", "found", "cell"]
theorem sc__law_next : FnScope N__law_next ["draw", "many"] (defScope s__law_next) := ⟨rfl, rfl, rfl, by decide +kernel, rfl, by decide +kernel, by decide +kernel⟩
abbrev s__law_same : Stmt := topS 9
abbrev N__law_same : List Str := ["actual", "due", "k"]
theorem sc__law_same : FnScope N__law_same ["actual", "due"] (defScope s__law_same) := ⟨rfl, rfl, rfl, by decide +kernel, rfl, by decide +kernel, by decide +kernel⟩
abbrev s__law_all : Stmt := topS 10
abbrev N__law_all : List Str := ["size", "found", "k", "word"]
theorem sc__law_all : FnScope N__law_all ["size"] (defScope s__law_all) := ⟨rfl, rfl, rfl, by decide +kernel, rfl, by decide +kernel, by decide +kernel⟩
abbrev s__law_run : Stmt := topS 11
abbrev N__law_run : List Str := ["taps", "bits", "long", "found", "k", "tap", "i"]
theorem sc__law_run : FnScope N__law_run ["taps", "bits"] (defScope s__law_run) := ⟨rfl, rfl, rfl, by decide +kernel, rfl, by decide +kernel, by decide +kernel⟩
abbrev s__law_taps : Stmt := topS 12
abbrev N__law_taps : List Str := ["draw", "most", "long", "found", "k", "i", "tap"]
theorem sc__law_taps : FnScope N__law_taps ["draw", "most"] (defScope s__law_taps) := ⟨rfl, rfl, rfl, by decide +kernel, rfl, by decide +kernel, by decide +kernel⟩
abbrev s_law : Stmt := topS 13
abbrev N_law : List Str := ["script", "draw", "taps", "bits", "track", "heard", "best", "other", "apart_v", "k", "bit", "a", "b"]
theorem sc_law : FnScope N_law ["script"] (defScope s_law) := ⟨rfl, rfl, rfl, by decide +kernel, rfl, by decide +kernel, by decide +kernel⟩
structure Tx (K : PySem.W.Frag) (mg : Str → Option Value) where
  f_bits_for : Addr
  fd_bits_for : FuncData
  F_bits_for : Fun K "bits_for" "bits_for" s_bits_for f_bits_for fd_bits_for
  m_bits_for : mg "bits_for" = some (.ref f_bits_for)
  b_bits_for : L2.Binds K fd_bits_for ["taps", "state", "bit"] []
  f_behind : Addr
  fd_behind : FuncData
  F_behind : Fun K "behind" "behind" s_behind f_behind fd_behind
  m_behind : mg "behind" = some (.ref f_behind)
  b_behind : L2.Binds K fd_behind ["state", "bit"] []
  f_run : Addr
  fd_run : FuncData
  F_run : Fun K "run" "run" s_run f_run fd_run
  m_run : mg "run" = some (.ref f_run)
  b_run : L2.Binds K fd_run ["taps", "bits"] []
  f_apart : Addr
  fd_apart : FuncData
  F_apart : Fun K "apart" "apart" s_apart f_apart fd_apart
  m_apart : mg "apart" = some (.ref f_apart)
  b_apart : L2.Binds K fd_apart ["one", "other"] []
  f_nearest_bits : Addr
  fd_nearest_bits : FuncData
  F_nearest_bits : Fun K "nearest_bits" "nearest_bits" s_nearest_bits f_nearest_bits fd_nearest_bits
  m_nearest_bits : mg "nearest_bits" = some (.ref f_nearest_bits)
  b_nearest_bits : L2.Binds K fd_nearest_bits ["taps", "heard"] []
  f__law_draw : Addr
  fd__law_draw : FuncData
  F__law_draw : Fun K "_law_draw" "_law_draw" s__law_draw f__law_draw fd__law_draw
  m__law_draw : mg "_law_draw" = some (.ref f__law_draw)
  b__law_draw : L2.Binds K fd__law_draw ["script"] []
  f__law_next : Addr
  fd__law_next : FuncData
  F__law_next : Fun K "_law_next" "_law_next" s__law_next f__law_next fd__law_next
  m__law_next : mg "_law_next" = some (.ref f__law_next)
  b__law_next : L2.Binds K fd__law_next ["draw", "many"] []
  f__law_same : Addr
  fd__law_same : FuncData
  F__law_same : Fun K "_law_same" "_law_same" s__law_same f__law_same fd__law_same
  m__law_same : mg "_law_same" = some (.ref f__law_same)
  b__law_same : L2.Binds K fd__law_same ["actual", "due"] []
  f__law_all : Addr
  fd__law_all : FuncData
  F__law_all : Fun K "_law_all" "_law_all" s__law_all f__law_all fd__law_all
  m__law_all : mg "_law_all" = some (.ref f__law_all)
  b__law_all : L2.Binds K fd__law_all ["size"] []
  f__law_run : Addr
  fd__law_run : FuncData
  F__law_run : Fun K "_law_run" "_law_run" s__law_run f__law_run fd__law_run
  m__law_run : mg "_law_run" = some (.ref f__law_run)
  b__law_run : L2.Binds K fd__law_run ["taps", "bits"] []
  f__law_taps : Addr
  fd__law_taps : FuncData
  F__law_taps : Fun K "_law_taps" "_law_taps" s__law_taps f__law_taps fd__law_taps
  m__law_taps : mg "_law_taps" = some (.ref f__law_taps)
  b__law_taps : L2.Binds K fd__law_taps ["draw", "most"] []
  f_law : Addr
  fd_law : FuncData
  F_law : Fun K "law" "law" s_law f_law fd_law
  m_law : mg "law" = some (.ref f_law)
  b_law : L2.Binds K fd_law ["script"] []
  z_abs : mg "abs" = none
  z_all : mg "all" = none
  z_any : mg "any" = none
  z_bool : mg "bool" = none
  z_int : mg "int" = none
  z_isinstance : mg "isinstance" = none
  z_len : mg "len" = none
  z_list : mg "list" = none
  z_range : mg "range" = none
  z_sorted : mg "sorted" = none
  z_str : mg "str" = none
  z_sum : mg "sum" = none
  z_tuple : mg "tuple" = none
  z_zip : mg "zip" = none
noncomputable def g_bits_for : Fst := (sSeq (sAsg (fOp mAdd (fTup (fCons (fV 2) fNil)) (fV 1)) (fNm 3))
    (sRet (fB mTuple (fCons (fLc [4] (fSeqD (fV 0)) (fNm 4) fYes (fOp mMod (fB mSum (fCons (fLc [5, 6] (fZip (fCons (fV 4) (fCons (fV 3) fNil))) (fTp (fGc (fNm 5) (fGc (fNm 6) fGn))) fYes (fOp mMul (fV 5) (fV 6))) fNil)) (fC (.i 2)))) fNil))))
noncomputable def M_bits_for : Fn := runB 7 3 g_bits_for
noncomputable def g_behind : Fst := (sRet (fSl (fOp mAdd (fTup (fCons (fV 1) fNil)) (fV 0)) fNoP (fP (fB mLen (fCons (fV 0) fNil)))))
noncomputable def M_behind : Fn := runB 2 2 g_behind
noncomputable def g_run : Fst := (sSeq (sAsg (fOp mMul (fTup (fCons (fC (.i 0)) fNil)) (fOp mSub (fB mLen (fCons (fOp mIxD (fV 0) (fC (.i 0))) fNil)) (fC (.i 1)))) (fNm 2))
    (sSeq (sAsg (fTup fNil) (fNm 3))
    (sSeq (sFor (fSeqD (fOp mAdd (fV 1) (fV 2))) (fNm 4) (sSeq (sAsg (fOp mAdd (fV 3) (fFn M_bits_for 3 (fCons (fV 0) (fCons (fV 2) (fCons (fV 4) fNil))))) (fNm 3))
    (sAsg (fFn M_behind 2 (fCons (fV 2) (fCons (fV 4) fNil))) (fNm 2))))
    (sRet (fV 3)))))
noncomputable def M_run : Fn := runB 5 2 g_run
noncomputable def g_apart : Fst := (sRet (fB mLen (fCons (fLc [2, 3] (fZip (fCons (fV 0) (fCons (fV 1) fNil))) (fTp (fGc (fNm 2) (fGc (fNm 3) fGn))) (fTst (fOp mNe (fV 2) (fV 3))) (fC (.i 1))) fNil)))
noncomputable def M_apart : Fn := runB 4 2 g_apart
noncomputable def g_nearest_bits : Fst := (sSeq (sPar 2 3 (fCons (fB mLen (fCons (fV 0) fNil)) (fCons (fOp mSub (fB mLen (fCons (fOp mIxD (fV 0) (fC (.i 0))) fNil)) (fC (.i 1))) fNil)))
    (sSeq (sAsg (fOp mFdiv (fB mLen (fCons (fV 1) fNil)) (fV 2)) (fNm 4))
    (sSeq (sAsg (fDic (fPc (fOp mMul (fTup (fCons (fC (.i 0)) fNil)) (fV 3)) (fTup (fCons (fC (.i 0)) (fCons (fTup fNil) fNil))) fPn)) (fNm 5))
    (sSeq (sFor (fRng (mRng1 false) (fCons (fV 4) fNil)) (fNm 6) (sSeq (sAsg (fSl (fV 1) (fP (fOp mMul (fV 6) (fV 2))) (fP (fOp mMul (fOp mAdd (fV 6) (fC (.i 1))) (fV 2)))) (fNm 7))
    (sSeq (sOwn 8 fDic0)
    (sSeq (sFor (fItems (fV 5)) (fTp (fGc (fNm 9) (fGc (fTp (fGc (fNm 10) (fGc (fNm 11) fGn))) fGn))) (sFor (fSeqD (fIf (fTst (fOp mLt (fV 6) (fOp mSub (fV 4) (fV 3)))) (fTup (fCons (fC (.i 0)) (fCons (fC (.i 1)) fNil))) (fTup (fCons (fC (.i 0)) fNil)))) (fNm 12) (sSeq (sAsg (fTup (fCons (fOp mAdd (fV 10) (fFn M_apart 2 (fCons (fFn M_bits_for 3 (fCons (fV 0) (fCons (fV 9) (fCons (fV 12) fNil)))) (fCons (fV 7) fNil)))) (fCons (fOp mAdd (fV 11) (fTup (fCons (fV 12) fNil))) fNil))) (fNm 13))
    (sSeq (sAsg (fFn M_behind 2 (fCons (fV 9) (fCons (fV 12) fNil))) (fNm 14))
    (sIf (fOr (fTst (fOp mNotInD (fV 14) (fO 8))) (fTst (fOp mLt (fV 13) (fOp mIxD (fO 8) (fV 14))))) (sSetD 8 (fV 13) (fV 14)) sNil)))))
    (sAsg (fZ 8) (fNm 5))))))
    (sSeq (sAsg (fOp mIxD (fV 5) (fOp mMul (fTup (fCons (fC (.i 0)) fNil)) (fV 3))) (fTp (fGc (fNm 10) (fGc (fNm 11) fGn))))
    (sRet (fTup (fCons (fV 10) (fCons (fSl (fV 11) fNoP (fP (fOp mSub (fV 4) (fV 3)))) fNil)))))))))
noncomputable def M_nearest_bits : Fn := runB 15 2 g_nearest_bits
abbrev M__law_draw : Fn := F_draw
noncomputable def g__law_next : Fst := (sSeq (sIf (fTst (fOp mGt (fDr 0 2) (fC (.i 0)))) (sSeq (sAsg (fOp mMod (fB mInt (fCons (fDr 0 2) fNil)) (fV 1)) (fNm 2))
    (sSeq (sDr 0 2 (fOp mFdiv (fDr 0 2) (fV 1)))
    (sRet (fV 2)))) sNil)
    (sSeq (sIf (fTst (fOp mLt (fDr 0 1) (fB mLen (fCons (fDr 0 0) fNil)))) (sSeq (sAsg (fB mAbs (fCons (fOp mIxD (fDr 0 0) (fDr 0 1)) fNil)) (fNm 3))
    (sSeq (sDr 0 1 (fOp mAdd (fDr 0 1) (fC (.i 1))))
    (sSeq (sIf (fTst (fOp mGe (fV 3) (fOp mPow (fC (.i 10)) (fC (.i 18))))) (sSeq (sDr 0 2 (fOp mFdiv (fV 3) (fV 1)))
    (sRet (fOp mMod (fB mInt (fCons (fV 3) fNil)) (fV 1)))) sNil)
    (sDr 0 3 (fOp mMod (fB mInt (fCons (fOp mAdd (fOp mAdd (fOp mMul (fDr 0 3) (fC (.i 48271))) (fV 3)) (fC (.i 11))) fNil)) (fC (.i 2147483647))))))) (sDr 0 3 (fOp mMod (fB mInt (fCons (fOp mAdd (fOp mMul (fDr 0 3) (fC (.i 48271))) (fC (.i 12345))) fNil)) (fC (.i 2147483647)))))
    (sRet (fOp mMod (fOp mFdiv (fB mInt (fCons (fOp mMod (fOp mMul (fDr 0 3) (fC (.i 69621))) (fC (.i 2147483629))) fNil)) (fC (.i 7))) (fV 1)))))
noncomputable def M__law_next : Fn := runB 4 2 g__law_next
noncomputable def g__law_same (R : Fn) : Fst := (sSeq (sIf (fTru (fUn (mIsi2 "list" "tuple") (fV 1))) (sSeq (sIf (fOr (fTst (fOp mNe (fUn (mIsi "list") (fV 1)) (fUn (mIsi "list") (fV 0)))) (fTst (fOp mNe (fUn (mIsi "tuple") (fV 1)) (fUn (mIsi "tuple") (fV 0))))) (sRet (fC (.b false))) sNil)
    (sSeq (sIf (fTst (fOp mNe (fB mLen (fCons (fV 0) fNil)) (fB mLen (fCons (fV 1) fNil)))) (sRet (fC (.b false))) sNil)
    (sRet (fB mAll (fCons (fLc [2] (fRng (mRng1 true) (fCons (fB mLen (fCons (fV 1) fNil)) fNil)) (fNm 2) fYes (fFn R 2 (fCons (fOp mIxD (fV 0) (fV 2)) (fCons (fOp mIxD (fV 1) (fV 2)) fNil)))) fNil))))) sNil)
    (sSeq (sIf (fTst (fOp mIs (fV 1) (fC .n))) (sRet (fOp mIs (fV 0) (fC .n))) sNil)
    (sSeq (sIf (fTst (fOp mNe (fUn (mIsi "bool") (fV 1)) (fUn (mIsi "bool") (fV 0)))) (sRet (fC (.b false))) sNil)
    (sSeq (sIf (fTru (fUn (mIsi "str") (fV 1))) (sRet (fAndV (fUn (mIsi "str") (fV 0)) (fOp mEq (fV 0) (fV 1)))) sNil)
    (sRet (fAndV (fUn (mIsi "int") (fV 0)) (fOp mEq (fV 0) (fV 1))))))))
noncomputable def M__law_same : Nat → Fn
  | 0 => fun _ _ => none
  | n + 1 => runB 3 2 (g__law_same (M__law_same n))
noncomputable def g__law_all : Fst := (sSeq (sAsg (fLst (fCons (fTup fNil) fNil)) (fNm 1))
    (sSeq (sFor (fRng (mRng1 false) (fCons (fV 0) fNil)) (fNm 2) (sAsg (fOp mAdd (fLc [3] (fSeqD (fV 1)) (fNm 3) fYes (fOp mAdd (fV 3) (fTup (fCons (fC (.i 0)) fNil)))) (fLc [3] (fSeqD (fV 1)) (fNm 3) fYes (fOp mAdd (fV 3) (fTup (fCons (fC (.i 1)) fNil))))) (fNm 1)))
    (sRet (fB mSortedA (fCons (fV 1) fNil)))))
noncomputable def M__law_all : Fn := runB 4 1 g__law_all
noncomputable def g__law_run : Fst := (sSeq (sParO 2 3 (fB mLen (fCons (fOp mIxD (fV 0) (fC (.i 0))) fNil)) (fLst fNil))
    (sSeq (sAsg (fOp mAdd (fV 1) (fOp mMul (fTup (fCons (fC (.i 0)) fNil)) (fOp mSub (fV 2) (fC (.i 1))))) (fNm 1))
    (sSeq (sFor (fRng (mRng1 false) (fCons (fB mLen (fCons (fV 1) fNil)) fNil)) (fNm 4) (sFor (fSeqD (fV 0)) (fNm 5) (sApp 3 (fOp mMod (fB mSum (fCons (fLc [6] (fRng (mRng1 true) (fCons (fV 2) fNil)) (fNm 6) (fTst (fOp mLe (fV 6) (fV 4))) (fOp mMul (fOp mIxD (fV 5) (fV 6)) (fOp mIxD (fV 1) (fOp mSub (fV 4) (fV 6))))) fNil)) (fC (.i 2))))))
    (sRet (fB mTuple (fCons (fO 3) fNil))))))
noncomputable def M__law_run : Fn := runB 7 2 g__law_run
noncomputable def g__law_taps : Fst := (sSeq (sParO 2 3 (fOp mAdd (fC (.i 1)) (fFn M__law_next 2 (fCons (fV 0) (fCons (fV 1) fNil)))) (fLst fNil))
    (sSeq (sFor (fRng (mRng1 false) (fCons (fOp mAdd (fC (.i 1)) (fFn M__law_next 2 (fCons (fV 0) (fCons (fC (.i 3)) fNil)))) fNil)) (fNm 4) (sApp 3 (fB mTuple (fCons (fLc [5] (fRng (mRng1 true) (fCons (fV 2) fNil)) (fNm 5) fYes (fFn M__law_next 2 (fCons (fV 0) (fCons (fC (.i 2)) fNil)))) fNil))))
    (sSeq (sIf (fNot (fTru (fB mAny (fCons (fLc [6] (fSeqO (fO 3)) (fNm 6) fYes (fOp mGt (fB mSum (fCons (fV 6) fNil)) (fC (.i 0)))) fNil)))) (sSet 3 (fOp mAdd (fTup (fCons (fC (.i 1)) fNil)) (fSl (fOp mIxD (fO 3) (fC (.i 0))) (fP (fC (.i 1))) fNoP)) (fC (.i 0))) sNil)
    (sRet (fB mTuple (fCons (fO 3) fNil))))))
noncomputable def M__law_taps : Fn := runB 7 2 g__law_taps
noncomputable def g_law : Fst := (sSeq (sAsg (fFn M__law_draw 1 (fCons (fV 0) fNil)) (fNm 1))
    (sSeq (sAsg (fFn M__law_taps 2 (fCons (fV 1) (fCons (fC (.i 4)) fNil))) (fNm 2))
    (sSeq (sAsg (fB mTuple (fCons (fLc [9] (fRng (mRng1 true) (fCons (fFn M__law_next 2 (fCons (fV 1) (fCons (fC (.i 7)) fNil))) fNil)) (fNm 9) fYes (fFn M__law_next 2 (fCons (fV 1) (fCons (fC (.i 2)) fNil)))) fNil)) (fNm 3))
    (sSeq (sAsg (fFn M__law_run 2 (fCons (fV 2) (fCons (fV 3) fNil))) (fNm 4))
    (sSeq (sIf (fNot (fTru (fFn (M__law_same 8) 2 (fCons (fFn M_run 2 (fCons (fV 2) (fCons (fV 3) fNil))) (fCons (fV 4) fNil))))) (sRet (fC (.b false))) sNil)
    (sSeq (sAsg (fB mTuple (fCons (fLc [10] (fSeqD (fV 4)) (fNm 10) fYes (fIf (fTst (fOp mEq (fFn M__law_next 2 (fCons (fV 1) (fCons (fC (.i 5)) fNil))) (fC (.i 0)))) (fOp mSub (fC (.i 1)) (fV 10)) (fV 10))) fNil)) (fNm 5))
    (sSeq (sAsg (fC .n) (fNm 6))
    (sSeq (sFor (fSeqD (fFn M__law_all 1 (fCons (fB mLen (fCons (fV 3) fNil)) fNil))) (fNm 7) (sSeq (sAsg (fB mSum (fCons (fLc [11, 12] (fZip (fCons (fFn M__law_run 2 (fCons (fV 2) (fCons (fV 7) fNil))) (fCons (fV 5) fNil))) (fTp (fGc (fNm 11) (fGc (fNm 12) fGn))) (fTst (fOp mNe (fV 11) (fV 12))) (fC (.i 1))) fNil)) (fNm 8))
    (sIf (fOr (fTst (fOp mIs (fV 6) (fC .n))) (fTst (fOp mLt (fTup (fCons (fV 8) (fCons (fV 7) fNil))) (fV 6)))) (sAsg (fTup (fCons (fV 8) (fCons (fV 7) fNil))) (fNm 6)) sNil)))
    (sRet (fFn (M__law_same 8) 2 (fCons (fFn M_nearest_bits 2 (fCons (fV 2) (fCons (fV 5) fNil))) (fCons (fV 6) fNil))))))))))))
noncomputable def M_law : Fn := runB 13 1 g_law
section
variable {P : Program} {w : World} {K : PySem.W.Frag} {mg : Str → Option Value} {base : Heap}
theorem ok_bits_for (T : Tx K mg) : FnOk P w K mg base CX0 1 T.f_bits_for T.fd_bits_for ["taps", "state", "bit"] (spD 3 ⟨K, P, w⟩ M_bits_for) :=
  def_ok T.F_bits_for sc_bits_for fun cdv A outer s H E hr => (sts_cons (st_asg (pd_op op_mAdd (pdo (pd_tup (pds_cons (pd_v 2) pds_nil))) (pdo (pd_v 1))) (pdg_n 3 sc_bits_for.nd))
    (sts_one (st_ret (pd_ty cr_mTuple T.z_tuple (by decide +kernel) (pdo_cons (pdo (pdn (pd_lc rfl sc_bits_for.nd (pdi_seqD (bd := true) (pd_v 0)) (blkOk_by (own := [("tap", 4)]) (by show blkC N_bits_for (defScope s_bits_for) _ _ = true; decide +kernel)) (fun _ _ _ _ _ => (pdg_n 4 sc_bits_for.nd)) (fun _ _ _ _ _ => pdts_nil) (fun _ _ _ _ _ => (pd_op op_mMod (pdo (pd_b (cr_mSum rfl) T.z_sum (by decide +kernel) (pdo_cons (pdo (pdn (pd_lc rfl sc_bits_for.nd (pdi_zip (bd := true) T.z_zip (pds_cons (pd_v 4) (pds_cons (pd_v 3) pds_nil))) (blkOk_by (own := [("one", 5), ("other", 6)]) (by show blkC N_bits_for (relS _ (defScope s_bits_for)) _ _ = true; decide +kernel)) (fun _ _ _ _ _ => (pdg_t rfl (pdgs_cons (pdg_n 5 sc_bits_for.nd) (pdgs_cons (pdg_n 6 sc_bits_for.nd) pdgs_nil)))) (fun _ _ _ _ _ => pdts_nil) (fun _ _ _ _ _ => (pd_op op_mMul (pdo (pd_v 5)) (pdo (pd_v 6))))))) pdo_nil))) (pdo pd_int)))))) pdo_nil)))))
theorem ok_behind (T : Tx K mg) : FnOk P w K mg base CX0 1 T.f_behind T.fd_behind ["state", "bit"] (spD 2 ⟨K, P, w⟩ M_behind) :=
  def_ok T.F_behind sc_behind fun cdv A outer s H E hr => (sts_one (st_ret (pd_sl (pdo (pd_op op_mAdd (pdo (pd_tup (pds_cons (pd_v 1) pds_nil))) (pdo (pd_v 0)))) pp_no (pp_some (pdo (pd_b cr_mLen T.z_len (by decide +kernel) (pdo_cons (pdo (pd_v 0)) pdo_nil)))))))
theorem ok_run (T : Tx K mg) : FnOk P w K mg base CX0 2 T.f_run T.fd_run ["taps", "bits"] (spD 2 ⟨K, P, w⟩ M_run) :=
  def_ok T.F_run sc_run fun cdv A outer s H E hr => (sts_cons (st_asg (pd_op op_mMul (pdo (pd_tup (pds_cons pd_int pds_nil))) (pdo (pd_op op_mSub (pdo (pd_b cr_mLen T.z_len (by decide +kernel) (pdo_cons (pdo (pd_ixD (hu_room hr) (pdo (pd_v 0)) (pdo pd_int))) pdo_nil))) (pdo pd_int)))) (pdg_n 2 sc_run.nd))
    (sts_cons (st_asg (pd_tup pds_nil) (pdg_n 3 sc_run.nd))
    (sts_cons (st_for PassesOwn.never rfl (pdi_seqD (bd := false) (pd_op op_mAdd (pdo (pd_v 1)) (pdo (pd_v 2)))) (pdg_n 4 sc_run.nd) (sts_cons (st_asg (pd_op op_mAdd (pdo (pd_v 3)) (pdo (pd_fn (ok_bits_for T) (hr.mono (by decide)) T.m_bits_for T.F_bits_for.kp T.b_bits_for (pds_cons (pd_v 0) (pds_cons (pd_v 2) (pds_cons (pd_v 4) pds_nil)))))) (pdg_n 3 sc_run.nd))
    (sts_one (st_asg (pd_fn (ok_behind T) (hr.mono (by decide)) T.m_behind T.F_behind.kp T.b_behind (pds_cons (pd_v 2) (pds_cons (pd_v 4) pds_nil))) (pdg_n 2 sc_run.nd)))))
    (sts_one (st_ret (pd_v 3))))))
theorem ok_apart (T : Tx K mg) : FnOk P w K mg base CX0 1 T.f_apart T.fd_apart ["one", "other"] (spD 2 ⟨K, P, w⟩ M_apart) :=
  def_ok T.F_apart sc_apart fun cdv A outer s H E hr => (sts_one (st_ret (pd_b cr_mLen T.z_len (by decide +kernel) (pdo_cons (pdo (pdn (pd_lc rfl sc_apart.nd (pdi_zip (bd := true) T.z_zip (pds_cons (pd_v 0) (pds_cons (pd_v 1) pds_nil))) (blkOk_by (own := [("bit", 2), ("more", 3)]) (by show blkC N_apart (defScope s_apart) _ _ = true; decide +kernel)) (fun _ _ _ _ _ => (pdg_t rfl (pdgs_cons (pdg_n 2 sc_apart.nd) (pdgs_cons (pdg_n 3 sc_apart.nd) pdgs_nil)))) (fun _ _ _ _ _ => (pdts_one (pt_c (op_mNe (hu_room hr)) (pdo (pd_v 2)) (pdo (pd_v 3))))) (fun _ _ _ _ _ => pd_int)))) pdo_nil))))
theorem ok_nearest_bits (T : Tx K mg) : FnOk P w K mg base CX0 2 T.f_nearest_bits T.fd_nearest_bits ["taps", "heard"] (spD 2 ⟨K, P, w⟩ M_nearest_bits) :=
  def_ok T.F_nearest_bits sc_nearest_bits fun cdv A outer s H E hr => (sts_cons (st_par 2 3 rfl sc_nearest_bits.nd (pds_cons (pd_b cr_mLen T.z_len (by decide +kernel) (pdo_cons (pdo (pd_v 0)) pdo_nil)) (pds_cons (pd_op op_mSub (pdo (pd_b cr_mLen T.z_len (by decide +kernel) (pdo_cons (pdo (pd_ixD (hu_room hr) (pdo (pd_v 0)) (pdo pd_int))) pdo_nil))) (pdo pd_int)) pds_nil)))
    (sts_cons (st_asg (pd_op op_mFdiv (pdo (pd_b cr_mLen T.z_len (by decide +kernel) (pdo_cons (pdo (pd_v 1)) pdo_nil))) (pdo (pd_v 2))) (pdg_n 4 sc_nearest_bits.nd))
    (sts_cons (st_asg (pdn (pn_dic (hu_room hr) (ppd_cons (pd_op op_mMul (pdo (pd_tup (pds_cons pd_int pds_nil))) (pdo (pd_v 3))) (pd_tup (pds_cons pd_int (pds_cons (pd_tup pds_nil) pds_nil))) ppd_nil))) (pdg_n 5 sc_nearest_bits.nd))
    (sts_cons (st_for PassesOwn.never rfl (pdi_rng1 (bd := false) T.z_range (pds_cons (pd_v 4) pds_nil)) (pdg_n 6 sc_nearest_bits.nd) (sts_cons (st_asg (pd_sl (pdo (pd_v 1)) (pp_some (pdo (pd_op op_mMul (pdo (pd_v 6)) (pdo (pd_v 2))))) (pp_some (pdo (pd_op op_mMul (pdo (pd_op op_mAdd (pdo (pd_v 6)) (pdo pd_int))) (pdo (pd_v 2)))))) (pdg_n 7 sc_nearest_bits.nd))
    (sts_cons (st_own 8 sc_nearest_bits.nd pn_dic0)
    (sts_cons (st_for PassesOwn.never rfl (pdi_items (bd := false) (pd_v 5)) (pdg_t rfl (pdgs_cons (pdg_n 9 sc_nearest_bits.nd) (pdgs_cons (pdg_t rfl (pdgs_cons (pdg_n 10 sc_nearest_bits.nd) (pdgs_cons (pdg_n 11 sc_nearest_bits.nd) pdgs_nil))) pdgs_nil))) (sts_one (st_for PassesOwn.never rfl (pdi_seqD (bd := false) (pd_if (pt_c (op_mLt (hu_room hr)) (pdo (pd_v 6)) (pdo (pd_op op_mSub (pdo (pd_v 4)) (pdo (pd_v 3))))) (pd_tup (pds_cons pd_int (pds_cons pd_int pds_nil))) (pd_tup (pds_cons pd_int pds_nil)))) (pdg_n 12 sc_nearest_bits.nd) (sts_cons (st_asg (pd_tup (pds_cons (pd_op op_mAdd (pdo (pd_v 10)) (pdo (pd_fn (ok_apart T) (hr.mono (by decide)) T.m_apart T.F_apart.kp T.b_apart (pds_cons (pd_fn (ok_bits_for T) (hr.mono (by decide)) T.m_bits_for T.F_bits_for.kp T.b_bits_for (pds_cons (pd_v 0) (pds_cons (pd_v 9) (pds_cons (pd_v 12) pds_nil)))) (pds_cons (pd_v 7) pds_nil))))) (pds_cons (pd_op op_mAdd (pdo (pd_v 11)) (pdo (pd_tup (pds_cons (pd_v 12) pds_nil)))) pds_nil))) (pdg_n 13 sc_nearest_bits.nd))
    (sts_cons (st_asg (pd_fn (ok_behind T) (hr.mono (by decide)) T.m_behind T.F_behind.kp T.b_behind (pds_cons (pd_v 9) (pds_cons (pd_v 12) pds_nil))) (pdg_n 14 sc_nearest_bits.nd))
    (sts_one (st_if (pdw (pd_or (pt_c (op_mNotInD (hu_room hr)) (pdo (pd_v 14)) (pd_o 8)) (pd_or1 (pt_c (op_mLt (hu_room hr)) (pdo (pd_v 13)) (pdo (pd_ixD (hu_room hr) (pd_o 8) (pdo (pd_v 14)))))))) (sts_one (st_setD (hu_room hr) 8 (pd_v 13) (pd_v 14))) sts_nil)))))))
    (sts_one (st_asg (pd_z 8) (pdg_n 5 sc_nearest_bits.nd)))))))
    (sts_cons (st_asg (pd_ixD (hu_room hr) (pdo (pd_v 5)) (pdo (pd_op op_mMul (pdo (pd_tup (pds_cons pd_int pds_nil))) (pdo (pd_v 3))))) (pdg_t rfl (pdgs_cons (pdg_n 10 sc_nearest_bits.nd) (pdgs_cons (pdg_n 11 sc_nearest_bits.nd) pdgs_nil))))
    (sts_one (st_ret (pd_tup (pds_cons (pd_v 10) (pds_cons (pd_sl (pdo (pd_v 11)) pp_no (pp_some (pdo (pd_op op_mSub (pdo (pd_v 4)) (pdo (pd_v 3)))))) pds_nil))))))))))
theorem ok__law_draw (T : Tx K mg) : FnOk P w K mg base CX0 1 T.f__law_draw T.fd__law_draw ["script"] (spD 1 ⟨K, P, w⟩ M__law_draw) :=
  draw_ok T.F__law_draw sc__law_draw fun cdv A outer s H E => pss_one (ps_ret (pe_lst (pa_cons (pe_callTy call_list_of (by rfl) T.z_list (by decide +kernel) (pa_cons (pv 0) pa_nil)) (pa_cons pe_int (pa_cons pe_int (pa_cons pe_int pa_nil))))))
theorem ok__law_next (T : Tx K mg) : FnOk P w K mg base CX0 1 T.f__law_next T.fd__law_next ["draw", "many"] (spD 2 ⟨K, P, w⟩ M__law_next) :=
  def_ok T.F__law_next sc__law_next fun cdv A outer s H E hr => (sts_cons (st_if (pt_c (op_mGt (hu_room hr)) (pdo (pd_dr 0 2)) (pdo pd_int)) (sts_cons (st_asg (pd_op op_mMod (pdo (pd_ty cr_mInt T.z_int (by decide +kernel) (pdo_cons (pdo (pd_dr 0 2)) pdo_nil))) (pdo (pd_v 1))) (pdg_n 2 sc__law_next.nd))
    (sts_cons (st_dr 0 2 (pd_op op_mFdiv (pdo (pd_dr 0 2)) (pdo (pd_v 1))))
    (sts_one (st_ret (pd_v 2))))) sts_nil)
    (sts_cons (st_if (pt_c (op_mLt (hu_room hr)) (pdo (pd_dr 0 1)) (pdo (pd_b cr_mLen T.z_len (by decide +kernel) (pdo_cons (pdo (pd_dr 0 0)) pdo_nil)))) (sts_cons (st_asg (pd_b cr_mAbs T.z_abs (by decide +kernel) (pdo_cons (pdo (pd_ixD (hu_room hr) (pdo (pd_dr 0 0)) (pdo (pd_dr 0 1)))) pdo_nil)) (pdg_n 3 sc__law_next.nd))
    (sts_cons (st_dr 0 1 (pd_op op_mAdd (pdo (pd_dr 0 1)) (pdo pd_int)))
    (sts_cons (st_if (pt_c (op_mGe (hu_room hr)) (pdo (pd_v 3)) (pdo (pd_op op_mPow (pdo pd_int) (pdo pd_int)))) (sts_cons (st_dr 0 2 (pd_op op_mFdiv (pdo (pd_v 3)) (pdo (pd_v 1))))
    (sts_one (st_ret (pd_op op_mMod (pdo (pd_ty cr_mInt T.z_int (by decide +kernel) (pdo_cons (pdo (pd_v 3)) pdo_nil))) (pdo (pd_v 1)))))) sts_nil)
    (sts_one (st_dr 0 3 (pd_op op_mMod (pdo (pd_ty cr_mInt T.z_int (by decide +kernel) (pdo_cons (pdo (pd_op op_mAdd (pdo (pd_op op_mAdd (pdo (pd_op op_mMul (pdo (pd_dr 0 3)) (pdo pd_int))) (pdo (pd_v 3)))) (pdo pd_int))) pdo_nil))) (pdo pd_int))))))) (sts_one (st_dr 0 3 (pd_op op_mMod (pdo (pd_ty cr_mInt T.z_int (by decide +kernel) (pdo_cons (pdo (pd_op op_mAdd (pdo (pd_op op_mMul (pdo (pd_dr 0 3)) (pdo pd_int))) (pdo pd_int))) pdo_nil))) (pdo pd_int)))))
    (sts_one (st_ret (pd_op op_mMod (pdo (pd_op op_mFdiv (pdo (pd_ty cr_mInt T.z_int (by decide +kernel) (pdo_cons (pdo (pd_op op_mMod (pdo (pd_op op_mMul (pdo (pd_dr 0 3)) (pdo pd_int))) (pdo pd_int))) pdo_nil))) (pdo pd_int))) (pdo (pd_v 1)))))))
theorem ok__law_same (T : Tx K mg) : ∀ n : Nat, FnOk P w K mg base CX0 (n + 1) T.f__law_same T.fd__law_same ["actual", "due"] (spD 2 ⟨K, P, w⟩ (M__law_same n))
  | 0 => fn_none
  | n + 1 => by
    have ih := ok__law_same T n
    exact def_ok T.F__law_same sc__law_same fun cdv A outer s H E hr => (sts_cons (st_if (pt_tr (pdo (pd_isi2 (T := "list") (U := "tuple") (by decide) (by decide) T.z_isinstance T.z_list (by decide +kernel) T.z_tuple (by decide +kernel) (pdo (pd_v 1))))) (sts_cons (st_if (pdw (pd_or (pt_c (op_mNe (hu_room hr)) (pdo (pd_isi (T := "list") (by decide) T.z_isinstance T.z_list (by decide +kernel) (pdo (pd_v 1)))) (pdo (pd_isi (T := "list") (by decide) T.z_isinstance T.z_list (by decide +kernel) (pdo (pd_v 0))))) (pd_or1 (pt_c (op_mNe (hu_room hr)) (pdo (pd_isi (T := "tuple") (by decide) T.z_isinstance T.z_tuple (by decide +kernel) (pdo (pd_v 1)))) (pdo (pd_isi (T := "tuple") (by decide) T.z_isinstance T.z_tuple (by decide +kernel) (pdo (pd_v 0)))))))) (sts_one (st_ret pd_bl)) sts_nil)
    (sts_cons (st_if (pt_c (op_mNe (hu_room hr)) (pdo (pd_b cr_mLen T.z_len (by decide +kernel) (pdo_cons (pdo (pd_v 0)) pdo_nil))) (pdo (pd_b cr_mLen T.z_len (by decide +kernel) (pdo_cons (pdo (pd_v 1)) pdo_nil)))) (sts_one (st_ret pd_bl)) sts_nil)
    (sts_one (st_ret (pd_b (cr_mAll rfl) T.z_all (by decide +kernel) (pdo_cons (pdo (pdn (pd_lc rfl sc__law_same.nd (pdi_rng1 (bd := true) T.z_range (pds_cons (pd_b cr_mLen T.z_len (by decide +kernel) (pdo_cons (pdo (pd_v 1)) pdo_nil)) pds_nil)) (blkOk_by (own := [("k", 2)]) (by show blkC N__law_same (defScope s__law_same) _ _ = true; decide +kernel)) (fun _ _ _ _ _ => (pdg_n 2 sc__law_same.nd)) (fun _ _ _ _ _ => pdts_nil) (fun _ _ _ _ _ => (pd_fn ih (hr.mono (by omega)) T.m__law_same T.F__law_same.kp T.b__law_same (pds_cons (pd_ixD (hu_room hr) (pdo (pd_v 0)) (pdo (pd_v 2))) (pds_cons (pd_ixD (hu_room hr) (pdo (pd_v 1)) (pdo (pd_v 2))) pds_nil))))))) pdo_nil)))))) sts_nil)
    (sts_cons (st_if (pt_c op_mIs (pdo (pd_v 1)) (pdo pd_non)) (sts_one (st_ret (pd_cmp op_mIs (pdo (pd_v 0)) (pdo pd_non)))) sts_nil)
    (sts_cons (st_if (pt_c (op_mNe (hu_room hr)) (pdo (pd_isi (T := "bool") (by decide) T.z_isinstance T.z_bool (by decide +kernel) (pdo (pd_v 1)))) (pdo (pd_isi (T := "bool") (by decide) T.z_isinstance T.z_bool (by decide +kernel) (pdo (pd_v 0))))) (sts_one (st_ret pd_bl)) sts_nil)
    (sts_cons (st_if (pt_tr (pdo (pd_isi (T := "str") (by decide) T.z_isinstance T.z_str (by decide +kernel) (pdo (pd_v 1))))) (sts_one (st_ret (pd_andV (pd_isi (T := "str") (by decide) T.z_isinstance T.z_str (by decide +kernel) (pdo (pd_v 0))) (pd_1 (pd_cmp (op_mEq (hu_room hr)) (pdo (pd_v 0)) (pdo (pd_v 1))))))) sts_nil)
    (sts_one (st_ret (pd_andV (pd_isi (T := "int") (by decide) T.z_isinstance T.z_int (by decide +kernel) (pdo (pd_v 0))) (pd_1 (pd_cmp (op_mEq (hu_room hr)) (pdo (pd_v 0)) (pdo (pd_v 1)))))))))))
theorem ok__law_all (T : Tx K mg) : FnOk P w K mg base CX0 1 T.f__law_all T.fd__law_all ["size"] (spD 1 ⟨K, P, w⟩ M__law_all) :=
  def_ok T.F__law_all sc__law_all fun cdv A outer s H E hr => (sts_cons (st_asg (pdn (pn_lst (pds_cons (pd_tup pds_nil) pds_nil))) (pdg_n 1 sc__law_all.nd))
    (sts_cons (st_for PassesOwn.never rfl (pdi_rng1 (bd := false) T.z_range (pds_cons (pd_v 0) pds_nil)) (pdg_n 2 sc__law_all.nd) (sts_one (st_asg (pd_op op_mAdd (pdo (pdn (pd_lc rfl sc__law_all.nd (pdi_seqD (bd := true) (pd_v 1)) (blkOk_by (own := [("word", 3)]) (by show blkC N__law_all (defScope s__law_all) _ _ = true; decide +kernel)) (fun _ _ _ _ _ => (pdg_n 3 sc__law_all.nd)) (fun _ _ _ _ _ => pdts_nil) (fun _ _ _ _ _ => (pd_op op_mAdd (pdo (pd_v 3)) (pdo (pd_tup (pds_cons pd_int pds_nil)))))))) (pdo (pdn (pd_lc rfl sc__law_all.nd (pdi_seqD (bd := true) (pd_v 1)) (blkOk_by (own := [("word", 3)]) (by show blkC N__law_all (defScope s__law_all) _ _ = true; decide +kernel)) (fun _ _ _ _ _ => (pdg_n 3 sc__law_all.nd)) (fun _ _ _ _ _ => pdts_nil) (fun _ _ _ _ _ => (pd_op op_mAdd (pdo (pd_v 3)) (pdo (pd_tup (pds_cons pd_int pds_nil))))))))) (pdg_n 1 sc__law_all.nd))))
    (sts_one (st_ret (pdn (pn_b (cn_mSortedA (hu_room hr)) T.z_sorted (by decide +kernel) (pdo_cons (pdo (pd_v 1)) pdo_nil)))))))
theorem ok__law_run (T : Tx K mg) : FnOk P w K mg base CX0 1 T.f__law_run T.fd__law_run ["taps", "bits"] (spD 2 ⟨K, P, w⟩ M__law_run) :=
  def_ok T.F__law_run sc__law_run fun cdv A outer s H E hr => (sts_cons (st_parO 2 3 rfl sc__law_run.nd (pd_b cr_mLen T.z_len (by decide +kernel) (pdo_cons (pdo (pd_ixD (hu_room hr) (pdo (pd_v 0)) (pdo pd_int))) pdo_nil)) (pn_lst pds_nil))
    (sts_cons (st_asg (pd_op op_mAdd (pdo (pd_v 1)) (pdo (pd_op op_mMul (pdo (pd_tup (pds_cons pd_int pds_nil))) (pdo (pd_op op_mSub (pdo (pd_v 2)) (pdo pd_int)))))) (pdg_n 1 sc__law_run.nd))
    (sts_cons (st_for PassesOwn.never rfl (pdi_rng1 (bd := false) T.z_range (pds_cons (pd_b cr_mLen T.z_len (by decide +kernel) (pdo_cons (pdo (pd_v 1)) pdo_nil)) pds_nil)) (pdg_n 4 sc__law_run.nd) (sts_one (st_for PassesOwn.never rfl (pdi_seqD (bd := false) (pd_v 0)) (pdg_n 5 sc__law_run.nd) (sts_one (st_app 3 (pd_op op_mMod (pdo (pd_b (cr_mSum rfl) T.z_sum (by decide +kernel) (pdo_cons (pdo (pdn (pd_lc rfl sc__law_run.nd (pdi_rng1 (bd := true) T.z_range (pds_cons (pd_v 2) pds_nil)) (blkOk_by (own := [("i", 6)]) (by show blkC N__law_run (defScope s__law_run) _ _ = true; decide +kernel)) (fun _ _ _ _ _ => (pdg_n 6 sc__law_run.nd)) (fun _ _ _ _ _ => (pdts_one (pt_c (op_mLe (hu_room hr)) (pdo (pd_v 6)) (pdo (pd_v 4))))) (fun _ _ _ _ _ => (pd_op op_mMul (pdo (pd_ixD (hu_room hr) (pdo (pd_v 5)) (pdo (pd_v 6)))) (pdo (pd_ixD (hu_room hr) (pdo (pd_v 1)) (pdo (pd_op op_mSub (pdo (pd_v 4)) (pdo (pd_v 6))))))))))) pdo_nil))) (pdo pd_int)))))))
    (sts_one (st_ret (pd_ty cr_mTuple T.z_tuple (by decide +kernel) (pdo_cons (pd_o 3) pdo_nil)))))))
theorem ok__law_taps (T : Tx K mg) : FnOk P w K mg base CX0 2 T.f__law_taps T.fd__law_taps ["draw", "most"] (spD 2 ⟨K, P, w⟩ M__law_taps) :=
  def_ok T.F__law_taps sc__law_taps fun cdv A outer s H E hr => (sts_cons (st_parO 2 3 rfl sc__law_taps.nd (pd_op op_mAdd (pdo pd_int) (pdo (pd_fn (ok__law_next T) (hr.mono (by decide)) T.m__law_next T.F__law_next.kp T.b__law_next (pds_cons (pd_v 0) (pds_cons (pd_v 1) pds_nil))))) (pn_lst pds_nil))
    (sts_cons (st_for PassesOwn.never rfl (pdi_rng1 (bd := false) T.z_range (pds_cons (pd_op op_mAdd (pdo pd_int) (pdo (pd_fn (ok__law_next T) (hr.mono (by decide)) T.m__law_next T.F__law_next.kp T.b__law_next (pds_cons (pd_v 0) (pds_cons pd_int pds_nil))))) pds_nil)) (pdg_n 4 sc__law_taps.nd) (sts_one (st_app 3 (pd_ty cr_mTuple T.z_tuple (by decide +kernel) (pdo_cons (pdo (pdn (pd_lc rfl sc__law_taps.nd (pdi_rng1 (bd := true) T.z_range (pds_cons (pd_v 2) pds_nil)) (blkOk_by (own := [("i", 5)]) (by show blkC N__law_taps (defScope s__law_taps) _ _ = true; decide +kernel)) (fun _ _ _ _ _ => (pdg_n 5 sc__law_taps.nd)) (fun _ _ _ _ _ => pdts_nil) (fun _ _ _ _ _ => (pd_fn (ok__law_next T) (hr.mono (by decide)) T.m__law_next T.F__law_next.kp T.b__law_next (pds_cons (pd_v 0) (pds_cons pd_int pds_nil))))))) pdo_nil)))))
    (sts_cons (st_if (pd_not (pt_tr (pdo (pd_b (cr_mAny rfl) T.z_any (by decide +kernel) (pdo_cons (pdo (pdn (pd_lc rfl sc__law_taps.nd (pdi_seqO (pd_o 3)) (blkOk_by (own := [("tap", 6)]) (by show blkC N__law_taps (defScope s__law_taps) _ _ = true; decide +kernel)) (fun _ _ _ _ _ => (pdg_n 6 sc__law_taps.nd)) (fun _ _ _ _ _ => pdts_nil) (fun _ _ _ _ _ => (pd_cmp (op_mGt (hu_room hr)) (pdo (pd_b (cr_mSum rfl) T.z_sum (by decide +kernel) (pdo_cons (pdo (pd_v 6)) pdo_nil))) (pdo pd_int)))))) pdo_nil))))) (sts_one (st_set 3 (pd_op op_mAdd (pdo (pd_tup (pds_cons pd_int pds_nil))) (pdo (pd_sl (pdo (pd_ixD (hu_room hr) (pd_o 3) (pdo pd_int))) (pp_some (pdo pd_int)) pp_no))) pd_int)) sts_nil)
    (sts_one (st_ret (pd_ty cr_mTuple T.z_tuple (by decide +kernel) (pdo_cons (pd_o 3) pdo_nil)))))))
theorem ok_law (T : Tx K mg) : FnOk P w K mg base CX0 10 T.f_law T.fd_law ["script"] (spD 1 ⟨K, P, w⟩ M_law) :=
  def_ok T.F_law sc_law fun cdv A outer s H E hr => (sts_cons (st_asg (pd_fn (ok__law_draw T) (hr.mono (by decide)) T.m__law_draw T.F__law_draw.kp T.b__law_draw (pds_cons (pd_v 0) pds_nil)) (pdg_n 1 sc_law.nd))
    (sts_cons (st_asg (pd_fn (ok__law_taps T) (hr.mono (by decide)) T.m__law_taps T.F__law_taps.kp T.b__law_taps (pds_cons (pd_v 1) (pds_cons pd_int pds_nil))) (pdg_n 2 sc_law.nd))
    (sts_cons (st_asg (pd_ty cr_mTuple T.z_tuple (by decide +kernel) (pdo_cons (pdo (pdn (pd_lc rfl sc_law.nd (pdi_rng1 (bd := true) T.z_range (pds_cons (pd_fn (ok__law_next T) (hr.mono (by decide)) T.m__law_next T.F__law_next.kp T.b__law_next (pds_cons (pd_v 1) (pds_cons pd_int pds_nil))) pds_nil)) (blkOk_by (own := [("k", 9)]) (by show blkC N_law (defScope s_law) _ _ = true; decide +kernel)) (fun _ _ _ _ _ => (pdg_n 9 sc_law.nd)) (fun _ _ _ _ _ => pdts_nil) (fun _ _ _ _ _ => (pd_fn (ok__law_next T) (hr.mono (by decide)) T.m__law_next T.F__law_next.kp T.b__law_next (pds_cons (pd_v 1) (pds_cons pd_int pds_nil))))))) pdo_nil)) (pdg_n 3 sc_law.nd))
    (sts_cons (st_asg (pd_fn (ok__law_run T) (hr.mono (by decide)) T.m__law_run T.F__law_run.kp T.b__law_run (pds_cons (pd_v 2) (pds_cons (pd_v 3) pds_nil))) (pdg_n 4 sc_law.nd))
    (sts_cons (st_if (pd_not (pt_tr (pdo (pd_fn (ok__law_same T 8) (hr.mono (by decide)) T.m__law_same T.F__law_same.kp T.b__law_same (pds_cons (pd_fn (ok_run T) (hr.mono (by decide)) T.m_run T.F_run.kp T.b_run (pds_cons (pd_v 2) (pds_cons (pd_v 3) pds_nil))) (pds_cons (pd_v 4) pds_nil)))))) (sts_one (st_ret pd_bl)) sts_nil)
    (sts_cons (st_asg (pd_ty cr_mTuple T.z_tuple (by decide +kernel) (pdo_cons (pdo (pdn (pd_lc rfl sc_law.nd (pdi_seqD (bd := true) (pd_v 4)) (blkOk_by (own := [("bit", 10)]) (by show blkC N_law (defScope s_law) _ _ = true; decide +kernel)) (fun _ _ _ _ _ => (pdg_n 10 sc_law.nd)) (fun _ _ _ _ _ => pdts_nil) (fun _ _ _ _ _ => (pd_if (pt_c (op_mEq (hu_room hr)) (pdo (pd_fn (ok__law_next T) (hr.mono (by decide)) T.m__law_next T.F__law_next.kp T.b__law_next (pds_cons (pd_v 1) (pds_cons pd_int pds_nil)))) (pdo pd_int)) (pd_op op_mSub (pdo pd_int) (pdo (pd_v 10))) (pd_v 10)))))) pdo_nil)) (pdg_n 5 sc_law.nd))
    (sts_cons (st_asg pd_non (pdg_n 6 sc_law.nd))
    (sts_cons (st_for PassesOwn.never rfl (pdi_seqD (bd := false) (pd_fn (ok__law_all T) (hr.mono (by decide)) T.m__law_all T.F__law_all.kp T.b__law_all (pds_cons (pd_b cr_mLen T.z_len (by decide +kernel) (pdo_cons (pdo (pd_v 3)) pdo_nil)) pds_nil))) (pdg_n 7 sc_law.nd) (sts_cons (st_asg (pd_b (cr_mSum rfl) T.z_sum (by decide +kernel) (pdo_cons (pdo (pdn (pd_lc rfl sc_law.nd (pdi_zip (bd := true) T.z_zip (pds_cons (pd_fn (ok__law_run T) (hr.mono (by decide)) T.m__law_run T.F__law_run.kp T.b__law_run (pds_cons (pd_v 2) (pds_cons (pd_v 7) pds_nil))) (pds_cons (pd_v 5) pds_nil))) (blkOk_by (own := [("a", 11), ("b", 12)]) (by show blkC N_law (defScope s_law) _ _ = true; decide +kernel)) (fun _ _ _ _ _ => (pdg_t rfl (pdgs_cons (pdg_n 11 sc_law.nd) (pdgs_cons (pdg_n 12 sc_law.nd) pdgs_nil)))) (fun _ _ _ _ _ => (pdts_one (pt_c (op_mNe (hu_room hr)) (pdo (pd_v 11)) (pdo (pd_v 12))))) (fun _ _ _ _ _ => pd_int)))) pdo_nil)) (pdg_n 8 sc_law.nd))
    (sts_one (st_if (pdw (pd_or (pt_c op_mIs (pdo (pd_v 6)) (pdo pd_non)) (pd_or1 (pt_c (op_mLt (hu_room hr)) (pdo (pd_tup (pds_cons (pd_v 8) (pds_cons (pd_v 7) pds_nil)))) (pdo (pd_v 6)))))) (sts_one (st_asg (pd_tup (pds_cons (pd_v 8) (pds_cons (pd_v 7) pds_nil))) (pdg_n 6 sc_law.nd))) sts_nil))))
    (sts_one (st_ret (pd_fn (ok__law_same T 8) (hr.mono (by decide)) T.m__law_same T.F__law_same.kp T.b__law_same (pds_cons (pd_fn (ok_nearest_bits T) (hr.mono (by decide)) T.m_nearest_bits T.F_nearest_bits.kp T.b_nearest_bits (pds_cons (pd_v 2) (pds_cons (pd_v 5) pds_nil))) (pds_cons (pd_v 6) pds_nil)))))))))))))
end
end K17

/-! K17A: the coder: what its defs compute. -/
namespace K17
open PySem PySem.Spec L2 PD

def dot (a b : List Int) : Int := (List.zipWith (· * ·) a b).sum
def outW (taps : List (List Int)) (q : List Int) : List Int := taps.map fun tap => (dot tap q.reverse).fmod 2
def bf (taps : List (List Int)) (st : List Int) (b : Int) : List Int := taps.map fun tap => (dot tap (b :: st)).fmod 2
def stOf (rest : Nat) (q : List Int) : List Int := (q.reverse ++ List.replicate rest 0).take rest
def bhd (st : List Int) (b : Int) : List Int := (b :: st).take st.length
def trk (taps : List (List Int)) (p : List Int) : List Int := (List.range p.length).flatMap fun k => outW taps (p.take (k + 1))
def apN (xs ys : List Int) : Nat := ((xs.zip ys).filter fun p => !decide (p.1 = p.2)).length
abbrev eTs (ts : List (List Int)) : D := .t (ts.map eT)
def Bit (a : Int) : Prop := a = 0 ∨ a = 1
def Taps (taps : List (List Int)) (rest : Nat) : Prop := taps ≠ [] ∧ taps.length ≤ 10 ∧ ∀ tap ∈ taps, tap.length = rest + 1 ∧ ∀ a ∈ tap, Bit a

theorem zip_sum : ∀ a b : List Int, ((a.zip b).map fun p => p.1 * p.2).sum = dot a b
  | [], _ => by simp [dot]
  | _ :: _, [] => by simp [dot]
  | x :: a, y :: b => by
    have := zip_sum a b
    unfold dot at *
    simp only [List.zip_cons_cons, List.map_cons, List.sum_cons, List.zipWith_cons_cons, this]
theorem small_bit {a b : Int} (h : Bit a) : small64 a b = true := @decide_eq_true _ (Classical.propDecidable _) (.inl (by rcases h with rfl | rfl <;> decide))

section
variable {w : Option DSt} {a0 a1 a2 a3 a4 : Option Sl}
theorem in_dot (tap bits : List Int) (h : ∀ a ∈ tap, Bit a) : lcGo [5, 6] (fTp (fGc (fNm 5) (fGc (fNm 6) fGn))) fYes (fOp mMul (fV 5) (fV 6)) ((tap.zip bits).map fun p => D.t [.i p.1, .i p.2]) ⟨[a0, a1, a2, a3, a4, none, none], w⟩ =
    some ((tap.zip bits).map (fun p => D.i (p.1 * p.2)), ⟨[a0, a1, a2, a3, a4, none, none], w⟩) := by
  refine lc_map _ _ _ fun p hp => ?_
  have := mMul_i (small_bit (b := p.2) (h p.1 (List.of_mem_zip hp).1))
  simp [this]
theorem bits_for_ok {taps : List (List Int)} {st : List Int} {b : Int} (h : ∀ tap ∈ taps, ∀ a ∈ tap, Bit a) (hl : st.length + 1 ≤ lim) : M_bits_for [eTs taps, eT st, .i b] w = some (eT (bf taps st b), w) := by
  unfold M_bits_for g_bits_for
  rw [runB_eq (n := 3) rfl]
  have e1 : mAdd (.t [D.i b]) (.t (st.map D.i)) = some (eT (b :: st)) := by
    rw [mAdd_t (by simp; omega)]
    rfl
  have key : lcGo [4] (fNm 4) fYes (fOp mMod (fB mSum (fCons (fLc [5, 6] (fZip (fCons (fV 4) (fCons (fV 3) fNil))) (fTp (fGc (fNm 5) (fGc (fNm 6) fGn))) fYes (fOp mMul (fV 5) (fV 6))) fNil)) (fC (.i 2))) (taps.map eT) ⟨[some (Sl.v (eTs taps)), some (Sl.v (eT st)), some (Sl.v (.i b)), some (Sl.v (eT (b :: st))), none, none, none], w⟩ =
      some (taps.map (fun tap => D.i ((dot tap (b :: st)).fmod 2)), ⟨[some (Sl.v (eTs taps)), some (Sl.v (eT st)), some (Sl.v (.i b)), some (Sl.v (eT (b :: st))), none, none, none], w⟩) := by
    refine lc_map _ _ _ fun tap ht => ?_
    have e2 := mZip_tt D.i D.i tap (b :: st)
    have e3 := in_dot (w := w) (a0 := some (Sl.v (eTs taps))) (a1 := some (Sl.v (eT st))) (a2 := some (Sl.v (.i b))) (a3 := some (Sl.v (eT (b :: st)))) (a4 := some (Sl.v (eT tap))) tap (b :: st) (h tap ht)
    have e4 : mSum [.l ((tap.zip (b :: st)).map fun p => D.i (p.1 * p.2))] = some (.i (dot tap (b :: st))) := by
      rw [← zip_sum, ← mSum_l]
      unfold eL
      rw [List.map_map]
      rfl
    have e5 : mMod (.i (dot tap (b :: st))) (.i 2) = some (.i ((dot tap (b :: st)).fmod 2)) := mMod_i (by decide)
    simp [e2, e3, e4, e5]
  have e6 : (1 : Nat) ≤ lim := by decide
  have e7 : ∀ xs : List D, mTuple [.l xs] = some (.t xs) := fun _ => rfl
  simp [List.replicate, e1, key, e6, e7, bf]
theorem behind_ok {st : List Int} {b : Int} (hl : st.length + 1 ≤ lim) : M_behind [eT st, .i b] w = some (eT (bhd st b), w) := by
  unfold M_behind g_behind
  rw [runB_eq (n := 2) rfl]
  have e1 : mAdd (.t [D.i b]) (.t (st.map D.i)) = some (eT (b :: st)) := by
    rw [mAdd_t (by simp; omega)]
    rfl
  have e2 : mSl none (some (st.length : Int)) (eT (b :: st)) = some (eT (bhd st b)) := by
    show some (D.t (cut ((b :: st).map D.i) none (some (st.length : Int)))) = _
    rw [cut_pre, ← List.map_take]
    rfl
  have e6 : (1 : Nat) ≤ lim := by decide
  simp [List.replicate, e1, e2, e6]
theorem apart_ok {xs ys : List Int} : M_apart [eT xs, eT ys] w = some (.i (apN xs ys), w) := by
  unfold M_apart g_apart
  rw [runB_eq (n := 2) rfl]
  have e2 := mZip_tt D.i D.i xs ys
  have key : lcGo [2, 3] (fTp (fGc (fNm 2) (fGc (fNm 3) fGn))) (fTst (fOp mNe (fV 2) (fV 3))) (fC (.i 1)) ((xs.zip ys).map fun p => D.t [.i p.1, .i p.2]) ⟨[some (Sl.v (eT xs)), some (Sl.v (eT ys)), none, none], w⟩ =
      some (((xs.zip ys).filter fun p => !decide (p.1 = p.2)).map (fun _ => D.i 1), ⟨[some (Sl.v (eT xs)), some (Sl.v (eT ys)), none, none], w⟩) := by
    refine lc_filt _ _ _ _ fun p hp => ?_
    by_cases h : p.1 = p.2 <;> simp [h]
  simp [List.replicate, e2, key, apN]
end
end K17

/-! K17B: run; the law's own coder. -/
namespace K17
open PySem PySem.Spec L2 PD

theorem dot_take : ∀ a b : List Int, dot a (b.take a.length) = dot a b
  | [], _ => by simp [dot]
  | _ :: _, [] => by simp [dot]
  | x :: a, y :: b => by
    have := dot_take a b
    unfold dot at *
    simp only [List.length_cons, List.take_succ_cons, List.zipWith_cons_cons, List.sum_cons, this]
theorem dot_nil (a : List Int) : dot a [] = 0 := by cases a <;> simp [dot]
theorem dot_zero : ∀ (a : List Int) (n : Nat), dot a (List.replicate n 0) = 0
  | [], _ => by simp [dot]
  | _ :: _, 0 => by simp [dot]
  | x :: a, n + 1 => by
    have := dot_zero a n
    unfold dot at *
    simp only [List.replicate_succ, List.zipWith_cons_cons, List.sum_cons, this]
    simp
theorem dot_zeros (n : Nat) : ∀ a b : List Int, dot a (b ++ List.replicate n 0) = dot a b
  | a, [] => by rw [List.nil_append, dot_zero, dot_nil]
  | [], _ => by simp [dot]
  | x :: a, y :: b => by
    have := dot_zeros n a b
    unfold dot at *
    simp only [List.cons_append, List.zipWith_cons_cons, List.sum_cons, this]
theorem stOf_length (rest : Nat) (q : List Int) : (stOf rest q).length = rest := by
  unfold stOf
  rw [List.length_take, List.length_append, List.length_replicate]
  omega
theorem bf_out {taps : List (List Int)} {rest : Nat} (h : ∀ tap ∈ taps, tap.length = rest + 1) (q : List Int) (b : Int) : bf taps (stOf rest q) b = outW taps (q ++ [b]) := by
  refine List.map_congr_left fun tap ht => ?_
  have e : b :: stOf rest q = ((b :: q.reverse) ++ List.replicate rest 0).take (rest + 1) := rfl
  rw [e, ← h tap ht, dot_take, dot_zeros, List.reverse_append]
  rfl
theorem bhd_st (rest : Nat) (q : List Int) (b : Int) : bhd (stOf rest q) b = stOf rest (q ++ [b]) := by
  unfold bhd
  rw [stOf_length]
  unfold stOf
  rw [List.reverse_append]
  show (b :: List.take rest (q.reverse ++ List.replicate rest 0)).take rest = (b :: (q.reverse ++ List.replicate rest 0)).take rest
  generalize q.reverse ++ List.replicate rest 0 = L
  cases rest with
  | zero => rfl
  | succ n =>
    rw [List.take_succ_cons, List.take_succ_cons, List.take_take]
    congr 2
    omega
theorem trk_nil (taps : List (List Int)) : trk taps [] = [] := rfl
theorem trk_snoc (taps : List (List Int)) (q : List Int) (b : Int) : trk taps (q ++ [b]) = trk taps q ++ outW taps (q ++ [b]) := by
  unfold trk
  rw [List.length_append, List.length_singleton, List.range_succ, List.flatMap_append]
  congr 1
  · unfold List.flatMap
    congr 1
    refine List.map_congr_left fun k hk => ?_
    have := List.mem_range.mp hk
    rw [List.take_append_of_le_length (by omega)]
  · rw [List.flatMap_singleton, List.take_of_length_le (by simp)]
theorem outW_length (taps : List (List Int)) (q : List Int) : (outW taps q).length = taps.length := List.length_map ..
theorem trk_length (taps : List (List Int)) : ∀ n : Nat, ∀ p : List Int, p.length = n → (trk taps p).length = n * taps.length
  | 0, p, h => by
    rw [List.length_eq_zero_iff.mp h, trk_nil]
    simp
  | n + 1, p, h => by
    have hp : p ≠ [] := fun e => by rw [e] at h; simp at h
    have e := List.dropLast_concat_getLast hp
    have hl : p.dropLast.length = n := by rw [List.length_dropLast, h]; rfl
    rw [← e, trk_snoc, List.length_append, outW_length, trk_length taps n _ hl, Nat.succ_mul]
theorem take_snoc {p : List Int} {i : Nat} {b : Int} (h : p[i]? = some b) : p.take (i + 1) = p.take i ++ [b] := by
  rw [List.take_add_one, h]
  rfl
section
variable {w : Option DSt} {taps : List (List Int)} {rest : Nat}
theorem head_ix (T : Taps taps rest) : ∃ t0, mIxD (eTs taps) (.i 0) = some (eT t0) ∧ t0.length = rest + 1 := by
  obtain ⟨h1, _, h2⟩ := T
  cases taps with
  | nil => exact absurd rfl h1
  | cons t ts => exact ⟨t, atI_nat (xs := (t :: ts).map eT) (k := 0) (by simp), (h2 t List.mem_cons_self).1⟩
theorem zeros_ok {rest : Nat} (h : rest ≤ 100) : mMul (.t [.i 0]) (.i (rest : Int)) = some (eT (List.replicate rest 0)) := by
  rw [mMul_1 (by omega) (by omega), Int.toNat_natCast]
  simp [eT]
theorem run_ok (T : Taps taps rest) (hr : rest ≤ 100) {bits : List Int} (hb : bits.length ≤ 100) : M_run [eTs taps, eT bits] w = some (eT (trk taps (bits ++ List.replicate rest 0)), w) := by
  unfold M_run g_run
  rw [runB_eq (n := 2) rfl]
  obtain ⟨t0, e1, e2⟩ := head_ix T
  have e3 : ((t0.length : Int) - 1) = (rest : Int) := by omega
  have e4 := zeros_ok hr
  have e5 : mAdd (eT bits) (eT (List.replicate rest 0)) = some (eT (bits ++ List.replicate rest 0)) := by
    rw [mAdd_t (by simp [lim]; omega)]
    simp [eT]
  have e6 : (1 : Nat) ≤ lim := by decide
  have e7 : (0 : Nat) ≤ lim := by decide
  generalize hp : bits ++ List.replicate rest 0 = p at e5
  have hpl : p.length ≤ 200 := by rw [← hp, List.length_append, List.length_replicate]; omega
  have key := for_inv (ft := fNm 4) (body := (sSeq (sAsg (fOp mAdd (fV 3) (fFn M_bits_for 3 (fCons (fV 0) (fCons (fV 2) (fCons (fV 4) fNil))))) (fNm 3))
    (sAsg (fFn M_behind 2 (fCons (fV 2) (fCons (fV 4) fNil))) (fNm 2)))) D.i p
    (fun i S => ∃ j, S = ⟨[some (Sl.v (eTs taps)), some (Sl.v (eT bits)), some (Sl.v (eT (stOf rest (p.take i)))), some (Sl.v (eT (trk taps (p.take i)))), j], w⟩) (fun i b S hi ⟨j, hS⟩ => ?_)
    ⟨[some (Sl.v (eTs taps)), some (Sl.v (eT bits)), some (Sl.v (eT (List.replicate rest 0))), some (Sl.v (.t [])), none], w⟩ ⟨none, by
      have : stOf rest [] = List.replicate rest 0 := by simp [stOf]
      simp [this, trk_nil]⟩
  · obtain ⟨S', k1, j, k2⟩ := key
    subst k2
    rw [List.take_length] at k1
    simp [List.replicate, e1, e3, e4, e5, e6, e7, k1]
  · subst hS
    have hlt := (List.getElem?_eq_some_iff.mp hi).1
    have hst : (stOf rest (p.take i)).length + 1 ≤ lim := by rw [stOf_length]; unfold lim; omega
    have b1 := bits_for_ok (w := w) (taps := taps) (st := stOf rest (p.take i)) (b := b) (fun t ht => (T.2.2 t ht).2) hst
    have b2 := behind_ok (w := w) (st := stOf rest (p.take i)) (b := b) hst
    rw [bf_out fun t ht => (T.2.2 t ht).1, ← take_snoc hi] at b1
    rw [bhd_st, ← take_snoc hi] at b2
    have b3 : mAdd (eT (trk taps (p.take i))) (eT (outW taps (p.take (i + 1)))) = some (eT (trk taps (p.take (i + 1)))) := by
      have l1 := trk_length taps i (p.take i) (by rw [List.length_take]; omega)
      have l2 : i * taps.length ≤ 200 * 10 := Nat.mul_le_mul (by omega) T.2.1
      have l3 := T.2.1
      rw [mAdd_t (by rw [List.length_map, List.length_map, l1, outW_length]; unfold lim; omega), take_snoc hi, trk_snoc]
      simp [eT]
    refine ⟨_, _, rfl, .inl ?_, some (Sl.v (.i b)), rfl⟩
    simp [b1, b2, b3]
end
end K17

/-! K17C: the law's own parts. -/
namespace K17
open PySem PySem.Spec L2 PD

theorem filt_range (k : Nat) : ∀ n : Nat, (List.range n).filter (fun i => decide (i ≤ k)) = List.range (min n (k + 1))
  | 0 => by simp
  | n + 1 => by
    rw [List.range_succ, List.filter_append, filt_range k n]
    by_cases h : n ≤ k
    · rw [Nat.min_eq_left (by omega), Nat.min_eq_left (by omega), List.range_succ]
      simp [h]
    · rw [Nat.min_eq_right (by omega), Nat.min_eq_right (by omega)]
      simp [h]
theorem win_dot (tap p : List Int) (k : Nat) (hk : k < p.length) : ((List.range (min tap.length (k + 1))).map fun i => tap.getD i 0 * p.getD (k - i) 0).sum = dot tap (p.take (k + 1)).reverse := by
  unfold dot
  congr 1
  refine List.ext_getElem ?_ fun i h1 h2 => ?_
  · simp; omega
  · have h3 : i < min tap.length (k + 1) := by simpa using h1
    rw [List.getElem_map, List.getElem_range, List.getElem_zipWith, List.getElem_reverse, List.getElem_take]
    have h4 : i < tap.length := by omega
    have h5 : (p.take (k + 1)).length - 1 - i = k - i := by rw [List.length_take]; omega
    have h6 : k - i < p.length := by omega
    have h7 : min (k + 1) p.length - 1 - i = k - i := by omega
    simp [List.getD_eq_getElem?_getD, h4, h6, h7]
section
variable {w : Option DSt} {taps : List (List Int)} {rest : Nat}
theorem in_win {a0 a2 a3 : Option Sl} (tap p : List Int) (k : Nat) (hk : k < p.length) (h01 : ∀ a ∈ tap, Bit a) (hl : tap.length ≤ 1000) : lcGo [6] (fNm 6) (fTst (fOp mLe (fV 6) (fV 4))) (fOp mMul (fOp mIxD (fV 5) (fV 6)) (fOp mIxD (fV 1) (fOp mSub (fV 4) (fV 6)))) ((List.range tap.length).map fun (i : Nat) => D.i (i : Int)) ⟨[a0, some (Sl.v (eT p)), a2, a3, some (Sl.v (.i (k : Int))), some (Sl.v (eT tap)), none], w⟩ =
    some (((List.range tap.length).filter fun i => decide (i ≤ k)).map (fun i => D.i (tap.getD i 0 * p.getD (k - i) 0)), ⟨[a0, some (Sl.v (eT p)), a2, a3, some (Sl.v (.i (k : Int))), some (Sl.v (eT tap)), none], w⟩) := by
  refine lc_filt _ _ _ _ fun i hi => ?_
  have h4 : i < tap.length := List.mem_range.mp hi
  have e1 : mIxD (eT tap) (.i (i : Int)) = some (.i (tap.getD i 0)) := by
    show atI (tap.map D.i) (i : Int) = _
    rw [atI_nat (by simpa using h4)]
    simp [List.getD_eq_getElem?_getD, h4]
  by_cases h : i ≤ k
  · have h6 : k - i < p.length := by omega
    have e0 : ((k : Int) - (i : Int)) = ((k - i : Nat) : Int) := by omega
    have e2 : mIxD (eT p) (.i ((k : Int) - (i : Int))) = some (.i (p.getD (k - i) 0)) := by
      rw [e0]
      show atI (p.map D.i) ((k - i : Nat) : Int) = _
      rw [atI_nat (by simpa using h6)]
      simp [List.getD_eq_getElem?_getD, h6]
    have hb : Bit (tap.getD i 0) := by
      have : tap.getD i 0 = tap[i] := by simp [List.getD_eq_getElem?_getD, h4]
      rw [this]
      exact h01 _ (List.getElem_mem h4)
    have e3 := mMul_i (small_bit (b := p.getD (k - i) 0) hb)
    have h' : ¬ (k : Int) < (i : Int) := by omega
    generalize tap.getD i 0 = u at *
    generalize p.getD (k - i) 0 = v at *
    simp [e1, e2, e3, h, h']
  · have h' : (k : Int) < (i : Int) := by omega
    simp [h, h']
theorem law_run_ok (T : Taps taps rest) (hr : rest ≤ 100) {bits : List Int} (hb : bits.length ≤ 100) : M__law_run [eTs taps, eT bits] w = some (eT (trk taps (bits ++ List.replicate rest 0)), w) := by
  unfold M__law_run g__law_run
  rw [runB_eq (n := 2) rfl]
  obtain ⟨t0, e1, e2⟩ := head_ix T
  have e3 : ((t0.length : Int) - 1) = (rest : Int) := by omega
  have e4 := zeros_ok hr
  have e5 : mAdd (eT bits) (eT (List.replicate rest 0)) = some (eT (bits ++ List.replicate rest 0)) := by
    rw [mAdd_t (by simp [lim]; omega)]
    simp [eT]
  have e7 : (0 : Nat) ≤ lim := by decide
  generalize hp : bits ++ List.replicate rest 0 = p at e5
  have hpl : p.length ≤ 200 := by rw [← hp, List.length_append, List.length_replicate]; omega
  have e8 := mRng1_nat (bd := false) (n := p.length) (by unfold lim; omega)
  have hT := T.2.1
  have key := for_inv (ft := fNm 4) (body := sFor (fSeqD (fV 0)) (fNm 5) (sApp 3 (fOp mMod (fB mSum (fCons (fLc [6] (fRng (mRng1 true) (fCons (fV 2) fNil)) (fNm 6) (fTst (fOp mLe (fV 6) (fV 4))) (fOp mMul (fOp mIxD (fV 5) (fV 6)) (fOp mIxD (fV 1) (fOp mSub (fV 4) (fV 6))))) fNil)) (fC (.i 2)))))
    (fun (i : Nat) => D.i (i : Int)) (List.range p.length)
    (fun i S => ∃ j l, S = ⟨[some (Sl.v (eTs taps)), some (Sl.v (eT p)), some (Sl.v (.i (t0.length : Int))), some (Sl.o (eL (trk taps (p.take i)))), j, l, none], w⟩) (fun k k' S hk ⟨j, l, hS⟩ => ?_)
    ⟨[some (Sl.v (eTs taps)), some (Sl.v (eT p)), some (Sl.v (.i (t0.length : Int))), some (Sl.o (.l [])), none, none, none], w⟩ ⟨none, none, by simp [trk_nil]⟩
  · obtain ⟨S', k1, j, l, k2⟩ := key
    subst k2
    rw [List.length_range, List.take_length] at k1
    have e9 : ∀ xs : List D, mTuple [.l xs] = some (.t xs) := fun _ => rfl
    have e10 : (1 : Nat) ≤ lim := by decide
    simp [List.replicate, e1, e3, e4, e5, e7, e8, e9, e10, rng_0, k1]
  · subst hS
    have hlt := (List.getElem?_eq_some_iff.mp hk).1
    rw [List.length_range] at hlt
    have hk' : k' = k := by
      have := (List.getElem?_eq_some_iff.mp hk).2
      rw [List.getElem_range] at this
      exact this.symm
    subst hk'
    have l1 := trk_length taps k' (p.take k') (by rw [List.length_take]; omega)
    have l2 : k' * taps.length ≤ 200 * 10 := Nat.mul_le_mul (by omega) hT
    have inner := for_inv (ft := fNm 5) (body := sApp 3 (fOp mMod (fB mSum (fCons (fLc [6] (fRng (mRng1 true) (fCons (fV 2) fNil)) (fNm 6) (fTst (fOp mLe (fV 6) (fV 4))) (fOp mMul (fOp mIxD (fV 5) (fV 6)) (fOp mIxD (fV 1) (fOp mSub (fV 4) (fV 6))))) fNil)) (fC (.i 2))))
      eT taps (fun m S => ∃ l, S = ⟨[some (Sl.v (eTs taps)), some (Sl.v (eT p)), some (Sl.v (.i (t0.length : Int))), some (Sl.o (eL (trk taps (p.take k') ++ (outW taps (p.take (k' + 1))).take m))), some (Sl.v (.i (k' : Int))), l, none], w⟩)
      (fun m tap S hm ⟨l, hS⟩ => ?_) ⟨[some (Sl.v (eTs taps)), some (Sl.v (eT p)), some (Sl.v (.i (t0.length : Int))), some (Sl.o (eL (trk taps (p.take k')))), some (Sl.v (.i (k' : Int))), l, none], w⟩ ⟨l, by simp⟩
    · obtain ⟨S', i1, l', i2⟩ := inner
      subst i2
      have i3 : (outW taps (p.take (k' + 1))).take taps.length = outW taps (p.take (k' + 1)) := List.take_of_length_le (by rw [outW_length]; exact Nat.le_refl _)
      have i4 : p[k']? = some p[k'] := List.getElem?_eq_getElem hlt
      rw [i3] at i1
      refine ⟨_, _, rfl, .inl ?_, some (Sl.v (.i (k' : Int))), l', rfl⟩
      rw [take_snoc i4, trk_snoc, ← take_snoc i4]
      simp [i1]
    · subst hS
      have hmem := List.mem_of_getElem? hm
      obtain ⟨ht1, ht2⟩ := T.2.2 tap hmem
      have hmlt := (List.getElem?_eq_some_iff.mp hm).1
      have hlen : tap.length = t0.length := by omega
      have w1 := in_win (w := w) (a0 := some (Sl.v (eTs taps))) (a2 := some (Sl.v (.i (t0.length : Int)))) (a3 := some (Sl.o (eL (trk taps (p.take k') ++ (outW taps (p.take (k' + 1))).take m)))) tap p k' hlt ht2 (by omega)
      have w2 := mRng1_nat (bd := true) (n := tap.length) (by unfold lim; omega)
      have w3 : mSum [.l (((List.range tap.length).filter fun i => decide (i ≤ k')).map (fun i => D.i (tap.getD i 0 * p.getD (k' - i) 0)))] = some (.i (dot tap (p.take (k' + 1)).reverse)) := by
        rw [← win_dot tap p k' hlt, filt_range, ← mSum_l]
        unfold eL
        rw [List.map_map]
        rfl
      have w4 : mMod (.i (dot tap (p.take (k' + 1)).reverse)) (.i 2) = some (.i ((dot tap (p.take (k' + 1)).reverse).fmod 2)) := mMod_i (by decide)
      have w5 : (outW taps (p.take (k' + 1)))[m]? = some ((dot tap (p.take (k' + 1)).reverse).fmod 2) := by
        unfold outW
        rw [List.getElem?_map, hm]
        rfl
      have w6 : (trk taps (p.take k')).length + min m (outW taps (p.take (k' + 1))).length < lim := by
        rw [l1, outW_length]
        unfold lim
        omega
      rw [← hlen] at w1 ⊢
      refine ⟨_, _, rfl, .inl ?_, some (Sl.v (eT tap)), rfl⟩
      rw [take_snoc w5]
      generalize ((List.range tap.length).filter fun i => decide (i ≤ k')).map (fun i => D.i (tap.getD i 0 * p.getD (k' - i) 0)) = L at w1 w3
      simp [w1, w2, w3, w4, w6, rng_0]
end
end K17

/-! K17D: all words; drawn taps. -/
namespace K17
open PySem PySem.Spec L2 PD

def allW : Nat → List (List Int)
  | 0 => [[]]
  | n + 1 => (allW n).map (· ++ [0]) ++ (allW n).map (· ++ [1])
theorem mem_allW : ∀ {n : Nat} {q : List Int}, q ∈ allW n ↔ q.length = n ∧ ∀ a ∈ q, Bit a
  | 0, q => by
    simp only [allW, List.mem_singleton, List.length_eq_zero_iff]
    exact ⟨fun h => ⟨h, fun a ha => by rw [h] at ha; cases ha⟩, fun h => h.1⟩
  | n + 1, q => by
    simp only [allW, List.mem_append, List.mem_map]
    constructor
    · rintro (⟨r, hr, rfl⟩ | ⟨r, hr, rfl⟩)
      · obtain ⟨h1, h2⟩ := mem_allW.mp hr
        refine ⟨by rw [List.length_append, h1]; rfl, fun a ha => ?_⟩
        rcases List.mem_append.mp ha with ha | ha
        · exact h2 a ha
        · rw [List.mem_singleton.mp ha]; exact .inl rfl
      · obtain ⟨h1, h2⟩ := mem_allW.mp hr
        refine ⟨by rw [List.length_append, h1]; rfl, fun a ha => ?_⟩
        rcases List.mem_append.mp ha with ha | ha
        · exact h2 a ha
        · rw [List.mem_singleton.mp ha]; exact .inr rfl
    · rintro ⟨h1, h2⟩
      have hp : q ≠ [] := fun e => by rw [e] at h1; simp at h1
      have e := List.dropLast_concat_getLast hp
      have hm : q.dropLast ∈ allW n := mem_allW.mpr ⟨by rw [List.length_dropLast, h1]; rfl, fun a ha => h2 a ((List.dropLast_sublist q).subset ha)⟩
      rcases h2 (q.getLast hp) (List.getLast_mem hp) with h | h
      · exact .inl ⟨_, hm, by rw [← h]; exact e⟩
      · exact .inr ⟨_, hm, by rw [← h]; exact e⟩
theorem allW_length : ∀ n : Nat, (allW n).length = 2 ^ n
  | 0 => rfl
  | n + 1 => by simp only [allW, List.length_append, List.length_map, allW_length n, Nat.pow_succ]; omega
theorem toPs_eT : ∀ ws : List (List Int), toPs (ws.map eT) = ws.map fun q => PyData.tuple (q.map PyData.int) := fun ws => by
  rw [toPs_map, List.map_map]
  exact List.map_congr_left fun q _ => toP_eT q
theorem depth_le {xs : List PyData} {n : Nat} (h : ∀ x ∈ xs, x.depth ≤ n) : PyData.depthAll xs ≤ n := by
  induction xs with
  | nil => exact Nat.zero_le _
  | cons x xs ih =>
    rw [PyData.depthAll]
    have h1 := h x List.mem_cons_self
    have h2 := ih fun y hy => h y (List.mem_cons_of_mem _ hy)
    omega
theorem plain_all {xs : List PyData} (h : ∀ x ∈ xs, x.plain = true) : PyData.plainAll xs = true := by
  induction xs with
  | nil => simp [PyData.plainAll]
  | cons x xs ih =>
    rw [PyData.plainAll, h x List.mem_cons_self, ih fun y hy => h y (List.mem_cons_of_mem _ hy)]
    rfl
theorem plain_row (q : List Int) : (PyData.tuple (q.map PyData.int)).plain = true := by
  rw [PyData.plain, ← toPs_ints]
  exact plain_ints q
theorem depth_row (q : List Int) : (PyData.tuple (q.map PyData.int)).depth = 1 := by rw [PyData.depth, depth_ints]
open PySem.W in
theorem sortB_words {ws : List (List Int)} (h : ∀ q ∈ ws, q ≠ []) : sortB (toPs (ws.map eT)) = true := by
  rw [toPs_eT]
  unfold sortB
  simp only [Bool.and_eq_true, Bool.or_eq_true, decide_eq_true_eq, List.all_eq_true]
  refine ⟨⟨⟨plain_all fun x hx => ?_, fun x hx y hy => ?_⟩, Nat.le_trans (depth_le (n := 1) fun x hx => ?_) (by decide)⟩, .inl fun x hx => ?_⟩
  · obtain ⟨q, _, rfl⟩ := List.mem_map.mp hx
    exact plain_row q
  · obtain ⟨q, _, rfl⟩ := List.mem_map.mp hx
    obtain ⟨r, _, rfl⟩ := List.mem_map.mp hy
    rw [alike]
    exact PD.alike_ints q r
  · obtain ⟨q, _, rfl⟩ := List.mem_map.mp hx
    rw [depth_row]
    exact Nat.le_refl _
  · obtain ⟨q, hq, rfl⟩ := List.mem_map.mp hx
    cases q with
    | nil => exact absurd rfl (h _ hq)
    | cons a q => rfl
open PySem.W in
theorem oneB_word (q : List Int) : oneB [eT q] = true := by
  show ((toP (eT q)).plain && notNone (toP (eT q)) && decide ((toP (eT q)).depth ≤ 60) && alike (toP (eT q)) (toP (eT q))) = true
  rw [toP_eT, plain_row, depth_row, alike, PD.alike_ints]
  rfl
theorem of_perm_map {α : Type} {f : α → D} : ∀ {ds : List D} {xs : List α}, ds.Perm (xs.map f) → ∃ ys : List α, ds = ys.map f ∧ ys.Perm xs := fun {ds xs} h => by
  induction xs generalizing ds with
  | nil =>
    rw [List.map_nil] at h
    exact ⟨[], h.eq_nil, .nil⟩
  | cons x xs ih =>
    rw [List.map_cons] at h
    have hm : f x ∈ ds := h.mem_iff.mpr List.mem_cons_self
    obtain ⟨l1, l2, rfl⟩ := List.append_of_mem hm
    have h2 : (l1 ++ l2).Perm (xs.map f) := by
      have h3 : (f x :: (l1 ++ l2)).Perm (f x :: xs.map f) := List.perm_middle.symm.trans h
      exact h3.cons_inv
    obtain ⟨ys, e, hp⟩ := ih h2
    obtain ⟨y1, y2, rfl, e1, e2⟩ := List.map_eq_append_iff.mp e.symm
    refine ⟨y1 ++ x :: y2, by rw [List.map_append, List.map_cons, e1, e2], List.perm_middle.trans (hp.cons x)⟩
section
variable {w : Option DSt}
theorem ext_words {a0 a1 a2 : Option Sl} (ws : List (List Int)) (b : Int) (n : Nat) (hn : n < 1000) (h : ∀ q ∈ ws, q.length = n) : lcGo [3] (fNm 3) fYes (fOp mAdd (fV 3) (fTup (fCons (fC (.i b)) fNil))) (ws.map eT) ⟨[a0, a1, a2, none], w⟩ =
    some (ws.map (fun q => eT (q ++ [b])), ⟨[a0, a1, a2, none], w⟩) := by
  refine lc_map _ _ _ fun q hq => ?_
  have e1 : mAdd (eT q) (.t [.i b]) = some (eT (q ++ [b])) := by
    rw [mAdd_t (by rw [List.length_map, h q hq]; unfold lim; simp; omega)]
    simp [eT]
  have e6 : (1 : Nat) ≤ lim := by decide
  simp [e1, e6]
theorem law_all_ok {n : Nat} (hn : n ≤ 10) : ∃ ws : List (List Int), M__law_all [.i (n : Int)] w = some (.l (ws.map eT), w) ∧ ws.Perm (allW n) := by
  have hs : ∃ ws : List (List Int), mSortedA [.l ((allW n).map eT)] = some (.l (ws.map eT)) ∧ ws.Perm (allW n) := by
    have hc : (sortB (toPs ((allW n).map eT)) || oneB ((allW n).map eT)) = true := by
      rw [Bool.or_eq_true]
      cases n with
      | zero => exact .inr (oneB_word [])
      | succ n =>
        refine .inl (sortB_words fun q hq e => ?_)
        have := (mem_allW.mp hq).1
        rw [e] at this
        cases this
    obtain ⟨ws, e, hp⟩ := of_perm_map (List.mergeSort_perm ((allW n).map eT) leD)
    refine ⟨ws, ?_, hp⟩
    show (if (sortB (toPs ((allW n).map eT)) || oneB ((allW n).map eT)) = true then some (D.l (sortL ((allW n).map eT))) else none) = _
    rw [if_pos hc]
    unfold sortL
    rw [e]
  obtain ⟨ws, hs, hp⟩ := hs
  refine ⟨ws, ?_, hp⟩
  unfold M__law_all g__law_all
  rw [runB_eq (n := 1) rfl]
  have e1 := mRng1_nat (bd := false) (n := n) (by unfold lim; omega)
  have key := for_inv (ft := fNm 2) (body := (sAsg (fOp mAdd (fLc [3] (fSeqD (fV 1)) (fNm 3) fYes (fOp mAdd (fV 3) (fTup (fCons (fC (.i 0)) fNil)))) (fLc [3] (fSeqD (fV 1)) (fNm 3) fYes (fOp mAdd (fV 3) (fTup (fCons (fC (.i 1)) fNil))))) (fNm 1)))
    (fun (i : Nat) => D.i (i : Int)) (List.range n) (fun i S => ∃ j, S = ⟨[some (Sl.v (.i (n : Int))), some (Sl.v (.l ((allW i).map eT))), j, none], w⟩) (fun i y S hi ⟨j, hS⟩ => ?_)
    ⟨[some (Sl.v (.i (n : Int))), some (Sl.v (.l [.t []])), none, none], w⟩ ⟨none, rfl⟩
  · obtain ⟨S', k1, j, k2⟩ := key
    subst k2
    rw [List.length_range] at k1
    have e6 : (1 : Nat) ≤ lim := by decide
    have e7 : (0 : Nat) ≤ lim := by decide
    simp [List.replicate, e1, e6, e7, rng_0, k1, hs]
  · subst hS
    have hlt := (List.getElem?_eq_some_iff.mp hi).1
    rw [List.length_range] at hlt
    have hlen : ∀ q ∈ allW i, q.length = i := fun q hq => (mem_allW.mp hq).1
    have w0 := ext_words (w := w) (a0 := some (Sl.v (.i (n : Int)))) (a1 := some (Sl.v (.l ((allW i).map eT)))) (a2 := some (Sl.v (.i (y : Int)))) (allW i) 0 i (by omega) hlen
    have w1 := ext_words (w := w) (a0 := some (Sl.v (.i (n : Int)))) (a1 := some (Sl.v (.l ((allW i).map eT)))) (a2 := some (Sl.v (.i (y : Int)))) (allW i) 1 i (by omega) hlen
    have w2 : mAdd (.l ((allW i).map fun q => eT (q ++ [0]))) (.l ((allW i).map fun q => eT (q ++ [1]))) = some (.l ((allW (i + 1)).map eT)) := by
      have hb : (2 : Nat) ^ i ≤ 2 ^ 10 := Nat.pow_le_pow_right (by decide) (by omega)
      rw [mAdd_l (by rw [List.length_map, List.length_map, allW_length]; unfold lim; omega)]
      simp [allW]
      rfl
    generalize (allW i).map (fun q => eT (q ++ [0])) = A at w0 w2
    generalize (allW i).map (fun q => eT (q ++ [1])) = B at w1 w2
    generalize (allW i).map eT = C at *
    refine ⟨_, _, rfl, .inl ?_, some (Sl.v (.i (y : Int))), rfl⟩
    simp [w0, w1, w2]
theorem nx_eq : M__law_next = M_next := rfl
end
end K17

/-! K17E: drawn taps. -/
namespace K17
open PySem PySem.Spec L2 PD

theorem next17 {x : DSt} (hx : DOk x) {many : Nat} (h0 : 0 < many) (h1 : many < 1000) : ∃ (r : Nat) (x' : DSt), M__law_next [.p, .i (many : Int)] (some x) = some (.i (r : Int), some x') ∧ r < many ∧ DOk x' := by
  obtain ⟨r, x', e, h2, h3, h4⟩ := next_ok hx (many := (many : Int)) (by omega) (by omega)
  refine ⟨r.toNat, x', ?_, by omega, h4⟩
  have : ((r.toNat : Nat) : Int) = r := by omega
  rw [this]
  exact e
theorem paired_len {α β : Type} {F : α → β → Prop} {xs : List α} {ys : List β} (h : Paired F xs ys) : ys.length = xs.length := (Paired.length h).symm
theorem paired_all {α β : Type} {P : β → Prop} {xs : List α} {ys : List β} (h : Paired (fun _ z => P z) xs ys) : ∀ z ∈ ys, P z := by
  induction h with
  | nil => exact fun _ h => nomatch h
  | cons r t ih =>
    intro z hz
    rcases List.mem_cons.mp hz with rfl | hz
    · exact r
    · exact ih z hz
/-- a row of drawn bits -/
theorem draw_bits {a1 a2 a3 a4 : Option Sl} (n : Nat) {x : DSt} (hx : DOk x) : ∃ (zs : List Int) (x' : DSt), lcGo [5] (fNm 5) fYes (fFn M__law_next 2 (fCons (fV 0) (fCons (fC (.i 2)) fNil))) ((List.range n).map fun (i : Nat) => D.i (i : Int)) ⟨[some (Sl.v .p), a1, a2, a3, a4, none, none], some x⟩ = some (zs.map D.i, ⟨[some (Sl.v .p), a1, a2, a3, a4, none, none], some x'⟩) ∧ zs.length = n ∧ (∀ a ∈ zs, Bit a) ∧ DOk x' := by
  have key := lc_draw (vs := [5]) (ft := fNm 5) (tt := fYes) (te := fFn M__law_next 2 (fCons (fV 0) (fCons (fC (.i 2)) fNil))) (fun (i : Nat) => D.i (i : Int)) D.i (fun _ z => Bit z) (sl := [some (Sl.v .p), a1, a2, a3, a4, none, none]) (List.range n) (fun y _ x hx => ?_) x hx
  · obtain ⟨zs, x', e, p, h⟩ := key
    exact ⟨zs, x', e, by rw [paired_len p, List.length_range], paired_all p, h⟩
  · obtain ⟨r, x', e, h1, h2⟩ := next17 hx (many := 2) (by decide) (by decide)
    refine ⟨(r : Int), x', ?_, ?_, h2⟩
    · have e : M__law_next [.p, .i 2] (some x) = some (.i (r : Int), some x') := e
      simp [e]
    · unfold Bit; omega
theorem mAny_map {α : Type} (f : α → Bool) (xs : List α) : mAny [.l (xs.map fun x => D.b (f x))] = some (.b (xs.any f)) := by
  have e : xs.map (fun x => D.b (f x)) = (xs.map f).map D.b := by rw [List.map_map]; rfl
  show ((boolsOf (xs.map fun x => D.b (f x))).map fun ns => D.b (ns.any id)) = _
  rw [e, boolsOf_map, Option.map_some, List.any_map]
  rfl
theorem taps_ok {x : DSt} (hx : DOk x) : ∃ (taps : List (List Int)) (rest : Nat) (x' : DSt), M__law_taps [.p, .i 4] (some x) = some (eTs taps, some x') ∧ Taps taps rest ∧ rest ≤ 3 ∧ DOk x' := by
  obtain ⟨r1, x1, n1, hr1, hx1⟩ := next17 hx (many := 4) (by decide) (by decide)
  obtain ⟨r2, x2, n2, hr2, hx2⟩ := next17 hx1 (many := 3) (by decide) (by decide)
  have n1 : M__law_next [.p, .i 4] (some x) = some (.i (r1 : Int), some x1) := n1
  have n2 : M__law_next [.p, .i 3] (some x1) = some (.i (r2 : Int), some x2) := n2
  have c1 : (1 : Int) + (r1 : Int) = ((r1 + 1 : Nat) : Int) := by omega
  have c2 : (1 : Int) + (r2 : Int) = ((r2 + 1 : Nat) : Int) := by omega
  have e1 := mRng1_nat (bd := false) (n := r2 + 1) (by unfold lim; omega)
  have e2 := mRng1_nat (bd := true) (n := r1 + 1) (by unfold lim; omega)
  have e9 : ∀ xs : List D, mTuple [.l xs] = some (.t xs) := fun _ => rfl
  have e7 : (0 : Nat) ≤ lim := by decide
  have e6 : (1 : Nat) ≤ lim := by decide
  have key := for_inv (ft := fNm 4) (body := (sApp 3 (fB mTuple (fCons (fLc [5] (fRng (mRng1 true) (fCons (fV 2) fNil)) (fNm 5) fYes (fFn M__law_next 2 (fCons (fV 0) (fCons (fC (.i 2)) fNil)))) fNil))))
    (fun (i : Nat) => D.i (i : Int)) (List.range (r2 + 1))
    (fun i S => ∃ (j : Option Sl) (x : DSt) (F : List (List Int)), DOk x ∧ S = ⟨[some (Sl.v .p), some (Sl.v (.i 4)), some (Sl.v (.i ((r1 + 1 : Nat) : Int))), some (Sl.o (.l (F.map eT))), j, none, none], some x⟩ ∧ F.length = i ∧ ∀ t ∈ F, t.length = r1 + 1 ∧ ∀ a ∈ t, Bit a)
    (fun i y S hi ⟨j, x', F, hx', hS, hF1, hF2⟩ => ?_)
    ⟨[some (Sl.v .p), some (Sl.v (.i 4)), some (Sl.v (.i ((r1 + 1 : Nat) : Int))), some (Sl.o (.l [])), none, none, none], some x2⟩ ⟨none, x2, [], hx2, rfl, rfl, fun _ h => nomatch h⟩
  · obtain ⟨S', k1, j, x', F, hx', hS, hF1, hF2⟩ := key
    subst hS
    rw [List.length_range] at hF1
    cases F with
    | nil => cases hF1
    | cons f0 F =>
      have a1 : lcGo [6] (fNm 6) fYes (fOp mGt (fB mSum (fCons (fV 6) fNil)) (fC (.i 0))) ((f0 :: F).map eT) ⟨[some (Sl.v .p), some (Sl.v (.i 4)), some (Sl.v (.i ((r1 + 1 : Nat) : Int))), some (Sl.o (.l ((f0 :: F).map eT))), j, none, none], some x'⟩ =
          some ((f0 :: F).map (fun t => D.b (decide (0 < t.sum))), ⟨[some (Sl.v .p), some (Sl.v (.i 4)), some (Sl.v (.i ((r1 + 1 : Nat) : Int))), some (Sl.o (.l ((f0 :: F).map eT))), j, none, none], some x'⟩) := by
        refine lc_map _ _ _ fun t ht => ?_
        have := mSum_t t
        simp [this]
      have a2 := mAny_map (fun t : List Int => decide (0 < t.sum)) (f0 :: F)
      have a3 : mIxD (.l ((f0 :: F).map eT)) (.i 0) = some (eT f0) := atI_nat (xs := (f0 :: F).map eT) (k := 0) (by simp)
      have a4 : mSl (some 1) none (eT f0) = some (eT (f0.drop 1)) := by
        show some (D.t (cut (f0.map D.i) (some ((1 : Nat) : Int)) none)) = _
        rw [cut_suf, ← List.map_drop]
      have a5 : mAdd (.t [D.i 1]) (eT (f0.drop 1)) = some (eT (1 :: f0.drop 1)) := by
        have := (hF2 f0 List.mem_cons_self).1
        rw [mAdd_t (by rw [List.length_map, List.length_drop, this]; unfold lim; simp; omega)]
        rfl
      have a6 : ixN ((f0 :: F).map eT).length 0 = some 0 := by
        unfold L2.ixN
        simp
      have hT0 : Taps (f0 :: F) r1 := ⟨List.cons_ne_nil _ _, by omega, hF2⟩
      have hT1 : Taps ((1 :: f0.drop 1) :: F) r1 := ⟨List.cons_ne_nil _ _, by have := hF1; simp only [List.length_cons] at this ⊢; omega, fun t ht => by
        rcases List.mem_cons.mp ht with rfl | ht
        · obtain ⟨h1, h2⟩ := hF2 f0 List.mem_cons_self
          refine ⟨by rw [List.length_cons, List.length_drop, h1]; omega, fun a ha => ?_⟩
          rcases List.mem_cons.mp ha with rfl | ha
          · exact .inr rfl
          · exact h2 a ((List.drop_sublist 1 f0).subset ha)
        · exact hF2 t (List.mem_cons_of_mem _ ht)⟩
      have hset : ((f0 :: F).map eT).set 0 (eT (1 :: f0.drop 1)) = ((1 :: f0.drop 1) :: F).map eT := rfl
      unfold M__law_taps g__law_taps
      rw [runB_eq (n := 2) rfl]
      generalize ((r1 + 1 : Nat) : Int) = L1 at *
      generalize ((r2 + 1 : Nat) : Int) = L2 at *
      by_cases hany : ((f0 :: F).any fun t => decide (0 < t.sum)) = true
      · refine ⟨f0 :: F, r1, x', ?_, hT0, by omega, hx'⟩
        rw [hany] at a2
        show _ = some (D.t ((f0 :: F).map eT), _)
        generalize (f0 :: F).map (fun t => D.b (decide (0 < t.sum))) = B at a1 a2
        generalize (f0 :: F).map eT = C at *
        simp [List.replicate, n1, n2, c1, c2, e1, e6, e7, e9, rng_0, k1, a1, a2]
      · refine ⟨(1 :: f0.drop 1) :: F, r1, x', ?_, hT1, by omega, hx'⟩
        have hany : ((f0 :: F).any fun t => decide (0 < t.sum)) = false := by simpa using hany
        rw [hany] at a2
        unfold eTs
        rw [← hset]
        generalize (f0 :: F).map (fun t => D.b (decide (0 < t.sum))) = B at a1 a2
        generalize (f0 :: F).map eT = C at *
        generalize eT (1 :: f0.drop 1) = V at *
        generalize eT (f0.drop 1) = V2 at *
        generalize eT f0 = V3 at *
        simp [List.replicate, n1, n2, c1, c2, e1, e6, e7, e9, rng_0, k1, a1, a2, a3, a4, a5, a6]
  · subst hS
    obtain ⟨zs, x3, d1, d2, d3, d4⟩ := draw_bits (a1 := some (Sl.v (.i 4))) (a2 := some (Sl.v (.i ((r1 + 1 : Nat) : Int)))) (a3 := some (Sl.o (.l (F.map eT)))) (a4 := some (Sl.v (.i (y : Int)))) (r1 + 1) hx'
    have hlt := (List.getElem?_eq_some_iff.mp hi).1
    rw [List.length_range] at hlt
    have l1 : F.length < lim := by unfold lim; omega
    refine ⟨_, _, rfl, .inl ?_, some (Sl.v (.i (y : Int))), x3, F ++ [zs], d4, rfl, by rw [List.length_append, hF1]; rfl, fun t ht => ?_⟩
    · generalize hC : ((r1 + 1 : Nat) : Int) = C at *
      simp [e2, e9, rng_0, d1, l1]
    · rcases List.mem_append.mp ht with ht | ht
      · exact hF2 t ht
      · rw [List.mem_singleton.mp ht]; exact ⟨d2, d3⟩
end K17

/-! K17F: the best words, round by round. -/
namespace K17
open PySem PySem.Spec L2 PD

theorem apN_append {a b c d : List Int} (h : a.length = c.length) : apN (a ++ b) (c ++ d) = apN a c + apN b d := by
  unfold apN
  rw [List.zip_append h, List.filter_append, List.length_append]
section
variable (taps : List (List Int)) (heard : List Int) (rest n : Nat)
def part (k : Nat) : List Int := (heard.drop (k * taps.length)).take taps.length
def cost (q : List Int) : Nat := apN (trk taps q) (heard.take (q.length * taps.length))
/-- a word that may be sent: bits, noughts from place n on -/
def Qw (q : List Int) : Prop := ∀ (i : Nat) (a : Int), q[i]? = some a → Bit a ∧ (n ≤ i → a = 0)
def cq (q : List Int) : Int × List Int := ((cost taps heard q : Int), q)
abbrev Tab := List (List Int × (Int × List Int))
structure LInv (t c : Nat) (P : List Int → Prop) (L : Tab) : Prop where
  nd : (L.map (·.1)).Nodup
  len : L.length ≤ c
  val : ∀ σ v, look L σ = some v → ∃ q, q.length = t ∧ Qw n q ∧ σ = stOf rest q ∧ v = cq taps heard q
  low : ∀ q, P q → ∃ v, look L (stOf rest q) = some v ∧ leP v (cq taps heard q)
def updL (L : Tab) (q : List Int) : Tab := match look L (stOf rest q) with
  | none => put L (stOf rest q) (cq taps heard q)
  | some v => if ltP (cq taps heard q) v then put L (stOf rest q) (cq taps heard q) else L
variable {taps heard rest n}
theorem cost_snoc {q : List Int} {b : Int} (h : (q.length + 1) * taps.length ≤ heard.length) : cost taps heard (q ++ [b]) = cost taps heard q + apN (outW taps (q ++ [b])) (part taps heard q.length) := by
  unfold cost
  have e : heard.take ((q ++ [b]).length * taps.length) = heard.take (q.length * taps.length) ++ part taps heard q.length := by
    unfold part
    rw [List.length_append, List.length_singleton, Nat.succ_mul, List.take_add]
  rw [e, trk_snoc, apN_append]
  rw [trk_length taps _ q rfl, List.length_take, Nat.min_eq_left]
  rw [Nat.succ_mul] at h
  omega
theorem LInv.nil {t : Nat} : LInv taps heard rest n t 0 (fun _ => False) [] :=
  { nd := List.nodup_nil, len := Nat.le_refl _, val := (fun σ v h => nomatch h), low := fun q h => False.elim h }
theorem LInv.upd {t c : Nat} {P : List Int → Prop} {L : Tab} (I : LInv taps heard rest n t c P L) {q : List Int} (h1 : q.length = t) (h2 : Qw n q) :
    LInv taps heard rest n t (c + 1) (fun z => P z ∨ z = q) (updL taps heard rest L q) := by
  have putc : (∀ v, look L (stOf rest q) = some v → ltP (cq taps heard q) v) → LInv taps heard rest n t (c + 1) (fun z => P z ∨ z = q) (put L (stOf rest q) (cq taps heard q)) := fun hv => by
    refine ⟨put_keys _ _ _ I.nd, by have := put_le L (stOf rest q) (cq taps heard q); have := I.len; omega, fun σ v h => ?_, fun z hz => ?_⟩
    · rw [look_put] at h
      by_cases e : σ = stOf rest q
      · rw [if_pos e] at h
        cases h
        exact ⟨q, h1, h2, e, rfl⟩
      · rw [if_neg e] at h
        exact I.val σ v h
    · rw [look_put]
      by_cases e : stOf rest z = stOf rest q
      · rw [if_pos e]
        refine ⟨_, rfl, ?_⟩
        rcases hz with hz | rfl
        · obtain ⟨v, a1, a2⟩ := I.low z hz
          rw [e] at a1
          exact leP_trans (leP_of_lt (hv v a1)) a2
        · exact leP_refl _
      · rw [if_neg e]
        rcases hz with hz | rfl
        · exact I.low z hz
        · exact absurd rfl e
  unfold updL
  cases hq : look L (stOf rest q) with
  | none => exact putc fun v h => by rw [hq] at h; cases h
  | some v =>
    by_cases hlt : ltP (cq taps heard q) v
    · show LInv taps heard rest n t (c + 1) _ (if ltP (cq taps heard q) v then _ else L)
      rw [if_pos hlt]
      exact putc fun v' h => by rw [hq] at h; cases h; exact hlt
    · show LInv taps heard rest n t (c + 1) _ (if ltP (cq taps heard q) v then _ else L)
      rw [if_neg hlt]
      refine ⟨I.nd, Nat.le_succ_of_le I.len, I.val, fun z hz => ?_⟩
      rcases hz with hz | rfl
      · exact I.low z hz
      · exact ⟨v, hq, hlt⟩
theorem LInv.weak {t c d : Nat} {P Q : List Int → Prop} {L : Tab} (I : LInv taps heard rest n t c P L) (h : c ≤ d) (hp : ∀ q, Q q → P q) : LInv taps heard rest n t d Q L :=
  ⟨I.nd, Nat.le_trans I.len h, I.val, fun q hq => I.low q (hp q hq)⟩
/-- the best words of t bits -/
def Best (t : Nat) (L : Tab) : Prop := LInv taps heard rest n t (2 ^ t) (fun q => q.length = t ∧ Qw n q) L
theorem Qw.nil : Qw n [] := fun i a h => by simp at h
theorem Qw.snoc {q : List Int} {b : Int} (h : Qw n q) (hb : Bit b) (h0 : n ≤ q.length → b = 0) : Qw n (q ++ [b]) := fun i a e => by
  by_cases hi : i < q.length
  · rw [List.getElem?_append_left hi] at e
    exact h i a e
  · rw [List.getElem?_append_right (by omega)] at e
    have hi2 : i - q.length = 0 := by
      have := (List.getElem?_eq_some_iff.mp e).1
      simp at this
      omega
    rw [hi2] at e
    have : b = a := by simpa using e
    subst this
    exact ⟨hb, fun z => h0 (by omega)⟩
theorem Qw.init {q : List Int} {b : Int} (h : Qw n (q ++ [b])) : Qw n q ∧ Bit b ∧ (n ≤ q.length → b = 0) := by
  have hb := h q.length b (by rw [List.getElem?_append_right (Nat.le_refl _)]; simp)
  refine ⟨fun i a e => h i a ?_, hb.1, hb.2⟩
  rw [List.getElem?_append_left (List.getElem?_eq_some_iff.mp e).1]
  exact e
theorem best_nil : Best (taps := taps) (heard := heard) (rest := rest) (n := n) 0 [(stOf rest [], cq taps heard [])] := by
  refine ⟨by simp, by simp, fun σ v h => ?_, fun q hq => ?_⟩
  · unfold look at h
    rw [List.find?_cons] at h
    by_cases e : stOf rest [] = σ
    · simp [e] at h
      exact ⟨[], rfl, Qw.nil, e.symm, h.symm⟩
    · simp [e] at h
  · have e : q = [] := List.length_eq_zero_iff.mp hq.1
    subst e
    exact ⟨cq taps heard [], by simp [look], leP_refl _⟩
/-- the bits that may come at place t -/
def bitsAt (n t : Nat) : List Int := if t < n then [0, 1] else [0]
theorem bitsAt_mem {n t : Nat} {b : Int} : b ∈ bitsAt n t ↔ Bit b ∧ (n ≤ t → b = 0) := by
  unfold bitsAt Bit
  by_cases h : t < n
  · rw [if_pos h]
    simp
    intro _ z
    omega
  · rw [if_neg h]
    simp
    omega
/-- one round -/
theorem best_step {t : Nat} {L L' : Tab} (hl : (t + 1) * taps.length ≤ heard.length) (hT : ∀ tap ∈ taps, tap.length = rest + 1) (B : Best (taps := taps) (heard := heard) (rest := rest) (n := n) t L)
    (I : LInv taps heard rest n (t + 1) (2 * L.length) (fun q => ∃ e b, e ∈ L ∧ b ∈ bitsAt n t ∧ q = e.2.2 ++ [b]) L') : Best (taps := taps) (heard := heard) (rest := rest) (n := n) (t + 1) L' := by
  have hb : L.length ≤ 2 ^ t := B.len
  refine ⟨I.nd, Nat.le_trans I.len (by rw [Nat.pow_succ]; omega), I.val, fun q' hq' => ?_⟩
  obtain ⟨h1, h2⟩ := hq'
  have hp : q' ≠ [] := fun e => by rw [e] at h1; cases h1
  have e := List.dropLast_concat_getLast hp
  generalize q'.dropLast = q1 at e
  generalize q'.getLast hp = b at e
  subst e
  have hq1 : q1.length = t := by simpa using h1
  obtain ⟨h3, h4, h5⟩ := h2.init
  obtain ⟨v, v1, v2⟩ := B.low q1 ⟨hq1, h3⟩
  obtain ⟨q, hq, hQ, es, ev⟩ := B.val _ _ v1
  subst ev
  have hm := mem_look v1
  obtain ⟨v', w1, w2⟩ := I.low (q ++ [b]) ⟨_, b, hm, bitsAt_mem.mpr ⟨h4, fun z => h5 (by omega)⟩, rfl⟩
  have es' : stOf rest (q1 ++ [b]) = stOf rest (q ++ [b]) := by rw [← bhd_st, ← bhd_st, es]
  refine ⟨v', by rw [es']; exact w1, leP_trans w2 ?_⟩
  have eo : outW taps (q ++ [b]) = outW taps (q1 ++ [b]) := by rw [← bf_out hT, ← bf_out hT, es]
  unfold cq
  rw [cost_snoc (by rw [hq]; exact hl), cost_snoc (by rw [hq1]; exact hl), eo, hq, hq1, Int.natCast_add, Int.natCast_add]
  exact (leP_shift [b] (by rw [hq, hq1])).mpr v2
end
end K17

/-! K17G: nearest_bits. -/
namespace K17
open PySem PySem.Spec L2 PD

noncomputable def gI : Fst := (sSeq (sAsg (fTup (fCons (fOp mAdd (fV 10) (fFn M_apart 2 (fCons (fFn M_bits_for 3 (fCons (fV 0) (fCons (fV 9) (fCons (fV 12) fNil)))) (fCons (fV 7) fNil)))) (fCons (fOp mAdd (fV 11) (fTup (fCons (fV 12) fNil))) fNil))) (fNm 13))
    (sSeq (sAsg (fFn M_behind 2 (fCons (fV 9) (fCons (fV 12) fNil))) (fNm 14))
    (sIf (fOr (fTst (fOp mNotInD (fV 14) (fO 8))) (fTst (fOp mLt (fV 13) (fOp mIxD (fO 8) (fV 14))))) (sSetD 8 (fV 13) (fV 14)) sNil)))
noncomputable def gM : Fst := (sFor (fSeqD (fIf (fTst (fOp mLt (fV 6) (fOp mSub (fV 4) (fV 3)))) (fTup (fCons (fC (.i 0)) (fCons (fC (.i 1)) fNil))) (fTup (fCons (fC (.i 0)) fNil)))) (fNm 12) gI)
noncomputable def gO : Fst := (sSeq (sAsg (fSl (fV 1) (fP (fOp mMul (fV 6) (fV 2))) (fP (fOp mMul (fOp mAdd (fV 6) (fC (.i 1))) (fV 2)))) (fNm 7))
    (sSeq (sOwn 8 fDic0)
    (sSeq (sFor (fItems (fV 5)) (fTp (fGc (fNm 9) (fGc (fTp (fGc (fNm 10) (fGc (fNm 11) fGn))) fGn))) gM)
    (sAsg (fZ 8) (fNm 5)))))
noncomputable def gN : Fst := (sSeq (sPar 2 3 (fCons (fB mLen (fCons (fV 0) fNil)) (fCons (fOp mSub (fB mLen (fCons (fOp mIxD (fV 0) (fC (.i 0))) fNil)) (fC (.i 1))) fNil)))
    (sSeq (sAsg (fOp mFdiv (fB mLen (fCons (fV 1) fNil)) (fV 2)) (fNm 4))
    (sSeq (sAsg (fDic (fPc (fOp mMul (fTup (fCons (fC (.i 0)) fNil)) (fV 3)) (fTup (fCons (fC (.i 0)) (fCons (fTup fNil) fNil))) fPn)) (fNm 5))
    (sSeq (sFor (fRng (mRng1 false) (fCons (fV 4) fNil)) (fNm 6) gO)
    (sSeq (sAsg (fOp mIxD (fV 5) (fOp mMul (fTup (fCons (fC (.i 0)) fNil)) (fV 3))) (fTp (fGc (fNm 10) (fGc (fNm 11) fGn))))
    (sRet (fTup (fCons (fV 10) (fCons (fSl (fV 11) fNoP (fP (fOp mSub (fV 4) (fV 3)))) fNil)))))))))
theorem gN_eq : g_nearest_bits = gN := rfl
section
variable {w : Option DSt} {taps : List (List Int)} {heard : List Int} {rest n t : Nat}
theorem keyEq' (a b : List Int) : keyEq (eT a) (eT b) = decide (a = b) := keyEq_eT a b
theorem inner_ok (T : Taps taps rest) (hr : rest ≤ 100) {a1 a2 a3 a4 a5 a6 j13 j14 : Option Sl} {L : Tab} {q : List Int} {b : Int} (hq : q.length ≤ 1000) (hl : (q.length + 1) * taps.length ≤ heard.length) (hL : L.length < lim) :
    ∃ j13' j14', gI ⟨[some (Sl.v (eTs taps)), a1, a2, a3, a4, a5, a6, some (Sl.v (eT (part taps heard q.length))), some (Sl.o (.d (encD eT eP L))), some (Sl.v (eT (stOf rest q))), some (Sl.v (.i (cost taps heard q : Int))), some (Sl.v (eT q)), some (Sl.v (.i b)), j13, j14], w⟩ =
      some (.nx ⟨[some (Sl.v (eTs taps)), a1, a2, a3, a4, a5, a6, some (Sl.v (eT (part taps heard q.length))), some (Sl.o (.d (encD eT eP (updL taps heard rest L (q ++ [b]))))), some (Sl.v (eT (stOf rest q))), some (Sl.v (.i (cost taps heard q : Int))), some (Sl.v (eT q)), some (Sl.v (.i b)), j13', j14'], w⟩) := by
  have hst : (stOf rest q).length + 1 ≤ lim := by rw [stOf_length]; unfold lim; omega
  have b1 := bits_for_ok (w := w) (taps := taps) (st := stOf rest q) (b := b) (fun t ht => (T.2.2 t ht).2) hst
  rw [bf_out fun t ht => (T.2.2 t ht).1] at b1
  have b2 := apart_ok (w := w) (xs := outW taps (q ++ [b])) (ys := part taps heard q.length)
  have b3 : mAdd (eT q) (.t [.i b]) = some (eT (q ++ [b])) := by
    rw [mAdd_t (by rw [List.length_map]; unfold lim; simp; omega)]
    simp [eT]
  have b4 : (cost taps heard q : Int) + (apN (outW taps (q ++ [b])) (part taps heard q.length) : Int) = (cost taps heard (q ++ [b]) : Int) := by
    rw [cost_snoc hl, Int.natCast_add]
  have b5 := behind_ok (w := w) (st := stOf rest q) (b := b) hst
  rw [bhd_st] at b5
  have e6 : (1 : Nat) ≤ lim := by decide
  have e2 : (2 : Nat) ≤ lim := by decide
  have k1 := kinds_enc (ev := eP) dkOk_eT L (stOf rest (q ++ [b]))
  have k2 := look_enc (ev := eP) keyEq' (stOf rest (q ++ [b])) L
  have k3 := put_enc (ev := eP) keyEq' (stOf rest (q ++ [b])) (cq taps heard (q ++ [b])) L
  have k4 : (encD eT eP L).length < lim := by unfold encD; rw [List.length_map]; exact hL
  have m1 : mNotInD (eT (stOf rest (q ++ [b]))) (.d (encD eT eP L)) = some (.b (!(look L (stOf rest (q ++ [b]))).isSome)) := by
    show (if kindOk (encD eT eP L) (eT (stOf rest (q ++ [b]))) = true then some (D.b (!(lookD (encD eT eP L) (eT (stOf rest (q ++ [b])))).isSome)) else none) = _
    rw [if_pos k1, k2, Option.isSome_map]
  have m2 : mIxD (.d (encD eT eP L)) (eT (stOf rest (q ++ [b]))) = (look L (stOf rest (q ++ [b]))).map eP := by
    show (if kindOk (encD eT eP L) (eT (stOf rest (q ++ [b]))) = true then lookD (encD eT eP L) (eT (stOf rest (q ++ [b]))) else none) = _
    rw [if_pos k1, k2]
  have told : D.t [.i (cost taps heard (q ++ [b]) : Int), eT (q ++ [b])] = eP (cq taps heard (q ++ [b])) := rfl
  refine ⟨some (Sl.v (eP (cq taps heard (q ++ [b])))), some (Sl.v (eT (stOf rest (q ++ [b])))), ?_⟩
  unfold gI updL
  cases hlk : look L (stOf rest (q ++ [b])) with
  | none =>
    rw [hlk] at m1 m2
    show _ = some (Out.nx ⟨[some (Sl.v (eTs taps)), a1, a2, a3, a4, a5, a6, some (Sl.v (eT (part taps heard q.length))), some (Sl.o (.d (encD eT eP (put L (stOf rest (q ++ [b])) (cq taps heard (q ++ [b])))))), some (Sl.v (eT (stOf rest q))), some (Sl.v (.i (cost taps heard q : Int))), some (Sl.v (eT q)), some (Sl.v (.i b)), _, _], w⟩)
    rw [← k3]
    generalize encD eT eP L = LD at *
    generalize eT (stOf rest (q ++ [b])) = P at *
    generalize eT (outW taps (q ++ [b])) = OW at *
    simp [b1, b2, b3, b4, b5, e6, e2, m1, told, k1, k4]
  | some v =>
    rw [hlk] at m1 m2
    have m2 : mIxD (.d (encD eT eP L)) (eT (stOf rest (q ++ [b]))) = some (eP v) := m2
    have m3 := mLt_eP (cq taps heard (q ++ [b])) v
    by_cases hlt : ltP (cq taps heard (q ++ [b])) v
    · show _ = some (Out.nx ⟨[some (Sl.v (eTs taps)), a1, a2, a3, a4, a5, a6, some (Sl.v (eT (part taps heard q.length))), some (Sl.o (.d (encD eT eP (if ltP (cq taps heard (q ++ [b])) v then put L (stOf rest (q ++ [b])) (cq taps heard (q ++ [b])) else L)))), some (Sl.v (eT (stOf rest q))), some (Sl.v (.i (cost taps heard q : Int))), some (Sl.v (eT q)), some (Sl.v (.i b)), _, _], w⟩)
      rw [if_pos hlt, ← k3]
      rw [decide_eq_true hlt] at m3
      generalize encD eT eP L = LD at *
      generalize eT (stOf rest (q ++ [b])) = P at *
      generalize eT (outW taps (q ++ [b])) = OW at *
      generalize eP (cq taps heard (q ++ [b])) = TO at *
      generalize eP v = VO at *
      simp [b1, b2, b3, b4, b5, e6, e2, m1, m2, m3, told, k1, k4]
    · show _ = some (Out.nx ⟨[some (Sl.v (eTs taps)), a1, a2, a3, a4, a5, a6, some (Sl.v (eT (part taps heard q.length))), some (Sl.o (.d (encD eT eP (if ltP (cq taps heard (q ++ [b])) v then put L (stOf rest (q ++ [b])) (cq taps heard (q ++ [b])) else L)))), some (Sl.v (eT (stOf rest q))), some (Sl.v (.i (cost taps heard q : Int))), some (Sl.v (eT q)), some (Sl.v (.i b)), _, _], w⟩)
      rw [if_neg hlt]
      rw [decide_eq_false hlt] at m3
      generalize encD eT eP L = LD at *
      generalize eT (stOf rest (q ++ [b])) = P at *
      generalize eT (outW taps (q ++ [b])) = OW at *
      generalize eP (cq taps heard (q ++ [b])) = TO at *
      generalize eP v = VO at *
      simp [b1, b2, b3, b4, b5, e6, e2, m1, m2, m3, told]
end
end K17

/-! K17H: nearest_bits, the loops. -/
namespace K17
open PySem PySem.Spec L2 PD

section
variable {w : Option DSt} {taps : List (List Int)} {heard : List Int} {rest n t : Nat}
theorem take_snoc' {α : Type} {p : List α} {i : Nat} {b : α} (h : p[i]? = some b) : p.take (i + 1) = p.take i ++ [b] := by
  rw [List.take_add_one, h]
  rfl
theorem mid_ok (T : Taps taps rest) (hr : rest ≤ 100) {a1 a2 a5 j12 j13 j14 : Option Sl} {c : Nat} {P : List Int → Prop} {L : Tab} {q : List Int} (I : LInv taps heard rest n (t + 1) c P L) (hc : c + 2 < lim) (hq : q.length = t) (hQ : Qw n q) (ht : t ≤ 1000) (hl : (t + 1) * taps.length ≤ heard.length) :
    ∃ L' k12 k13 k14, gM ⟨[some (Sl.v (eTs taps)), a1, a2, some (Sl.v (.i (rest : Int))), some (Sl.v (.i ((n + rest : Nat) : Int))), a5, some (Sl.v (.i (t : Int))), some (Sl.v (eT (part taps heard t))), some (Sl.o (.d (encD eT eP L))), some (Sl.v (eT (stOf rest q))), some (Sl.v (.i (cost taps heard q : Int))), some (Sl.v (eT q)), j12, j13, j14], w⟩ =
      some (.nx ⟨[some (Sl.v (eTs taps)), a1, a2, some (Sl.v (.i (rest : Int))), some (Sl.v (.i ((n + rest : Nat) : Int))), a5, some (Sl.v (.i (t : Int))), some (Sl.v (eT (part taps heard t))), some (Sl.o (.d (encD eT eP L'))), some (Sl.v (eT (stOf rest q))), some (Sl.v (.i (cost taps heard q : Int))), some (Sl.v (eT q)), k12, k13, k14], w⟩) ∧
      LInv taps heard rest n (t + 1) (c + 2) (fun z => P z ∨ ∃ b, b ∈ bitsAt n t ∧ z = q ++ [b]) L' := by
  have key := for_inv (ft := fNm 12) (body := gI) D.i (bitsAt n t)
    (fun k S => ∃ (L' : Tab) (k12 k13 k14 : Option Sl), LInv taps heard rest n (t + 1) (c + k) (fun z => P z ∨ ∃ b, b ∈ (bitsAt n t).take k ∧ z = q ++ [b]) L' ∧ S = ⟨[some (Sl.v (eTs taps)), a1, a2, some (Sl.v (.i (rest : Int))), some (Sl.v (.i ((n + rest : Nat) : Int))), a5, some (Sl.v (.i (t : Int))), some (Sl.v (eT (part taps heard t))), some (Sl.o (.d (encD eT eP L'))), some (Sl.v (eT (stOf rest q))), some (Sl.v (.i (cost taps heard q : Int))), some (Sl.v (eT q)), k12, k13, k14], w⟩)
    (fun k b S hk ⟨L', k12, k13, k14, I', hS⟩ => ?_)
    ⟨[some (Sl.v (eTs taps)), a1, a2, some (Sl.v (.i (rest : Int))), some (Sl.v (.i ((n + rest : Nat) : Int))), a5, some (Sl.v (.i (t : Int))), some (Sl.v (eT (part taps heard t))), some (Sl.o (.d (encD eT eP L))), some (Sl.v (eT (stOf rest q))), some (Sl.v (.i (cost taps heard q : Int))), some (Sl.v (eT q)), j12, j13, j14], w⟩
    ⟨L, j12, j13, j14, I.weak (Nat.le_refl _) (fun z hz => by
      rcases hz with hz | ⟨b, hb, _⟩
      · exact hz
      · simp at hb), rfl⟩
  · obtain ⟨S', g1, L', k12, k13, k14, I', hS⟩ := key
    subst hS
    have hlen : (bitsAt n t).length ≤ 2 := by unfold bitsAt; split <;> simp
    rw [List.take_length] at I'
    refine ⟨L', k12, k13, k14, ?_, I'.weak (by omega) fun z hz => hz⟩
    have e6 : (1 : Nat) ≤ lim := by decide
    have e2 : (2 : Nat) ≤ lim := by decide
    have es : (((n + rest : Nat) : Int) - (rest : Int)) = (n : Int) := by omega
    unfold gM
    generalize ((n + rest : Nat) : Int) = ST at *
    by_cases h : t < n
    · have h' : (t : Int) < (n : Int) := by omega
      have eb : (bitsAt n t).map D.i = [.i 0, .i 1] := by unfold bitsAt; rw [if_pos h]; rfl
      rw [eb] at g1
      simp [es, h', h, e2, g1]
    · have h' : ¬ (t : Int) < (n : Int) := by omega
      have eb : (bitsAt n t).map D.i = [.i 0] := by unfold bitsAt; rw [if_neg h]; rfl
      rw [eb] at g1
      simp [es, h', h, e6, g1]
  · subst hS
    have hb := List.mem_of_getElem? hk
    obtain ⟨hb1, hb2⟩ := bitsAt_mem.mp hb
    have hklt := (List.getElem?_eq_some_iff.mp hk).1
    have hlen : (bitsAt n t).length ≤ 2 := by unfold bitsAt; split <;> simp
    have hL : L'.length < lim := by have := I'.len; omega
    subst hq
    obtain ⟨x13, x14, g1⟩ := inner_ok (w := w) T hr (a1 := a1) (a2 := a2) (a3 := some (Sl.v (.i (rest : Int)))) (a4 := some (Sl.v (.i ((n + rest : Nat) : Int)))) (a5 := a5) (a6 := some (Sl.v (.i (q.length : Int)))) (j13 := k13) (j14 := k14) (L := L') (q := q) (b := b) ht hl hL
    refine ⟨_, _, rfl, .inl g1, updL taps heard rest L' (q ++ [b]), some (Sl.v (.i b)), x13, x14, (I'.upd (by simp) (hQ.snoc hb1 hb2)).weak (Nat.le_refl _) fun z hz => ?_, rfl⟩
    rcases hz with hz | ⟨b', hb', rfl⟩
    · exact .inl (.inl hz)
    · rw [take_snoc hk] at hb'
      rcases List.mem_append.mp hb' with hb' | hb'
      · exact .inl (.inr ⟨b', hb', rfl⟩)
      · rw [List.mem_singleton.mp hb']; exact .inr rfl
theorem round_ok (T : Taps taps rest) (hr : rest ≤ 100) {j7 j8 j9 j10 j11 j12 j13 j14 : Option Sl} {L : Tab} (B : Best (taps := taps) (heard := heard) (rest := rest) (n := n) t L) (ht : t ≤ 20) (hl : (t + 1) * taps.length ≤ heard.length) :
    ∃ L' k7 k8 k9 k10 k11 k12 k13 k14, gO ⟨[some (Sl.v (eTs taps)), some (Sl.v (eT heard)), some (Sl.v (.i (taps.length : Int))), some (Sl.v (.i (rest : Int))), some (Sl.v (.i ((n + rest : Nat) : Int))), some (Sl.v (.d (encD eT eP L))), some (Sl.v (.i (t : Int))), j7, j8, j9, j10, j11, j12, j13, j14], w⟩ =
      some (.nx ⟨[some (Sl.v (eTs taps)), some (Sl.v (eT heard)), some (Sl.v (.i (taps.length : Int))), some (Sl.v (.i (rest : Int))), some (Sl.v (.i ((n + rest : Nat) : Int))), some (Sl.v (.d (encD eT eP L'))), some (Sl.v (.i (t : Int))), k7, k8, k9, k10, k11, k12, k13, k14], w⟩) ∧
      Best (taps := taps) (heard := heard) (rest := rest) (n := n) (t + 1) L' := by
  have hT := T.2.1
  have p1 : mMul (.i (t : Int)) (.i (taps.length : Int)) = some (.i ((t * taps.length : Nat) : Int)) := by
    rw [mMul_i (small_r (by omega) (by omega)), Int.natCast_mul]
  have p2 : mMul (.i ((t : Int) + 1)) (.i (taps.length : Int)) = some (.i (((t + 1) * taps.length : Nat) : Int)) := by
    rw [mMul_i (small_r (by omega) (by omega)), Int.natCast_mul]
    rfl
  have p3 : mSl (some ((t * taps.length : Nat) : Int)) (some (((t + 1) * taps.length : Nat) : Int)) (eT heard) = some (eT (part taps heard t)) := by
    show some (D.t (cut (heard.map D.i) _ _)) = _
    rw [cut_mid]
    unfold part
    have e : (t + 1) * taps.length - t * taps.length = taps.length := by rw [Nat.succ_mul]; omega
    rw [e, ← List.map_drop, ← List.map_take]
  have hL : L.length ≤ 2 ^ 20 := Nat.le_trans B.len (Nat.pow_le_pow_right (by decide) ht)
  have key := for_inv (ft := (fTp (fGc (fNm 9) (fGc (fTp (fGc (fNm 10) (fGc (fNm 11) fGn))) fGn)))) (body := gM) (fun e : List Int × (Int × List Int) => D.t [eT e.1, eP e.2]) L
    (fun m S => ∃ (L' : Tab) (k9 k10 k11 k12 k13 k14 : Option Sl), LInv taps heard rest n (t + 1) (2 * m) (fun z => ∃ e b, e ∈ L.take m ∧ b ∈ bitsAt n t ∧ z = e.2.2 ++ [b]) L' ∧ S = ⟨[some (Sl.v (eTs taps)), some (Sl.v (eT heard)), some (Sl.v (.i (taps.length : Int))), some (Sl.v (.i (rest : Int))), some (Sl.v (.i ((n + rest : Nat) : Int))), some (Sl.v (.d (encD eT eP L))), some (Sl.v (.i (t : Int))), some (Sl.v (eT (part taps heard t))), some (Sl.o (.d (encD eT eP L'))), k9, k10, k11, k12, k13, k14], w⟩)
    (fun m e S hm ⟨L', k9, k10, k11, k12, k13, k14, I', hS⟩ => ?_)
    ⟨[some (Sl.v (eTs taps)), some (Sl.v (eT heard)), some (Sl.v (.i (taps.length : Int))), some (Sl.v (.i (rest : Int))), some (Sl.v (.i ((n + rest : Nat) : Int))), some (Sl.v (.d (encD eT eP L))), some (Sl.v (.i (t : Int))), some (Sl.v (eT (part taps heard t))), some (Sl.o (.d [])), j9, j10, j11, j12, j13, j14], w⟩
    ⟨[], j9, j10, j11, j12, j13, j14, (LInv.nil).weak (Nat.le_refl _) (fun z hz => by obtain ⟨e, b, he, _⟩ := hz; simp at he), rfl⟩
  · obtain ⟨S', g1, L', k9, k10, k11, k12, k13, k14, I', hS⟩ := key
    subst hS
    rw [List.take_length] at I'
    refine ⟨L', some (Sl.v (eT (part taps heard t))), some (Sl.v (.d (encD eT eP L'))), k9, k10, k11, k12, k13, k14, ?_, best_step hl (fun t ht => (T.2.2 t ht).1) B I'⟩
    have hmap : (encD eT eP L).map (fun p => D.t [p.1, p.2]) = L.map (fun e : List Int × (Int × List Int) => D.t [eT e.1, eP e.2]) := by
      unfold encD
      rw [List.map_map]
      rfl
    unfold gO
    generalize L.map (fun e : List Int × (Int × List Int) => D.t [eT e.1, eP e.2]) = LM at *
    generalize encD eT eP L = LD at *
    generalize ((n + rest : Nat) : Int) = ST at *
    generalize ((t * taps.length : Nat) : Int) = A1 at *
    generalize (((t + 1) * taps.length : Nat) : Int) = A2 at *
    generalize eT (part taps heard t) = PA at *
    simp [p1, p2, p3, hmap, g1]
  · subst hS
    have he := List.mem_of_getElem? hm
    have hmlt := (List.getElem?_eq_some_iff.mp hm).1
    obtain ⟨q, hq, hQ, e1, e2⟩ := B.val e.1 e.2 (look_mem B.nd he)
    have ee : e = (stOf rest q, cq taps heard q) := Prod.ext e1 e2
    subst ee
    obtain ⟨L'', x12, x13, x14, g1, I''⟩ := mid_ok (w := w) T hr (a1 := some (Sl.v (eT heard))) (a2 := some (Sl.v (.i (taps.length : Int)))) (a5 := some (Sl.v (.d (encD eT eP L)))) (j12 := k12) (j13 := k13) (j14 := k14) I' (by unfold lim; omega) hq hQ (by omega) hl
    refine ⟨_, _, rfl, .inl g1, L'', _, _, _, x12, x13, x14, I''.weak (by omega) fun z hz => ?_, rfl⟩
    obtain ⟨e, b, he', hb, rfl⟩ := hz
    rw [take_snoc' hm] at he'
    rcases List.mem_append.mp he' with he' | he'
    · exact .inl ⟨e, b, he', hb, rfl⟩
    · rw [List.mem_singleton.mp he']
      exact .inr ⟨b, hb, rfl⟩
end
end K17

/-! K17I: nearest_bits, whole. -/
namespace K17
open PySem PySem.Spec L2 PD

@[simp] theorem fDic_eq {r : Fps} {S : Se} : fDic r S = (r S).bind fun p => if dispOk p.1 = true then some (.d (mergeD [] p.1), p.2) else none := rfl
@[simp] theorem fPc_eq {f g : Fe} {r : Fps} {S : Se} : fPc f g r S = (f S).bind fun p => (g p.2).bind fun q => (r q.2).map fun t => ((p.1, q.1) :: t.1, t.2) := rfl
@[simp] theorem fPn_eq {S : Se} : fPn S = some ([], S) := rfl
theorem disp1 {k v : D} (h : dkOk k = true) : dispOk [(k, v)] = true := by
  unfold dispOk
  rw [Bool.and_eq_true, Bool.or_eq_true]
  exact ⟨rfl, .inr (by rw [List.all_cons, h]; rfl)⟩
theorem merge1 (k v : D) : mergeD [] [(k, v)] = [(k, v)] := rfl
theorem stOf_end (rest : Nat) (q : List Int) : stOf rest (q ++ List.replicate rest 0) = List.replicate rest 0 := by
  unfold stOf
  rw [List.reverse_append, List.reverse_replicate, List.append_assoc]
  exact List.take_left' (List.length_replicate)
section
variable {w : Option DSt} {taps : List (List Int)} {heard : List Int} {rest n : Nat}
theorem Qw.split {q : List Int} (h : Qw n q) (hl : q.length = n + rest) : q = q.take n ++ List.replicate rest 0 ∧ ∀ a ∈ q.take n, Bit a := by
  refine ⟨?_, fun a ha => ?_⟩
  · conv => lhs; rw [← List.take_append_drop n q]
    congr 1
    refine List.eq_replicate_iff.mpr ⟨by rw [List.length_drop]; omega, fun a ha => ?_⟩
    obtain ⟨i, hi, e⟩ := List.mem_iff_getElem.mp ha
    rw [List.getElem_drop] at e
    rw [List.length_drop] at hi
    exact (h (n + i) a (by rw [List.getElem?_eq_getElem (by omega), e])).2 (by omega)
  · obtain ⟨i, hi, e⟩ := List.mem_iff_getElem.mp ha
    rw [List.getElem_take] at e
    rw [List.length_take] at hi
    exact (h i a (by rw [List.getElem?_eq_getElem (by omega), e])).1
theorem Qw.of {q : List Int} (h : ∀ a ∈ q, Bit a) (hl : q.length = n) : Qw n (q ++ List.replicate rest 0) := fun i a e => by
  by_cases hi : i < q.length
  · rw [List.getElem?_append_left hi] at e
    exact ⟨h a (List.mem_of_getElem? e), fun z => by omega⟩
  · rw [List.getElem?_append_right (by omega)] at e
    have := List.mem_of_getElem? e
    have h0 := (List.mem_replicate.mp this).2
    exact ⟨.inl h0, fun _ => h0⟩
theorem nearest_ok (T : Taps taps rest) (hr : rest ≤ 3) (hn : n ≤ 10) (hh : heard.length = (n + rest) * taps.length) : ∃ q : List Int, q.length = n ∧ (∀ a ∈ q, Bit a) ∧ M_nearest_bits [eTs taps, eT heard] w = some (eP ((cost taps heard (q ++ List.replicate rest 0) : Int), q), w) ∧
    ∀ q' : List Int, q'.length = n → (∀ a ∈ q', Bit a) → leP ((cost taps heard (q ++ List.replicate rest 0) : Int), q) ((cost taps heard (q' ++ List.replicate rest 0) : Int), q') := by
  have hT := T.2.1
  have hT0 : 0 < taps.length := List.length_pos_iff.mpr T.1
  obtain ⟨t0, e1, e2⟩ := head_ix T
  have e3 : ((t0.length : Int) - 1) = (rest : Int) := by omega
  have e4 := zeros_ok (rest := rest) (by omega)
  have e5 : mFdiv (.i (heard.length : Int)) (.i (taps.length : Int)) = some (.i ((n + rest : Nat) : Int)) := by
    rw [mFdiv_i (by omega) (by omega), hh, Int.natCast_mul, Int.mul_fdiv_cancel _ (by omega)]
  have e6 := mRng1_nat (bd := false) (n := n + rest) (by unfold lim; omega)
  have e7 : (1 : Nat) ≤ lim := by decide
  have e8 : (2 : Nat) ≤ lim := by decide
  have e9 : (0 : Nat) ≤ lim := by decide
  have z0 : stOf rest [] = List.replicate rest 0 := by simp [stOf]
  have d1 : dispOk [(eT (List.replicate rest 0), D.t [.i 0, .t []])] = true := disp1 (dkOk_eT _)
  have key := for_inv (ft := fNm 6) (body := gO) (fun (i : Nat) => D.i (i : Int)) (List.range (n + rest))
    (fun t S => ∃ (L : Tab) (j6 j7 j8 j9 j10 j11 j12 j13 j14 : Option Sl), Best (taps := taps) (heard := heard) (rest := rest) (n := n) t L ∧ S = ⟨[some (Sl.v (eTs taps)), some (Sl.v (eT heard)), some (Sl.v (.i (taps.length : Int))), some (Sl.v (.i (rest : Int))), some (Sl.v (.i ((n + rest : Nat) : Int))), some (Sl.v (.d (encD eT eP L))), j6, j7, j8, j9, j10, j11, j12, j13, j14], w⟩)
    (fun t y S hy ⟨L, j6, j7, j8, j9, j10, j11, j12, j13, j14, B, hS⟩ => ?_)
    ⟨[some (Sl.v (eTs taps)), some (Sl.v (eT heard)), some (Sl.v (.i (taps.length : Int))), some (Sl.v (.i (rest : Int))), some (Sl.v (.i ((n + rest : Nat) : Int))), some (Sl.v (.d [(eT (List.replicate rest 0), D.t [.i 0, .t []])])), none, none, none, none, none, none, none, none, none], w⟩
    ⟨[(stOf rest [], cq taps heard [])], none, none, none, none, none, none, none, none, none, best_nil, by
      unfold encD cq cost
      rw [z0]
      simp [apN, trk_nil]⟩
  · obtain ⟨S', g1, L, j6, j7, j8, j9, j10, j11, j12, j13, j14, B, hS⟩ := key
    subst hS
    rw [List.length_range] at B
    have hz : ∀ q : List Int, q.length = n → (∀ a ∈ q, Bit a) → ∃ v, look L (List.replicate rest 0) = some v ∧ leP v (cq taps heard (q ++ List.replicate rest 0)) := fun q h1 h2 => by
      obtain ⟨v, v1, v2⟩ := B.low (q ++ List.replicate rest 0) ⟨by rw [List.length_append, List.length_replicate, h1], Qw.of h2 h1⟩
      rw [stOf_end] at v1
      exact ⟨v, v1, v2⟩
    obtain ⟨v, v1, _⟩ := hz (List.replicate n 0) (List.length_replicate) fun a ha => .inl (List.mem_replicate.mp ha).2
    obtain ⟨q, hq, hQ, es, ev⟩ := B.val _ _ v1
    obtain ⟨hs1, hs2⟩ := hQ.split hq
    have hql : (q.take n).length = n := by rw [List.length_take]; omega
    refine ⟨q.take n, hql, hs2, ?_, fun q' h1 h2 => ?_⟩
    · have f1 : mIxD (.d (encD eT eP L)) (eT (List.replicate rest 0)) = some (D.t [.i (cost taps heard q : Int), eT q]) := by
        have k1 := kinds_enc (ev := eP) dkOk_eT L (List.replicate rest 0)
        have k2 := look_enc (ev := eP) keyEq' (List.replicate rest 0) L
        show (if kindOk (encD eT eP L) (eT (List.replicate rest 0)) = true then lookD (encD eT eP L) (eT (List.replicate rest 0)) else none) = _
        rw [if_pos k1, k2, v1, ev]
        rfl
      have f2 : mSl none (some (n : Int)) (eT q) = some (eT (q.take n)) := by
        show some (D.t (cut (q.map D.i) none (some (n : Int)))) = _
        rw [cut_pre, ← List.map_take]
      have f3 : (((n + rest : Nat) : Int) - (rest : Int)) = (n : Int) := by omega
      rw [← hs1]
      unfold M_nearest_bits
      rw [gN_eq, runB_eq (n := 2) rfl]
      unfold gN
      show _ = some (D.t [.i (cost taps heard q : Int), eT (q.take n)], w)
      generalize eT (List.replicate rest 0) = Z at *
      generalize ((n + rest : Nat) : Int) = ST at *
      generalize eT q = EQ at *
      generalize eT (q.take n) = EQ2 at *
      simp [List.replicate, e1, e3, e4, e5, e6, e7, e8, e9, d1, merge1, rng_0, g1, f1, f2, f3]
    · obtain ⟨v', w1, w2⟩ := hz q' h1 h2
      rw [v1] at w1
      cases w1
      rw [ev] at w2
      rw [← hs1]
      have h3 := w2
      unfold cq at h3
      have h4 : leP ((cost taps heard q : Int) + 0, q.take n ++ List.replicate rest 0) ((cost taps heard (q' ++ List.replicate rest 0) : Int) + 0, q' ++ List.replicate rest 0) := by
        rw [Int.add_zero, Int.add_zero, ← hs1]
        exact h3
      exact (leP_shift (List.replicate rest 0) (by rw [hql, h1])).mp h4
  · subst hS
    have hylt := (List.getElem?_eq_some_iff.mp hy).1
    rw [List.length_range] at hylt
    have hyt : y = t := by
      have := (List.getElem?_eq_some_iff.mp hy).2
      rw [List.getElem_range] at this
      exact this.symm
    subst hyt
    have hl : (y + 1) * taps.length ≤ heard.length := by rw [hh]; exact Nat.mul_le_mul_right _ (by omega)
    obtain ⟨L', k7, k8, k9, k10, k11, k12, k13, k14, g1, B'⟩ := round_ok (w := w) T (by omega) (j7 := j7) (j8 := j8) (j9 := j9) (j10 := j10) (j11 := j11) (j12 := j12) (j13 := j13) (j14 := j14) B (by omega) hl
    exact ⟨_, _, rfl, .inl g1, L', _, k7, k8, k9, k10, k11, k12, k13, k14, B', rfl⟩
end
end K17

/-! K17J: the law. -/
namespace K17
open PySem PySem.Spec L2 PD

theorem same_eq : ∀ n : Nat, M__law_same n = M_same n
  | 0 => rfl
  | n + 1 => by
    show runB 3 2 (g__law_same (M__law_same n)) = runB 3 2 (g_same (M_same n))
    rw [same_eq n]
    rfl
theorem sameOk_eT {n : Nat} {xs : List Int} (h : xs.length ≤ lim) : sameOk (n + 2) (eT xs) = true := by
  show (decide ((xs.map D.i).length ≤ lim) && (xs.map D.i).all (sameOk (n + 1))) = true
  rw [List.length_map, decide_eq_true h, Bool.true_and, List.all_map]
  exact List.all_eq_true.mpr fun _ _ => rfl
theorem same8 {xs : List Int} {w : Option DSt} (h : xs.length ≤ lim) : M__law_same 8 [eT xs, eT xs] w = some (.b true, w) := by
  rw [same_eq]
  exact same_refl 8 _ w (sameOk_eT (n := 6) h)
theorem same8P {x : Int × List Int} {w : Option DSt} (h : x.2.length ≤ lim) : M__law_same 8 [eP x, eP x] w = some (.b true, w) := by
  rw [same_eq]
  refine same_refl 8 _ w ?_
  show (decide ([D.i x.1, eT x.2].length ≤ lim) && [D.i x.1, eT x.2].all (sameOk 7)) = true
  rw [List.all_cons, List.all_cons, sameOk_eT (n := 5) h]
  rfl
/-- drawn bits, in the law's own slots -/
theorem draw_bits2 {a0 a2 a3 a4 a5 a6 a7 a8 a10 a11 a12 : Option Sl} (n : Nat) {x : DSt} (hx : DOk x) : ∃ (zs : List Int) (x' : DSt), lcGo [9] (fNm 9) fYes (fFn M__law_next 2 (fCons (fV 1) (fCons (fC (.i 2)) fNil))) ((List.range n).map fun (i : Nat) => D.i (i : Int)) ⟨[a0, some (Sl.v .p), a2, a3, a4, a5, a6, a7, a8, none, a10, a11, a12], some x⟩ = some (zs.map D.i, ⟨[a0, some (Sl.v .p), a2, a3, a4, a5, a6, a7, a8, none, a10, a11, a12], some x'⟩) ∧ zs.length = n ∧ (∀ a ∈ zs, Bit a) ∧ DOk x' := by
  have key := lc_draw (vs := [9]) (ft := fNm 9) (tt := fYes) (te := fFn M__law_next 2 (fCons (fV 1) (fCons (fC (.i 2)) fNil))) (fun (i : Nat) => D.i (i : Int)) D.i (fun _ z => Bit z) (sl := [a0, some (Sl.v .p), a2, a3, a4, a5, a6, a7, a8, none, a10, a11, a12]) (List.range n) (fun y _ x hx => ?_) x hx
  · obtain ⟨zs, x', e, p, h⟩ := key
    exact ⟨zs, x', e, by rw [paired_len p, List.length_range], paired_all p, h⟩
  · obtain ⟨r, x', e, h1, h2⟩ := next17 hx (many := 2) (by decide) (by decide)
    refine ⟨(r : Int), x', ?_, ?_, h2⟩
    · have e : M__law_next [.p, .i 2] (some x) = some (.i (r : Int), some x') := e
      simp [e]
    · unfold Bit; omega
/-- some signs turned -/
theorem draw_heard {a0 a2 a3 a4 a5 a6 a7 a8 a9 a11 a12 : Option Sl} (tr : List Int) {x : DSt} (hx : DOk x) : ∃ (zs : List Int) (x' : DSt), lcGo [10] (fNm 10) fYes (fIf (fTst (fOp mEq (fFn M__law_next 2 (fCons (fV 1) (fCons (fC (.i 5)) fNil))) (fC (.i 0)))) (fOp mSub (fC (.i 1)) (fV 10)) (fV 10)) (tr.map D.i) ⟨[a0, some (Sl.v .p), a2, a3, a4, a5, a6, a7, a8, a9, none, a11, a12], some x⟩ = some (zs.map D.i, ⟨[a0, some (Sl.v .p), a2, a3, a4, a5, a6, a7, a8, a9, none, a11, a12], some x'⟩) ∧ zs.length = tr.length ∧ DOk x' := by
  have key := lc_draw (vs := [10]) (ft := fNm 10) (tt := fYes) (te := (fIf (fTst (fOp mEq (fFn M__law_next 2 (fCons (fV 1) (fCons (fC (.i 5)) fNil))) (fC (.i 0)))) (fOp mSub (fC (.i 1)) (fV 10)) (fV 10))) D.i D.i (fun _ _ => True) (sl := [a0, some (Sl.v .p), a2, a3, a4, a5, a6, a7, a8, a9, none, a11, a12]) tr (fun y _ x hx => ?_) x hx
  · obtain ⟨zs, x', e, p, h⟩ := key
    exact ⟨zs, x', e, paired_len p, h⟩
  · obtain ⟨r, x', e, h1, h2⟩ := next17 hx (many := 5) (by decide) (by decide)
    have e : M__law_next [.p, .i 5] (some x) = some (.i (r : Int), some x') := e
    refine ⟨if r = 0 then 1 - y else y, x', ?_, trivial, h2⟩
    by_cases h : r = 0
    · subst h
      have e : M__law_next [.p, .i 5] (some x) = some (.i 0, some x') := e
      simp [e]
    · simp [e, h]
theorem ones_sum {α : Type} : ∀ xs : List α, (xs.map fun _ => (1 : Int)).sum = (xs.length : Int)
  | [] => rfl
  | _ :: xs => by rw [List.map_cons, List.sum_cons, ones_sum xs, List.length_cons]; omega
theorem count_lc {a0 a1 a2 a3 a4 a5 a6 a7 a8 a9 a10 : Option Sl} {w : Option DSt} (xs ys : List Int) : lcGo [11, 12] (fTp (fGc (fNm 11) (fGc (fNm 12) fGn))) (fTst (fOp mNe (fV 11) (fV 12))) (fC (.i 1)) ((xs.zip ys).map fun p => D.t [.i p.1, .i p.2]) ⟨[a0, a1, a2, a3, a4, a5, a6, a7, a8, a9, a10, none, none], w⟩ =
    some (((xs.zip ys).filter fun p => !decide (p.1 = p.2)).map (fun _ => D.i 1), ⟨[a0, a1, a2, a3, a4, a5, a6, a7, a8, a9, a10, none, none], w⟩) := by
  refine lc_filt _ _ _ _ fun p hp => ?_
  by_cases h : p.1 = p.2 <;> simp [h]
theorem count_sum (xs ys : List Int) : mSum [.l (((xs.zip ys).filter fun p => !decide (p.1 = p.2)).map (fun _ => D.i 1))] = some (.i (apN xs ys : Int)) := by
  unfold apN
  rw [← ones_sum, ← mSum_l]
  unfold eL
  rw [List.map_map]
  rfl
def val (taps : List (List Int)) (heard : List Int) (rest : Nat) (q : List Int) : Int × List Int := ((apN (trk taps (q ++ List.replicate rest 0)) heard : Int), q)
theorem law_true (ns : List Int) (h : ns.length ≤ 63) : ∃ w', M_law [.sc ns] none = some (.b true, w') := by
  have hx0 : DOk ⟨ns, 0, 0, 17⟩ := ⟨Nat.zero_le _, Int.le_refl _, show (0 : Int) ≤ 17 by decide⟩
  have d0 : M__law_draw [.sc ns] none = some (.p, some ⟨ns, 0, 0, 17⟩) := rfl
  generalize (⟨ns, 0, 0, 17⟩ : DSt) = x0 at hx0 d0
  obtain ⟨taps, rest, x1, d1, T, hr, hx1⟩ := taps_ok hx0
  obtain ⟨m, x2, d2, hm, hx2⟩ := next17 hx1 (many := 7) (by decide) (by decide)
  have d2 : M__law_next [.p, .i 7] (some x1) = some (.i (m : Int), some x2) := d2
  obtain ⟨bits, x3, d3, hb1, hb2, hx3⟩ := draw_bits2 (a0 := some (Sl.v (.sc ns))) (a2 := some (Sl.v (eTs taps))) (a3 := none) (a4 := none) (a5 := none) (a6 := none) (a7 := none) (a8 := none) (a10 := none) (a11 := none) (a12 := none) m hx2
  have d4 := law_run_ok (w := some x3) T (by omega) (bits := bits) (by omega)
  have d5 := run_ok (w := some x3) T (by omega) (bits := bits) (by omega)
  have htl : (trk taps (bits ++ List.replicate rest 0)).length = (m + rest) * taps.length := trk_length taps _ _ (by rw [List.length_append, List.length_replicate, hb1])
  have hT := T.2.1
  have htl2 : (m + rest) * taps.length ≤ 10 * 10 := Nat.mul_le_mul (by omega) hT
  have d6 := same8 (w := some x3) (xs := trk taps (bits ++ List.replicate rest 0)) (by rw [htl]; unfold lim; omega)
  obtain ⟨heard, x4, d7, hh, hx4⟩ := draw_heard (a0 := some (Sl.v (.sc ns))) (a2 := some (Sl.v (eTs taps))) (a3 := some (Sl.v (eT bits))) (a4 := some (Sl.v (eT (trk taps (bits ++ List.replicate rest 0))))) (a5 := none) (a6 := none) (a7 := none) (a8 := none) (a9 := none) (a11 := none) (a12 := none) (trk taps (bits ++ List.replicate rest 0)) hx3
  rw [htl] at hh
  obtain ⟨ws, d8, hws⟩ := law_all_ok (w := some x4) (n := m) (by omega)
  obtain ⟨q0, hq0, hq1, d9, hmin⟩ := nearest_ok (w := some x4) T hr (n := m) (by omega) hh
  have hcost : ∀ q : List Int, q.length = m → ((cost taps heard (q ++ List.replicate rest 0) : Int), q) = val taps heard rest q := fun q hq => by
    unfold cost val
    rw [List.take_of_length_le]
    rw [List.length_append, List.length_replicate, hq, hh]
    exact Nat.le_refl _
  have hwl : ∀ q ∈ ws, q.length = m ∧ ∀ a ∈ q, Bit a := fun q hq => mem_allW.mp (hws.mem_iff.mp hq)
  have e1 := mRng1_nat (bd := true) (n := m) (by unfold lim; omega)
  have e9 : ∀ xs : List D, mTuple [.l xs] = some (.t xs) := fun _ => rfl
  have e2 : (2 : Nat) ≤ lim := by decide
  have key := for_inv (ft := fNm 7) (body := (sSeq (sAsg (fB mSum (fCons (fLc [11, 12] (fZip (fCons (fFn M__law_run 2 (fCons (fV 2) (fCons (fV 7) fNil))) (fCons (fV 5) fNil))) (fTp (fGc (fNm 11) (fGc (fNm 12) fGn))) (fTst (fOp mNe (fV 11) (fV 12))) (fC (.i 1))) fNil)) (fNm 8))
    (sIf (fOr (fTst (fOp mIs (fV 6) (fC .n))) (fTst (fOp mLt (fTup (fCons (fV 8) (fCons (fV 7) fNil))) (fV 6)))) (sAsg (fTup (fCons (fV 8) (fCons (fV 7) fNil))) (fNm 6)) sNil))) eT ws
    (fun i S => ∃ (best : D) (j7 j8 : Option Sl), S = ⟨[some (Sl.v (.sc ns)), some (Sl.v .p), some (Sl.v (eTs taps)), some (Sl.v (eT bits)), some (Sl.v (eT (trk taps (bits ++ List.replicate rest 0)))), some (Sl.v (eT heard)), some (Sl.v best), j7, j8, none, none, none, none], some x4⟩ ∧
      ((i = 0 ∧ best = .n) ∨ ∃ q, q ∈ ws ∧ best = eP (val taps heard rest q) ∧ ∀ q' ∈ ws.take i, leP (val taps heard rest q) (val taps heard rest q')))
    (fun i q S hi ⟨best, j7, j8, hS, hbest⟩ => ?_)
    ⟨[some (Sl.v (.sc ns)), some (Sl.v .p), some (Sl.v (eTs taps)), some (Sl.v (eT bits)), some (Sl.v (eT (trk taps (bits ++ List.replicate rest 0)))), some (Sl.v (eT heard)), some (Sl.v .n), none, none, none, none, none, none], some x4⟩ ⟨.n, none, none, rfl, .inl ⟨rfl, rfl⟩⟩
  · obtain ⟨S', g1, best, j7, j8, hS, hbest⟩ := key
    subst hS
    have hq0w : q0 ∈ ws := hws.mem_iff.mpr (mem_allW.mpr ⟨hq0, hq1⟩)
    have hbest2 : best = eP (val taps heard rest q0) := by
      rcases hbest with ⟨h0, _⟩ | ⟨q, hq, e, hle⟩
      · rw [List.length_eq_zero_iff] at h0
        rw [h0] at hq0w
        cases hq0w
      · rw [List.take_length] at hle
        have a1 := hle q0 hq0w
        have a2 := hmin q (hwl q hq).1 (hwl q hq).2
        rw [hcost q0 hq0, hcost q (hwl q hq).1] at a2
        rw [e, leP_anti a1 a2]
    subst hbest2
    rw [hcost q0 hq0] at d9
    have d10 := same8P (w := some x4) (x := val taps heard rest q0) (by show q0.length ≤ lim; rw [hq0]; unfold lim; omega)
    refine ⟨some x4, ?_⟩
    unfold M_law
    rw [runB_eq (n := 1) rfl]
    unfold g_law
    have hbl : ((bits.map D.i).length : Int) = (m : Int) := by rw [List.length_map, hb1]
    generalize eP (val taps heard rest q0) = BV at *
    generalize ws.map eT = WS at *
    simp [List.replicate, d0, d1, d2, d3, d4, d5, d6, d7, d8, d9, d10, e1, e9, rng_0, g1, hb1]
  · subst hS
    have hq := List.mem_of_getElem? hi
    have f1 := law_run_ok (w := some x4) T (by omega) (bits := q) (by have := (hwl q hq).1; omega)
    have f2 := mZip_tt D.i D.i (trk taps (q ++ List.replicate rest 0)) heard
    have f3 := count_lc (w := some x4) (a0 := some (Sl.v (.sc ns))) (a1 := some (Sl.v .p)) (a2 := some (Sl.v (eTs taps))) (a3 := some (Sl.v (eT bits))) (a4 := some (Sl.v (eT (trk taps (bits ++ List.replicate rest 0))))) (a5 := some (Sl.v (eT heard))) (a6 := some (Sl.v best)) (a7 := some (Sl.v (eT q))) (a8 := j8) (a9 := none) (a10 := none) (trk taps (q ++ List.replicate rest 0)) heard
    have f4 := count_sum (trk taps (q ++ List.replicate rest 0)) heard
    have f5 : D.t [.i (apN (trk taps (q ++ List.replicate rest 0)) heard : Int), eT q] = eP (val taps heard rest q) := rfl
    rcases hbest with ⟨rfl, rfl⟩ | ⟨qb, hqb, rfl, hle⟩
    · refine ⟨_, _, rfl, .inl ?_, eP (val taps heard rest q), some (Sl.v (eT q)), some (Sl.v (.i (apN (trk taps (q ++ List.replicate rest 0)) heard : Int))), rfl, .inr ⟨q, hq, rfl, fun q' hq' => ?_⟩⟩
      · generalize ((trk taps (q ++ List.replicate rest 0)).zip heard).map (fun p => D.t [.i p.1, .i p.2]) = ZL at *
        generalize (((trk taps (q ++ List.replicate rest 0)).zip heard).filter fun p => !decide (p.1 = p.2)).map (fun _ => D.i 1) = OL at *
        generalize eP (val taps heard rest q) = VQ at *
        simp [f1, f2, f3, f4, f5, e2]
      · rw [take_snoc' hi] at hq'
        have : q' = q := by simpa using hq'
        rw [this]
        exact leP_refl _
    · have f6 := mLt_eP (val taps heard rest q) (val taps heard rest qb)
      have f7 : mIs (eP (val taps heard rest qb)) .n = some (.b false) := rfl
      by_cases hlt : ltP (val taps heard rest q) (val taps heard rest qb)
      · rw [decide_eq_true hlt] at f6
        refine ⟨_, _, rfl, .inl ?_, eP (val taps heard rest q), some (Sl.v (eT q)), some (Sl.v (.i (apN (trk taps (q ++ List.replicate rest 0)) heard : Int))), rfl, .inr ⟨q, hq, rfl, fun q' hq' => ?_⟩⟩
        · generalize ((trk taps (q ++ List.replicate rest 0)).zip heard).map (fun p => D.t [.i p.1, .i p.2]) = ZL at *
          generalize (((trk taps (q ++ List.replicate rest 0)).zip heard).filter fun p => !decide (p.1 = p.2)).map (fun _ => D.i 1) = OL at *
          generalize eP (val taps heard rest q) = VQ at *
          generalize eP (val taps heard rest qb) = VB at *
          simp [f1, f2, f3, f4, f5, f6, f7, e2]
        · rw [take_snoc' hi] at hq'
          rcases List.mem_append.mp hq' with hq' | hq'
          · exact leP_trans (leP_of_lt hlt) (hle q' hq')
          · rw [List.mem_singleton.mp hq']
            exact leP_refl _
      · rw [decide_eq_false hlt] at f6
        refine ⟨_, _, rfl, .inl ?_, eP (val taps heard rest qb), some (Sl.v (eT q)), some (Sl.v (.i (apN (trk taps (q ++ List.replicate rest 0)) heard : Int))), rfl, .inr ⟨qb, hqb, rfl, fun q' hq' => ?_⟩⟩
        · generalize ((trk taps (q ++ List.replicate rest 0)).zip heard).map (fun p => D.t [.i p.1, .i p.2]) = ZL at *
          generalize (((trk taps (q ++ List.replicate rest 0)).zip heard).filter fun p => !decide (p.1 = p.2)).map (fun _ => D.i 1) = OL at *
          generalize eP (val taps heard rest q) = VQ at *
          generalize eP (val taps heard rest qb) = VB at *
          simp [f1, f2, f3, f4, f5, f6, f7, e2]
        · rw [take_snoc' hi] at hq'
          rcases List.mem_append.mp hq' with hq' | hq'
          · exact hle q' hq'
          · rw [List.mem_singleton.mp hq']
            exact hlt
end K17

namespace K17
open PySem PySem.Spec L2 PD
theorem all_mk {l : PySem.W.OpenLaw} {w : World} {K : PySem.W.Frag} {h : Heap} {mg : Str → Option Value} {fa f0 f1 f2 f3 f4 f5 f6 f7 f8 f9 f10 f11 : Addr} (X : K.In h) (G : h.Ns mainGlobals mg) (hfa : mg "law" = some (.ref fa))
    {od0 an0 od1 an1 od2 an2 od3 an3 od4 an4 od5 an5 od6 an6 od7 an7 od8 an8 od9 an9 od10 an10 od11 an11 : Option Addr} {sl0 sl1 sl2 sl3 sl4 sl5 sl6 sl7 sl8 sl9 sl10 sl11 : Array (Option Value)} {oc0 kV0 dc0 pm0 cd0 ct0 oc1 kV1 dc1 pm1 cd1 ct1 oc2 kV2 dc2 pm2 cd2 ct2 oc3 kV3 dc3 pm3 cd3 ct3 oc4 kV4 dc4 pm4 cd4 ct4 oc5 kV5 dc5 pm5 cd5 ct5 oc6 kV6 dc6 pm6 cd6 ct6 oc7 kV7 dc7 pm7 cd7 ct7 oc8 kV8 dc8 pm8 cd8 ct8 oc9 kV9 dc9 pm9 cd9 ct9 oc10 kV10 dc10 pm10 cd10 ct10 oc11 kV11 dc11 pm11 cd11 ct11 : Value}
    (a0 : PySem.W.nsIn K mainGlobals "bits_for" = some (some (.ref f0))) (l0 : K.lookup f0 = some ⟨oc0, od0, .func (PySem.W.fnOf "bits_for" "bits_for" (defArgs s_bits_for) (defBody s_bits_for) (defScope s_bits_for) .none kV0 dc0 pm0 an0 cd0 ct0), sl0⟩) (c0 : PySem.W.codeIn K cd0 "bits_for" = true) (k0 : PySem.W.keepIn K (.ref f0) = true)
    (a1 : PySem.W.nsIn K mainGlobals "behind" = some (some (.ref f1))) (l1 : K.lookup f1 = some ⟨oc1, od1, .func (PySem.W.fnOf "behind" "behind" (defArgs s_behind) (defBody s_behind) (defScope s_behind) .none kV1 dc1 pm1 an1 cd1 ct1), sl1⟩) (c1 : PySem.W.codeIn K cd1 "behind" = true) (k1 : PySem.W.keepIn K (.ref f1) = true)
    (a2 : PySem.W.nsIn K mainGlobals "run" = some (some (.ref f2))) (l2 : K.lookup f2 = some ⟨oc2, od2, .func (PySem.W.fnOf "run" "run" (defArgs s_run) (defBody s_run) (defScope s_run) .none kV2 dc2 pm2 an2 cd2 ct2), sl2⟩) (c2 : PySem.W.codeIn K cd2 "run" = true) (k2 : PySem.W.keepIn K (.ref f2) = true)
    (a3 : PySem.W.nsIn K mainGlobals "apart" = some (some (.ref f3))) (l3 : K.lookup f3 = some ⟨oc3, od3, .func (PySem.W.fnOf "apart" "apart" (defArgs s_apart) (defBody s_apart) (defScope s_apart) .none kV3 dc3 pm3 an3 cd3 ct3), sl3⟩) (c3 : PySem.W.codeIn K cd3 "apart" = true) (k3 : PySem.W.keepIn K (.ref f3) = true)
    (a4 : PySem.W.nsIn K mainGlobals "nearest_bits" = some (some (.ref f4))) (l4 : K.lookup f4 = some ⟨oc4, od4, .func (PySem.W.fnOf "nearest_bits" "nearest_bits" (defArgs s_nearest_bits) (defBody s_nearest_bits) (defScope s_nearest_bits) .none kV4 dc4 pm4 an4 cd4 ct4), sl4⟩) (c4 : PySem.W.codeIn K cd4 "nearest_bits" = true) (k4 : PySem.W.keepIn K (.ref f4) = true)
    (a5 : PySem.W.nsIn K mainGlobals "_law_draw" = some (some (.ref f5))) (l5 : K.lookup f5 = some ⟨oc5, od5, .func (PySem.W.fnOf "_law_draw" "_law_draw" (defArgs s__law_draw) (defBody s__law_draw) (defScope s__law_draw) .none kV5 dc5 pm5 an5 cd5 ct5), sl5⟩) (c5 : PySem.W.codeIn K cd5 "_law_draw" = true) (k5 : PySem.W.keepIn K (.ref f5) = true)
    (a6 : PySem.W.nsIn K mainGlobals "_law_next" = some (some (.ref f6))) (l6 : K.lookup f6 = some ⟨oc6, od6, .func (PySem.W.fnOf "_law_next" "_law_next" (defArgs s__law_next) (defBody s__law_next) (defScope s__law_next) .none kV6 dc6 pm6 an6 cd6 ct6), sl6⟩) (c6 : PySem.W.codeIn K cd6 "_law_next" = true) (k6 : PySem.W.keepIn K (.ref f6) = true)
    (a7 : PySem.W.nsIn K mainGlobals "_law_same" = some (some (.ref f7))) (l7 : K.lookup f7 = some ⟨oc7, od7, .func (PySem.W.fnOf "_law_same" "_law_same" (defArgs s__law_same) (defBody s__law_same) (defScope s__law_same) .none kV7 dc7 pm7 an7 cd7 ct7), sl7⟩) (c7 : PySem.W.codeIn K cd7 "_law_same" = true) (k7 : PySem.W.keepIn K (.ref f7) = true)
    (a8 : PySem.W.nsIn K mainGlobals "_law_all" = some (some (.ref f8))) (l8 : K.lookup f8 = some ⟨oc8, od8, .func (PySem.W.fnOf "_law_all" "_law_all" (defArgs s__law_all) (defBody s__law_all) (defScope s__law_all) .none kV8 dc8 pm8 an8 cd8 ct8), sl8⟩) (c8 : PySem.W.codeIn K cd8 "_law_all" = true) (k8 : PySem.W.keepIn K (.ref f8) = true)
    (a9 : PySem.W.nsIn K mainGlobals "_law_run" = some (some (.ref f9))) (l9 : K.lookup f9 = some ⟨oc9, od9, .func (PySem.W.fnOf "_law_run" "_law_run" (defArgs s__law_run) (defBody s__law_run) (defScope s__law_run) .none kV9 dc9 pm9 an9 cd9 ct9), sl9⟩) (c9 : PySem.W.codeIn K cd9 "_law_run" = true) (k9 : PySem.W.keepIn K (.ref f9) = true)
    (a10 : PySem.W.nsIn K mainGlobals "_law_taps" = some (some (.ref f10))) (l10 : K.lookup f10 = some ⟨oc10, od10, .func (PySem.W.fnOf "_law_taps" "_law_taps" (defArgs s__law_taps) (defBody s__law_taps) (defScope s__law_taps) .none kV10 dc10 pm10 an10 cd10 ct10), sl10⟩) (c10 : PySem.W.codeIn K cd10 "_law_taps" = true) (k10 : PySem.W.keepIn K (.ref f10) = true)
    (a11 : PySem.W.nsIn K mainGlobals "law" = some (some (.ref f11))) (l11 : K.lookup f11 = some ⟨oc11, od11, .func (PySem.W.fnOf "law" "law" (defArgs s_law) (defBody s_law) (defScope s_law) .none kV11 dc11 pm11 an11 cd11 ct11), sl11⟩) (c11 : PySem.W.codeIn K cd11 "law" = true) (k11 : PySem.W.keepIn K (.ref f11) = true)
    (z_abs : PySem.W.nsIn K mainGlobals "abs" = some none)
    (z_all : PySem.W.nsIn K mainGlobals "all" = some none)
    (z_any : PySem.W.nsIn K mainGlobals "any" = some none)
    (z_bool : PySem.W.nsIn K mainGlobals "bool" = some none)
    (z_int : PySem.W.nsIn K mainGlobals "int" = some none)
    (z_isinstance : PySem.W.nsIn K mainGlobals "isinstance" = some none)
    (z_len : PySem.W.nsIn K mainGlobals "len" = some none)
    (z_list : PySem.W.nsIn K mainGlobals "list" = some none)
    (z_range : PySem.W.nsIn K mainGlobals "range" = some none)
    (z_sorted : PySem.W.nsIn K mainGlobals "sorted" = some none)
    (z_str : PySem.W.nsIn K mainGlobals "str" = some none)
    (z_sum : PySem.W.nsIn K mainGlobals "sum" = some none)
    (z_tuple : PySem.W.nsIn K mainGlobals "tuple" = some none)
    (z_zip : PySem.W.nsIn K mainGlobals "zip" = some none)
    : ∃ fd : FuncData, (∀ (s : Shared) (v : Value), BindsTo s fd ⟨[v], []⟩ [("script", v)]) ∧ ∀ base : Heap, K.In base → base.Ns mainGlobals mg → FnOk l.prog w K mg base CX0 10 fa fd ["script"] (spD 1 ⟨K, l.prog, w⟩ M_law) := by
  have e := hfa.symm.trans (PySem.W.mg_of X G a11)
  cases e
  have F0 := fun_mk (st := s_bits_for) l0 c0 k0
  have b0 := F0.binds (ps := ["taps", "state", "bit"]) fun _ _ _ _ _ _ us hl => match us, hl with | [_, _, _], _ => rfl
  have F1 := fun_mk (st := s_behind) l1 c1 k1
  have b1 := F1.binds (ps := ["state", "bit"]) fun _ _ _ _ _ _ us hl => match us, hl with | [_, _], _ => rfl
  have F2 := fun_mk (st := s_run) l2 c2 k2
  have b2 := F2.binds (ps := ["taps", "bits"]) fun _ _ _ _ _ _ us hl => match us, hl with | [_, _], _ => rfl
  have F3 := fun_mk (st := s_apart) l3 c3 k3
  have b3 := F3.binds (ps := ["one", "other"]) fun _ _ _ _ _ _ us hl => match us, hl with | [_, _], _ => rfl
  have F4 := fun_mk (st := s_nearest_bits) l4 c4 k4
  have b4 := F4.binds (ps := ["taps", "heard"]) fun _ _ _ _ _ _ us hl => match us, hl with | [_, _], _ => rfl
  have F5 := fun_mk (st := s__law_draw) l5 c5 k5
  have b5 := F5.binds (ps := ["script"]) fun _ _ _ _ _ _ us hl => match us, hl with | [_], _ => rfl
  have F6 := fun_mk (st := s__law_next) l6 c6 k6
  have b6 := F6.binds (ps := ["draw", "many"]) fun _ _ _ _ _ _ us hl => match us, hl with | [_, _], _ => rfl
  have F7 := fun_mk (st := s__law_same) l7 c7 k7
  have b7 := F7.binds (ps := ["actual", "due"]) fun _ _ _ _ _ _ us hl => match us, hl with | [_, _], _ => rfl
  have F8 := fun_mk (st := s__law_all) l8 c8 k8
  have b8 := F8.binds (ps := ["size"]) fun _ _ _ _ _ _ us hl => match us, hl with | [_], _ => rfl
  have F9 := fun_mk (st := s__law_run) l9 c9 k9
  have b9 := F9.binds (ps := ["taps", "bits"]) fun _ _ _ _ _ _ us hl => match us, hl with | [_, _], _ => rfl
  have F10 := fun_mk (st := s__law_taps) l10 c10 k10
  have b10 := F10.binds (ps := ["draw", "most"]) fun _ _ _ _ _ _ us hl => match us, hl with | [_, _], _ => rfl
  have F11 := fun_mk (st := s_law) l11 c11 k11
  have b11 := F11.binds (ps := ["script"]) fun _ _ _ _ _ _ us hl => match us, hl with | [_], _ => rfl
  let T : Tx K mg := ⟨f0, _, F0, PySem.W.mg_of X G a0, b0, f1, _, F1, PySem.W.mg_of X G a1, b1, f2, _, F2, PySem.W.mg_of X G a2, b2, f3, _, F3, PySem.W.mg_of X G a3, b3, f4, _, F4, PySem.W.mg_of X G a4, b4, f5, _, F5, PySem.W.mg_of X G a5, b5, f6, _, F6, PySem.W.mg_of X G a6, b6, f7, _, F7, PySem.W.mg_of X G a7, b7, f8, _, F8, PySem.W.mg_of X G a8, b8, f9, _, F9, PySem.W.mg_of X G a9, b9, f10, _, F10, PySem.W.mg_of X G a10, b10, fa, _, F11, PySem.W.mg_of X G a11, b11, PySem.W.mg_none_of X G z_abs, PySem.W.mg_none_of X G z_all, PySem.W.mg_none_of X G z_any, PySem.W.mg_none_of X G z_bool, PySem.W.mg_none_of X G z_int, PySem.W.mg_none_of X G z_isinstance, PySem.W.mg_none_of X G z_len, PySem.W.mg_none_of X G z_list, PySem.W.mg_none_of X G z_range, PySem.W.mg_none_of X G z_sorted, PySem.W.mg_none_of X G z_str, PySem.W.mg_none_of X G z_sum, PySem.W.mg_none_of X G z_tuple, PySem.W.mg_none_of X G z_zip⟩
  exact ⟨PySem.W.fnOf "law" "law" (defArgs s_law) (defBody s_law) (defScope s_law) .none kV11 dc11 pm11 an11 cd11 ct11, fun s v => .of_eq rfl, fun base _ _ => ok_law T⟩
theorem walk (hlaw : ∀ ns : List Int, ns.length ≤ 63 → ∃ w', M_law [.sc ns] none = some (.b true, w')) {l : PySem.W.OpenLaw} {q : Program} {loose : List Str} {XP : (Str → Option Value) → Heap → Prop} {YP : World → Heap → Prop} {d : DefRec} {K : Params → PySem.W.Frag} (hn : l.most = some 63) (hdf : d.params.defaults = [])
    (hY : ∀ (w : World) (h : Heap), YP w h → (K w.params).In h)
    (F : ∀ (w : World) (mg : Str → Option Value) (fa : Addr) (h : Heap), (K w.params).In h → h.Ns mainGlobals mg → mg d.name = some (.ref fa) →
      ∃ fd : FuncData, (∀ (s : Shared) (u : Value), BindsTo s fd ⟨[u], []⟩ [("script", u)]) ∧ ∀ base : Heap, (K w.params).In base → base.Ns mainGlobals mg → FnOk l.prog w (K w.params) mg base CX0 10 fa fd ["script"] (spD 1 ⟨K w.params, l.prog, w⟩ M_law)) :
    PySem.W.WalkO q loose XP YP l.row.toRowW d [] (fun f vs => PySem.call f vs) :=
  L2.walk_of (n := 63) (k := 10) (x := "script") (CX := fun _ => CX0) (sp := fun w => spD 1 ⟨K w.params, l.prog, w⟩ M_law) hn (by decide) hdf ⟨rfl, by decide, by decide⟩ hY F (fun _ _ a ns hl _ hS => law_sp (hlaw ns hl) (Nat.le_trans hl (by decide)) hS) fun _ _ _ _ _ z => z
end K17
open PySem PySem.W PyProof.Rows in
set_option maxRecDepth 100000 in
set_option maxHeartbeats 0 in
theorem PySem.Challenge.cw_farcall_k17_running_codes_holds : PySem.Challenge.rw_farcall_k17_running_codes.Holds := by
  w_on; o_law; k_head; (case hw => w_witness2)
  k_fill
  refine K17.walk K17.law_true (l := PySem.Challenge.rw_farcall_k17_running_codes) rfl rfl (fun w h Y => PySem.W.kIn_of Y) ?F
  case F =>
    intro w mg fa h KX G hmg
    refine' K17.all_mk KX G hmg ?a0 ?l0 ?c0 ?k0 ?a1 ?l1 ?c1 ?k1 ?a2 ?l2 ?c2 ?k2 ?a3 ?l3 ?c3 ?k3 ?a4 ?l4 ?c4 ?k4 ?a5 ?l5 ?c5 ?k5 ?a6 ?l6 ?c6 ?k6 ?a7 ?l7 ?c7 ?k7 ?a8 ?l8 ?c8 ?k8 ?a9 ?l9 ?c9 ?k9 ?a10 ?l10 ?c10 ?k10 ?a11 ?l11 ?c11 ?k11 ?z_abs ?z_all ?z_any ?z_bool ?z_int ?z_isinstance ?z_len ?z_list ?z_range ?z_sorted ?z_str ?z_sum ?z_tuple ?z_zip
    (case a0 => k_is)
    (case l0 => k_is)
    (case c0 => k_is)
    (case k0 => k_is)
    (case a1 => k_is)
    (case l1 => k_is)
    (case c1 => k_is)
    (case k1 => k_is)
    (case a2 => k_is)
    (case l2 => k_is)
    (case c2 => k_is)
    (case k2 => k_is)
    (case a3 => k_is)
    (case l3 => k_is)
    (case c3 => k_is)
    (case k3 => k_is)
    (case a4 => k_is)
    (case l4 => k_is)
    (case c4 => k_is)
    (case k4 => k_is)
    (case a5 => k_is)
    (case l5 => k_is)
    (case c5 => k_is)
    (case k5 => k_is)
    (case a6 => k_is)
    (case l6 => k_is)
    (case c6 => k_is)
    (case k6 => k_is)
    (case a7 => k_is)
    (case l7 => k_is)
    (case c7 => k_is)
    (case k7 => k_is)
    (case a8 => k_is)
    (case l8 => k_is)
    (case c8 => k_is)
    (case k8 => k_is)
    (case a9 => k_is)
    (case l9 => k_is)
    (case c9 => k_is)
    (case k9 => k_is)
    (case a10 => k_is)
    (case l10 => k_is)
    (case c10 => k_is)
    (case k10 => k_is)
    (case a11 => k_is)
    (case l11 => k_is)
    (case c11 => k_is)
    (case k11 => k_is)
    (case z_abs => k_is)
    (case z_all => k_is)
    (case z_any => k_is)
    (case z_bool => k_is)
    (case z_int => k_is)
    (case z_isinstance => k_is)
    (case z_len => k_is)
    (case z_list => k_is)
    (case z_range => k_is)
    (case z_sorted => k_is)
    (case z_str => k_is)
    (case z_sum => k_is)
    (case z_tuple => k_is)
    (case z_zip => k_is)
#print axioms PySem.Challenge.cw_farcall_k17_running_codes_holds
